-- Printed by gen.py and its programs for this claim.
import Derived.Test.YthmehmehoehlpaaGreatDoorGFnExactRecTextx0
import Derived.Test.YthmehmehoehlpaaGreatDoorGFnExactRecTextx27
import Derived.Test.YthmehmehoehlpaaGreatDoorGFnExactRecTextx29
import Derived.Test.YthmehmehoehlpaaGreatDoorZFnExactRecText
namespace Go.Proofs.YthmehmehoehlpaaGreatDoor.GFnExactRecText
open Go.RowKit Go.Proofs.YthmehmehoehlpaaGreatDoorW.PrintWords Go.Proofs.YthmehmehoehlpaaGreatDoorW.PrintLast Go.Proofs.YthmehmehoehlpaaGreatDoorW.PrintMore Go.Proofs.YthmehmehoehlpaaGreatDoorW.Zs
set_option maxHeartbeats 40000000
set_option maxRecDepth 100000
attribute [local go_sem] max2_int min2_int max_two min_two max_three min_three max_four min_four
set_option linter.unusedVariables false
set_option linter.unusedSimpArgs false
mutual
def impl_ShaEnd.l0:Nat→ByteArray→List Int→ByteArray→Int→Option (ByteArray)
 |0,_,_,_,_=>none
 |k+1,x0,x1,x2,x3=>if((x0.size:Int)%64)=56 then((impl_bigEndian.f k (wrap64 (8*x3)) 8).bind fun t0=>(if x0.size+t0.size≤9223372036854775807 then(impl_ShaEnd.l1 k (x0++t0) x1)else(none)))else(if x0.size+1≤9223372036854775807 then(impl_ShaEnd.l0 k (x0++(⟨#[0]⟩:ByteArray)) x1 x2 x3)else(none))
def impl_ShaEnd.l1:Nat→ByteArray→List Int→Option (ByteArray)
 |0,_,_=>none
 |k+1,x0,x1=>if x0.toList=([]:List UInt8)then(impl_ShaEnd.l2 k (⟨#[]⟩:ByteArray) x1 (x1.length:Int) 0)else(if 0≤64 then(if 64≤(x0.size:Int)then((impl_Compress.f k x1 (x0.extract 0 64)).bind fun t0=>(impl_ShaEnd.l1 k (x0.extract 64 x0.size) t0))else(none))else(none))
def impl_ShaEnd.l2:Nat→ByteArray→List Int→Int→Int→Option (ByteArray)
 |0,_,_,_,_=>none
 |k+1,x0,x1,x2,x3=>if x3<x2 then(if 0≤x3 then(if x3<(x1.length:Int)then((impl_bigEndian.f k (rd x1 x3) 4).bind fun t0=>(if x0.size+t0.size≤9223372036854775807 then(impl_ShaEnd.l2 k (x0++t0) x1 x2 (wrap64 (x3+1)))else(none)))else(none))else(none))else(some x0)
end
def impl_ShaEnd.f (k:Nat) (l1:List Int) (a0:ByteArray) (a1:Int):Option (ByteArray):=(impl_ShaOk.f k l1 a0 a1).bind fun t0=>(if t0=true then(if a0.size+1≤9223372036854775807 then(impl_ShaEnd.l0 k (a0++(⟨#[128]⟩:ByteArray)) l1 a0 a1)else(none))else(some (⟨#[]⟩:ByteArray)))
theorem impl_ShaEnd.calls (k:Nat) (P0_0_:Nat→Prop) (A0:Option Addr) (c0:Nat) (l3:List Int) (a0:ByteArray) (a1:Int) (r:ByteArray) (w:World) (h0:Kd.V (Kd.int .i64) 3 w w.heap.size (fun k_=>P0_0_ k_) (.slice A0 l3.length c0) l3) (H:impl_ShaEnd.f k l3 a0 a1=some r):
  Calls Tryz.prog 64 #[.agg #[.slice A0 l3.length c0,.string a0,.int .i64 a1]] w fun e w'=>e= .returned (.string r)∧Below w.heap.size w w':=by
 have hu71:=Tryz.underlying71;have O0:=Aside0.mk (show Kd.V (Kd.int .i64) 3 w w.heap.size (fun k_=>(P0_0_ k_∨w.heap.size≤k_)) (.slice A0 l3.length c0) l3 from Kd.V_mono h0 (fun k_ hk=> .inl hk));have HB:=Aside0.mk (Below.refl w.heap.size w);unfold impl_ShaEnd.f at H;replace H:=bS_ H;obtain⟨t0,A1,H⟩:=H;(try dsimp only at H);have C0:=Aside0.mk H;clear H;go_enter Tryz.func64,Tryz.ntmps64
 go_upto_if 10 with(first|((with_reducible refine gate_dst (N:=1) rfl ?_);refine boxP_ (N:=1) (cs:= #[.slice A0 l3.length c0,.string a0,.int .i64 a1]) (t:=71) ?_;intro g0 hg w0 hbox hb;replace O0:=Aside0.mk (Kd.V_below (Kd.V_elderB zz26 g0 (Nat.le_of_eq hg.symm)) hb);have B0:=Aside0.mk (hbox);have G0:=geb_ (w:=w) hg zb_;replace HB:=Aside0.mk (below_step zb_ hb);clear hb hbox hg;obtain⟨_,_,_,_,_,_⟩:=cells3_ B0.out)|((with_reducible refine gc_ 99 rfl ?_);refine gR 9 Tryz.func99 (impl_ShaOk.calls k _ _ l3 a0 a1 t0 _ (by repeat(first|exact(Kd.V_reads' O0.out).2.2|(with_reducible refine Kd.C_alloc ?_ _)|(with_reducible refine Kd.C_drewN ?_ _)|(with_reducible refine Kd.C_drew ?_))) ((Kd.V_reads' O0.out).2.1) A1.out) ?_;rintro w1 hb;replace O0:=Aside0.mk (Kd.V_below zz26 hb);replace B0:=Aside0.mk (blk_below (bk_ B0) hb);replace HB:=Aside0.mk (below_step zb_ hb);(try clear hb)))
 (try simp only[Act.put,List.setIfInBounds_toArray,List.set_cons_zero,List.set_cons_succ]);have H:=C0.out;clear C0
 by_cases c1:t0=true
 ·subst c1;rw[if_pos rfl]at H
  replace H:=ifS_ H;obtain⟨c2,H⟩:=H;obtain⟨f0,f1⟩:=dT_ c2;(try have f2:=eq_false (Nat.not_lt.2 c2));have H':=Aside0.mk H;clear H;obtain⟨_,_,_,_,_,_⟩:=cells3_ B0.out;go_wp2
  go_loopg [3] k (fun kq v0 w'=> ∃(x0:ByteArray),v0= .string x0∧Aside0 (impl_ShaEnd.l0 kq x0 l3 a0 a1=some r)∧Aside0 (kq≤k)∧Aside0 (Kd.V (Kd.int .i64) 3 w' w.heap.size (fun k_=>(P0_0_ k_∨w.heap.size≤k_)∧k_≠g0) (.slice A0 l3.length c0) l3)∧Aside0 (w'.heap[g0]?=some (.cells #[(.slice A0 l3.length c0),.string a0,.int .i64 a1] 71 (0,0)))∧Aside0 (Below w.heap.size w w'))
  case atStart=>exact⟨(a0++(⟨#[128]⟩:ByteArray)),zr_,H',⟨Nat.le_refl _⟩,⟨zz26⟩,⟨(bk_ B0)⟩,⟨zb_⟩⟩
  case round=>
   clear H';(try clear p0);(try clear c3);(try clear c1);(try clear c2);(try clear f0);(try clear f1);(try clear f2);(try clear c4);(try clear h1);(try clear h2);(try clear h3);(try clear h4);(try clear h5);(try clear h6);(try clear h7);(try clear h8);(try clear h9);(try clear h10);(try clear h11);(try clear h12);obtain⟨x0,rfl,HA,K0,O1,B0,HB⟩:=hrel
   cases gk with
   |zero=>exact absurd HA.out (by simp[impl_ShaEnd.l0])
   |succ k0=>
    have H:=HA.out;clear HA;simp only[impl_ShaEnd.l0]at H
    by_cases c5:((x0.size:Int)%64)=56
    ·rw[if_pos c5]at H;obtain⟨f3,f4⟩:=bqT_ c5;clear c5;(first|rw[f3]|(simp only[i64_w,i32_w];rw[f3])|rw[f4]|(rw[f5];simp only[Bool.not_true,Bool.not_false])|skip);replace H:=bS_ H;obtain⟨t1,A2,H⟩:=H;(try dsimp only at H)
     replace H:=ifS_ H;obtain⟨c6,H⟩:=H;obtain⟨f6,f7⟩:=dT_ c6;(try have f8:=eq_false (Nat.not_lt.2 c6));have H':=Aside0.mk H;clear H;obtain⟨_,_,_,_,_,_⟩:=cells3_ B0.out;go_wp2_with (first|((with_reducible refine gc_ 100 rfl ?_);refine gR 24 Tryz.func100 (impl_bigEndian.calls k0 (wrap64 (8*a1)) 8 t1 _ A2.out) ?_;rintro w2 hb;replace O1:=Aside0.mk (Kd.V_below zz25 hb);replace B0:=Aside0.mk (blk_below (bk_ B0) hb);replace HB:=Aside0.mk (below_step zb_ hb);(try clear hb);obtain⟨_,_,_,_,_,_⟩:=cells3_ B0.out))
     go_loopg [3,4] k0 (fun kq v0 v1 w'=> ∃(x1:ByteArray) (x2:List Int),v0= .string x1∧Aside0 (impl_ShaEnd.l1 kq x1 x2=some r)∧Aside0 (kq≤k0)∧Aside0 (Kd.V (Kd.int .i64) 3 w' w.heap.size (fun k_=>(P0_0_ k_∨w.heap.size≤k_)∧k_≠g0) v1 x2)∧Aside0 (Kd.V (Kd.int .i64) 3 w' w.heap.size (fun k_=>(P0_0_ k_∨w.heap.size≤k_)∧k_≠g0) (.slice A0 l3.length c0) l3)∧Aside0 (w'.heap[g0]?=some (.cells #[(.slice A0 l3.length c0),.string a0,.int .i64 a1] 71 (0,0)))∧Aside0 (Below w.heap.size w w'))
     case atStart=>exact⟨(x0++t1),(l3),zr_,H',⟨Nat.le_refl _⟩,⟨zz25⟩,⟨zz25⟩,⟨(bk_ B0)⟩,⟨zb_⟩⟩
     case round=>
      clear H';(try clear c7);(try clear p0);(try clear c3);(try clear p1);(try clear c1);(try clear c2);(try clear f0);(try clear f1);(try clear f2);(try clear c4);(try clear c5);(try clear f3);(try clear f4);(try clear c6);(try clear f6);(try clear f7);(try clear f8);(try clear h13);(try clear h14);(try clear h15);(try clear h16);(try clear h17);(try clear h18);(try clear h1);(try clear h2);(try clear h3);(try clear h4);(try clear h5);(try clear h6);(try clear h19);(try clear h20);(try clear h21);(try clear h22);(try clear h23);(try clear h24);(try clear h7);(try clear h8);(try clear h9);(try clear h10);(try clear h11);(try clear h12);(try clear p0);obtain⟨x1,x2,rfl,HA,K1,O2,O1,B0,HB⟩:=hrel
      cases gk with
      |zero=>exact absurd HA.out (by simp[impl_ShaEnd.l1])
      |succ k1=>
       have H:=HA.out;clear HA;simp only[impl_ShaEnd.l1]at H
       by_cases c8:x1.toList=([]:List UInt8)
       ·rw[if_pos c8]at H;have f9:=beq_iff_eq.mpr c8;have f10:x1.toList.isEmpty=true:=by have hz_:=beq_iff_eq.1 f9;rw[hz_];rfl
        (try rw[f10]);have f11:=bne_eq_false_iff_eq.mpr c8;clear c8;have H':=Aside0.mk H;clear H;obtain⟨a2,o0,e0⟩:=Kd.V_slice O2.out;subst e0;go_wp2
        go_loopg [5,38] k1 (fun kq v2 v3 w'=> ∃(x3:ByteArray) (x4:Int),v2= .string x3∧v3= .int .i64 x4∧Aside0 (impl_ShaEnd.l2 kq x3 x2 (x2.length:Int) x4=some r)∧Aside0 (kq≤k1)∧Aside0 (Kd.V (Kd.int .i64) 3 w' w.heap.size (fun k_=>(P0_0_ k_∨w.heap.size≤k_)∧k_≠g0) (.slice a2 x2.length o0) x2)∧Aside0 (Kd.V (Kd.int .i64) 3 w' w.heap.size (fun k_=>(P0_0_ k_∨w.heap.size≤k_)∧k_≠g0) (.slice A0 l3.length c0) l3)∧Aside0 (w'.heap[g0]?=some (.cells #[(.slice A0 l3.length c0),.string a0,.int .i64 a1] 71 (0,0)))∧Aside0 (Below w.heap.size w w'))
        case atStart=>exact⟨((⟨#[]⟩:ByteArray)),(0),zr_,zr_,H',⟨Nat.le_refl _⟩,⟨by(with_reducible repeat(first|apply Kd.V_alloc|apply Kd.V_drewN|apply Kd.V_drew));exact O2.out⟩,⟨zz25⟩,⟨(bk_ B0)⟩,⟨zb_⟩⟩
        case round=>
         clear H';(try clear c7);(try clear p0);(try clear c3);(try clear p1);(try clear c1);(try clear c2);(try clear f0);(try clear f1);(try clear f2);(try clear c4);(try clear c5);(try clear f3);(try clear f4);(try clear c6);(try clear f6);(try clear f7);(try clear f8);(try clear c8);(try clear f9);(try clear f11);(try clear h13);(try clear h14);(try clear h15);(try clear h16);(try clear h17);(try clear h18);(try clear h1);(try clear h2);(try clear h3);(try clear h4);(try clear h5);(try clear h6);(try clear h19);(try clear h20);(try clear h21);(try clear h22);(try clear h23);(try clear h24);(try clear h7);(try clear h8);(try clear h9);(try clear h10);(try clear h11);(try clear h12);(try clear p0);(try clear p1);obtain⟨x3,x4,rfl,rfl,HA,K2,O3,O1,B0,HB⟩:=hrel
         cases gk with
         |zero=>exact absurd HA.out (by simp[impl_ShaEnd.l2])
         |succ k2=>
          have H:=HA.out;clear HA;simp only[impl_ShaEnd.l2]at H
          by_cases c9:x4<(x2.length:Int)
          ·rw[if_pos c9]at H;have f12:=decide_eq_true c9;clear c9
           replace H:=ifS_ H;obtain⟨c10,H⟩:=H;have f13:=decide_eq_true c10;clear c10
           replace H:=ifS_ H;obtain⟨c11,H⟩:=H;have f14:=decide_eq_true c11;clear c11;replace H:=bS_ H;obtain⟨t2,A3,H⟩:=H;(try dsimp only at H)
           replace H:=ifS_ H;obtain⟨c12,H⟩:=H;obtain⟨f15,f16⟩:=dT_ c12;(try have f17:=eq_false (Nat.not_lt.2 c12));have H':=Aside0.mk H;clear H;have p2:0≤(x4:Int):=of_decide_eq_true za_;have q0:x4<(x2.length:Int):=of_decide_eq_true za_;obtain⟨d0,e1,h25⟩:=Kd.at_int (Kd.V_reads' O3.out).2.2 x4 p2 q0;cases e1;replace p2:=eq_true p2;replace q0:=eq_true q0;go_wp2_with (first|((with_reducible refine gc_ 100 rfl ?_);refine gR 44 Tryz.func100 (impl_bigEndian.calls k2 (rd x2 x4) 4 t2 _ A3.out) ?_;rintro w3 hb;replace O3:=Aside0.mk (Kd.V_below (by(with_reducible repeat(first|apply Kd.V_alloc|apply Kd.V_drewN|apply Kd.V_drew));exact O3.out) hb);replace O1:=Aside0.mk (Kd.V_below zz25 hb);replace B0:=Aside0.mk (blk_below (bk_ B0) hb);replace HB:=Aside0.mk (below_step zb_ hb);(try clear hb)))
           go_roundg k2
           (case measure=>have:=K0.out;have:=K1.out;have:=K2.out;omega);case rel=>exact⟨(x3++t2),(wrap64 (x4+1)),zr_,zr_,H',⟨by have:=K0.out;have:=K1.out;have:=K2.out;omega⟩,⟨by(with_reducible repeat(first|apply Kd.V_alloc|apply Kd.V_drewN|apply Kd.V_drew));exact O3.out⟩,⟨zz25⟩,⟨(bk_ B0)⟩,⟨zb_⟩⟩
          ·rw[if_neg c9]at H;have f12:=decide_eq_false c9;clear c9;obtain rfl:=Option.some.inj H;go_wp2
           go_ret;exact⟨ze_,zb_⟩
       ·rw[if_neg c8]at H;have f9:=beq_eq_false_iff_ne.mpr c8;have f10:x1.toList.isEmpty=false:=by cases hz_:x1.toList with|nil=>(rw[hz_]at f9;exact absurd f9 zz2)|cons _ _=>rfl
        (try rw[f10]);have f11:=bne_iff_ne.mpr c8
        replace H:=ifS_ H;obtain⟨c13,H⟩:=H;obtain⟨f18,f19⟩:=dT_ c13;clear c13
        replace H:=ifS_ H;obtain⟨c14,H⟩:=H;obtain⟨f20,f21⟩:=dT_ c14;clear c14;replace H:=bS_ H;obtain⟨t3,A4,H⟩:=H;(try dsimp only at H);have f22:=eq_true (of_decide_eq_true za_:64≤(x1.size:Int));have H':=Aside0.mk H;clear H;obtain⟨a3,o1,e2⟩:=Kd.V_slice O2.out;subst e2;go_wp2_with (first|((with_reducible refine gc_ 101 rfl ?_);refine gV 35 Tryz.func101 (impl_Compress.calls k1 _ _ x2 (x1.extract 0 64) t3 _ (by repeat(first|exact(Kd.V_reads' O2.out).2.2|(with_reducible refine Kd.C_alloc ?_ _)|(with_reducible refine Kd.C_drewN ?_ _)|(with_reducible refine Kd.C_drew ?_))) ((Kd.V_reads' O2.out).2.1) A4.out) ?_;rintro v4 w4 ⟨h26,hb⟩;replace O2:=Aside0.mk (Kd.V_elder' (by(with_reducible repeat(first|apply Kd.V_alloc|apply Kd.V_drewN|apply Kd.V_drew));exact O2.out) (Kd.R_base h26) hb);replace O1:=Aside0.mk (Kd.V_elder' zz25 (Kd.R_base h26) hb);have O4:=Aside0.mk (Kd.R_lower (Kd.R_newM (M:=fun k_=>(w.heap.size≤k_)) h26 (below_size zb_) (fun k_ h_=>h_)) (below_size zb_));replace B0:=Aside0.mk (blk_below (bk_ B0) hb);replace HB:=Aside0.mk (below_step zb_ hb);(try clear hb);(try clear h26)))
        go_roundg k1
        (case measure=>have:=K0.out;have:=K1.out;omega);case rel=>exact⟨(x1.extract 64 x1.size),(t3),zr_,H',⟨zz8⟩,⟨Kd.V_mono (Kd.R_V (by(with_reducible repeat(first|apply Kd.R_alloc|apply Kd.R_drewN|apply Kd.R_drew));exact Kd.R_types O4.out B0.out zz2)) (fun k_ hk=>by first|exact⟨(.inr (hk.1.1)),hk.2⟩|exact⟨(.inr (hk.1)),hk.2⟩|exact(.inr (hk)))⟩,⟨by(with_reducible repeat(first|apply Kd.V_alloc|apply Kd.V_drewN|apply Kd.V_drew));exact Kd.V_mono O1.out (fun _ hk=>⟨hk.1.1,hk.1.2⟩)⟩,⟨(bk_ B0)⟩,⟨zb_⟩⟩
    ·rw[if_neg c5]at H;obtain⟨f3,f4⟩:=bqF_ c5;(first|rw[f3]|(simp only[i64_w,i32_w];rw[f3])|rw[f4]|(rw[f5];simp only[Bool.not_true,Bool.not_false])|skip)
     replace H:=ifS_ H;obtain⟨c15,H⟩:=H;obtain⟨f23,f24⟩:=dT_ c15;(try have f25:=eq_false (Nat.not_lt.2 c15));have H':=Aside0.mk H;clear H;go_wp2
     go_roundg k0
     (case measure=>have:=K0.out;omega);case rel=>exact⟨(x0++(⟨#[0]⟩:ByteArray)),zr_,H',⟨zz4⟩,⟨zz25⟩,⟨(bk_ B0)⟩,⟨zb_⟩⟩
 ·replace c1:=Bool.eq_false_iff.mpr c1;subst c1;rw[if_neg Bool.false_ne_true]at H;obtain rfl:=Option.some.inj H;go_wp2
  go_ret;exact⟨ze_,zb_⟩
end Go.Proofs.YthmehmehoehlpaaGreatDoor.GFnExactRecText
