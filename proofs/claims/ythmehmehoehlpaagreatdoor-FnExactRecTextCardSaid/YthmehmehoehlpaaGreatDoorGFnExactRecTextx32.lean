-- Printed by gen.py and its programs for this claim.
import Derived.Test.YthmehmehoehlpaaGreatDoorGFnExactRecTextx0
import Derived.Test.YthmehmehoehlpaaGreatDoorGFnExactRecTextx20
import Derived.Test.YthmehmehoehlpaaGreatDoorGFnExactRecTextx27
import Derived.Test.YthmehmehoehlpaaGreatDoorGFnExactRecTextx30
import Derived.Test.YthmehmehoehlpaaGreatDoorGFnExactRecTextx31
import Derived.Test.YthmehmehoehlpaaGreatDoorZFnExactRecText
namespace Go.Proofs.YthmehmehoehlpaaGreatDoor.GFnExactRecText
open Go.RowKit Go.Proofs.YthmehmehoehlpaaGreatDoorW.PrintWords Go.Proofs.YthmehmehoehlpaaGreatDoorW.PrintLast Go.Proofs.YthmehmehoehlpaaGreatDoorW.PrintMore Go.Proofs.YthmehmehoehlpaaGreatDoorW.Zs
set_option maxHeartbeats 40000000
set_option maxRecDepth 100000
attribute [local go_sem] max2_int min2_int max_two min_two max_three min_three max_four min_four
set_option linter.unusedVariables false
set_option linter.unusedSimpArgs false
def impl_ShaNew.f:Option (List Int×ByteArray×Int):=some ((([1732584193,4023233417,2562383102,271733878,3285377520]:List Int)),(⟨#[]⟩:ByteArray),0)
theorem impl_ShaNew.calls (r1:List Int) (r2:ByteArray) (r3:Int) (w:World) (H:impl_ShaNew.f=some (r1,r2,r3)):
  Calls Tryz.prog 66 #[] w fun e w'=> ∃v0:Value,e= .returned (.agg #[v0,.string r2,.int .i64 r3])∧Kd.R (Kd.int .i64) 3 w' w.heap.size (fun _=>True) v0 r1∧Below w.heap.size w w':=by
 have hu71:=Tryz.underlying71;have HB:=Aside0.mk (Below.refl w.heap.size w);unfold impl_ShaNew.f at H;generalize h0:(([1732584193,4023233417,2562383102,271733878,3285377520]:List Int):List Int)=y0 at H;have Y0:=Aside0.mk h0.symm;clear h0;simp only[Option.some.injEq,Prod.mk.injEq]at H;obtain⟨rfl,rfl,rfl⟩:=H;go_enter Tryz.func66,Tryz.ntmps66
 go_wp2_with (first|((with_reducible refine gate_dst (N:=0) rfl ?_);refine boxP_ (N:=0) (cs:= #[.slice none 0 0,.string (⟨#[]⟩:ByteArray),.int .i64 0]) (t:=71) ?_;intro g0 hg w0 hbox hb;have B0:=Aside0.mk (hbox);have G0:=geb_ (w:=w) hg zb_;replace HB:=Aside0.mk (below_step zb_ hb);clear hb hbox hg)|((with_reducible refine gate_dst (N:=1) rfl ?_);refine Kd.R_lit (Kd.int .i64) _ 3 ?hg (N:=1) ?hd (xs:=([1732584193,4023233417,2562383102,271733878,3285377520]:List Int)) (inner:= [.int .i64 1732584193,.int .i64 4023233417,.int .i64 2562383102,.int .i64 271733878,.int .i64 3285377520]) (ok:=fun _=>True) (okp:=fun _=>True) ?hr ?hp (fun _ hk=>hk) trivial (Below.refl _ _) (Nat.le_refl _) (by simp) ?_;(case hd=>rfl);(case hg=>rfl);(case hr=>first|(go_simp;done)|(go_simp;rfl));(case hp=>exact(Reps.one (show Kd.M (Kd.int .i64) _ _ _ 1732584193 [.int .i64 1732584193]from rfl) (Reps.one (show Kd.M (Kd.int .i64) _ _ _ 4023233417 [.int .i64 4023233417]from rfl) (Reps.one (show Kd.M (Kd.int .i64) _ _ _ 2562383102 [.int .i64 2562383102]from rfl) (Reps.one (show Kd.M (Kd.int .i64) _ _ _ 271733878 [.int .i64 271733878]from rfl) (Reps.one (show Kd.M (Kd.int .i64) _ _ _ 3285377520 [.int .i64 3285377520]from rfl) (Reps.none _ _)))))));intro v1 w1 h1 hb hg_ hnew_;clear hg_ hnew_;(first|rw[←Y0.out]at h1|(simp only[Int.reduceToNat]at h1;rw[←Y0.out]at h1));have O0:=Aside0.mk (Kd.R_lower h1 (below_size zb_));replace B0:=Aside0.mk (blk_below (bk_ B0) hb);replace HB:=Aside0.mk (below_step zb_ hb);clear hb h1;obtain⟨a0,o0,e0⟩:=Kd.R_slice O0.out;subst e0;obtain⟨_,_,_,_,_,_⟩:=cells3_ B0.out))
 refine bodyPost_ret (results_cell_row rfl _ _ g0 71 #[.slice a0 y0.length o0,.string (⟨#[]⟩:ByteArray),.int .i64 0] (0,0) _ rfl (bk_ B0) Tryz.underlying71 rfl zz0) rfl ?_;exact⟨_,ze_,by(with_reducible repeat(first|apply Kd.R_alloc|apply Kd.R_drewN|apply Kd.R_drew));exact Kd.R_mono (Kd.R_far (p:=⟨g0,2,none⟩) (Kd.R_far (p:=⟨g0,1,none⟩) (Kd.R_far (p:=⟨g0,0,none⟩) (Kd.R_types O0.out B0.out zz2) (fun _ hk=>hk.2) (.slice a0 y0.length o0)) (fun _ hk=>hk.2) (.string (⟨#[]⟩:ByteArray))) (fun _ hk=>hk.2) (.int .i64 0)) (fun _ hk=>trivial),zb_⟩
def impl_Sha1.f (k:Nat) (a0:ByteArray):Option (ByteArray):=(impl_ShaNew.f).bind fun b0=>((impl_ShaAdd.f k b0.1 b0.2.1 b0.2.2 a0).bind fun b1=>((impl_ShaEnd.f k b1.1 b1.2.1 b1.2.2).bind fun t0=>(some t0)))
theorem impl_Sha1.calls (k:Nat) (a0 r:ByteArray) (w:World) (H:impl_Sha1.f k a0=some r):
  Calls Tryz.prog 46 #[.string a0] w fun e w'=>e= .returned (.string r)∧Below w.heap.size w w':=by
 have HB:=Aside0.mk (Below.refl w.heap.size w);unfold impl_Sha1.f at H;replace H:=bS_ H;obtain⟨⟨t0,t1,t2⟩,A0,H⟩:=H;(try dsimp only at H);replace H:=bS_ H;obtain⟨⟨t3,t4,t5⟩,A1,H⟩:=H;(try dsimp only at H);replace H:=bS_ H;obtain⟨t6,A2,H⟩:=H;(try dsimp only at H);obtain rfl:=Option.some.inj H;go_enter Tryz.func46,Tryz.ntmps46
 go_wp2_with (first|((with_reducible refine gc_ 66 rfl ?_);refine gV 3 Tryz.func66 (impl_ShaNew.calls t0 t1 t2 _ A0.out) ?_;rintro v0 w0 ⟨h0,hb⟩;have O0:=Aside0.mk (Kd.R_lower h0 (below_size zb_));replace HB:=Aside0.mk (below_step zb_ hb);(try clear hb);(try clear h0);obtain⟨a1,o0,e0⟩:=Kd.R_slice O0.out;subst e0)|((with_reducible refine gc_ 65 rfl ?_);refine gV 5 Tryz.func65 (impl_ShaAdd.calls k _ _ t0 t1 t2 a0 t3 t4 t5 _ zz11 ((Kd.R_reads' O0.out).2.1) A1.out) ?_;rintro v1 w1 ⟨h0,hb⟩;have O1:=Aside0.mk (Kd.R_lower (Kd.R_new' h0 (Kd.R_lt (kr_ O0))) (below_size zb_));replace O0:=Aside0.mk (Kd.R_elder' (kr_ O0) (Kd.R_base h0) hb);replace HB:=Aside0.mk (below_step zb_ hb);(try clear hb);(try clear h0);obtain⟨a2,o1,e1⟩:=Kd.R_slice O1.out;subst e1)|((with_reducible refine gc_ 64 rfl ?_);refine gR 6 Tryz.func64 (impl_ShaEnd.calls k (fun k_=>some k_=(.slice a2 t3.length o1:Value).ownBlock) _ _ t3 t4 t5 t6 _ (Kd.R_V (Kd.R_tight rfl (O1.out))) A2.out) ?_;rintro w2 hb;replace O0:=Aside0.mk (Kd.R_below (kr_ O0) hb);replace O1:=Aside0.mk (Kd.R_below (kr_ O1) hb);replace HB:=Aside0.mk (below_step zb_ hb);(try clear hb)))
 go_ret;exact⟨ze_,zb_⟩
def impl_Label.f (k:Nat) (a0:ByteArray):Option (ByteArray):=(impl_Sha1.f k a0).bind fun t0=>((impl_base32.f k t0).bind fun t1=>(if 5+t1.size≤9223372036854775807 then(some ((⟨#[115,104,97,49,58]⟩:ByteArray)++t1))else(none)))
theorem impl_Label.calls (k:Nat) (a0 r:ByteArray) (w:World) (H:impl_Label.f k a0=some r):
  Calls Tryz.prog 26 #[.string a0] w fun e w'=>e= .returned (.string r)∧Below w.heap.size w w':=by
 have HB:=Aside0.mk (Below.refl w.heap.size w);unfold impl_Label.f at H;replace H:=bS_ H;obtain⟨t0,A0,H⟩:=H;(try dsimp only at H);replace H:=bS_ H;obtain⟨t1,A1,H⟩:=H;(try dsimp only at H)
 replace H:=ifS_ H;obtain⟨c0,H⟩:=H;obtain⟨f0,f1⟩:=dT_ c0;(try have f2:=eq_false (Nat.not_lt.2 c0));obtain rfl:=Option.some.inj H;go_enter Tryz.func26,Tryz.ntmps26
 go_wp2_with (first|((with_reducible refine gc_ 46 rfl ?_);refine gR 4 Tryz.func46 (impl_Sha1.calls k a0 t0 _ A0.out) ?_;rintro w0 hb;replace HB:=Aside0.mk (below_step zb_ hb);(try clear hb))|((with_reducible refine gc_ 45 rfl ?_);refine gR 5 Tryz.func45 (impl_base32.calls k t0 t1 _ A1.out) ?_;rintro w1 hb;replace HB:=Aside0.mk (below_step zb_ hb);(try clear hb)))
 go_ret;exact⟨ze_,zb_⟩
def stringslite_CutPrefix.f (a0 a1:ByteArray):Option (ByteArray×Bool):=(stringslite_HasPrefix.f a0 a1).bind fun t0=>(if t0=true then(if 0≤(a1.size:Int)then(if(a1.size:Int)≤(a0.size:Int)then(some (a0.extract ((a1.size:Int):Int).toNat a0.size,true))else(none))else(none))else(some (a0,false)))
theorem stringslite_CutPrefix.calls (a0 a1 r1:ByteArray) (r2:Bool) (w:World) (H:stringslite_CutPrefix.f a0 a1=some (r1,r2)):
  Calls Tryz.prog 67 #[.string a0,.string a1] w fun e w'=>e= .returned (.tuple #[.string r1,.bool r2])∧Drawn0 w w':=by
 unfold stringslite_CutPrefix.f at H;replace H:=bS_ H;obtain⟨t0,A0,H⟩:=H;(try dsimp only at H);have C0:=Aside0.mk H;clear H;go_enter Tryz.func67,Tryz.ntmps67
 go_upto_if 9 with(first|((with_reducible refine gc_ 102 rfl ?_);refine gR 8 Tryz.func102 (stringslite_HasPrefix.calls a0 a1 t0 _ A0.out) ?_;rintro w' ⟨nd,rfl⟩))
 (try simp only[Act.put,List.setIfInBounds_toArray,List.set_cons_zero,List.set_cons_succ]);have H:=C0.out;clear C0
 by_cases c0:t0=true
 ·subst c0;rw[if_pos rfl]at H
  replace H:=ifS_ H;obtain⟨c1,H⟩:=H;obtain⟨f0,f1⟩:=dT_ c1;clear c1
  replace H:=ifS_ H;obtain⟨c2,H⟩:=H;obtain⟨f2,f3⟩:=dT_ c2;clear c2;simp only[Option.some.injEq,Prod.mk.injEq]at H;obtain⟨rfl,rfl⟩:=H;go_wp2
  go_ret2
  exact⟨zr_,zd_⟩
 ·replace c0:=Bool.eq_false_iff.mpr c0;subst c0;rw[if_neg Bool.false_ne_true]at H;simp only[Option.some.injEq,Prod.mk.injEq]at H;obtain⟨rfl,rfl⟩:=H;go_wp2
  go_ret2
  exact⟨zr_,zd_⟩
def strings_CutPrefix.f (a0 a1:ByteArray):Option (ByteArray×Bool):=(stringslite_CutPrefix.f a0 a1).bind fun b0=>(some (b0.1,b0.2))
theorem strings_CutPrefix.calls (a0 a1 r1:ByteArray) (r2:Bool) (w:World) (H:strings_CutPrefix.f a0 a1=some (r1,r2)):
  Calls Tryz.prog 47 #[.string a0,.string a1] w fun e w'=>e= .returned (.tuple #[.string r1,.bool r2])∧Drawn0 w w':=by
 unfold strings_CutPrefix.f at H;replace H:=bS_ H;obtain⟨⟨t0,t1⟩,A0,H⟩:=H;(try dsimp only at H);simp only[Option.some.injEq,Prod.mk.injEq]at H;obtain⟨rfl,rfl⟩:=H;go_enter Tryz.func47,Tryz.ntmps47
 go_wp2_with (first|((with_reducible refine gc_ 67 rfl ?_);refine gR 8 Tryz.func67 (stringslite_CutPrefix.calls a0 a1 t0 t1 _ A0.out) ?_;rintro w' ⟨nd,rfl⟩))
 go_ret2
 exact⟨zr_,zd_⟩
def impl_ReadBase32.l0:Nat→ByteArray→List Int→Int→Int→Int→Option (ByteArray×Bool)
 |0,_,_,_,_,_=>none
 |k+1,x0,x1,x2,x3,x4=>if x4<(x0.size:Int)then(if 0≤x4 then((strings_IndexByte.f (⟨#[65,66,67,68,69,70,71,72,73,74,75,76,77,78,79,80,81,82,83,84,85,86,87,88,89,90,50,51,52,53,54,55]⟩:ByteArray) (bt x0 x4)).bind fun t0=>(if t0<0 then(some ((⟨#[]⟩:ByteArray),false))else(if(wrap64 (x3+5))≥8 then(if 0≤(wrap64 ((wrap64 (x3+5))-8))then(if x1.length<140737488355328 then(impl_ReadBase32.l0 k x0 (x1++ [(shr .i64 (Go.bits .and .i64 (Go.bits .or .i64 (wrap64 (x2*32)) t0) 4095) (wrap64 ((wrap64 (x3+5))-8)))%256]) (Go.bits .and .i64 (Go.bits .or .i64 (wrap64 (x2*32)) t0) 4095) (wrap64 ((wrap64 (x3+5))-8)) (wrap64 (x4+1)))else(none))else(none))else(impl_ReadBase32.l0 k x0 x1 (Go.bits .and .i64 (Go.bits .or .i64 (wrap64 (x2*32)) t0) 4095) (wrap64 (x3+5)) (wrap64 (x4+1))))))else(none))else(if(x1.length:Int)>4000 then(some ((⟨#[]⟩:ByteArray),false))else((impl_base32.f k (strOfNums x1)).bind fun t1=>(if t1.toList=x0.toList then(some (strOfNums x1,true))else(some ((⟨#[]⟩:ByteArray),false)))))
def impl_ReadBase32.f (k:Nat) (a0:ByteArray):Option (ByteArray×Bool):=impl_ReadBase32.l0 k a0 ([]:List Int) 0 0 0
theorem impl_ReadBase32.calls (k:Nat) (a0 r1:ByteArray) (r2:Bool) (w:World) (H:impl_ReadBase32.f k a0=some (r1,r2)):
  Calls Tryz.prog 48 #[.string a0] w fun e w'=>e= .returned (.tuple #[.string r1,.bool r2])∧Below w.heap.size w w':=by
 have HB:=Aside0.mk (Below.refl w.heap.size w);unfold impl_ReadBase32.f at H;have H':=Aside0.mk H;clear H;go_enter Tryz.func48,Tryz.ntmps48
 go_wp2
 go_loopg [4,5,6,7] k (fun kq v0 v1 v2 v3 w'=> ∃(x0:List Int) (x1 x2 x3:Int),v1= .int .i64 x1∧v2= .int .i64 x2∧v3= .int .i64 x3∧Aside0 (impl_ReadBase32.l0 kq a0 x0 x1 x2 x3=some (r1,r2))∧Aside0 (kq≤k)∧Aside0 (Kd.R (Kd.int .u8) 5 w' w.heap.size (fun _=>True) v0 x0)∧Aside0 (Below w.heap.size w w'))
 case atStart=>exact⟨(([]:List Int)),(0),(0),(0),zr_,zr_,zr_,H',⟨Nat.le_refl _⟩,⟨zn_⟩,⟨zb_⟩⟩
 case round=>
  clear H';obtain⟨x0,x1,x2,x3,rfl,rfl,rfl,HA,K0,O0,HB⟩:=hrel
  cases gk with
  |zero=>exact absurd HA.out (by simp[impl_ReadBase32.l0])
  |succ k0=>
   have H:=HA.out;clear HA;simp only[impl_ReadBase32.l0]at H
   by_cases c0:x3<(a0.size:Int)
   ·rw[if_pos c0]at H;have f0:=decide_eq_true c0;clear c0
    replace H:=ifS_ H;obtain⟨c1,H⟩:=H;have f1:=decide_eq_true c1;clear c1;replace H:=bS_ H;obtain⟨t0,A0,H⟩:=H;(try dsimp only at H);have C0:=Aside0.mk H;clear H;have p0:0≤(x3:Int):=of_decide_eq_true za_;have q0:x3<(a0.size:Int):=of_decide_eq_true za_;have h0:=bt_at a0 x3;replace p0:=eq_true p0;replace q0:=eq_true q0;go_upto_if 20 with(first|((with_reducible refine gc_ 68 rfl ?_);refine gR 18 Tryz.func68 (strings_IndexByte.calls (⟨#[65,66,67,68,69,70,71,72,73,74,75,76,77,78,79,80,81,82,83,84,85,86,87,88,89,90,50,51,52,53,54,55]⟩:ByteArray) (bt a0 x3) t0 _ A0.out) ?_;rintro w' ⟨nd,rfl⟩))
    (try simp only[Act.put,List.setIfInBounds_toArray,List.set_cons_zero,List.set_cons_succ]);(try(rw[drewN_self wr];generalize hq_:World.drewN wr _=wr;have n0_:Aside0 (Kd.R (Kd.int .u8) 5 wr w.heap.size (fun _=>True) u4 x0):=⟨by rw[←hq_];exact (kr_ O0)⟩;have n1_:Aside0 (Below w.heap.size w wr):=⟨zz14⟩;clear O0 HB hq_;have O0:=n0_;have HB:=n1_;clear n0_ n1_));have H:=C0.out;clear C0
    by_cases c2:t0<0
    ·rw[if_pos c2]at H;have f2:=decide_eq_true c2;clear c2;(first|rw[f2]|(simp only[i64_w,i32_w];rw[f2])|skip);simp only[Option.some.injEq,Prod.mk.injEq]at H;obtain⟨rfl,rfl⟩:=H;go_wp2
     go_ret2
     exact⟨ze_,zb_⟩
    ·rw[if_neg c2]at H;have f2:=decide_eq_false c2;clear c2;(first|rw[f2]|(simp only[i64_w,i32_w];rw[f2])|skip)
     by_cases c3:(wrap64 (x2+5))≥8
     ·rw[if_pos c3]at H;have f3:=decide_eq_true c3;clear c3;generalize h1:(wrap64 ((wrap64 (x2+5))-8))=j0 at H
      have h2:(IntKind.i64.wrap ((wrap64 (x2+5))-8))=j0:=(i64_w _).trans h1
      replace H:=ifS_ H;obtain⟨c4,H⟩:=H;obtain⟨f4,f5⟩:=dT_ c4;clear c4;generalize h3:(shr .i64 (Go.bits .and .i64 (Go.bits .or .i64 (wrap64 (x1*32)) t0) 4095) (j0))=j1 at H
      have h4:((Go.bits .and .i64 (Go.bits .or .i64 (wrap64 (x1*32)) t0) 4095)/2^min (j0).toNat 64)=j1:=h3;have h5:(j0)≤64→((Go.bits .and .i64 (Go.bits .or .i64 (wrap64 (x1*32)) t0) 4095)/2^(j0).toNat)=j1:=shr_small h3
      replace H:=ifS_ H;obtain⟨c5,H⟩:=H;have L0:=Aside0.mk c5;clear c5;generalize h6:(x0++ [(j1)%256]:List Int)=y0 at H;have Y0:=Aside0.mk h6.symm;clear h6;have H':=Aside0.mk H;clear H;go_wp2_with (first|((with_reducible refine gate_builtin (b:= .append) (xs:= #[.tmp 32,.tmp 37]) rfl ?_);at_builtin;refine Kd.R_append (Kd.int .u8) (w0:=w) w.heap.size rfl (.tmp 32) (.tmp 37) 40 5 (.int .u8 0) 1 rfl Tryz.underlying40 info5 rfl zz2 zz5 u4 x0 ((j1)%256) [.int .u8 ((j1)%256)] (fun _=>True) (fun _=>False) rfl rfl ?aP (fun _ hk=>hk.elim) ?aF ?aO ?aB ?aS ?aL ?_;(case aP=>exact rfl);(case aB=>exact zb_);(case aF=>exact(fun _ _=>trivial));(case aO=>exact (kr_ O0));(case aS=>exact(below_size zb_));(case aL=>have:=L0.out;omega);intro v4 w1 ho hb hg hat;rw[←Y0.out]at ho;replace HB:=Aside0.mk (hb);have O1:=Aside0.mk (ho);clear O0;clear ho hb hg hat))
      go_roundg k0
      (case measure=>have:=K0.out;omega);case rel=>exact⟨(y0),(Go.bits .and .i64 (Go.bits .or .i64 (wrap64 (x1*32)) t0) 4095),(j0),(wrap64 (x3+1)),zr_,(by first|rfl|(simp;done)|(simp only[←h1]<;>(first|rfl|simp))|(simp[*];done)),zr_,H',⟨zz4⟩,⟨by(with_reducible repeat(first|apply Kd.R_alloc|apply Kd.R_drewN|apply Kd.R_drew));exact O1.out⟩,⟨zb_⟩⟩
     ·rw[if_neg c3]at H;have f3:=decide_eq_false c3;clear c3;have H':=Aside0.mk H;clear H;go_wp2
      go_roundg k0
      (case measure=>have:=K0.out;omega);case rel=>exact⟨(x0),(Go.bits .and .i64 (Go.bits .or .i64 (wrap64 (x1*32)) t0) 4095),(wrap64 (x2+5)),(wrap64 (x3+1)),zr_,zr_,zr_,H',⟨zz4⟩,⟨(kr_ O0)⟩,⟨zb_⟩⟩
   ·rw[if_neg c0]at H;have f0:=decide_eq_false c0;clear c0;have C1:=Aside0.mk H;clear H;obtain⟨a1,o0,e0⟩:=Kd.R_slice O0.out;subst e0
    repeat' (first|(go_big_may;(fail))|go_values|go_skip|go_big_skip|go_big_want|((first|(with_reducible refine gate_nog rfl ?_)|(fail_if_success with_reducible refine gate_any ?_));go_step)|go_upon|simp only[Bool.not_true,Bool.not_false,Bool.true_and,Bool.false_and,Bool.true_or,Bool.false_or]|dsimp only)
    have H:=C1.out;clear C1
    by_cases c6:(x0.length:Int)>4000
    ·rw[if_pos c6]at H;have f6:=decide_eq_true c6;have f7:decide (4000<x0.length)=true:=decide_eq_true zz5;clear c6;(first|rw[f6]|(simp only[i64_w,i32_w];rw[f6])|rw[f7]|(rw[f8];simp only[Bool.not_true,Bool.not_false])|skip);simp only[Option.some.injEq,Prod.mk.injEq]at H;obtain⟨rfl,rfl⟩:=H;go_wp2
     go_ret2
     exact⟨ze_,zb_⟩
    ·rw[if_neg c6]at H;have f6:=decide_eq_false c6;have f7:decide (4000<x0.length)=false:=decide_eq_false zz5;clear c6;(first|rw[f6]|(simp only[i64_w,i32_w];rw[f6])|rw[f7]|(rw[f8];simp only[Bool.not_true,Bool.not_false])|skip);replace H:=bS_ H;obtain⟨t1,A1,H⟩:=H;(try dsimp only at H);have C2:=Aside0.mk H;clear H;have hcv19:=own_string (P:=Tryz.prog) Tryz.underlying40 Tryz.underlying5 Tryz.underlying9 (Kd.own_of_R O0.out);go_upto_if 48 with(first|(go_at_call 45;(with_reducible refine(impl_base32.calls k0 (strOfNums x0) t1 _ A1.out).mono ?_);rintro e w2 ⟨rfl,hb⟩;have n0_:=Aside0.mk (Kd.R_below (kr_ O0) hb);have n1_:=Aside0.mk (below_step zb_ hb);clear O0;clear HB;have O0:=n0_;have HB:=n1_;clear n0_ n1_;(try clear hb)))
     (try simp only[Act.put,List.setIfInBounds_toArray,List.set_cons_zero,List.set_cons_succ]);have H:=C2.out;clear C2
     by_cases c7:t1.toList=a0.toList
     ·rw[if_pos c7]at H;obtain⟨f9,f10⟩:=bqT_ c7;clear c7;(first|rw[f9]|(simp only[i64_w,i32_w];rw[f9])|rw[f10]|(rw[f11];simp only[Bool.not_true,Bool.not_false])|skip);simp only[Option.some.injEq,Prod.mk.injEq]at H;obtain⟨rfl,rfl⟩:=H;have hcv22:=own_string (P:=Tryz.prog) Tryz.underlying40 Tryz.underlying5 Tryz.underlying9 (Kd.own_of_R O0.out);go_wp2
      go_ret2
      exact⟨ze_,zb_⟩
     ·rw[if_neg c7]at H;obtain⟨f9,f10⟩:=bqF_ c7;(first|rw[f9]|(simp only[i64_w,i32_w];rw[f9])|rw[f10]|(rw[f11];simp only[Bool.not_true,Bool.not_false])|skip);simp only[Option.some.injEq,Prod.mk.injEq]at H;obtain⟨rfl,rfl⟩:=H;go_wp2
      go_ret2
      exact⟨ze_,zb_⟩
def impl_ReadLabel.f (k:Nat) (a0:ByteArray):Option (ByteArray×Bool):=(strings_CutPrefix.f a0 (⟨#[115,104,97,49,58]⟩:ByteArray)).bind fun b0=>(if b0.2=true then(if(b0.1.size:Int)=32 then((impl_ReadBase32.f k b0.1).bind fun b1=>(some (b1.1,b1.2)))else(some ((⟨#[]⟩:ByteArray),false)))else(some ((⟨#[]⟩:ByteArray),false)))
theorem impl_ReadLabel.calls (k:Nat) (a0 r1:ByteArray) (r2:Bool) (w:World) (H:impl_ReadLabel.f k a0=some (r1,r2)):
  Calls Tryz.prog 27 #[.string a0] w fun e w'=>e= .returned (.tuple #[.string r1,.bool r2])∧Below w.heap.size w w':=by
 have HB:=Aside0.mk (Below.refl w.heap.size w);unfold impl_ReadLabel.f at H;replace H:=bS_ H;obtain⟨⟨t0,t1⟩,A0,H⟩:=H;(try dsimp only at H)
 by_cases c0:t1=true
 ·subst c0;rw[if_pos rfl]at H
  by_cases c1:(t0.size:Int)=32
  ·rw[if_pos c1]at H;obtain⟨f0,f1⟩:=bqT_ c1;clear c1;replace H:=bS_ H;obtain⟨⟨t2,t3⟩,A1,H⟩:=H;(try dsimp only at H);simp only[Option.some.injEq,Prod.mk.injEq]at H;obtain⟨rfl,rfl⟩:=H;go_enter Tryz.func27,Tryz.ntmps27
   go_wp2_with (first|((with_reducible refine gc_ 47 rfl ?_);refine gR 8 Tryz.func47 (strings_CutPrefix.calls a0 (⟨#[115,104,97,49,58]⟩:ByteArray) t0 true _ A0.out) ?_;rintro w' ⟨nd,rfl⟩)|((with_reducible refine gc_ 48 rfl ?_);refine gR 19 Tryz.func48 (impl_ReadBase32.calls k t0 t2 t3 _ A1.out) ?_;rintro w0 hb;replace HB:=Aside0.mk (below_step zb_ hb);(try clear hb)))
   go_ret2
   exact⟨ze_,zb_⟩
  ·rw[if_neg c1]at H;obtain⟨f0,f1⟩:=bqF_ c1;simp only[Option.some.injEq,Prod.mk.injEq]at H;obtain⟨rfl,rfl⟩:=H;go_enter Tryz.func27,Tryz.ntmps27
   go_wp2_with (first|((with_reducible refine gc_ 47 rfl ?_);refine gR 8 Tryz.func47 (strings_CutPrefix.calls a0 (⟨#[115,104,97,49,58]⟩:ByteArray) t0 true _ A0.out) ?_;rintro w' ⟨nd,rfl⟩))
   go_ret2
   exact⟨ze_,zb_⟩
 ·replace c0:=Bool.eq_false_iff.mpr c0;subst c0;rw[if_neg Bool.false_ne_true]at H;simp only[Option.some.injEq,Prod.mk.injEq]at H;obtain⟨rfl,rfl⟩:=H;go_enter Tryz.func27,Tryz.ntmps27
  go_wp2_with (first|((with_reducible refine gc_ 47 rfl ?_);refine gR 8 Tryz.func47 (strings_CutPrefix.calls a0 (⟨#[115,104,97,49,58]⟩:ByteArray) t0 false _ A0.out) ?_;rintro w' ⟨nd,rfl⟩))
  go_ret2
  exact⟨ze_,zb_⟩
end Go.Proofs.YthmehmehoehlpaaGreatDoor.GFnExactRecText
