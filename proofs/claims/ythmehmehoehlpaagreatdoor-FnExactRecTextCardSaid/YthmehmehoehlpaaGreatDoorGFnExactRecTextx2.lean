-- Printed by gen.py and its programs for this claim.
import Derived.Test.YthmehmehoehlpaaGreatDoorGFnExactRecTextx0
import Derived.Test.YthmehmehoehlpaaGreatDoorGFnExactRecTextx1
import Derived.Test.YthmehmehoehlpaaGreatDoorZFnExactRecText
namespace Go.Proofs.YthmehmehoehlpaaGreatDoor.GFnExactRecText
open Go.RowKit Go.Proofs.YthmehmehoehlpaaGreatDoorW.PrintWords Go.Proofs.YthmehmehoehlpaaGreatDoorW.PrintLast Go.Proofs.YthmehmehoehlpaaGreatDoorW.PrintMore Go.Proofs.YthmehmehoehlpaaGreatDoorW.Zs
set_option maxHeartbeats 40000000
set_option maxRecDepth 100000
attribute [local go_sem] max2_int min2_int max_two min_two max_three min_three max_four min_four
set_option linter.unusedVariables false
set_option linter.unusedSimpArgs false
mutual
def spec_ReadDec.j0:Nat→ByteArray→Bool→Option (Int×Bool)
 |0,_,_=>none
 |k+1,x0,x1=>if x1=true then(some (0,false))else(spec_ReadDec.l0 k x0 0 0)
def spec_ReadDec.l0:Nat→ByteArray→Int→Int→Option (Int×Bool)
 |0,_,_,_=>none
 |k+1,x0,x1,x2=>if x2<(x0.size:Int)then(if 0≤x2 then((spec_l1digit.f (bt x0 x2)).bind fun t0=>(if t0=true then(spec_ReadDec.l0 k x0 (wrap64 ((wrap64 (x1*10))+(((bt x0 x2)-48)%256))) (wrap64 (x2+1)))else(some (0,false))))else(none))else((spec_DecText.f k x1).bind fun t1=>(if t1.toList=x0.toList then(some (x1,true))else(some (0,false))))
end
def spec_ReadDec.f (k:Nat) (a0:ByteArray):Option (Int×Bool):=if(a0.size:Int)=0 then(spec_ReadDec.j0 k a0 true)else(spec_ReadDec.j0 k a0 (decide ((a0.size:Int)>15)))
theorem spec_ReadDec.calls (k:Nat) (a0:ByteArray) (r1:Int) (r2:Bool) (w:World) (H:spec_ReadDec.f k a0=some (r1,r2)):
  Calls Tryz.prog 76 #[.string a0] w fun e w'=>e= .returned (.tuple #[.int .i64 r1,.bool r2])∧Below w.heap.size w w':=by
 have HB:=Aside0.mk (Below.refl w.heap.size w);unfold spec_ReadDec.f at H;have C0:=Aside0.mk H;clear H;go_enter Tryz.func76,Tryz.ntmps76
 go_upto_region 1 with(fail)
 go_cut [13] (fun v0 wc=> ∃(kq:Nat) (x0:Bool),v0= .bool x0∧Aside0 (spec_ReadDec.j0 kq a0 x0=some (r1,r2))∧Aside0 (kq≤k)∧Aside0 (Below w.heap.size w wc))
 case first=>
  have H:=C0.out;clear C0
  by_cases c0:(a0.size:Int)=0
  ·rw[if_pos c0]at H;obtain⟨f0,f1⟩:=bqT_ c0;clear c0;(first|rw[f0]|(simp only[i64_w,i32_w];rw[f0])|rw[f1]|(rw[f2];simp only[Bool.not_true,Bool.not_false])|skip);have H':=Aside0.mk H;clear H;go_wp2
   go_meet
   case rel=>exact⟨_,(true),zr_,H',⟨zo_⟩,⟨zb_⟩⟩
  ·rw[if_neg c0]at H;obtain⟨f0,f1⟩:=bqF_ c0;(first|rw[f0]|(simp only[i64_w,i32_w];rw[f0])|rw[f1]|(rw[f2];simp only[Bool.not_true,Bool.not_false])|skip);have H':=Aside0.mk H;clear H;go_wp2
   go_meet
   case rel=>exact⟨_,(decide ((a0.size:Int)>15)),zr_,H',⟨zo_⟩,⟨zb_⟩⟩
 case rest=>
  clear C0;(try clear p0);(try clear c0);(try clear f0);(try clear f1);obtain⟨kq,x0,rfl,HA,J0,HB⟩:=hcut
  cases kq with
  |zero=>exact absurd HA.out (by simp[spec_ReadDec.j0])
  |succ k0=>
   have H:=HA.out;clear HA;simp only[spec_ReadDec.j0]at H
   by_cases c1:x0=true
   ·subst c1;rw[if_pos rfl]at H;simp only[Option.some.injEq,Prod.mk.injEq]at H;obtain⟨rfl,rfl⟩:=H;go_wp2
    go_ret2
    exact⟨ze_,zb_⟩
   ·replace c1:=Bool.eq_false_iff.mpr c1;subst c1;rw[if_neg Bool.false_ne_true]at H;have H':=Aside0.mk H;clear H;go_wp2
    go_loopg [4,5] k0 (fun kq v1 v2 w'=> ∃(x1 x2:Int),v1= .int .i64 x1∧v2= .int .i64 x2∧Aside0 (spec_ReadDec.l0 kq a0 x1 x2=some (r1,r2))∧Aside0 (kq≤k0)∧Aside0 (Below w.heap.size w w'))
    case atStart=>exact⟨(0),(0),zr_,zr_,H',⟨Nat.le_refl _⟩,⟨zb_⟩⟩
    case round=>
     clear H';(try clear p0);(try clear c0);(try clear f0);(try clear f1);(try clear c1);(try clear p0);obtain⟨x1,x2,rfl,rfl,HA,K0,HB⟩:=hrel
     cases gk with
     |zero=>exact absurd HA.out (by simp[spec_ReadDec.l0])
     |succ k1=>
      have H:=HA.out;clear HA;simp only[spec_ReadDec.l0]at H
      by_cases c2:x2<(a0.size:Int)
      ·rw[if_pos c2]at H;have f3:=decide_eq_true c2;clear c2
       replace H:=ifS_ H;obtain⟨c3,H⟩:=H;have f4:=decide_eq_true c3;clear c3;replace H:=bS_ H;obtain⟨t0,A0,H⟩:=H;(try dsimp only at H);have C1:=Aside0.mk H;clear H;have p1:0≤(x2:Int):=of_decide_eq_true za_;have q0:x2<(a0.size:Int):=of_decide_eq_true za_;have h0:=bt_at a0 x2;replace p1:=eq_true p1;replace q0:=eq_true q0;go_upto_if 24 with(first|((with_reducible refine gc_ 110 rfl ?_);refine gR 23 Tryz.func110 (spec_l1digit.calls (bt a0 x2) t0 _ A0.out) ?_;rintro w' ⟨nd,rfl⟩))
       (try simp only[Act.put,List.setIfInBounds_toArray,List.set_cons_zero,List.set_cons_succ]);(try(rw[drewN_self wr];generalize hq_:World.drewN wr _=wr;replace HB:=dnH_ hq_ HB;clear hq_));have H:=C1.out;clear C1
       by_cases c4:t0=true
       ·subst c4;rw[if_pos rfl]at H;have H':=Aside0.mk H;clear H;have p2:0≤(x2:Int):=of_decide_eq_true za_;have q1:x2<(a0.size:Int):=of_decide_eq_true za_;have h1:=bt_at a0 x2;replace p2:=eq_true p2;replace q1:=eq_true q1;go_wp2
        go_roundg k1
        (case measure=>have:=J0.out;have:=K0.out;omega);case rel=>exact⟨(wrap64 ((wrap64 (x1*10))+(((bt a0 x2)-48)%256))),(wrap64 (x2+1)),zr_,zr_,H',⟨zz6⟩,⟨zb_⟩⟩
       ·replace c4:=Bool.eq_false_iff.mpr c4;subst c4;rw[if_neg Bool.false_ne_true]at H;simp only[Option.some.injEq,Prod.mk.injEq]at H;obtain⟨rfl,rfl⟩:=H;go_wp2
        go_ret2
        exact⟨ze_,zb_⟩
      ·rw[if_neg c2]at H;have f3:=decide_eq_false c2;clear c2;replace H:=bS_ H;obtain⟨t1,A1,H⟩:=H;(try dsimp only at H);have C2:=Aside0.mk H;clear H;go_upto_if 36 with(first|((with_reducible refine gc_ 20 rfl ?_);refine gR 34 Tryz.func20 (spec_DecText.calls k1 x1 t1 _ A1.out) ?_;rintro w0 hb;replace HB:=Aside0.mk (below_step zb_ hb);(try clear hb)))
       (try simp only[Act.put,List.setIfInBounds_toArray,List.set_cons_zero,List.set_cons_succ]);have H:=C2.out;clear C2
       by_cases c5:t1.toList=a0.toList
       ·rw[if_pos c5]at H;obtain⟨f5,f6⟩:=bqT_ c5;clear c5;(first|rw[f5]|(simp only[i64_w,i32_w];rw[f5])|rw[f6]|(rw[f7];simp only[Bool.not_true,Bool.not_false])|skip);simp only[Option.some.injEq,Prod.mk.injEq]at H;obtain⟨rfl,rfl⟩:=H;go_wp2
        go_ret2
        exact⟨ze_,zb_⟩
       ·rw[if_neg c5]at H;obtain⟨f5,f6⟩:=bqF_ c5;(first|rw[f5]|(simp only[i64_w,i32_w];rw[f5])|rw[f6]|(rw[f7];simp only[Bool.not_true,Bool.not_false])|skip);simp only[Option.some.injEq,Prod.mk.injEq]at H;obtain⟨rfl,rfl⟩:=H;go_wp2
        go_ret2
        exact⟨ze_,zb_⟩
def spec_l7split.l0:Nat→ByteArray→Int→List ByteArray→Int→Int→Option (List ByteArray)
 |0,_,_,_,_,_=>none
 |k+1,x0,x1,x2,x3,x4=>if x4≤(x0.size:Int)then(if x4=(x0.size:Int)then(if 0≤x3 then(if x3≤x4 then(if x2.length<8796093022208 then(spec_l7split.l0 k x0 x1 (x2++ [x0.extract (x3:Int).toNat (x4:Int).toNat]) (wrap64 (x4+1)) (wrap64 (x4+1)))else(none))else(none))else(none))else(if 0≤x4 then(if x4<(x0.size:Int)then(if(bt x0 x4)=x1 then(if 0≤x3 then(if x3≤x4 then(if x2.length<8796093022208 then(spec_l7split.l0 k x0 x1 (x2++ [x0.extract (x3:Int).toNat (x4:Int).toNat]) (wrap64 (x4+1)) (wrap64 (x4+1)))else(none))else(none))else(none))else(spec_l7split.l0 k x0 x1 x2 x3 (wrap64 (x4+1))))else(none))else(none)))else(some x2)
def spec_l7split.f (k:Nat) (a0:ByteArray) (a1:Int):Option (List ByteArray):=spec_l7split.l0 k a0 a1 ([]:List ByteArray) 0 0
theorem spec_l7split.calls (k:Nat) (a0:ByteArray) (a1:Int) (r:List ByteArray) (w:World) (H:spec_l7split.f k a0 a1=some r):
  Calls Tryz.prog 111 #[.string a0,.int .u8 a1] w fun e w'=> ∃v0:Value,e= .returned (v0)∧Kd.R Kd.string 9 w' w.heap.size (fun _=>True) v0 r∧Below w.heap.size w w':=by
 have HB:=Aside0.mk (Below.refl w.heap.size w);unfold spec_l7split.f at H;have H':=Aside0.mk H;clear H;go_enter Tryz.func111,Tryz.ntmps111
 go_wp2
 go_loopg [5,6,7] k (fun kq v1 v2 v3 w'=> ∃(x0:List ByteArray) (x1 x2:Int),v2= .int .i64 x1∧v3= .int .i64 x2∧Aside0 (spec_l7split.l0 kq a0 a1 x0 x1 x2=some r)∧Aside0 (kq≤k)∧Aside0 (Kd.R Kd.string 9 w' w.heap.size (fun _=>True) v1 x0)∧Aside0 (Below w.heap.size w w'))
 case atStart=>exact⟨(([]:List ByteArray)),(0),(0),zr_,zr_,H',⟨Nat.le_refl _⟩,⟨zn_⟩,⟨zb_⟩⟩
 case round=>
  clear H';(try clear c0);(try clear p0);obtain⟨x0,x1,x2,rfl,rfl,HA,K0,O0,HB⟩:=hrel
  cases gk with
  |zero=>exact absurd HA.out (by simp[spec_l7split.l0])
  |succ k0=>
   have H:=HA.out;clear HA;simp only[spec_l7split.l0]at H
   by_cases c1:x2≤(a0.size:Int)
   ·rw[if_pos c1]at H;have f0:=decide_eq_true c1;clear c1
    by_cases c2:x2=(a0.size:Int)
    ·rw[if_pos c2]at H;obtain⟨f1,f2⟩:=bqT_ c2;clear c2
     replace H:=ifS_ H;obtain⟨c3,H⟩:=H;obtain⟨f3,f4⟩:=dT_ c3;clear c3
     replace H:=ifS_ H;obtain⟨c4,H⟩:=H;obtain⟨f5,f6⟩:=dT_ c4;clear c4;have f7:=eq_true (of_decide_eq_true za_:x2≤(a0.size:Int))
     replace H:=ifS_ H;obtain⟨c5,H⟩:=H;have L0:=Aside0.mk c5;clear c5;generalize h0:(x0++ [a0.extract (x1:Int).toNat (x2:Int).toNat]:List ByteArray)=y0 at H;have Y0:=Aside0.mk h0.symm;clear h0;have H':=Aside0.mk H;clear H;go_wp2_with (first|((with_reducible refine gate_builtin (b:= .append) (xs:= #[.tmp 25,.tmp 30]) rfl ?_);at_builtin;refine Kd.R_append Kd.string (w0:=w) w.heap.size rfl (.tmp 25) (.tmp 30) 58 9 (.string ⟨#[]⟩) 16 rfl Tryz.underlying58 info9 rfl zz2 zz5 u5 x0 (a0.extract (x1:Int).toNat (x2:Int).toNat) [.string (a0.extract (x1:Int).toNat (x2:Int).toNat)] (fun _=>True) (fun _=>False) rfl rfl ?aP (fun _ hk=>hk.elim) ?aF ?aO ?aB ?aS ?aL ?_;(case aP=>exact rfl);(case aB=>exact zb_);(case aF=>exact(fun _ _=>trivial));(case aO=>exact (kr_ O0));(case aS=>exact(below_size zb_));(case aL=>have:=L0.out;omega);intro v4 w1 ho hb hg hat;rw[←Y0.out]at ho;replace HB:=Aside0.mk (hb);have O1:=Aside0.mk (ho);clear O0;clear ho hb hg hat))
     go_roundg k0
     (case measure=>have:=K0.out;omega);case rel=>exact⟨(y0),(wrap64 (x2+1)),(wrap64 (x2+1)),zr_,zr_,H',⟨zz4⟩,⟨by(with_reducible repeat(first|apply Kd.R_alloc|apply Kd.R_drewN|apply Kd.R_drew));exact O1.out⟩,⟨zb_⟩⟩
    ·rw[if_neg c2]at H;obtain⟨f1,f2⟩:=bqF_ c2
     replace H:=ifS_ H;obtain⟨c6,H⟩:=H;have f8:=decide_eq_true c6;clear c6
     replace H:=ifS_ H;obtain⟨c7,H⟩:=H;have f9:=decide_eq_true c7;clear c7
     by_cases c8:(bt a0 x2)=a1
     ·rw[if_pos c8]at H;obtain⟨f10,f11⟩:=bqT_ c8;clear c8
      replace H:=ifS_ H;obtain⟨c9,H⟩:=H;obtain⟨f12,f13⟩:=dT_ c9;clear c9
      replace H:=ifS_ H;obtain⟨c10,H⟩:=H;obtain⟨f14,f15⟩:=dT_ c10;clear c10;have f16:=eq_true (of_decide_eq_true za_:x2≤(a0.size:Int))
      replace H:=ifS_ H;obtain⟨c11,H⟩:=H;have L1:=Aside0.mk c11;clear c11;generalize h1:(x0++ [a0.extract (x1:Int).toNat (x2:Int).toNat]:List ByteArray)=y1 at H;have Y1:=Aside0.mk h1.symm;clear h1;have H':=Aside0.mk H;clear H;have p1:0≤(x2:Int):=of_decide_eq_true za_;have q0:x2<(a0.size:Int):=of_decide_eq_true za_;have h2:=bt_at a0 x2;replace p1:=eq_true p1;replace q0:=eq_true q0;go_wp2_with (first|((with_reducible refine gate_builtin (b:= .append) (xs:= #[.tmp 25,.tmp 30]) rfl ?_);at_builtin;refine Kd.R_append Kd.string (w0:=w) w.heap.size rfl (.tmp 25) (.tmp 30) 58 9 (.string ⟨#[]⟩) 16 rfl Tryz.underlying58 info9 rfl zz2 zz5 u5 x0 (a0.extract (x1:Int).toNat (x2:Int).toNat) [.string (a0.extract (x1:Int).toNat (x2:Int).toNat)] (fun _=>True) (fun _=>False) rfl rfl ?aP (fun _ hk=>hk.elim) ?aF ?aO ?aB ?aS ?aL ?_;(case aP=>exact rfl);(case aB=>exact zb_);(case aF=>exact(fun _ _=>trivial));(case aO=>exact (kr_ O0));(case aS=>exact(below_size zb_));(case aL=>have:=L1.out;omega);intro v5 w2 ho hb hg hat;rw[←Y1.out]at ho;replace HB:=Aside0.mk (hb);have O2:=Aside0.mk (ho);clear O0;clear ho hb hg hat))
      go_roundg k0
      (case measure=>have:=K0.out;omega);case rel=>exact⟨(y1),(wrap64 (x2+1)),(wrap64 (x2+1)),zr_,zr_,H',⟨zz4⟩,⟨by(with_reducible repeat(first|apply Kd.R_alloc|apply Kd.R_drewN|apply Kd.R_drew));exact O2.out⟩,⟨zb_⟩⟩
     ·rw[if_neg c8]at H;obtain⟨f10,f11⟩:=bqF_ c8;have H':=Aside0.mk H;clear H;have p1:0≤(x2:Int):=of_decide_eq_true za_;have q0:x2<(a0.size:Int):=of_decide_eq_true za_;have h2:=bt_at a0 x2;replace p1:=eq_true p1;replace q0:=eq_true q0;go_wp2
      go_roundg k0
      (case measure=>have:=K0.out;omega);case rel=>exact⟨(x0),(x1),(wrap64 (x2+1)),zr_,zr_,H',⟨zz4⟩,⟨(kr_ O0)⟩,⟨zb_⟩⟩
   ·rw[if_neg c1]at H;have f0:=decide_eq_false c1;clear c1;obtain rfl:=Option.some.inj H;go_wp2
    go_ret;exact⟨_,ze_,(kr_ O0),zb_⟩
mutual
def spec_ReadHex.j0:Nat→ByteArray→Bool→Option (Int×Bool)
 |0,_,_=>none
 |k+1,x0,x1=>if x1=true then(some (0,false))else(spec_ReadHex.l0 k x0 0 0)
def spec_ReadHex.l0:Nat→ByteArray→Int→Int→Option (Int×Bool)
 |0,_,_,_=>none
 |k+1,x0,x1,x2=>if x2<(x0.size:Int)then(if 0≤x2 then((spec_l1lower.f (bt x0 x2)).bind fun t0=>((spec_l1digit.f t0).bind fun t1=>(if t1=true then(spec_ReadHex.l0 k x0 (wrap64 ((wrap64 (x1*16))+((t0-48)%256))) (wrap64 (x2+1)))else(if t0≥97 then(if t0≤102 then(spec_ReadHex.l0 k x0 (wrap64 ((wrap64 ((wrap64 (x1*16))+((t0-97)%256)))+10)) (wrap64 (x2+1)))else(some (0,false)))else(some (0,false))))))else(none))else(some (x1,true))
end
def spec_ReadHex.f (k:Nat) (a0:ByteArray):Option (Int×Bool):=if(a0.size:Int)=0 then(spec_ReadHex.j0 k a0 true)else(spec_ReadHex.j0 k a0 (decide ((a0.size:Int)>7)))
theorem spec_ReadHex.calls (k:Nat) (a0:ByteArray) (r1:Int) (r2:Bool) (w:World) (H:spec_ReadHex.f k a0=some (r1,r2)):
  Calls Tryz.prog 145 #[.string a0] w fun e w'=>e= .returned (.tuple #[.int .i64 r1,.bool r2])∧Drawn0 w w':=by
 unfold spec_ReadHex.f at H;have C0:=Aside0.mk H;clear H;go_enter Tryz.func145,Tryz.ntmps145
 go_upto_region 1 with(fail)
 go_cut [14] (fun v0 wc=> ∃(kq:Nat) (x0:Bool),v0= .bool x0∧Aside0 (spec_ReadHex.j0 kq a0 x0=some (r1,r2))∧Aside0 (kq≤k)∧Drawn0 w wc)
 case first=>
  have H:=C0.out;clear C0
  by_cases c0:(a0.size:Int)=0
  ·rw[if_pos c0]at H;obtain⟨f0,f1⟩:=bqT_ c0;clear c0;(first|rw[f0]|(simp only[i64_w,i32_w];rw[f0])|rw[f1]|(rw[f2];simp only[Bool.not_true,Bool.not_false])|skip);have H':=Aside0.mk H;clear H;go_wp2
   go_meet
   case rel=>exact⟨_,(true),zr_,H',⟨zo_⟩,zd_⟩
  ·rw[if_neg c0]at H;obtain⟨f0,f1⟩:=bqF_ c0;(first|rw[f0]|(simp only[i64_w,i32_w];rw[f0])|rw[f1]|(rw[f2];simp only[Bool.not_true,Bool.not_false])|skip);have H':=Aside0.mk H;clear H;go_wp2
   go_meet
   case rel=>exact⟨_,(decide ((a0.size:Int)>7)),zr_,H',⟨zo_⟩,zd_⟩
 case rest=>
  clear C0;(try clear c1);(try clear p0);(try clear c0);(try clear f0);(try clear f1);obtain⟨kq,x0,rfl,HA,J0,⟨mc1,rfl⟩⟩:=hcut
  cases kq with
  |zero=>exact absurd HA.out (by simp[spec_ReadHex.j0])
  |succ k0=>
   have H:=HA.out;clear HA;simp only[spec_ReadHex.j0]at H
   by_cases c2:x0=true
   ·subst c2;rw[if_pos rfl]at H;simp only[Option.some.injEq,Prod.mk.injEq]at H;obtain⟨rfl,rfl⟩:=H;go_wp2
    go_ret2
    exact⟨zr_,zd_⟩
   ·replace c2:=Bool.eq_false_iff.mpr c2;subst c2;rw[if_neg Bool.false_ne_true]at H;have H':=Aside0.mk H;clear H;go_wp2
    go_loopg [4,5] k0 (fun kq v1 v2 w'=> ∃(x1 x2:Int),v1= .int .i64 x1∧v2= .int .i64 x2∧Aside0 (spec_ReadHex.l0 kq a0 x1 x2=some (r1,r2))∧Aside0 (kq≤k0)∧Drawn0 w w')
    case atStart=>exact⟨(0),(0),zr_,zr_,H',⟨Nat.le_refl _⟩,zd_⟩
    case round=>
     clear H';(try clear c1);(try clear p0);(try clear c0);(try clear f0);(try clear f1);(try clear c2);(try clear p0);obtain⟨x1,x2,rfl,rfl,HA,K0,⟨m2,rfl⟩⟩:=hrel
     cases gk with
     |zero=>exact absurd HA.out (by simp[spec_ReadHex.l0])
     |succ k1=>
      have H:=HA.out;clear HA;simp only[spec_ReadHex.l0]at H
      by_cases c3:x2<(a0.size:Int)
      ·rw[if_pos c3]at H;have f3:=decide_eq_true c3;clear c3
       replace H:=ifS_ H;obtain⟨c4,H⟩:=H;have f4:=decide_eq_true c4;clear c4;replace H:=bS_ H;obtain⟨t0,A0,H⟩:=H;(try dsimp only at H);replace H:=bS_ H;obtain⟨t1,A1,H⟩:=H;(try dsimp only at H);have C1:=Aside0.mk H;clear H;have p1:0≤(x2:Int):=of_decide_eq_true za_;have q0:x2<(a0.size:Int):=of_decide_eq_true za_;have h0:=bt_at a0 x2;replace p1:=eq_true p1;replace q0:=eq_true q0;go_upto_if 25 with(first|((with_reducible refine gc_ 109 rfl ?_);refine gR 24 Tryz.func109 (spec_l1lower.calls (bt a0 x2) t0 _ A0.out) ?_;rintro w' ⟨nd,rfl⟩)|((with_reducible refine gc_ 110 rfl ?_);refine gR 27 Tryz.func110 (spec_l1digit.calls t0 t1 _ A1.out) ?_;rintro w' ⟨nd,rfl⟩))
       (try simp only[Act.put,List.setIfInBounds_toArray,List.set_cons_zero,List.set_cons_succ]);have H:=C1.out;clear C1
       by_cases c5:t1=true
       ·subst c5;rw[if_pos rfl]at H;have H':=Aside0.mk H;clear H;go_wp2
        go_roundg k1
        (case measure=>have:=J0.out;have:=K0.out;omega);case rel=>exact⟨(wrap64 ((wrap64 (x1*16))+((t0-48)%256))),(wrap64 (x2+1)),zr_,zr_,H',⟨zz6⟩,zd_⟩
       ·replace c5:=Bool.eq_false_iff.mpr c5;subst c5;rw[if_neg Bool.false_ne_true]at H
        by_cases c6:t0≥97
        ·rw[if_pos c6]at H;have f5:=decide_eq_true c6;clear c6;(first|rw[f5]|(simp only[i64_w,i32_w];rw[f5])|skip)
         by_cases c7:t0≤102
         ·rw[if_pos c7]at H;have f6:=decide_eq_true c7;clear c7;have H':=Aside0.mk H;clear H;go_wp2
          go_roundg k1
          (case measure=>have:=J0.out;have:=K0.out;omega);case rel=>exact⟨(wrap64 ((wrap64 ((wrap64 (x1*16))+((t0-97)%256)))+10)),(wrap64 (x2+1)),zr_,zr_,H',⟨zz6⟩,zd_⟩
         ·rw[if_neg c7]at H;have f6:=decide_eq_false c7;clear c7;simp only[Option.some.injEq,Prod.mk.injEq]at H;obtain⟨rfl,rfl⟩:=H;go_wp2
          go_ret2
          exact⟨zr_,zd_⟩
        ·rw[if_neg c6]at H;have f5:=decide_eq_false c6;clear c6;(first|rw[f5]|(simp only[i64_w,i32_w];rw[f5])|skip);simp only[Option.some.injEq,Prod.mk.injEq]at H;obtain⟨rfl,rfl⟩:=H;go_wp2
         go_ret2
         exact⟨zr_,zd_⟩
      ·rw[if_neg c3]at H;have f3:=decide_eq_false c3;clear c3;simp only[Option.some.injEq,Prod.mk.injEq]at H;obtain⟨rfl,rfl⟩:=H;go_wp2
       go_ret2
       exact⟨zr_,zd_⟩
def spec_l1has.l0:Nat→ByteArray→Int→Int→Option (Bool)
 |0,_,_,_=>none
 |k+1,x0,x1,x2=>if x2<(x0.size:Int)then(if 0≤x2 then(if(bt x0 x2)=x1 then(some true)else(spec_l1has.l0 k x0 x1 (wrap64 (x2+1))))else(none))else(some false)
def spec_l1has.f (k:Nat) (a0:ByteArray) (a1:Int):Option (Bool):=spec_l1has.l0 k a0 a1 0
theorem spec_l1has.calls (k:Nat) (a0:ByteArray) (a1:Int) (r:Bool) (w:World) (H:spec_l1has.f k a0 a1=some r):
  Calls Tryz.prog 163 #[.string a0,.int .u8 a1] w fun e w'=>e= .returned (.bool r)∧Drawn0 w w':=by
 unfold spec_l1has.f at H;have H':=Aside0.mk H;clear H;go_enter Tryz.func163,Tryz.ntmps163
 go_wp2
 go_loopg [5] k (fun kq v0 w'=> ∃(x0:Int),v0= .int .i64 x0∧Aside0 (spec_l1has.l0 kq a0 a1 x0=some r)∧Aside0 (kq≤k)∧Drawn0 w w')
 case atStart=>exact⟨(0),zr_,H',⟨Nat.le_refl _⟩,zd_⟩
 case round=>
  clear H';(try clear c0);(try clear p0);obtain⟨x0,rfl,HA,K0,⟨m1,rfl⟩⟩:=hrel
  cases gk with
  |zero=>exact absurd HA.out (by simp[spec_l1has.l0])
  |succ k0=>
   have H:=HA.out;clear HA;simp only[spec_l1has.l0]at H
   by_cases c1:x0<(a0.size:Int)
   ·rw[if_pos c1]at H;have f0:=decide_eq_true c1;clear c1
    replace H:=ifS_ H;obtain⟨c2,H⟩:=H;have f1:=decide_eq_true c2;clear c2
    by_cases c3:(bt a0 x0)=a1
    ·rw[if_pos c3]at H;obtain⟨f2,f3⟩:=bqT_ c3;clear c3;obtain rfl:=Option.some.inj H;have p1:0≤(x0:Int):=of_decide_eq_true za_;have q0:x0<(a0.size:Int):=of_decide_eq_true za_;have h0:=bt_at a0 x0;replace p1:=eq_true p1;replace q0:=eq_true q0;go_wp2
     go_ret;exact⟨zr_,zd_⟩
    ·rw[if_neg c3]at H;obtain⟨f2,f3⟩:=bqF_ c3;have H':=Aside0.mk H;clear H;have p1:0≤(x0:Int):=of_decide_eq_true za_;have q0:x0<(a0.size:Int):=of_decide_eq_true za_;have h0:=bt_at a0 x0;replace p1:=eq_true p1;replace q0:=eq_true q0;go_wp2
     go_roundg k0
     (case measure=>have:=K0.out;omega);case rel=>exact⟨(wrap64 (x0+1)),zr_,H',⟨zz4⟩,zd_⟩
   ·rw[if_neg c1]at H;have f0:=decide_eq_false c1;clear c1;obtain rfl:=Option.some.inj H;go_wp2
    go_ret;exact⟨zr_,zd_⟩
def spec_l7free.f (k:Nat) (a0:Int):Option (Bool):=(spec_l1lower.f a0).bind fun t0=>(if t0≥97 then(if t0≤122 then(some true)else((spec_l1digit.f a0).bind fun t1=>(if t1=true then(some true)else((spec_l1has.f k (⟨#[45,46,95,126]⟩:ByteArray) a0).bind fun t2=>(some t2)))))else((spec_l1digit.f a0).bind fun t3=>(if t3=true then(some true)else((spec_l1has.f k (⟨#[45,46,95,126]⟩:ByteArray) a0).bind fun t4=>(some t4)))))
theorem spec_l7free.calls (k:Nat) (a0:Int) (r:Bool) (w:World) (H:spec_l7free.f k a0=some r):
  Calls Tryz.prog 146 #[.int .u8 a0] w fun e w'=>e= .returned (.bool r)∧Drawn0 w w':=by
 unfold spec_l7free.f at H;replace H:=bS_ H;obtain⟨t0,A0,H⟩:=H;(try dsimp only at H);have C0:=Aside0.mk H;clear H;go_enter Tryz.func146,Tryz.ntmps146
 repeat' (first|(go_big_may;(first|((with_reducible refine gc_ 109 rfl ?_);refine gR 5 Tryz.func109 (spec_l1lower.calls a0 t0 _ A0.out) ?_;rintro w' ⟨nd,rfl⟩)))|go_values|go_skip|go_big_skip|go_big_want|((first|(with_reducible refine gate_nog rfl ?_)|(fail_if_success with_reducible refine gate_any ?_));go_step)|go_upon|simp only[Bool.not_true,Bool.not_false,Bool.true_and,Bool.false_and,Bool.true_or,Bool.false_or]|dsimp only)
 (try simp only[Act.put,List.setIfInBounds_toArray,List.set_cons_zero,List.set_cons_succ]);have H:=C0.out;clear C0
 by_cases c0:t0≥97
 ·rw[if_pos c0]at H;have f0:=decide_eq_true c0;clear c0;(first|rw[f0]|(simp only[i64_w,i32_w];rw[f0])|skip)
  by_cases c1:t0≤122
  ·rw[if_pos c1]at H;have f1:=decide_eq_true c1;clear c1;obtain rfl:=Option.some.inj H;go_wp2
   go_ret;exact⟨zr_,zd_⟩
  ·rw[if_neg c1]at H;have f1:=decide_eq_false c1;clear c1;replace H:=bS_ H;obtain⟨t1,A1,H⟩:=H;(try dsimp only at H);have C1:=Aside0.mk H;clear H
   repeat' (first|(go_big_may;(first|(go_at_call 110;(with_reducible refine(spec_l1digit.calls a0 t1 _ A1.out).mono ?_);rintro e w' ⟨rfl,⟨nd,rfl⟩⟩)))|go_values|go_skip|go_big_skip|go_big_want|((first|(with_reducible refine gate_nog rfl ?_)|(fail_if_success with_reducible refine gate_any ?_));go_step)|go_upon|simp only[Bool.not_true,Bool.not_false,Bool.true_and,Bool.false_and,Bool.true_or,Bool.false_or]|dsimp only)
   (try simp only[Act.put,List.setIfInBounds_toArray,List.set_cons_zero,List.set_cons_succ]);have H:=C1.out;clear C1
   by_cases c2:t1=true
   ·subst c2;rw[if_pos rfl]at H;obtain rfl:=Option.some.inj H;go_wp2
    go_ret;exact⟨zr_,zd_⟩
   ·replace c2:=Bool.eq_false_iff.mpr c2;subst c2;rw[if_neg Bool.false_ne_true]at H;replace H:=bS_ H;obtain⟨t2,A2,H⟩:=H;(try dsimp only at H);obtain rfl:=Option.some.inj H;go_wp2_with (first|(go_at_call 163;(with_reducible refine(spec_l1has.calls k (⟨#[45,46,95,126]⟩:ByteArray) a0 t2 _ A2.out).mono ?_);rintro e w' ⟨rfl,⟨nd,rfl⟩⟩))
    go_ret;exact⟨zr_,zd_⟩
 ·rw[if_neg c0]at H;have f0:=decide_eq_false c0;clear c0;(first|rw[f0]|(simp only[i64_w,i32_w];rw[f0])|skip);replace H:=bS_ H;obtain⟨t3,A3,H⟩:=H;(try dsimp only at H);have C2:=Aside0.mk H;clear H
  repeat' (first|(go_big_may;(first|(go_at_call 110;(with_reducible refine(spec_l1digit.calls a0 t3 _ A3.out).mono ?_);rintro e w' ⟨rfl,⟨nd,rfl⟩⟩)))|go_values|go_skip|go_big_skip|go_big_want|((first|(with_reducible refine gate_nog rfl ?_)|(fail_if_success with_reducible refine gate_any ?_));go_step)|go_upon|simp only[Bool.not_true,Bool.not_false,Bool.true_and,Bool.false_and,Bool.true_or,Bool.false_or]|dsimp only)
  (try simp only[Act.put,List.setIfInBounds_toArray,List.set_cons_zero,List.set_cons_succ]);have H:=C2.out;clear C2
  by_cases c3:t3=true
  ·subst c3;rw[if_pos rfl]at H;obtain rfl:=Option.some.inj H;go_wp2
   go_ret;exact⟨zr_,zd_⟩
  ·replace c3:=Bool.eq_false_iff.mpr c3;subst c3;rw[if_neg Bool.false_ne_true]at H;replace H:=bS_ H;obtain⟨t4,A4,H⟩:=H;(try dsimp only at H);obtain rfl:=Option.some.inj H;go_wp2_with (first|(go_at_call 163;(with_reducible refine(spec_l1has.calls k (⟨#[45,46,95,126]⟩:ByteArray) a0 t4 _ A4.out).mono ?_);rintro e w' ⟨rfl,⟨nd,rfl⟩⟩))
   go_ret;exact⟨zr_,zd_⟩
end Go.Proofs.YthmehmehoehlpaaGreatDoor.GFnExactRecText
