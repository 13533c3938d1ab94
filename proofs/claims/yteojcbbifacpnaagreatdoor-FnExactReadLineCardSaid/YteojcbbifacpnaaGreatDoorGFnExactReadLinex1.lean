-- Printed by gen.py and its programs for this claim.
import Derived.Test.YteojcbbifacpnaaGreatDoorGFnExactReadLinex0
import Derived.Test.YteojcbbifacpnaaGreatDoorZFnExactReadLine
namespace Go.Proofs.YteojcbbifacpnaaGreatDoor.GFnExactReadLine
open Go.RowKit Go.Proofs.YteojcbbifacpnaaGreatDoorW.PrintWords Go.Proofs.YteojcbbifacpnaaGreatDoorW.PrintLast Go.Proofs.YteojcbbifacpnaaGreatDoorW.PrintMore Go.Proofs.YteojcbbifacpnaaGreatDoorW.Zs
set_option maxHeartbeats 40000000
set_option maxRecDepth 100000
attribute [local go_sem] zL qL xN zN qK xK xL jL
set_option linter.unusedVariables false
set_option linter.unusedSimpArgs false
mutual
def qE.j0:Nat→Int→Bool→Option (ByteArray)
 |0,_,_=>none
 |k+1,x0,x8=>if x8=true then(some (⟨#[]⟩:ByteArray))else(if x0<10 then(some (strOfNums (([(wrap64 (48+x0))%256]:List Int))))else((qE.f k (wrap64 (Int.tdiv x0 10))).bind fun t104=>((some (([(wrap64 (48+(Int.tmod x0 10)))%256]:List Int):List Int)).bind fun y105=>(if t104.size+(strOfNums y105).size≤9223372036854775807 then(some (t104++(strOfNums y105)))else(none)))))
def qE.f:Nat→Int→Option (ByteArray)
 |0,_=>none
 |k+1,a0=>if a0<0 then(qE.j0 k a0 true)else(qE.j0 k a0 (decide (a0>999999999999999)))
end
def qE.T5:Bool×List (List Nat×List Nat):=(true,[([],[]),([0],[0]),([1],[1]),([],[]),([3],[3]),([4],[4]),([5],[5]),([6],[6]),([7],[7]),([2,8],[2,8]),([9,2,0,1,2,3,4,5,6,7,8,9],[9])])
def qE.B5:List Nat:= [0,1,3,0,8,24,56,120,248,511,1023]
theorem qE.tab5:kU .any (kX Tryz.f70 5)=qE.T5:=by kernel_rfl
theorem qE.bits5:kP qE.T5.2 qE.B5=true:=by kernel_rfl
theorem qE.calls (k:Nat): ∀(a0:Int) (r:ByteArray) (w:World) (h:qE.f k a0=some r),
  Calls Tryz.prog 70 #[.int .i64 a0] w fun e w'=>e= .returned (.string r)∧Below w.heap.size w w':=by
 induction k using Nat.strongRecOn with
 |_ k ih=>
 intro a0 r w h
 cases k with
 |zero=>exact absurd h (by simp[qE.f])
 |succ k=>
 simp only[qE.f]at h;have HB:=am_ (Below.refl w.heap.size w);have H:(if a0<0 then(qE.j0 k a0 true)else(qE.j0 k a0 (decide (a0>999999999999999))))=some r:=h;clear h;have HC2:=am_ H;clear H;go_enter Tryz.func70,Tryz.ntmps70
 go_upto_region 1 with(fail)
 go_cut [8] (fun v8 wc=> ∃(kq:Nat) (x8_1:Bool),v8= .bool x8_1∧wA (qE.j0 kq a0 x8_1=some r)∧wA (kq≤k)∧wA (Below w.heap.size w wc))
 case first=>
  have H:=HC2.out;clear HC2
  by_cases c3:a0<0
  ·rw[if_pos c3]at H;have c3b0:=dt_ c3;clear c3;(first|rw[c3b0]|(simp only[yC,qD];rw[c3b0])|skip);have H':=am_ H;clear H;go_wp2
   go_meet
   case rel=>exact⟨_,(true),vB,H',⟨jT⟩,⟨zz0⟩⟩
  ·rw[if_neg c3]at H;have c3b0:=df_ c3;clear c3;(first|rw[c3b0]|(simp only[yC,qD];rw[c3b0])|skip);have H':=am_ H;clear H;go_wp2
   go_meet
   case rel=>exact⟨_,(decide (a0>999999999999999)),vB,H',⟨jT⟩,⟨zz0⟩⟩
 case rest=>
  clear HC2;(try clear p2);(try clear c3);(try clear c3b0);obtain⟨kq,x8_1,rfl,HA,HJ1,HB⟩:=hcut
  cases kq with
  |zero=>exact absurd HA.out (by simp[qE.j0])
  |succ kj1=>
   have H:=HA.out;clear HA;simp only[qE.j0]at H
   by_cases c4:x8_1=true
   ·subst c4;rw[if_pos rfl]at H;obtain rfl:=si_ H;go_wp2
    go_ret;exact⟨zz1,zz0⟩
   ·replace c4:=bf_ c4;subst c4;rw[if_neg ft_]at H
    by_cases c5:a0<10
    ·rw[if_pos c5]at H;have c5b0:=dt_ c5;clear c5;obtain⟨y101,hy101⟩: ∃y_:List Int,y_=(([(wrap64 (48+a0))%256]:List Int)):=⟨_,rfl⟩;replace H:(some (strOfNums y101))=some r:=by first|(rw[hy101];with_reducible exact H)|(have H2_:=(Option.bind_some _ _).symm.trans H;rw[hy101];with_reducible exact H2_)|(have H2_:=(Option.bind_some _ _).symm.trans H;with_reducible exact H2_)|with_reducible exact H|(rw[hy101];exact H)|exact H
     have Ny101:=am_ hy101;clear hy101;obtain rfl:=si_ H;go_wp2_with (first|((with_reducible refine xF (N:=14) rfl ?_);refine Kd.R_lit (Kd.int .u8) _ 5 ?hg (N:=14) ?hd (xs:=([(wrap64 (48+a0))%256]:List Int)) (inner:= [.int .u8 ((wrap64 (48+a0))%256)]) (ok:=fun _=>True) (okp:=fun _=>True) ?hr ?hp (fun _ hk=>hk) trivial (Below.refl _ _) (Nat.le_refl _) (by simp) ?_;(case hd=>rfl);(case hg=>rfl);(case hr=>first|(go_simp;done)|(go_simp;rfl));(case hp=>exact(qM.one (show Kd.M (Kd.int .u8) _ _ _ ((wrap64 (48+a0))%256) [.int .u8 ((wrap64 (48+a0))%256)]from rfl) (qM.none _ _)));intro v102 w6 ho7 hb hg_ hnew_;clear hg_ hnew_;(first|rw[←Ny101.out]at ho7|(simp only[Int.reduceToNat]at ho7;rw[←Ny101.out]at ho7));have HO103:=am_ (Kd.R_lower ho7 (zH zz0));replace HB:=am_ (kA zz0 hb);clear hb ho7;have hcv8:=kS (P:=Tryz.prog) Tryz.underlying63 Tryz.underlying5 Tryz.underlying9 (Kd.own_of_R HO103.out)))
     go_ret;exact⟨zz1,zz0⟩
    ·rw[if_neg c5]at H;have c5b0:=df_ c5;clear c5;replace H:=be_ H;obtain⟨t104,A90,H⟩:=H;(try dsimp only at H);have A9:=am_ A90;clear A90;obtain⟨y105,hy105⟩: ∃y_:List Int,y_=(([(wrap64 (48+(Int.tmod a0 10)))%256]:List Int)):=⟨_,rfl⟩;replace H:(if t104.size+(strOfNums y105).size≤9223372036854775807 then(some (t104++(strOfNums y105)))else(none))=some r:=by first|(rw[hy105];with_reducible exact H)|(have H2_:=(Option.bind_some _ _).symm.trans H;rw[hy105];with_reducible exact H2_)|(have H2_:=(Option.bind_some _ _).symm.trans H;with_reducible exact H2_)|with_reducible exact H|(rw[hy105];exact H)|exact H
     have Ny105:=am_ hy105;clear hy105
     by_cases c10:t104.size+(strOfNums y105).size≤9223372036854775807
     ·rw[if_pos c10]at H;have c10b0:=eq_true c10;have c10b1:=dt_ c10;(try have c10b2:(9223372036854775807<t104.size+(strOfNums y105).size)=False:=eq_false (Nat.not_lt.2 c10));obtain rfl:=si_ H;(try go_wp2);replace HB:=am_ (wB HB.out);refine st_ (n:=11) (S:=fun w'=>True) (ds:= []) trivial (fun hHeld=>?_);refine vF qE.tab5 qE.bits5 (fun HT_ HW_=>?_);generalize wc.drew=w11 at HB hHeld ⊢;refine pz 0 16 ?_;refine pz 1 17 ?_;refine pz 3 19 ?_;refine pz 4 20 ?_;refine pz 5 21 ?_;refine pz 6 22 ?_;refine join_ (σ:=Value) 2 #[true,true,true,true,true,true,true,true,true,false,false] (fun s_=> [(18,.string t104),(23,s_),(24,.string (strOfNums y105))]) (fun s_ w'=>(Kd.R (Kd.int .u8) 5 w' w.heap.size (fun _=>True) s_ y105)∧(Below w.heap.size w w')) ?_ ?_;rotate_left
      ·intro hCont;refine two_ (i:=2) (j:=7) (Ni:=some 18) (Nj:=some 23) #[true,true,true,true,true,true,true,false,false,false,false] #[true,true,false,true,true,true,true,true,false,false,false] rfl rfl rfl rfl (cK7 HT_.out (by kernel_rfl)) (by decide) (by decide) (fun K hK=>?_) (fun K hK=>?_)
       ·skip
        refine goZ Tryz.func70 #[.int .i64 (wrap64 (Int.tdiv a0 10))] (ih kj1 (by have:=HJ1.out;omega) (wrap64 (Int.tdiv a0 10)) t104 _ A9.out) ?_;rintro w12 hb;replace HB:=am_ (kA zz0 hb);(try clear hb);(try clear hb2);(try clear hk);(try clear hi);refine hK.out _ _ trivial (fun hHeld=>?_);clear hK K;refine nz ?_;refine oz 7 23 (fun K hK=>?_);refine Kd.R_lit_step (Kd.int .u8) _ 5 ?hg (N:=23) ?hd (xs:=([(wrap64 (48+(Int.tmod a0 10)))%256]:List Int)) (inner:= [.int .u8 ((wrap64 (48+(Int.tmod a0 10)))%256)]) (ok:=fun _=>True) (okp:=fun _=>True) ?hr ?hp (fun _ hk=>hk) trivial (Below.refl _ _) (Nat.le_refl _) (by simp) ?_;(case hd=>rfl);(case hg=>rfl);(case hr=>first|(go_simp;done)|(go_simp;rfl));(case hp=>exact(qM.one (show Kd.M (Kd.int .u8) _ _ _ ((wrap64 (48+(Int.tmod a0 10)))%256) [.int .u8 ((wrap64 (48+(Int.tmod a0 10)))%256)]from rfl) (qM.none _ _)));intro v106 w13 ho14 hb hg_ hnew_;clear hg_ hnew_;(first|rw[←Ny105.out]at ho14|(simp only[Int.reduceToNat]at ho14;rw[←Ny105.out]at ho14));have HO107:=am_ (Kd.R_lower ho14 (zH zz0));replace HB:=am_ (kA zz0 hb);clear hb ho14;refine hK.out _ _ trivial (fun hHeld=>?_);clear hK K;refine nz ?_;refine oz 8 24 (fun K hK=>?_);have hcv15:=kS (P:=Tryz.prog) Tryz.underlying63 Tryz.underlying5 Tryz.underlying9 (Kd.own_of_R HO107.out);refine fW2 (w1:=?_) (v:=?_) (by rfl) rfl ?_ ?_;rotate_left 2
        ·go_simp;constructor
         ·rfl
         ·rfl
        clear hcv15;refine hK.out _ _ trivial (fun hHeld=>?_);clear hK K;refine nz ?_;exact eV6 (by first|(simp only[aQ9,Act.put,List.setIfInBounds_toArray,List.set_cons_zero,List.set_cons_succ];done)|(simp only[aQ9,Act.put,List.setIfInBounds_toArray,List.set_cons_zero,List.set_cons_succ];rfl)) (hCont (v106) _ ⟨zz82,zz0⟩)
       ·skip
        refine Kd.R_lit_step (Kd.int .u8) _ 5 ?hg (N:=23) ?hd (xs:=([(wrap64 (48+(Int.tmod a0 10)))%256]:List Int)) (inner:= [.int .u8 ((wrap64 (48+(Int.tmod a0 10)))%256)]) (ok:=fun _=>True) (okp:=fun _=>True) ?hr ?hp (fun _ hk=>hk) trivial (Below.refl _ _) (Nat.le_refl _) (by simp) ?_;(case hd=>rfl);(case hg=>rfl);(case hr=>first|(go_simp;done)|(go_simp;rfl));(case hp=>exact(qM.one (show Kd.M (Kd.int .u8) _ _ _ ((wrap64 (48+(Int.tmod a0 10)))%256) [.int .u8 ((wrap64 (48+(Int.tmod a0 10)))%256)]from rfl) (qM.none _ _)));intro v106 w12 ho13 hb hg_ hnew_;clear hg_ hnew_;(first|rw[←Ny105.out]at ho13|(simp only[Int.reduceToNat]at ho13;rw[←Ny105.out]at ho13));have HO107:=am_ (Kd.R_lower ho13 (zH zz0));replace HB:=am_ (kA zz0 hb);clear hb ho13;refine hK.out _ _ trivial (fun hHeld=>?_);clear hK K;refine nz ?_;refine two_ (i:=2) (j:=8) (Ni:=some 18) (Nj:=some 24) #[true,true,true,true,true,true,true,true,false,false,false] #[true,true,false,true,true,true,true,true,true,false,false] rfl rfl rfl rfl (cK7 HT_.out (by kernel_rfl)) (by decide) (by decide) (fun K hK=>?_) (fun K hK=>?_)
        ·skip
         refine goZ Tryz.func70 #[.int .i64 (wrap64 (Int.tdiv a0 10))] (ih kj1 (by have:=HJ1.out;omega) (wrap64 (Int.tdiv a0 10)) t104 _ A9.out) ?_;rintro w14 hb;replace HO107:=am_ (Kd.R_below zz82 hb);replace HB:=am_ (kA zz0 hb);(try clear hb);(try clear hb2);(try clear hk);(try clear hi);refine hK.out _ _ trivial (fun hHeld=>?_);clear hK K;refine nz ?_;refine oz 8 24 (fun K hK=>?_);have hcv15:=kS (P:=Tryz.prog) Tryz.underlying63 Tryz.underlying5 Tryz.underlying9 (Kd.own_of_R HO107.out);refine fW2 (w1:=?_) (v:=?_) (by rfl) rfl ?_ ?_;rotate_left 2
         ·go_simp;constructor
          ·rfl
          ·rfl
         clear hcv15;refine hK.out _ _ trivial (fun hHeld=>?_);clear hK K;refine nz ?_;exact eV6 (by first|(simp only[aQ9,Act.put,List.setIfInBounds_toArray,List.set_cons_zero,List.set_cons_succ];done)|(simp only[aQ9,Act.put,List.setIfInBounds_toArray,List.set_cons_zero,List.set_cons_succ];rfl)) (hCont (v106) _ ⟨zz82,zz0⟩)
        ·skip
         have hcv14:=kS (P:=Tryz.prog) Tryz.underlying63 Tryz.underlying5 Tryz.underlying9 (Kd.own_of_R HO107.out);refine fW2 (w1:=?_) (v:=?_) (by rfl) rfl ?_ ?_;rotate_left 2
         ·go_simp;constructor
          ·rfl
          ·rfl
         clear hcv14;refine hK.out _ _ trivial (fun hHeld=>?_);clear hK K;refine nz ?_;refine ozZ 2 18 Tryz.func70 #[.int .i64 (wrap64 (Int.tdiv a0 10))] (ih kj1 (by have:=HJ1.out;omega) (wrap64 (Int.tdiv a0 10)) t104 _ A9.out) (fun K hK=>?_);rintro w15 hb;replace HO107:=am_ (Kd.R_below zz82 hb);replace HB:=am_ (kA zz0 hb);(try clear hb);(try clear hb2);(try clear hk);(try clear hi);refine hK.out _ _ trivial (fun hHeld=>?_);clear hK K;refine nz ?_;exact eV6 (by first|(simp only[aQ9,Act.put,List.setIfInBounds_toArray,List.set_cons_zero,List.set_cons_succ];done)|(simp only[aQ9,Act.put,List.setIfInBounds_toArray,List.set_cons_zero,List.set_cons_succ];rfl)) (hCont (v106) _ ⟨zz82,zz0⟩)
      rintro v106 w16 ⟨h0_,h1_⟩;have n0_:wA (Kd.R (Kd.int .u8) 5 w16 w.heap.size (fun _=>True) v106 y105):=⟨h0_⟩;have n1_:wA (Below w.heap.size w w16):=⟨h1_⟩;clear HB;clear h0_ h1_;have HO107:=n0_;have HB:=n1_;clear n0_ n1_;have hHeld:=trivial;refine eV6 (a':=?_) ?_ ?_;rotate_left
      ·simp only[aQ9,Act.put,List.setIfInBounds_toArray,List.set_cons_zero,List.set_cons_succ];rfl
      refine pz 9 25 ?_;refine pz 10 2 ?_;refine qP (wJ HT_.out (by kernel_rfl)) ?_;(try go_wp2);go_ret;exact⟨zz1,zz0⟩
     ·rw[if_neg c10]at H;exact absurd H (by simp)
def jI.f (a0:Int):Option (Bool):=if a0≥48 then(some (decide (a0≤57)))else(some false)
theorem jI.calls (a0:Int) (r:Bool) (w:World) (h:jI.f a0=some r):
  Calls Tryz.prog 79 #[.int .u8 a0] w fun e w'=>e= .returned (.bool r)∧wI w w':=by
 have H:(if a0≥48 then(some (decide (a0≤57)))else(some false))=some r:=h;clear h
 by_cases c2:a0≥48
 ·rw[if_pos c2]at H;have c2b0:decide (48≤a0)=true:=dt_ c2;clear c2;obtain rfl:=si_ H;go_enter Tryz.func79,Tryz.ntmps79
  go_wp2
  go_ret;exact⟨vB,zz4⟩
 ·rw[if_neg c2]at H;have c2b0:decide (48≤a0)=false:=df_ c2;clear c2;obtain rfl:=si_ H;go_enter Tryz.func79,Tryz.ntmps79
  go_wp2
  go_ret;exact⟨vB,zz4⟩
mutual
def vE.j0:Nat→ByteArray→Bool→Option (Int×Bool)
 |0,_,_=>none
 |k+1,x0,x13=>if x13=true then(some (0,false))else(vE.l0 k x0 0 0)
def vE.l0:Nat→ByteArray→Int→Int→Option (Int×Bool)
 |0,_,_,_=>none
 |k+1,x0,x4,x5=>if x5<(x0.size:Int)then(if 0≤x5 then((jI.f (bt x0 x5)).bind fun t108=>(if t108=true then(vE.l0 k x0 (wrap64 ((wrap64 (x4*10))+(((bt x0 x5)-48)%256))) (wrap64 (x5+1)))else(some (0,false))))else(none))else((qE.f k x4).bind fun t109=>(if t109.toList=x0.toList then(some (x4,true))else(some (0,false))))
end
def vE.f (k:Nat) (a0:ByteArray):Option (Int×Bool):=if(a0.size:Int)=0 then(vE.j0 k a0 true)else(vE.j0 k a0 (decide ((a0.size:Int)>15)))
theorem vE.calls (k:Nat) (a0:ByteArray) (r1:Int) (r2:Bool) (w:World) (h:vE.f k a0=some (r1,r2)):
  Calls Tryz.prog 49 #[.string a0] w fun e w'=>e= .returned (.tuple #[.int .i64 r1,.bool r2])∧Below w.heap.size w w':=by
 have HB:=am_ (Below.refl w.heap.size w);have H:(if(a0.size:Int)=0 then(vE.j0 k a0 true)else(vE.j0 k a0 (decide ((a0.size:Int)>15))))=some (r1,r2):=h;clear h;have HC2:=am_ H;clear H;go_enter Tryz.func49,Tryz.ntmps49
 go_upto_region 1 with(fail)
 go_cut [13] (fun v13 wc=> ∃(kq:Nat) (x13_1:Bool),v13= .bool x13_1∧wA (vE.j0 kq a0 x13_1=some (r1,r2))∧wA (kq≤k)∧wA (Below w.heap.size w wc))
 case first=>
  have H:=HC2.out;clear HC2
  by_cases c3:(a0.size:Int)=0
  ·rw[if_pos c3]at H;have c3b0:((a0.size:Int)==0)=true:=beq_iff_eq.mpr c3;have c3b1:((a0.size:Int)!=0)=false:=bne_eq_false_iff_eq.mpr c3;clear c3;(first|rw[c3b0]|(simp only[yC,qD];rw[c3b0])|rw[c3b1]|(rw[c3b2];simp only[Bool.not_true,Bool.not_false])|skip);have H':=am_ H;clear H;go_wp2
   go_meet
   case rel=>exact⟨_,(true),vB,H',⟨jT⟩,⟨zz0⟩⟩
  ·rw[if_neg c3]at H;have c3b0:((a0.size:Int)==0)=false:=beq_eq_false_iff_ne.mpr c3;have c3b1:((a0.size:Int)!=0)=true:=bne_iff_ne.mpr c3;(first|rw[c3b0]|(simp only[yC,qD];rw[c3b0])|rw[c3b1]|(rw[c3b2];simp only[Bool.not_true,Bool.not_false])|skip);have H':=am_ H;clear H;go_wp2
   go_meet
   case rel=>exact⟨_,(decide ((a0.size:Int)>15)),vB,H',⟨jT⟩,⟨zz0⟩⟩
 case rest=>
  clear HC2;(try clear p2);(try clear c3);(try clear c3b0);(try clear c3b1);obtain⟨kq,x13_1,rfl,HA,HJ1,HB⟩:=hcut
  cases kq with
  |zero=>exact absurd HA.out (by simp[vE.j0])
  |succ kj1=>
   have H:=HA.out;clear HA;simp only[vE.j0]at H
   by_cases c4:x13_1=true
   ·subst c4;rw[if_pos rfl]at H;simp only[Option.some.injEq,Prod.mk.injEq]at H;obtain⟨rfl,rfl⟩:=H;go_wp2
    go_ret2
    exact⟨zz1,zz0⟩
   ·replace c4:=bf_ c4;subst c4;rw[if_neg ft_]at H;have H':=am_ H;clear H;go_wp2
    go_loopg [4,5] kj1 (fun kq v4 v5 w'=> ∃(x4_2 x5_2:Int),v4= .int .i64 x4_2∧v5= .int .i64 x5_2∧wA (vE.l0 kq a0 x4_2 x5_2=some (r1,r2))∧wA (kq≤kj1)∧wA (Below w.heap.size w w'))
    case atStart=>exact⟨(0),(0),vB,vB,H',⟨Nat.le_refl _⟩,⟨zz0⟩⟩
    case round=>
     clear H';(try clear p2);(try clear c3);(try clear c3b0);(try clear c3b1);(try clear c4);(try clear p2);obtain⟨x4_2,x5_2,rfl,rfl,HA,HK2,HB⟩:=hrel
     cases gk with
     |zero=>exact absurd HA.out (by simp[vE.l0])
     |succ k2=>
      have H:=HA.out;clear HA;simp only[vE.l0]at H
      by_cases c5:x5_2<(a0.size:Int)
      ·rw[if_pos c5]at H;have c5b0:=dt_ c5;clear c5
       by_cases c6:0≤x5_2
       ·rw[if_pos c6]at H;have c6b0:=dt_ c6;clear c6;replace H:=be_ H;obtain⟨t108,A80,H⟩:=H;(try dsimp only at H);have A8:=am_ A80;clear A80;have HC9:=am_ H;clear H;have p7:0≤(x5_2:Int):=od_ zz5;have q7:x5_2<(a0.size:Int):=od_ zz5;have hx7:=wP a0 x5_2;replace p7:=eq_true p7;replace q7:=eq_true q7;go_upto_if 24 with(first|((with_reducible refine zB (f:=79) rfl ?_);refine jG 23 Tryz.func79 #[.int .u8 (bt a0 x5_2)] (jI.calls (bt a0 x5_2) t108 _ A8.out) ?_;rintro w' ⟨nd,rfl⟩))
        (try simp only[Act.put,List.setIfInBounds_toArray,List.set_cons_zero,List.set_cons_succ]);(try(rw[jJ wr];generalize hq_:World.drewN wr _=wr;have n0_:wA (Below w.heap.size w wr):=⟨cQ1⟩;clear HB hq_;have HB:=n0_;clear n0_));have H:=HC9.out;clear HC9
        by_cases c10:t108=true
        ·subst c10;rw[if_pos rfl]at H;have H':=am_ H;clear H;have p11:0≤(x5_2:Int):=od_ zz5;have q11:x5_2<(a0.size:Int):=od_ zz5;have hx11:=wP a0 x5_2;replace p11:=eq_true p11;replace q11:=eq_true q11;go_wp2
         go_roundg k2
         (case measure=>have:=HJ1.out;have:=HK2.out;omega);case rel=>exact⟨(wrap64 ((wrap64 (x4_2*10))+(((bt a0 x5_2)-48)%256))),(wrap64 (x5_2+1)),vB,vB,H',⟨zz98⟩,⟨zz0⟩⟩
        ·replace c10:=bf_ c10;subst c10;rw[if_neg ft_]at H;simp only[Option.some.injEq,Prod.mk.injEq]at H;obtain⟨rfl,rfl⟩:=H;go_wp2
         go_ret2
         exact⟨zz1,zz0⟩
       ·rw[if_neg c6]at H;exact absurd H (by simp)
      ·rw[if_neg c5]at H;have c5b0:=df_ c5;clear c5;replace H:=be_ H;obtain⟨t109,A120,H⟩:=H;(try dsimp only at H);have A12:=am_ A120;clear A120;have HC13:=am_ H;clear H;go_upto_if 36 with(first|((with_reducible refine zB (f:=70) rfl ?_);refine jG 34 Tryz.func70 #[.int .i64 x4_2] (qE.calls k2 x4_2 t109 _ A12.out) ?_;rintro w14 hb;replace HB:=am_ (kA zz0 hb);(try clear hb)))
       (try simp only[Act.put,List.setIfInBounds_toArray,List.set_cons_zero,List.set_cons_succ]);have H:=HC13.out;clear HC13
       by_cases c15:t109.toList=a0.toList
       ·rw[if_pos c15]at H;have c15b0:(t109.toList==a0.toList)=true:=beq_iff_eq.mpr c15;have c15b1:(t109.toList !=a0.toList)=false:=bne_eq_false_iff_eq.mpr c15;clear c15;(first|rw[c15b0]|(simp only[yC,qD];rw[c15b0])|rw[c15b1]|(rw[c15b2];simp only[Bool.not_true,Bool.not_false])|skip);simp only[Option.some.injEq,Prod.mk.injEq]at H;obtain⟨rfl,rfl⟩:=H;go_wp2
        go_ret2
        exact⟨zz1,zz0⟩
       ·rw[if_neg c15]at H;have c15b0:(t109.toList==a0.toList)=false:=beq_eq_false_iff_ne.mpr c15;have c15b1:(t109.toList !=a0.toList)=true:=bne_iff_ne.mpr c15;(first|rw[c15b0]|(simp only[yC,qD];rw[c15b0])|rw[c15b1]|(rw[c15b2];simp only[Bool.not_true,Bool.not_false])|skip);simp only[Option.some.injEq,Prod.mk.injEq]at H;obtain⟨rfl,rfl⟩:=H;go_wp2
        go_ret2
        exact⟨zz1,zz0⟩
def qI.l0:Nat→ByteArray→Int→Int→Option (ByteArray)
 |0,_,_,_=>none
 |k+1,x0,x1,x5=>if x5<(x0.size:Int)then(if 0≤x5 then(if(bt x0 x5)=x1 then(if x5≤(x0.size:Int)then(some (x0.extract 0 (x5:Int).toNat))else(none))else(qI.l0 k x0 x1 (wrap64 (x5+1))))else(none))else(some x0)
def qI.f (k:Nat) (a0:ByteArray) (a1:Int):Option (ByteArray):=qI.l0 k a0 a1 0
theorem qI.calls (k:Nat) (a0:ByteArray) (a1:Int) (r:ByteArray) (w:World) (h:qI.f k a0 a1=some r):
  Calls Tryz.prog 55 #[.string a0,.int .u8 a1] w fun e w'=>e= .returned (.string r)∧wI w w':=by
 have H:(qI.l0 k a0 a1 0)=some r:=h;clear h;have H':=am_ H;clear H;go_enter Tryz.func55,Tryz.ntmps55
 go_wp2
 go_loopg [5] k (fun kq v5 w'=> ∃(x5_1:Int),v5= .int .i64 x5_1∧wA (qI.l0 kq a0 a1 x5_1=some r)∧wA (kq≤k)∧wI w w')
 case atStart=>exact⟨(0),vB,H',⟨Nat.le_refl _⟩,zz4⟩
 case round=>
  clear H';(try clear p2);obtain⟨x5_1,rfl,HA,HK1,⟨m1,rfl⟩⟩:=hrel
  cases gk with
  |zero=>exact absurd HA.out (by simp[qI.l0])
  |succ k1=>
   have H:=HA.out;clear HA;simp only[qI.l0]at H
   by_cases c3:x5_1<(a0.size:Int)
   ·rw[if_pos c3]at H;have c3b0:=dt_ c3;clear c3
    by_cases c4:0≤x5_1
    ·rw[if_pos c4]at H;have c4b0:=dt_ c4;clear c4
     by_cases c6:(bt a0 x5_1)=a1
     ·rw[if_pos c6]at H;have c6b0:((bt a0 x5_1)==a1)=true:=beq_iff_eq.mpr c6;have c6b1:((bt a0 x5_1)!=a1)=false:=bne_eq_false_iff_eq.mpr c6;clear c6;have c7b0:=eq_true (od_ zz5:0≤x5_1)
      by_cases c8:x5_1≤(a0.size:Int)
      ·rw[if_pos c8]at H;have c8b0:=eq_true c8;have c8b1:=dt_ c8;clear c8;obtain rfl:=si_ H;have p5:0≤(x5_1:Int):=od_ zz5;have q5:x5_1<(a0.size:Int):=od_ zz5;have hx5:=wP a0 x5_1;replace p5:=eq_true p5;replace q5:=eq_true q5;go_wp2
       go_ret;exact⟨vB,zz4⟩
      ·rw[if_neg c8]at H;exact absurd H (by simp)
     ·rw[if_neg c6]at H;have c6b0:((bt a0 x5_1)==a1)=false:=beq_eq_false_iff_ne.mpr c6;have c6b1:((bt a0 x5_1)!=a1)=true:=bne_iff_ne.mpr c6;have H':=am_ H;clear H;have p5:0≤(x5_1:Int):=od_ zz5;have q5:x5_1<(a0.size:Int):=od_ zz5;have hx5:=wP a0 x5_1;replace p5:=eq_true p5;replace q5:=eq_true q5;go_wp2
      go_roundg k1
      (case measure=>have:=HK1.out;omega);case rel=>exact⟨(wrap64 (x5_1+1)),vB,H',⟨aJ5⟩,zz4⟩
    ·rw[if_neg c4]at H;exact absurd H (by simp)
   ·rw[if_neg c3]at H;have c3b0:=df_ c3;clear c3;obtain rfl:=si_ H;go_wp2
    go_ret;exact⟨vB,zz4⟩
end Go.Proofs.YteojcbbifacpnaaGreatDoor.GFnExactReadLine
