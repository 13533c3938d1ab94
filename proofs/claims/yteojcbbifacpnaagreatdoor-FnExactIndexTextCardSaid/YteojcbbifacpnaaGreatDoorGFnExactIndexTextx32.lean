-- Printed by gen.py and its programs for this claim.
import Derived.Test.YteojcbbifacpnaaGreatDoorGFnExactIndexTextx0
import Derived.Test.YteojcbbifacpnaaGreatDoorGFnExactIndexTextx19
import Derived.Test.YteojcbbifacpnaaGreatDoorGFnExactIndexTextx29
import Derived.Test.YteojcbbifacpnaaGreatDoorGFnExactIndexTextx31
import Derived.Test.YteojcbbifacpnaaGreatDoorZFnExactIndexText
namespace Go.Proofs.YteojcbbifacpnaaGreatDoor.GFnExactIndexText
open Go.RowKit Go.Proofs.YteojcbbifacpnaaGreatDoorW.PrintWords Go.Proofs.YteojcbbifacpnaaGreatDoorW.PrintLast Go.Proofs.YteojcbbifacpnaaGreatDoorW.PrintMore Go.Proofs.YteojcbbifacpnaaGreatDoorW.Zs
set_option maxHeartbeats 40000000
set_option maxRecDepth 100000
attribute [local go_sem] max2_int min2_int max_two min_two max_three min_three max_four min_four
set_option linter.unusedVariables false
set_option linter.unusedSimpArgs false
mutual
def impl_lineText.j0:Nat→ByteArray→ByteArray→ByteArray→Int→Int→ByteArray→Int→ByteArray→Bool→Int→Int→Int→Option (ByteArray)
 |0,_,_,_,_,_,_,_,_,_,_,_,_=>none
 |k+1,x3,x4,x528000,x528001,x528002,x528003,x528004,x528005,x528006,x528007,x528008,x528009=>if x528006=true then(impl_lineText.j1 k x3 (⟨#[114]⟩:ByteArray) x528000 x528001 x528002 x528003 x528004 x528005 x528006 x528007 x528008 x528009)else(impl_lineText.j1 k x3 x4 x528000 x528001 x528002 x528003 x528004 x528005 x528006 x528007 x528008 x528009)
def impl_lineText.j1:Nat→ByteArray→ByteArray→ByteArray→Int→Int→ByteArray→Int→ByteArray→Bool→Int→Int→Int→Option (ByteArray)
 |0,_,_,_,_,_,_,_,_,_,_,_,_=>none
 |k+1,x3,x4,x528000,x528001,x528002,x528003,x528004,x528005,x528006,x528007,x528008,x528009=>(impl_Stamp.f k x528001).bind fun t528=>((strconv_Itoa.f x528004).bind fun t529=>((strconv_Itoa.f x528007).bind fun t530=>((strconv_Itoa.f x528008).bind fun t531=>((strconv_Itoa.f x528009).bind fun t532=>((strings_Join.f (([x528000,t528,x3,x528003,t529,x528005,x4,t530,t531,t532]:List ByteArray)) (⟨#[32]⟩:ByteArray)).bind fun t536=>(some t536))))))
end
def impl_lineText.f (k:Nat) (a0_0:ByteArray) (a0_1 a0_2:Int) (a0_3:ByteArray) (a0_4:Int) (a0_5:ByteArray) (a0_6:Bool) (a0_7 a0_8 a0_9:Int):Option (ByteArray):=if a0_2=1 then(impl_lineText.j0 k (⟨#[111]⟩:ByteArray) (⟨#[45]⟩:ByteArray) a0_0 a0_1 a0_2 a0_3 a0_4 a0_5 a0_6 a0_7 a0_8 a0_9)else(impl_lineText.j0 k (⟨#[99]⟩:ByteArray) (⟨#[45]⟩:ByteArray) a0_0 a0_1 a0_2 a0_3 a0_4 a0_5 a0_6 a0_7 a0_8 a0_9)
def impl_lineText.T6:Bool×List (List Nat×List Nat):=(true,[([],[]),([0],[0]),([],[]),([2],[2]),([3],[3]),([],[]),([],[]),([6],[6]),([],[]),([8],[8]),([9,4],[9]),([],[]),([11],[11]),([],[]),([],[]),([14],[14]),([15,10],[15]),([],[]),([17],[17]),([18,16],[18]),([],[]),([20],[20]),([21,19],[21]),([1,4,5,7,10,12,13,16,19,22],[1,4,5,7,10,12,13,16,19,22]),([23,22],[23]),([24,24,0,1,2,3,4,5,6,7,8,9,10,11,12,13,14,15,16,17,18,19,20,21,22,23,24],[24])])
def impl_lineText.B6:List Nat:= [0,1,0,4,12,0,0,64,0,256,796,0,2048,0,0,16384,50972,0,131072,509724,0,1048576,4179740,8388607,16777215,33554431]
theorem impl_lineText.tab6:rtab .any (opsOf Tryz.f42 6)=impl_lineText.T6:=by kernel_rfl
theorem impl_lineText.bits6:waitsOk impl_lineText.T6.2 impl_lineText.B6=true:=by kernel_rfl
theorem impl_lineText.calls (k:Nat) (a0_0:ByteArray) (a0_1 a0_2:Int) (a0_3:ByteArray) (a0_4:Int) (a0_5:ByteArray) (a0_6:Bool) (a0_7 a0_8 a0_9:Int) (r:ByteArray) (w:World) (hG:Gl w) (h:impl_lineText.f k a0_0 a0_1 a0_2 a0_3 a0_4 a0_5 a0_6 a0_7 a0_8 a0_9=some r):
  Calls Tryz.prog 42 #[.agg #[.string a0_0,.int .i64 a0_1,.int .i64 a0_2,.string a0_3,.int .i64 a0_4,.string a0_5,.bool a0_6,.int .i64 a0_7,.int .i64 a0_8,.int .i64 a0_9]] w fun e w'=>e= .returned (.string r)∧Below w.heap.size w w':=by
 have hu26:=Tryz.underlying26;have HG:=Aside0.mk hG;clear hG;have HB:=Aside0.mk (Below.refl w.heap.size w);have H:(if a0_2=1 then(impl_lineText.j0 k (⟨#[111]⟩:ByteArray) (⟨#[45]⟩:ByteArray) a0_0 a0_1 a0_2 a0_3 a0_4 a0_5 a0_6 a0_7 a0_8 a0_9)else(impl_lineText.j0 k (⟨#[99]⟩:ByteArray) (⟨#[45]⟩:ByteArray) a0_0 a0_1 a0_2 a0_3 a0_4 a0_5 a0_6 a0_7 a0_8 a0_9))=some r:=h;clear h;have HC2:=Aside0.mk H;clear H;go_enter Tryz.func42,Tryz.ntmps42
 go_upto_if 7 with(first|((with_reducible refine gate_dst (N:=1) rfl ?_);refine boxP_ (N:=1) (cs:= #[.string a0_0,.int .i64 a0_1,.int .i64 a0_2,.string a0_3,.int .i64 a0_4,.string a0_5,.bool a0_6,.int .i64 a0_7,.int .i64 a0_8,.int .i64 a0_9]) (t:=26) ?_;intro gb527 hg w3 hbox hb;have BK527:=Aside0.mk (hbox);have GE527:=geb_ (w:=w) hg zz0;replace HB:=Aside0.mk (below_step zz0 hb);clear hb hbox hg;obtain⟨_,_,_,_,_,_,_,_,_,_,_,_,_,_,_,_,_,_,_,_⟩:=cells10_ BK527.out))
 (try simp only[Act.put,List.setIfInBounds_toArray,List.set_cons_zero,List.set_cons_succ]);go_cut [3] (fun v3 wc=> ∃(kq:Nat) (x3_1:ByteArray),v3= .string x3_1∧Aside0 (impl_lineText.j0 kq x3_1 (⟨#[45]⟩:ByteArray) a0_0 a0_1 a0_2 a0_3 a0_4 a0_5 a0_6 a0_7 a0_8 a0_9=some r)∧Aside0 (kq≤k)∧Aside0 (wc.heap[gb527]?=some (.cells #[.string a0_0,.int .i64 a0_1,.int .i64 a0_2,.string a0_3,.int .i64 a0_4,.string a0_5,.bool a0_6,.int .i64 a0_7,.int .i64 a0_8,.int .i64 a0_9] 26 (0,0)))∧Aside0 (Below w.heap.size w wc))
 case first=>
  have H:=HC2.out;clear HC2
  by_cases c5:a0_2=1
  ·rw[if_pos c5]at H;have c5b0:(a0_2==1)=true:=beq_iff_eq.mpr c5;have c5b1:(a0_2 !=1)=false:=bne_eq_false_iff_eq.mpr c5;clear c5;(first|rw[c5b0]|(simp only[i64_w,i32_w];rw[c5b0])|rw[c5b1]|(rw[c5b2];simp only[Bool.not_true,Bool.not_false])|skip);have H':=Aside0.mk H;clear H;go_wp2
   go_meet
   case rel=>exact⟨_,((⟨#[111]⟩:ByteArray)),zz2,H',⟨zz22⟩,⟨zz31⟩,⟨zz14⟩⟩
  ·rw[if_neg c5]at H;have c5b0:(a0_2==1)=false:=beq_eq_false_iff_ne.mpr c5;have c5b1:(a0_2 !=1)=true:=bne_iff_ne.mpr c5;(first|rw[c5b0]|(simp only[i64_w,i32_w];rw[c5b0])|rw[c5b1]|(rw[c5b2];simp only[Bool.not_true,Bool.not_false])|skip);have H':=Aside0.mk H;clear H;go_wp2
   go_meet
   case rel=>exact⟨_,((⟨#[99]⟩:ByteArray)),zz2,H',⟨zz22⟩,⟨zz31⟩,⟨zz14⟩⟩
 case rest=>
  clear HC2;(try clear p2);(try clear c4);(try clear c5);(try clear c5b0);(try clear c5b1);(try clear hcz4_0);(try clear hcz4_1);(try clear hcz4_2);(try clear hcz4_3);(try clear hcz4_4);(try clear hcz4_5);(try clear hcz4_6);(try clear hcz4_7);(try clear hcz4_8);(try clear hcz4_9);(try clear hfz4_0);(try clear hfz4_1);(try clear hfz4_2);(try clear hfz4_3);(try clear hfz4_4);(try clear hfz4_5);(try clear hfz4_6);(try clear hfz4_7);(try clear hfz4_8);(try clear hfz4_9);obtain⟨kq,x3_1,rfl,HA,HJ1,BK527,HB⟩:=hcut
  cases kq with
  |zero=>exact absurd HA.out (by simp[impl_lineText.j0])
  |succ kj1=>
   have H:=HA.out;clear HA;simp only[impl_lineText.j0]at H;have HC6:=Aside0.mk H;clear H;obtain⟨_,_,_,_,_,_,_,_,_,_,_,_,_,_,_,_,_,_,_,_⟩:=cells10_ BK527.out;go_upto_if 9 with(fail)
   go_cut [4] (fun v4 wc=> ∃(kq:Nat) (x4_5:ByteArray),v4= .string x4_5∧Aside0 (impl_lineText.j1 kq x3_1 x4_5 a0_0 a0_1 a0_2 a0_3 a0_4 a0_5 a0_6 a0_7 a0_8 a0_9=some r)∧Aside0 (kq≤kj1)∧Aside0 (wc.heap[gb527]?=some (.cells #[.string a0_0,.int .i64 a0_1,.int .i64 a0_2,.string a0_3,.int .i64 a0_4,.string a0_5,.bool a0_6,.int .i64 a0_7,.int .i64 a0_8,.int .i64 a0_9] 26 (0,0)))∧Aside0 (Below w.heap.size w wc))
   case first=>
    have H:=HC6.out;clear HC6
    by_cases c8:a0_6=true
    ·subst c8;rw[if_pos rfl]at H;have H':=Aside0.mk H;clear H;go_wp2
     go_meet
     case rel=>exact⟨_,((⟨#[114]⟩:ByteArray)),zz2,H',⟨zz110⟩,⟨zz31⟩,⟨zz14⟩⟩
    ·replace c8:=Bool.eq_false_iff.mpr c8;subst c8;rw[if_neg Bool.false_ne_true]at H;have H':=Aside0.mk H;clear H;go_wp2
     go_meet
     case rel=>exact⟨_,((⟨#[45]⟩:ByteArray)),zz2,H',⟨zz110⟩,⟨zz31⟩,⟨zz14⟩⟩
   case rest=>
    clear HC6;(try clear p2);(try clear c4);(try clear c5);(try clear c5b0);(try clear c5b1);(try clear c8);(try clear hcz4_0);(try clear hcz4_1);(try clear hcz4_2);(try clear hcz4_3);(try clear hcz4_4);(try clear hcz4_5);(try clear hcz4_6);(try clear hcz4_7);(try clear hcz4_8);(try clear hcz4_9);(try clear hcz7_0);(try clear hcz7_1);(try clear hcz7_2);(try clear hcz7_3);(try clear hcz7_4);(try clear hcz7_5);(try clear hcz7_6);(try clear hcz7_7);(try clear hcz7_8);(try clear hcz7_9);(try clear hfz4_0);(try clear hfz4_1);(try clear hfz4_2);(try clear hfz4_3);(try clear hfz4_4);(try clear hfz4_5);(try clear hfz4_6);(try clear hfz4_7);(try clear hfz4_8);(try clear hfz4_9);(try clear hfz7_0);(try clear hfz7_1);(try clear hfz7_2);(try clear hfz7_3);(try clear hfz7_4);(try clear hfz7_5);(try clear hfz7_6);(try clear hfz7_7);(try clear hfz7_8);(try clear hfz7_9);(try clear p2);obtain⟨kq,x4_5,rfl,HA,HJ5,BK527,HB⟩:=hcut
    cases kq with
    |zero=>exact absurd HA.out (by simp[impl_lineText.j1])
    |succ kj5=>
     have H:=HA.out;clear HA;simp only[impl_lineText.j1]at H;replace H:=Option.bind_eq_some_iff.mp H;obtain⟨t528,A90,H⟩:=H;(try dsimp only at H);have A9:=Aside0.mk A90;clear A90;replace H:=Option.bind_eq_some_iff.mp H;obtain⟨t529,A100,H⟩:=H;(try dsimp only at H);have A10:=Aside0.mk A100;clear A100;replace H:=Option.bind_eq_some_iff.mp H;obtain⟨t530,A110,H⟩:=H;(try dsimp only at H);have A11:=Aside0.mk A110;clear A110;replace H:=Option.bind_eq_some_iff.mp H;obtain⟨t531,A120,H⟩:=H;(try dsimp only at H);have A12:=Aside0.mk A120;clear A120;replace H:=Option.bind_eq_some_iff.mp H;obtain⟨t532,A130,H⟩:=H;(try dsimp only at H);have A13:=Aside0.mk A130;clear A130;obtain⟨y533,hy533⟩: ∃y_:List ByteArray,y_=(([a0_0,t528,x3_1,a0_3,t529,a0_5,x4_5,t530,t531,t532]:List ByteArray)):=⟨_,rfl⟩;replace H:((strings_Join.f y533 (⟨#[32]⟩:ByteArray)).bind fun t536=>(some t536))=some r:=by first|(rw[hy533];with_reducible exact H)|(have H2_:=(Option.bind_some _ _).symm.trans H;rw[hy533];with_reducible exact H2_)|(have H2_:=(Option.bind_some _ _).symm.trans H;with_reducible exact H2_)|with_reducible exact H|(rw[hy533];exact H)|exact H
     have Ny533:=Aside0.mk hy533;clear hy533;replace H:=Option.bind_eq_some_iff.mp H;obtain⟨t536,A140,H⟩:=H;(try dsimp only at H);have A14:=Aside0.mk A140;clear A140;obtain rfl:=Option.some.inj H;(try go_wp2);replace BK527:=Aside0.mk (blk_drew BK527.out);replace HB:=Aside0.mk (below_drew1 HB.out);refine st_ (n:=26) (S:=fun w'=>w'.cell? ⟨gb527,0,none⟩=some (.string a0_0)∧w'.cell? ⟨gb527,1,none⟩=some (.int .i64 a0_1)∧w'.cell? ⟨gb527,2,none⟩=some (.int .i64 a0_2)∧w'.cell? ⟨gb527,3,none⟩=some (.string a0_3)∧w'.cell? ⟨gb527,4,none⟩=some (.int .i64 a0_4)∧w'.cell? ⟨gb527,5,none⟩=some (.string a0_5)∧w'.cell? ⟨gb527,6,none⟩=some (.bool a0_6)∧w'.cell? ⟨gb527,7,none⟩=some (.int .i64 a0_7)∧w'.cell? ⟨gb527,8,none⟩=some (.int .i64 a0_8)∧w'.cell? ⟨gb527,9,none⟩=some (.int .i64 a0_9)) (ds:= []) (hold10_ BK527.out) (fun hHeld=>?_);refine with_tabW impl_lineText.tab6 impl_lineText.bits6 (fun HT_ HW_=>?_);generalize wc.drew=w15 at BK527 HB hHeld ⊢;refine pz 0 10 ?_;refine pz 2 12 ?_;refine pz 5 15 ?_;refine pz 6 16 ?_;refine pz 8 18 ?_;refine pz 11 21 ?_;refine pz 13 23 ?_;refine pz 14 24 ?_;refine pz 17 27 ?_;refine pz 20 30 ?_;refine tk3_ 1 11 hHeld ?_;refine tk3_ 3 13 hHeld ?_;refine tk3_ 7 17 hHeld ?_;refine tk3_ 9 19 hHeld ?_;refine tk3_ 12 22 hHeld ?_;refine tk3_ 15 25 hHeld ?_;refine tk3_ 18 28 hHeld ?_;refine tk3_ 21 31 hHeld ?_;refine ozG 4 14 Tryz.func71 #[.int .i64 a0_1] (fun K hK=>?_);(with_reducible refine(impl_Stamp.calls kj5 a0_1 t528 _ ?side1 A9.out).mono ?_);(case side1=>exact Gl.below HG.out zz14);rintro e w16 ⟨rfl,hb⟩;refine⟨_,rfl,?_⟩;replace BK527:=Aside0.mk (blk_below zz31 hb);replace HB:=Aside0.mk (below_step zz14 hb);(try clear hb);(try clear hb2);(try clear hk);(try clear hi);refine hK.out _ _ (hold10_ BK527.out) (fun hHeld=>?_);clear hK K;refine nz ?_;refine ozG 10 20 Tryz.func72 #[.int .i64 a0_4] (fun K hK=>?_);(with_reducible refine(strconv_Itoa.calls a0_4 t529 _ ?side1 A10.out).mono ?_);(case side1=>exact Gl.below HG.out zz14);rintro e w17 ⟨rfl,hb⟩;refine⟨_,rfl,?_⟩;replace BK527:=Aside0.mk (blk_below zz31 hb);replace HB:=Aside0.mk (below_step zz14 hb);(try clear hb);(try clear hb2);(try clear hk);(try clear hi);refine hK.out _ _ (hold10_ BK527.out) (fun hHeld=>?_);clear hK K;refine nz ?_;refine ozG 16 26 Tryz.func72 #[.int .i64 a0_7] (fun K hK=>?_);(with_reducible refine(strconv_Itoa.calls a0_7 t530 _ ?side1 A11.out).mono ?_);(case side1=>exact Gl.below HG.out zz14);rintro e w18 ⟨rfl,hb⟩;refine⟨_,rfl,?_⟩;replace BK527:=Aside0.mk (blk_below zz31 hb);replace HB:=Aside0.mk (below_step zz14 hb);(try clear hb);(try clear hb2);(try clear hk);(try clear hi);refine hK.out _ _ (hold10_ BK527.out) (fun hHeld=>?_);clear hK K;refine nz ?_;refine ozG 19 29 Tryz.func72 #[.int .i64 a0_8] (fun K hK=>?_);(with_reducible refine(strconv_Itoa.calls a0_8 t531 _ ?side1 A12.out).mono ?_);(case side1=>exact Gl.below HG.out zz14);rintro e w19 ⟨rfl,hb⟩;refine⟨_,rfl,?_⟩;replace BK527:=Aside0.mk (blk_below zz31 hb);replace HB:=Aside0.mk (below_step zz14 hb);(try clear hb);(try clear hb2);(try clear hk);(try clear hi);refine hK.out _ _ (hold10_ BK527.out) (fun hHeld=>?_);clear hK K;refine nz ?_;refine ozG 22 32 Tryz.func72 #[.int .i64 a0_9] (fun K hK=>?_);(with_reducible refine(strconv_Itoa.calls a0_9 t532 _ ?side1 A13.out).mono ?_);(case side1=>exact Gl.below HG.out zz14);rintro e w20 ⟨rfl,hb⟩;refine⟨_,rfl,?_⟩;replace BK527:=Aside0.mk (blk_below zz31 hb);replace HB:=Aside0.mk (below_step zz14 hb);(try clear hb);(try clear hb2);(try clear hk);(try clear hi);refine hK.out _ _ (hold10_ BK527.out) (fun hHeld=>?_);clear hK K;refine nz ?_;refine oz 23 33 (fun K hK=>?_);refine Kd.R_lit_step Kd.string _ 9 ?hg (N:=33) ?hd (xs:=([a0_0,t528,x3_1,a0_3,t529,a0_5,x4_5,t530,t531,t532]:List ByteArray)) (inner:= [.string a0_0,.string t528,.string x3_1,.string a0_3,.string t529,.string a0_5,.string x4_5,.string t530,.string t531,.string t532]) (ok:=fun _=>True) (okp:=fun _=>True) ?hr ?hp (fun _ hk=>hk) trivial (Below.refl _ _) (Nat.le_refl _) (by simp) ?_;(case hd=>rfl);(case hg=>rfl);(case hr=>first|(go_simp;done)|(go_simp;rfl));(case hp=>exact(Reps.one (show Kd.M Kd.string _ _ _ a0_0 [.string a0_0]from rfl) (Reps.one (show Kd.M Kd.string _ _ _ t528 [.string t528]from rfl) (Reps.one (show Kd.M Kd.string _ _ _ x3_1 [.string x3_1]from rfl) (Reps.one (show Kd.M Kd.string _ _ _ a0_3 [.string a0_3]from rfl) (Reps.one (show Kd.M Kd.string _ _ _ t529 [.string t529]from rfl) (Reps.one (show Kd.M Kd.string _ _ _ a0_5 [.string a0_5]from rfl) (Reps.one (show Kd.M Kd.string _ _ _ x4_5 [.string x4_5]from rfl) (Reps.one (show Kd.M Kd.string _ _ _ t530 [.string t530]from rfl) (Reps.one (show Kd.M Kd.string _ _ _ t531 [.string t531]from rfl) (Reps.one (show Kd.M Kd.string _ _ _ t532 [.string t532]from rfl) (Reps.none _ _))))))))))));intro v534 w21 ho22 hb hg_ hnew_;clear hg_ hnew_;(first|rw[←Ny533.out]at ho22|(simp only[Int.reduceToNat]at ho22;rw[←Ny533.out]at ho22));have HO535:=Aside0.mk (Kd.R_lower ho22 (below_size zz14));replace BK527:=Aside0.mk (blk_below zz31 hb);replace HB:=Aside0.mk (below_step zz14 hb);clear hb ho22;obtain⟨Ao23,co23,eo23⟩:=Kd.R_slice HO535.out;(first|subst eo23|(injection eo23 with f1_ f2_ f3_;have f4_:=f1_.symm;have f5_:=f3_.symm;clear f1_ f2_ f3_;subst f4_;subst f5_));refine hK.out _ _ (hold10_ BK527.out) (fun hHeld=>?_);clear hK K;refine nz ?_;refine ozG 24 34 Tryz.func62 #[.slice Ao23 y533.length co23,.string (⟨#[32]⟩:ByteArray)] (fun K hK=>?_);(with_reducible refine(strings_Join.calls _ _ y533 (⟨#[32]⟩:ByteArray) t536 _ ?side1 ?side2 A14.out).mono ?_);(case side1=>repeat(first|exact(Kd.R_reads' HO535.out).2.2|(with_reducible refine Kd.C_alloc ?_ _)|(with_reducible refine Kd.C_drewN ?_ _)|(with_reducible refine Kd.C_drew ?_)));(case side2=>exact(Kd.R_reads' HO535.out).2.1);rintro e w24 ⟨rfl,hb⟩;refine⟨_,rfl,?_⟩;replace HO535:=Aside0.mk (Kd.R_below (by(with_reducible repeat(first|apply Kd.R_alloc|apply Kd.R_drewN|apply Kd.R_drew));exact HO535.out) hb);replace BK527:=Aside0.mk (blk_below zz31 hb);replace HB:=Aside0.mk (below_step zz14 hb);(try clear hb);(try clear hb2);(try clear hk);(try clear hi);refine hK.out _ _ (hold10_ BK527.out) (fun hHeld=>?_);clear hK K;refine nz ?_;refine pz 25 2 ?_;refine done_ (done_of HT_.out (by kernel_rfl)) ?_;(try go_wp2);go_ret;exact⟨zz1,zz14⟩
def impl_IndexText_lines (k:Nat):List S26→Option (List UInt8)
 | []=>some []
 |x::r=>(impl_lineText.f k x.f0 x.f1 x.f2 x.f3 x.f4 x.f5 x.f6 x.f7 x.f8 x.f9).bind fun t=>(impl_IndexText_lines k r).bind fun u=>some ((t++(⟨#[10]⟩:ByteArray)).data.toList++u)
def impl_IndexText.f (k:Nat) (l0:List (S26)):Option (ByteArray):=(impl_IndexOk.f k l0).bind fun ok=>(if ok=true then((impl_IndexText_lines k l0).bind fun t=>(if l0.length≤1099511627776∧t.length≤1099511627776 then(some (⟨t.toArray⟩:ByteArray))else(none)))else(some (⟨#[]⟩:ByteArray)))
theorem impl_IndexText_at (k:Nat): ∀(l:List S26) (T:List UInt8),impl_IndexText_lines k l=some T→ ∀j,j<l.length→
  ∃t a,impl_lineText.f k (rd_T26 l (j:Int)).f0 (rd_T26 l (j:Int)).f1 (rd_T26 l (j:Int)).f2 (rd_T26 l (j:Int)).f3 (rd_T26 l (j:Int)).f4 (rd_T26 l (j:Int)).f5 (rd_T26 l (j:Int)).f6 (rd_T26 l (j:Int)).f7 (rd_T26 l (j:Int)).f8 (rd_T26 l (j:Int)).f9=some t∧
   impl_IndexText_lines k (l.take j)=some a∧impl_IndexText_lines k (l.take (j+1))=some (a++(t++(⟨#[10]⟩:ByteArray)).data.toList)∧a.length+(t++(⟨#[10]⟩:ByteArray)).size≤T.length
 | [],T,_,j,hj=>by simp at hj
 |x::r,T,h,0,hj=>by
  rw[impl_IndexText_lines]at h;obtain⟨t,ht,h⟩:=Option.bind_eq_some_iff.mp h;obtain⟨u,hu,h⟩:=Option.bind_eq_some_iff.mp h;obtain rfl:=Option.some.inj h;refine⟨t,[],by simpa [rd_T26]using ht,rfl,?_,?_⟩
  ·rw[List.take_succ_cons,List.take_zero,impl_IndexText_lines,ht,Option.bind_some,impl_IndexText_lines,Option.bind_some];simp
  ·rw[List.length_append,data_length];simp
 |x::r,T,h,j+1,hj=>by
  rw[impl_IndexText_lines]at h;obtain⟨t,ht,h⟩:=Option.bind_eq_some_iff.mp h;obtain⟨u,hu,h⟩:=Option.bind_eq_some_iff.mp h;obtain rfl:=Option.some.inj h;obtain⟨t',a',h1,h2,h3,h4⟩:=impl_IndexText_at k r u hu j (by simpa using hj)
  have hrd:rd_T26 (x::r) (((j+1:Nat)):Int)=rd_T26 r (j:Int):=by
   unfold rd_T26;rw[Int.toNat_natCast,Int.toNat_natCast];rfl
  rw[hrd];refine⟨t',(t++(⟨#[10]⟩:ByteArray)).data.toList++a',h1,?_,?_,?_⟩
  ·rw[List.take_succ_cons,impl_IndexText_lines,ht,Option.bind_some,h2,Option.bind_some]
  ·rw[List.take_succ_cons,impl_IndexText_lines,ht,Option.bind_some,h3,Option.bind_some,List.append_assoc]
  ·rw[List.length_append,List.length_append];omega
theorem impl_IndexText_bytes (s:ByteArray):Lib.strCells s=Lib.byteCells s.data.toList:=by simp[Lib.strCells,Lib.byteCells]
theorem impl_IndexText_app (a b:List UInt8):Lib.byteCells (a++b)=Lib.byteCells a++Lib.byteCells b:=by simp[Lib.byteCells]
theorem impl_IndexText.calls (k:Nat) (A0:Option Addr) (c0:Nat) (l0:List (S26)) (r:ByteArray) (w:World) (hG:Gl w) (hr0:Kd.C k26 w A0 l0.length l0) (hc0:l0.length≤c0) (h:impl_IndexText.f k l0=some r):
  Calls Tryz.prog 29 #[.slice A0 l0.length c0] w fun e w'=>e= .returned (.string r)∧Below w.heap.size w w':=by
 have hu26:=Tryz.underlying26;have HG:=Aside0.mk hG;have HR0:=Aside0.mk hr0;have HC0:=Aside0.mk hc0;clear hG hr0 hc0;unfold impl_IndexText.f at h;obtain⟨ok,hok,h⟩:=Option.bind_eq_some_iff.mp h;have HOK:=Aside0.mk hok;clear hok;cases ok
 ·rw[if_neg Bool.false_ne_true]at h;obtain rfl:=Option.some.inj h;clear h;go_enter Tryz.func29,Tryz.ntmps29
  go_wp2_with fail
  refine(impl_IndexOk.calls k A0 c0 l0 false _ HG.out HR0.out HC0.out HOK.out).mono ?_;rintro e w1 ⟨rfl,hb⟩;have HB:=Aside0.mk hb;clear hb;go_wp2
  go_ret;exact⟨rfl,HB.out⟩
 ·rw[if_pos rfl]at h;obtain⟨T,hT,h⟩:=Option.bind_eq_some_iff.mp h
  by_cases hlim:l0.length≤1099511627776∧T.length≤1099511627776
  ·rw[if_pos hlim]at h;obtain rfl:=Option.some.inj h;clear h;have HT:=Aside0.mk hT;have HL:=Aside0.mk hlim;clear hT hlim;go_enter Tryz.func29,Tryz.ntmps29
   go_wp2_with fail
   refine(impl_IndexOk.calls k A0 c0 l0 true _ HG.out HR0.out HC0.out HOK.out).mono ?_;rintro e w1 ⟨rfl,hb⟩;have HB1:=Aside0.mk hb;clear hb;go_wp2
   go_loopg [11] (l0.length+1) (fun kq v11 w'=> ∃(x11:Int),v11= .int .i64 x11∧Aside0 (∃(j:Nat) (a:List UInt8),x11=(j:Int)∧j≤l0.length∧kq+j=l0.length+1∧impl_IndexText_lines k (l0.take j)=some a∧Lib.IsBuilder 66 5 w1.heap.size w1.heap.size (Lib.byteCells a) w')∧Aside0 (Below w1.heap.size w1 w'))
   case atStart=>
    refine⟨0,rfl,⟨0,[],rfl,by omega,by omega,rfl,?_⟩,⟨below_alloc (Below.refl w1.heap.size w1) _⟩⟩;exact .inl ⟨Nat.le_refl _,.slice none 0 0,by simpa using heap_alloc_new w1 (.cells #[.pointer none,.slice none 0 0] 66),own_nil _ _ _ _,by simp[Value.ownBlock]⟩
   case round=>
    obtain⟨x11,rfl,HJ,HB⟩:=hrel;obtain⟨j,a,hxj,hjl,hkj,hla,hbld⟩:=HJ.out;clear HJ;have HX:=Aside0.mk hxj;have HJL:=Aside0.mk hjl;have HK:=Aside0.mk hkj;have HA:=Aside0.mk hla;have HBL:=Aside0.mk hbld;clear hxj hjl hkj hbld hla
    cases gk with
    |zero=>have:=HK.out;have:=HJL.out;omega
    |succ k1=>
    by_cases hlt:j<l0.length
    ·have c1:decide (x11<(l0.length:Int))=true:=decide_eq_true (by have:=HX.out;omega);have p9:0≤(x11:Int):=by have:=HX.out;omega
     have q9:x11<(l0.length:Int):=of_decide_eq_true c1;obtain⟨t,a',ht,ha1,ha2,hz⟩:=impl_IndexText_at k l0 T HT.out j hlt;obtain rfl:=Option.some.inj (ha1.symm.trans HA.out);rw[←HX.out]at ht;have HLT:=Aside0.mk hlt;have HFT:=Aside0.mk ht;have HA2:=Aside0.mk ha2;have HZ:=Aside0.mk hz;have htz:(t++(⟨#[10]⟩:ByteArray)).size=t.size+1:=by rw[ByteArray.size_append];rfl
     have z5:(9223372036854775807<t.size+1)=False:=eq_false (by have:=HL.out.2;omega);clear hlt ht ha1 ha2 hz htz;have HBW:=Aside0.mk (HB1.out.trans (HB.out.mono HB1.out.size));obtain⟨ad,e,hx0,hx1,hx2,hx3,hx4,hx5,hx6,hx7,hx8,hx9⟩:=at_T26 HR0.out x11 p9 q9;cases e;replace hx0:=(HBW.out.cell (World.block_lt_of_cell? w _ hx0)).trans hx0;replace hx1:=(HBW.out.cell (World.block_lt_of_cell? w _ hx1)).trans hx1;replace hx2:=(HBW.out.cell (World.block_lt_of_cell? w _ hx2)).trans hx2;replace hx3:=(HBW.out.cell (World.block_lt_of_cell? w _ hx3)).trans hx3;replace hx4:=(HBW.out.cell (World.block_lt_of_cell? w _ hx4)).trans hx4;replace hx5:=(HBW.out.cell (World.block_lt_of_cell? w _ hx5)).trans hx5;replace hx6:=(HBW.out.cell (World.block_lt_of_cell? w _ hx6)).trans hx6;replace hx7:=(HBW.out.cell (World.block_lt_of_cell? w _ hx7)).trans hx7;replace hx8:=(HBW.out.cell (World.block_lt_of_cell? w _ hx8)).trans hx8;replace hx9:=(HBW.out.cell (World.block_lt_of_cell? w _ hx9)).trans hx9;replace p9:=eq_true p9;replace q9:=eq_true q9;go_wp2_with fail
     refine(impl_lineText.calls k _ _ _ _ _ _ _ _ _ _ t _ (HG.out.below (HBW.out.trans ((below_alloc (Below.refl wr.heap.size wr) _).mono HBW.out.size))) HFT.out).mono ?_;rintro e w3 ⟨rfl,hb3⟩;have HB3:=Aside0.mk hb3;clear hb3;go_wp2_with fail
     have hti:a'.length+(t++(⟨#[10]⟩:ByteArray)).size≤140737488355328:=by have:=HZ.out;have:=HL.out.2;omega
     have HBX:=Aside0.mk ((below_alloc (Below.refl wr.heap.size wr) _).trans (HB3.out.mono (by simp)));refine(bld_write w1.heap.size w1.heap.size _ _ _ (isBld_below HBL.out HBX.out) (by rw[Lib.byteCells_length];exact hti) (by have:=HBX.out.size;have:=HB.out.size;omega)).mono ?_;rintro e w4 ⟨rfl,hb4,hb5⟩;have HB4:=Aside0.mk hb4;have HB5:=Aside0.mk hb5;clear hb4 hb5 hti;go_wp2
     go_roundg k1
     case measure=>omega
     case rel=>
      have hx:=HX.out;have hk:=HK.out;have hlt:=HLT.out;have hl:=HL.out.1;refine⟨_,rfl,⟨j+1,_,by rw[hx];unfold wrap64;omega,by omega,by omega,HA2.out,?_⟩,⟨?_⟩⟩
      ·have hb:=HB4.out;rw[impl_IndexText_bytes,←impl_IndexText_app]at hb;exact .inr hb
      ·exact HB.out.trans ((HBX.out.mono (by have:=HB.out.size;omega)).trans HB5.out)
    ·have c1:decide (x11<(l0.length:Int))=false:=decide_eq_false (by have:=HX.out;omega);have hj2:j=l0.length:=by have:=HJL.out;omega
     have hla:=HA.out;rw[hj2,List.take_length,HT.out]at hla;obtain rfl:=Option.some.inj hla;have hsz:=HB.out.size;go_wp2_with fail
     refine(Tryz.Builder_String_any w1.heap.size w1.heap.size _ _ HBL.out (by omega)).mono ?_;rintro e w9 ⟨rfl,hb9⟩;have HB9:=Aside0.mk hb9;clear hb9;go_wp2
     go_ret;exact⟨rfl,HB1.out.trans ((HB.out.trans HB9.out).mono HB1.out.size)⟩
  ·rw[if_neg hlim]at h;exact absurd h (by simp)
end Go.Proofs.YteojcbbifacpnaaGreatDoor.GFnExactIndexText
