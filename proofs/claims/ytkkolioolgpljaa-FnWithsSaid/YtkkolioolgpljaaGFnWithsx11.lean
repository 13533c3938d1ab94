-- Laid by gen.py of this session (over the kit's printing program): what the law FnWiths reaches, as Lean functions, and that Go comes to just that.
import Derived.Test.YtkkolioolgpljaaGFnWithsx0
import Derived.Test.YtkkolioolgpljaaGFnWithsx1
import Derived.Test.YtkkolioolgpljaaGFnWithsx10
import Derived.Test.YtkkolioolgpljaaZFnWiths
namespace Go.Proofs.Ytkkolioolgpljaa.GFnWiths
open Go.RowKit Go.Proofs.YtkkolioolgpljaaW.PrintWords Go.Proofs.YtkkolioolgpljaaW.PrintLast Go.Proofs.YtkkolioolgpljaaW.PrintMore Go.Proofs.YtkkolioolgpljaaW.Zs
attribute [local go_sem] max2_int min2_int max_two min_two max_three min_three max_four min_four -- for this text's walks alone
set_option linter.unusedVariables false
set_option linter.unusedSimpArgs false
attribute [local go_sem high] eqA24
/-! ### spec_With: function 12 -/
def spec_With.j0:Nat→List (S24)→Bool→ByteArray→ByteArray→Option ((List (S24)))
 |0,_,_,_,_=>none
 |k+1,x0,x13,x340000,x340001=>if x13=true then(some ([]:List (S24)))else((spec_Without.f k x0 x340000).bind fun t342=>((some (([(⟨x340000,x340001⟩:S24)]:List (S24)):List (S24))).bind fun y345=>(if t342.length+y345.length<4398046511104 then((some (t342++y345:List (S24))).bind fun y348=>(if(y348.length:Int)>20 then(some ([]:List (S24)))else(some y348)))else(none))))
def spec_With.f (k:Nat) (l0:List (S24)) (a1_0:ByteArray) (a1_1:ByteArray):Option ((List (S24))):=(spec_FieldsOk.f k l0).bind fun t340=>(if t340=true then((spec_FieldOk.f k a1_0 a1_1).bind fun t341=>(spec_With.j0 k l0 (!t341) a1_0 a1_1))else(spec_With.j0 k l0 true a1_0 a1_1))
def spec_With.T3:Bool×List (List Nat×List Nat):=(true,[([],[]),([],[]),([1],[1]),([0,2],[0,2]),([],[]),([4],[4]),([3,5,3],[3,5]),([6,6,0,1,2,3,4,5,6],[6])])
def spec_With.B3:List Nat:= [0,0,2,7,0,16,63,127]
theorem spec_With.tab3:rtab .any (opsOf Try.f12 3)=spec_With.T3:=by kernel_rfl
theorem spec_With.bits3:waitsOk spec_With.T3.2 spec_With.B3=true:=by kernel_rfl
set_option maxHeartbeats 40000000 in
set_option maxRecDepth 100000 in
theorem spec_With.calls (k : Nat) (A0 : Option Addr) (c0 : Nat) (l0 : List (S24)) (a1_0 : ByteArray) (a1_1 : ByteArray) (r : List (S24)) (w : World) (hr0 : Kd.C k24 w A0 l0.length l0) (hc0 : l0.length ≤ c0) (h : spec_With.f k l0 a1_0 a1_1 = some r) :
  Calls Try.prog 12 #[.slice A0 l0.length c0,.agg #[.string a1_0,.string a1_1]] w fun e w'=> ∃v0_:Value,e= .returned (v0_)∧Kd.R k24 24 w' w.heap.size (fun _=>True) v0_ r∧Below w.heap.size w w':=by
 have hu24:=Try.underlying24;have HR0:=Aside0.mk hr0;have HC0:=Aside0.mk hc0;clear hr0 hc0;have HB:=Aside0.mk (Below.refl w.heap.size w);have H:((spec_FieldsOk.f k l0).bind fun t340=>(if t340=true then((spec_FieldOk.f k a1_0 a1_1).bind fun t341=>(spec_With.j0 k l0 (!t341) a1_0 a1_1))else(spec_With.j0 k l0 true a1_0 a1_1)))=some r:=h;clear h;have HC3:=Aside0.mk H;clear H;go_enter Try.func12,Try.ntmps12
 go_upto_region 1 with(first|((with_reducible refine gate_dst (N:=3) rfl ?_);refine boxP_ (N:=3) (cs:= #[.string a1_0,.string a1_1]) (t:=24) ?_;intro gb339 hg w4 hbox hb;have BK339:=Aside0.mk (hbox);have GE339:=geb_ (w:=w) hg zz0;replace HB:=Aside0.mk (below_step zz0 hb);clear hb hbox hg))
 (try simp only[Act.put,List.setIfInBounds_toArray,List.set_cons_zero,List.set_cons_succ]);go_cut [13] (fun v13 wc=> ∃(kq:Nat) (x13_2:Bool),v13= .bool x13_2∧Aside0 (spec_With.j0 kq l0 x13_2 a1_0 a1_1=some r)∧Aside0 (kq≤k)∧Aside0 (wc.heap[gb339]?=some (.cells #[.string a1_0,.string a1_1] 24 (0,0)))∧Aside0 (Below w.heap.size w wc))
 case first=>
  have H:=HC3.out;clear HC3;replace H:=Option.bind_eq_some_iff.mp H;obtain⟨t340,A50,H⟩:=H;(try dsimp only at H);have A5:=Aside0.mk A50;clear A50;have HC6:=Aside0.mk H;clear H
  repeat' (first|(go_big_may;(first|((with_reducible refine gate_callee (f:=34) rfl ?_);refine goesQ_ 7 Try.func34 #[.slice A0 l0.length c0] ?_;(with_reducible refine(spec_FieldsOk.calls k _ _ l0 t340 _ ?side1 ?side2 A5.out).mono ?_);(case side1=>repeat(first|exact(Kd.C_below HR0.out HB.out)|(with_reducible refine Kd.C_alloc ?_ _)|(with_reducible refine Kd.C_drewN ?_ _)|(with_reducible refine Kd.C_drew ?_)));(case side2=>exact HC0.out);rintro e w7 ⟨rfl,hb⟩;refine⟨_,rfl,?_⟩;replace BK339:=Aside0.mk (blk_below zz18 hb);replace HB:=Aside0.mk (below_step zz13 hb);(try clear hb))))|go_values|go_skip|go_big_skip|go_big_want|((first|(with_reducible refine gate_nog rfl ?_)|(fail_if_success with_reducible refine gate_any ?_));go_step)|go_upon|simp only[Bool.not_true,Bool.not_false,Bool.true_and,Bool.false_and,Bool.true_or,Bool.false_or]|dsimp only)
  (try simp only[Act.put,List.setIfInBounds_toArray,List.set_cons_zero,List.set_cons_succ]);have H:=HC6.out;clear HC6
  by_cases c8:t340=true
  ·subst c8;rw[if_pos rfl]at H;replace H:=Option.bind_eq_some_iff.mp H;obtain⟨t341,A90,H⟩:=H;(try dsimp only at H);have A9:=Aside0.mk A90;clear A90;have H':=Aside0.mk H;clear H;obtain⟨_,_,_,_⟩:=cells2_ BK339.out;go_wp2_with (first|(go_at_call 7;(with_reducible refine(spec_FieldOk.calls k a1_0 a1_1 t341 _ A9.out).mono ?_);rintro e w11 ⟨rfl,hb⟩;have n0_:=Aside0.mk (blk_below zz18 hb);have n1_:=Aside0.mk (below_step zz13 hb);clear BK339;clear HB;have BK339:=n0_;have HB:=n1_;clear n0_ n1_;(try clear hb);(try clear hb2);(try clear hk);(try clear hi)))
   go_meet
   case rel=>exact⟨_,(!t341),zz6,H',⟨zz50⟩,⟨zz18⟩,⟨zz13⟩⟩
  ·replace c8:=Bool.eq_false_iff.mpr c8;subst c8;rw[if_neg Bool.false_ne_true]at H;have H':=Aside0.mk H;clear H;go_wp2
   go_meet
   case rel=>exact⟨_,(true),zz6,H',⟨zz50⟩,⟨zz18⟩,⟨zz13⟩⟩
 case rest=>
  clear HC3;(try clear c1);(try clear p2);(try clear c3);(try clear c8);(try clear hcz10_0);(try clear hcz10_1);(try clear hfz10_0);(try clear hfz10_1);obtain⟨kq,x13_2,rfl,HA,HJ2,BK339,HB⟩:=hcut
  cases kq with
  |zero=>exact absurd HA.out (by simp[spec_With.j0])
  |succ kj2=>
   have H:=HA.out;clear HA;simp only[spec_With.j0]at H
   by_cases c12:x13_2=true
   ·subst c12;rw[if_pos rfl]at H;obtain rfl:=Option.some.inj H;go_wp2
    go_ret;exact⟨_,zz4,zz20,zz13⟩
   ·replace c12:=Bool.eq_false_iff.mpr c12;subst c12;rw[if_neg Bool.false_ne_true]at H;replace H:=Option.bind_eq_some_iff.mp H;obtain⟨t342,A130,H⟩:=H;(try dsimp only at H);have A13:=Aside0.mk A130;clear A130;obtain⟨y345,hy345⟩: ∃y_:List (S24),y_=(([(⟨a1_0,a1_1⟩:S24)]:List (S24))):=⟨_,rfl⟩;replace H:(if t342.length+y345.length<4398046511104 then((some (t342++y345:List (S24))).bind fun y348=>(if(y348.length:Int)>20 then(some ([]:List (S24)))else(some y348)))else(none))=some r:=by first|(rw[hy345];with_reducible exact H)|(have H2_:=(Option.bind_some _ _).symm.trans H;rw[hy345];with_reducible exact H2_)|(have H2_:=(Option.bind_some _ _).symm.trans H;with_reducible exact H2_)|with_reducible exact H|(rw[hy345];exact H)|exact H
    have Ny345:=Aside0.mk hy345;clear hy345
    by_cases c14:t342.length+y345.length<4398046511104
    ·rw[if_pos c14]at H;have LMc14:=Aside0.mk c14;clear c14;obtain⟨y348,hy348⟩: ∃y_:List (S24),y_=(t342++y345):=⟨_,rfl⟩;replace H:(if(y348.length:Int)>20 then(some ([]:List (S24)))else(some y348))=some r:=by first|(rw[hy348];with_reducible exact H)|(have H2_:=(Option.bind_some _ _).symm.trans H;rw[hy348];with_reducible exact H2_)|(have H2_:=(Option.bind_some _ _).symm.trans H;with_reducible exact H2_)|with_reducible exact H|(rw[hy348];exact H)|exact H
     have Ny348:=Aside0.mk hy348;clear hy348;have HC15:=Aside0.mk H;clear H;(try go_wp2);replace BK339:=Aside0.mk (blk_drew BK339.out);replace HB:=Aside0.mk (below_drew1 HB.out);refine st_ (n:=8) (S:=fun w'=>w'.cell? ⟨gb339,0,none⟩=some (.string a1_0)∧w'.cell? ⟨gb339,1,none⟩=some (.string a1_1)) (ds:= []) ⟨(blk_cell BK339.out 0).trans rfl,(blk_cell BK339.out 1).trans rfl⟩ (fun hHeld=>?_);refine with_tabW spec_With.tab3 spec_With.bits3 (fun HT_ HW_=>?_);generalize wc.drew=w16 at BK339 HB hHeld ⊢;refine pz 0 14 ?_;refine pz 1 15 ?_;refine tk0_ 2 16 hHeld ?_;refine tk0_ 4 18 hHeld ?_;refine join_ (σ:=Value×Value) 2 #[true,true,true,true,true,true,false,false] (fun s_=> [(17,s_.1),(19,s_.2)]) (fun s_ w'=>(w'.cell? ⟨gb339,0,none⟩=some (.string a1_0)∧w'.cell? ⟨gb339,1,none⟩=some (.string a1_1))∧(Kd.R k24 24 w' w.heap.size (fun k_=>some k_≠(s_.2:Value).ownBlock∧k_≠gb339) s_.1 t342)∧(Kd.R k24 24 w' w.heap.size (fun k_=>some k_≠(s_.1:Value).ownBlock∧k_≠gb339) s_.2 y345)∧(w'.heap[gb339]?=some (.cells #[.string a1_0,.string a1_1] 24 (0,0)))∧(Below w.heap.size w w')) ?_ ?_;rotate_left
     ·intro hCont;refine two_ (i:=3) (j:=5) (Ni:=some 17) (Nj:=some 19) #[true,true,true,true,true,false,false,false] #[true,true,true,false,true,true,false,false] rfl rfl rfl rfl (two_of HT_.out (by kernel_rfl)) (by decide) (by decide) (fun K hK=>?_) (fun K hK=>?_)
      ·skip
       refine goes_ Try.func18 (by kernel_rfl) rfl #[.slice A0 l0.length c0,.string a1_0] (by kernel_rfl) rfl rfl zz61 ?_;(with_reducible refine(spec_Without.calls kj2 _ _ l0 a1_0 t342 _ ?side1 ?side2 A13.out).mono ?_);(case side1=>repeat(first|exact(Kd.C_below HR0.out HB.out)|(with_reducible refine Kd.C_alloc ?_ _)|(with_reducible refine Kd.C_drewN ?_ _)|(with_reducible refine Kd.C_drew ?_)));(case side2=>exact HC0.out);rintro e w17 ⟨v343,rfl,ho0,hb⟩;refine⟨_,rfl,?_⟩;have HO344:=Aside0.mk (Kd.R_lower (Kd.R_newB ho0 (g:=gb339) (o:= .cells #[.string a1_0,.string a1_1] 24 (0,0)) zz18) (below_size zz13));replace BK339:=Aside0.mk (blk_below zz18 hb);replace HB:=Aside0.mk (below_step zz13 hb);(try clear hb);(try clear hb2);(try clear hk);(try clear hi);(try clear ho0);refine hK.out _ _ ⟨(blk_cell BK339.out 0).trans rfl,(blk_cell BK339.out 1).trans rfl⟩ (fun hHeld=>?_);clear hK K;refine nz ?_;refine oz 5 19 (fun K hK=>?_);refine Kd.R_lit_step k24 _ 24 ?hg (N:=19) ?hd (xs:=([(⟨a1_0,a1_1⟩:S24)]:List (S24))) (inner:= [.string a1_0,.string a1_1]) (ok:=fun _=>True) (okp:=fun _=>True) ?hr ?hp (fun _ hk=>hk) trivial (Below.refl _ _) (Nat.le_refl _) (by simp) ?_;(case hd=>rfl);(case hg=>rfl);(case hr=>first|(go_simp;done)|(go_simp;rfl));(case hp=>exact(Reps.c2 (show Kd.M k24 _ _ _ (⟨a1_0,a1_1⟩:S24) [.string a1_0,.string a1_1]from(k24_mkM _ _ _ (⟨a1_0,a1_1⟩:S24))) (Reps.none _ _)));intro v346 w18 ho19 hb hg_ hnew_;clear hg_ hnew_;(first|rw[←Ny345.out]at ho19|(simp only[Int.reduceToNat]at ho19;rw[←Ny345.out]at ho19));have HO347:=Aside0.mk (Kd.R_lower (Kd.R_newB (Kd.R_new' ho19 (Kd.R_lt zz54)) (g:=gb339) (o:= .cells #[.string a1_0,.string a1_1] 24 (0,0)) zz18) (below_size zz13));replace HO344:=Aside0.mk (Kd.R_elder' zz54 (Kd.R_base ho19) hb);replace BK339:=Aside0.mk (blk_below zz18 hb);replace HB:=Aside0.mk (below_step zz13 hb);clear hb ho19;refine hK.out _ _ ⟨(blk_cell BK339.out 0).trans rfl,(blk_cell BK339.out 1).trans rfl⟩ (fun hHeld=>?_);clear hK K;refine nz ?_;exact norm_ (by first|(simp only[putAll,Act.put,List.setIfInBounds_toArray,List.set_cons_zero,List.set_cons_succ];done)|(simp only[putAll,Act.put,List.setIfInBounds_toArray,List.set_cons_zero,List.set_cons_succ];rfl)) (hCont (v343,v346) _ ⟨hHeld,(by(with_reducible repeat(first|apply Kd.R_alloc|apply Kd.R_drewN|apply Kd.R_drew));exact Kd.R_mono HO344.out (fun _ hk=>⟨hk.2,hk.1.2⟩)),(by(with_reducible repeat(first|apply Kd.R_alloc|apply Kd.R_drewN|apply Kd.R_drew));exact Kd.R_mono HO347.out (fun _ hk=>⟨hk.1.2,hk.2⟩)),zz18,zz13⟩)
      ·skip
       refine Kd.R_lit_step k24 _ 24 ?hg (N:=19) ?hd (xs:=([(⟨a1_0,a1_1⟩:S24)]:List (S24))) (inner:= [.string a1_0,.string a1_1]) (ok:=fun _=>True) (okp:=fun _=>True) ?hr ?hp (fun _ hk=>hk) trivial (Below.refl _ _) (Nat.le_refl _) (by simp) ?_;(case hd=>rfl);(case hg=>rfl);(case hr=>first|(go_simp;done)|(go_simp;rfl));(case hp=>exact(Reps.c2 (show Kd.M k24 _ _ _ (⟨a1_0,a1_1⟩:S24) [.string a1_0,.string a1_1]from(k24_mkM _ _ _ (⟨a1_0,a1_1⟩:S24))) (Reps.none _ _)));intro v346 w17 ho18 hb hg_ hnew_;clear hg_ hnew_;(first|rw[←Ny345.out]at ho18|(simp only[Int.reduceToNat]at ho18;rw[←Ny345.out]at ho18));have HO347:=Aside0.mk (Kd.R_lower (Kd.R_newB ho18 (g:=gb339) (o:= .cells #[.string a1_0,.string a1_1] 24 (0,0)) zz18) (below_size zz13));replace BK339:=Aside0.mk (blk_below zz18 hb);replace HB:=Aside0.mk (below_step zz13 hb);clear hb ho18;refine hK.out _ _ ⟨(blk_cell BK339.out 0).trans rfl,(blk_cell BK339.out 1).trans rfl⟩ (fun hHeld=>?_);clear hK K;refine nz ?_;refine ozG 3 17 Try.func18 #[.slice A0 l0.length c0,.string a1_0] (fun K hK=>?_);(with_reducible refine(spec_Without.calls kj2 _ _ l0 a1_0 t342 _ ?side1 ?side2 A13.out).mono ?_);(case side1=>repeat(first|exact(Kd.C_below HR0.out HB.out)|(with_reducible refine Kd.C_alloc ?_ _)|(with_reducible refine Kd.C_drewN ?_ _)|(with_reducible refine Kd.C_drew ?_)));(case side2=>exact HC0.out);rintro e w19 ⟨v343,rfl,ho0,hb⟩;refine⟨_,rfl,?_⟩;have HO344:=Aside0.mk (Kd.R_lower (Kd.R_newB (Kd.R_new' ho0 (Kd.R_lt zz53)) (g:=gb339) (o:= .cells #[.string a1_0,.string a1_1] 24 (0,0)) zz18) (below_size zz13));replace HO347:=Aside0.mk (Kd.R_elder' zz53 (Kd.R_base ho0) hb);replace BK339:=Aside0.mk (blk_below zz18 hb);replace HB:=Aside0.mk (below_step zz13 hb);(try clear hb);(try clear hb2);(try clear hk);(try clear hi);(try clear ho0);refine hK.out _ _ ⟨(blk_cell BK339.out 0).trans rfl,(blk_cell BK339.out 1).trans rfl⟩ (fun hHeld=>?_);clear hK K;refine nz ?_;exact norm_ (by first|(simp only[putAll,Act.put,List.setIfInBounds_toArray,List.set_cons_zero,List.set_cons_succ];done)|(simp only[putAll,Act.put,List.setIfInBounds_toArray,List.set_cons_zero,List.set_cons_succ];rfl)) (hCont (v343,v346) _ ⟨hHeld,(by(with_reducible repeat(first|apply Kd.R_alloc|apply Kd.R_drewN|apply Kd.R_drew));exact Kd.R_mono HO344.out (fun _ hk=>⟨hk.1.2,hk.2⟩)),(by(with_reducible repeat(first|apply Kd.R_alloc|apply Kd.R_drewN|apply Kd.R_drew));exact Kd.R_mono HO347.out (fun _ hk=>⟨hk.2,hk.1.2⟩)),zz18,zz13⟩)
     rintro⟨v343,v346⟩ w20 ⟨hS_,h0_,h1_,h2_,h3_⟩;have n0_:Aside0 (Kd.R k24 24 w20 w.heap.size (fun k_=>some k_≠(v346:Value).ownBlock∧k_≠gb339) v343 t342):=⟨h0_⟩;have n1_:Aside0 (Kd.R k24 24 w20 w.heap.size (fun k_=>some k_≠(v343:Value).ownBlock∧k_≠gb339) v346 y345):=⟨h1_⟩;have n2_:Aside0 (w20.heap[gb339]?=some (.cells #[.string a1_0,.string a1_1] 24 (0,0))):=⟨h2_⟩;have n3_:Aside0 (Below w.heap.size w w20):=⟨h3_⟩;clear BK339;clear HB;clear h0_ h1_ h2_ h3_;have HO344:=n0_;have HO347:=n1_;have BK339:=n2_;have HB:=n3_;clear n0_ n1_ n2_ n3_;have hHeld:w20.cell? ⟨gb339,0,none⟩=some (.string a1_0)∧w20.cell? ⟨gb339,1,none⟩=some (.string a1_1):=hS_;obtain⟨Ao22,co22,eo22⟩:=Kd.R_slice HO347.out;(first|subst eo22|(injection eo22 with f1_ f2_ f3_;have f4_:=f1_.symm;have f5_:=f3_.symm;clear f1_ f2_ f3_;subst f4_;subst f5_));refine norm_ (a':=?_) ?_ ?_;rotate_left
     ·simp only[putAll,Act.put,List.setIfInBounds_toArray,List.set_cons_zero,List.set_cons_succ];rfl
     refine oz 6 20 (fun K hK=>?_);refine Kd.R_append_rows_step k24 (w0:=w) w.heap.size (by rfl) (.tmp 17) (.tmp 19) 32 24 (.agg #[(.string ⟨#[]⟩),(.string ⟨#[]⟩)]) 32 rfl Try.underlying32 info24 rfl (by decide) (by omega) v343 t342 y345 _ _ _ (fun k_=>some k_≠(.slice Ao22 y345.length co22:Value).ownBlock∧k_≠gb339) (fun _=>False) rfl rfl ?aO ?aR (fun _ _ h=>h) (fun _ h=>h.elim) ?aF ?aB ?aS ?aL ?_;(case aR=>repeat(first|exact(Kd.R_reads' HO347.out).2.2|(with_reducible refine Kd.C_alloc ?_ _)|(with_reducible refine Kd.C_drewN ?_ _)|(with_reducible refine Kd.C_drew ?_)));(case aB=>exact zz13);(case aF=>exact(fun k_ hk=>⟨Kd.fresh' (Kd.R_lt zz53) k_ hk,Kd.freshB (g:=gb339) (o:= .cells #[.string a1_0,.string a1_1] 24 (0,0)) zz18 k_ hk⟩));(case aO=>exact zz54);(case aS=>exact(below_size zz13));(case aL=>have:=LMc14.out;omega);intro v349 w21 ho hb hg hat;rw[←Ny348.out]at ho;replace BK339:=Aside0.mk (blk_grown (g:=gb339) (o:= .cells #[.string a1_0,.string a1_1] 24 (0,0)) zz18 hg (Kd.R_away HO344.out (fun _ hk=>hk.2)));replace HO347:=Aside0.mk (Kd.R_after (ok:=(fun k_=>k_≠gb339)) (by(with_reducible repeat(first|apply Kd.R_alloc|apply Kd.R_drewN|apply Kd.R_drew));exact Kd.R_mono HO347.out (fun _ hk=>⟨hk.2,hk.1⟩)) hg hat);replace HB:=Aside0.mk (hb);have HO350:=Aside0.mk (ho);clear HO344;clear ho hb hg hat;refine hK.out _ _ ⟨(blk_cell BK339.out 0).trans rfl,(blk_cell BK339.out 1).trans rfl⟩ (fun hHeld=>?_);clear hK K;refine nz ?_;refine pz 7 5 ?_;refine done_ (done_of HT_.out (by kernel_rfl)) ?_;obtain⟨Ao23,co23,eo23⟩:=Kd.R_slice HO350.out;subst eo23;go_upto_if 23 with(fail)
     have H:=HC15.out;clear HC15
     by_cases c24:(y348.length:Int)>20
     ·rw[if_pos c24]at H;have c24b0:decide (20<(y348.length:Int))=true:=decide_eq_true c24;have c24b1:decide (20<y348.length)=true:=decide_eq_true (by omega);clear c24;(first|rw[c24b0]|(simp only[i64_w,i32_w];rw[c24b0])|rw[c24b1]|(rw[c24b2];simp only[Bool.not_true,Bool.not_false])|skip);obtain rfl:=Option.some.inj H;go_wp2
      go_ret;exact⟨_,zz4,zz20,zz13⟩
     ·rw[if_neg c24]at H;have c24b0:decide (20<(y348.length:Int))=false:=decide_eq_false c24;have c24b1:decide (20<y348.length)=false:=decide_eq_false (by omega);clear c24;(first|rw[c24b0]|(simp only[i64_w,i32_w];rw[c24b0])|rw[c24b1]|(rw[c24b2];simp only[Bool.not_true,Bool.not_false])|skip);obtain rfl:=Option.some.inj H;go_wp2
      go_ret;exact⟨_,zz4,by(with_reducible repeat(first|apply Kd.R_alloc|apply Kd.R_drewN|apply Kd.R_drew));exact Kd.R_mono HO350.out (fun _ hk=>trivial),zz13⟩
    ·rw[if_neg c14]at H;exact absurd H (by simp)
/-! ### laws_sameTexts: function 15 -/
def laws_sameTexts.l0:Nat→List ByteArray→List ByteArray→Int→Option (Bool)
 |0,_,_,_=>none
 |k+1,x0,x1,x5=>if x5<(x0.length:Int)then(if 0≤x5 then(if x5<(x1.length:Int)then(if(rdOf ByteArray.empty x0 x5).toList=(rdOf ByteArray.empty x1 x5).toList then(laws_sameTexts.l0 k x0 x1 (wrap64 (x5+1)))else(some false))else(none))else(none))else(some true)
def laws_sameTexts.f (k:Nat) (l0:List ByteArray) (l1:List ByteArray):Option (Bool):=if(l0.length:Int)=(l1.length:Int)then(laws_sameTexts.l0 k l0 l1 0)else(some false)
set_option maxHeartbeats 40000000 in
set_option maxRecDepth 100000 in
theorem laws_sameTexts.calls (k : Nat) (A0 : Option Addr) (c0 : Nat) (l0 : List ByteArray) (A1 : Option Addr) (c1 : Nat) (l1 : List ByteArray) (r : Bool) (w : World) (hr0 : Kd.C Kd.string w A0 l0.length l0) (hc0 : l0.length ≤ c0) (hr1 : Kd.C Kd.string w A1 l1.length l1) (hc1 : l1.length ≤ c1) (h : laws_sameTexts.f k l0 l1 = some r) :
  Calls Try.prog 15 #[.slice A0 l0.length c0,.slice A1 l1.length c1] w fun e w'=>e= .returned (.bool r)∧Drawn0 w w':=by
 have HR0:=Aside0.mk hr0;have HC0:=Aside0.mk hc0;clear hr0 hc0;have HR1:=Aside0.mk hr1;have HC1:=Aside0.mk hc1;clear hr1 hc1;have H:(if(l0.length:Int)=(l1.length:Int)then(laws_sameTexts.l0 k l0 l1 0)else(some false))=some r:=h;clear h
 by_cases c3:(l0.length:Int)=(l1.length:Int)
 ·rw[if_pos c3]at H;have c3b0:((l0.length:Int)==(l1.length:Int))=true:=beq_iff_eq.mpr c3;have c3b1:((l0.length:Int)!=(l1.length:Int))=false:=bne_eq_false_iff_eq.mpr c3;have c3b2:(l0.length==l1.length)=true:=by first|simpa using c3|(simp at c3 ⊢;omega)
  clear c3;have H':=Aside0.mk H;clear H;go_enter Try.func15,Try.ntmps15
  go_wp2
  repeat(go_quiet (fail);try go_wp2)
  go_loopg [5] k (fun kq v5 w'=> ∃(x5_1:Int),v5= .int .i64 x5_1∧Aside0 (laws_sameTexts.l0 kq l0 l1 x5_1=some r)∧Aside0 (kq≤k)∧Drawn0 w w')
  case atStart=>exact⟨(0),zz6,H',⟨Nat.le_refl _⟩,zz7⟩
  case round=>
   clear H';(try clear c1);(try clear p2);(try clear c3);(try clear c3b0);(try clear c3b1);(try clear c3b2);obtain⟨x5_1,rfl,HA,HK1,⟨m1,rfl⟩⟩:=hrel
   cases gk with
   |zero=>exact absurd HA.out (by simp[laws_sameTexts.l0])
   |succ k1=>
    have H:=HA.out;clear HA;simp only[laws_sameTexts.l0]at H
    by_cases c4:x5_1<(l0.length:Int)
    ·rw[if_pos c4]at H;have c4b0:decide (x5_1<(l0.length:Int))=true:=decide_eq_true c4;clear c4
     by_cases c5:0≤x5_1
     ·rw[if_pos c5]at H;have c5b0:decide (0≤x5_1)=true:=decide_eq_true c5;clear c5
      by_cases c6:x5_1<(l1.length:Int)
      ·rw[if_pos c6]at H;have c6b0:decide (x5_1<(l1.length:Int))=true:=decide_eq_true c6;clear c6
       by_cases c7:(rdOf ByteArray.empty l0 x5_1).toList=(rdOf ByteArray.empty l1 x5_1).toList
       ·rw[if_pos c7]at H;have c7b0:((rdOf ByteArray.empty l0 x5_1).toList==(rdOf ByteArray.empty l1 x5_1).toList)=true:=beq_iff_eq.mpr c7;have c7b1:((rdOf ByteArray.empty l0 x5_1).toList !=(rdOf ByteArray.empty l1 x5_1).toList)=false:=bne_eq_false_iff_eq.mpr c7;clear c7;have H':=Aside0.mk H;clear H;have p351:0≤(x5_1:Int):=of_decide_eq_true zz8;have q351:x5_1<(l0.length:Int):=of_decide_eq_true zz8;obtain⟨ad351,e351,hx351_0⟩:=Kd.at_string HR0.out x5_1 p351 q351;cases e351;replace p351:=eq_true p351;replace q351:=eq_true q351;have p352:0≤(x5_1:Int):=of_decide_eq_true zz8;have q352:x5_1<(l1.length:Int):=of_decide_eq_true zz8;obtain⟨ad352,e352,hx352_0⟩:=Kd.at_string HR1.out x5_1 p352 q352;cases e352;replace p352:=eq_true p352;replace q352:=eq_true q352;go_wp2
        repeat(go_quiet (fail);try go_wp2)
        go_roundg k1
        (case measure=>have:=HK1.out;omega);case rel=>exact⟨(wrap64 (x5_1+1)),zz6,H',⟨zz42⟩,zz7⟩
       ·rw[if_neg c7]at H;have c7b0:((rdOf ByteArray.empty l0 x5_1).toList==(rdOf ByteArray.empty l1 x5_1).toList)=false:=beq_eq_false_iff_ne.mpr c7;have c7b1:((rdOf ByteArray.empty l0 x5_1).toList !=(rdOf ByteArray.empty l1 x5_1).toList)=true:=bne_iff_ne.mpr c7;obtain rfl:=Option.some.inj H;have p351:0≤(x5_1:Int):=of_decide_eq_true zz8;have q351:x5_1<(l0.length:Int):=of_decide_eq_true zz8;obtain⟨ad351,e351,hx351_0⟩:=Kd.at_string HR0.out x5_1 p351 q351;cases e351;replace p351:=eq_true p351;replace q351:=eq_true q351;have p352:0≤(x5_1:Int):=of_decide_eq_true zz8;have q352:x5_1<(l1.length:Int):=of_decide_eq_true zz8;obtain⟨ad352,e352,hx352_0⟩:=Kd.at_string HR1.out x5_1 p352 q352;cases e352;replace p352:=eq_true p352;replace q352:=eq_true q352;go_wp2
        repeat(go_quiet (fail);try go_wp2)
        go_ret;exact⟨zz6,zz7⟩
      ·rw[if_neg c6]at H;exact absurd H (by simp)
     ·rw[if_neg c5]at H;exact absurd H (by simp)
    ·rw[if_neg c4]at H;have c4b0:decide (x5_1<(l0.length:Int))=false:=decide_eq_false c4;clear c4;obtain rfl:=Option.some.inj H;go_wp2
     repeat(go_quiet (fail);try go_wp2)
     go_ret;exact⟨zz6,zz7⟩
 ·rw[if_neg c3]at H;have c3b0:((l0.length:Int)==(l1.length:Int))=false:=beq_eq_false_iff_ne.mpr c3;have c3b1:((l0.length:Int)!=(l1.length:Int))=true:=bne_iff_ne.mpr c3;have c3b2:(l0.length==l1.length)=false:=by first|simpa using c3|(simp at c3 ⊢;omega)
  obtain rfl:=Option.some.inj H;go_enter Try.func15,Try.ntmps15
  go_wp2
  repeat(go_quiet (fail);try go_wp2)
  go_ret;exact⟨zz6,zz7⟩
/-! ### laws_sameFields: function 16 -/
def laws_sameFields.l0:Nat→List (S24)→List (S24)→Int→Option (Bool)
 |0,_,_,_=>none
 |k+1,x0,x1,x5=>if x5<(x0.length:Int)then(if 0≤x5 then(if x5<(x1.length:Int)then(if(!((((rd_T24 x0 x5).f0).toList)==(((rd_T24 x1 x5).f0).toList))||(!((((rd_T24 x0 x5).f1).toList)==(((rd_T24 x1 x5).f1).toList))))=true then(some false)else(laws_sameFields.l0 k x0 x1 (wrap64 (x5+1))))else(none))else(none))else(some true)
def laws_sameFields.f (k:Nat) (l0:List (S24)) (l1:List (S24)):Option (Bool):=if(l0.length:Int)=(l1.length:Int)then(laws_sameFields.l0 k l0 l1 0)else(some false)
set_option maxHeartbeats 40000000 in
set_option maxRecDepth 100000 in
theorem laws_sameFields.calls (k : Nat) (A0 : Option Addr) (c0 : Nat) (l0 : List (S24)) (A1 : Option Addr) (c1 : Nat) (l1 : List (S24)) (r : Bool) (w : World) (hr0 : Kd.C k24 w A0 l0.length l0) (hc0 : l0.length ≤ c0) (hr1 : Kd.C k24 w A1 l1.length l1) (hc1 : l1.length ≤ c1) (h : laws_sameFields.f k l0 l1 = some r) :
  Calls Try.prog 16 #[.slice A0 l0.length c0,.slice A1 l1.length c1] w fun e w'=>e= .returned (.bool r)∧Drawn0 w w':=by
 have hu24:=Try.underlying24;have HR0:=Aside0.mk hr0;have HC0:=Aside0.mk hc0;clear hr0 hc0;have HR1:=Aside0.mk hr1;have HC1:=Aside0.mk hc1;clear hr1 hc1;have H:(if(l0.length:Int)=(l1.length:Int)then(laws_sameFields.l0 k l0 l1 0)else(some false))=some r:=h;clear h
 by_cases c3:(l0.length:Int)=(l1.length:Int)
 ·rw[if_pos c3]at H;have c3b0:((l0.length:Int)==(l1.length:Int))=true:=beq_iff_eq.mpr c3;have c3b1:((l0.length:Int)!=(l1.length:Int))=false:=bne_eq_false_iff_eq.mpr c3;have c3b2:(l0.length==l1.length)=true:=by first|simpa using c3|(simp at c3 ⊢;omega)
  clear c3;have H':=Aside0.mk H;clear H;go_enter Try.func16,Try.ntmps16
  go_wp2
  repeat(go_quiet (fail);try go_wp2)
  go_loopg [5] k (fun kq v5 w'=> ∃(x5_1:Int),v5= .int .i64 x5_1∧Aside0 (laws_sameFields.l0 kq l0 l1 x5_1=some r)∧Aside0 (kq≤k)∧Drawn0 w w')
  case atStart=>exact⟨(0),zz6,H',⟨Nat.le_refl _⟩,zz7⟩
  case round=>
   clear H';(try clear c1);(try clear p2);(try clear c3);(try clear c3b0);(try clear c3b1);(try clear c3b2);obtain⟨x5_1,rfl,HA,HK1,⟨m1,rfl⟩⟩:=hrel
   cases gk with
   |zero=>exact absurd HA.out (by simp[laws_sameFields.l0])
   |succ k1=>
    have H:=HA.out;clear HA;simp only[laws_sameFields.l0]at H
    by_cases c4:x5_1<(l0.length:Int)
    ·rw[if_pos c4]at H;have c4b0:decide (x5_1<(l0.length:Int))=true:=decide_eq_true c4;clear c4
     by_cases c5:0≤x5_1
     ·rw[if_pos c5]at H;have c5b0:decide (0≤x5_1)=true:=decide_eq_true c5;clear c5
      by_cases c6:x5_1<(l1.length:Int)
      ·rw[if_pos c6]at H;have c6b0:decide (x5_1<(l1.length:Int))=true:=decide_eq_true c6;clear c6
       by_cases c7:(!((((rd_T24 l0 x5_1).f0).toList)==(((rd_T24 l1 x5_1).f0).toList))||(!((((rd_T24 l0 x5_1).f1).toList)==(((rd_T24 l1 x5_1).f1).toList))))=true
       ·rw[if_pos c7]at H;have c7b0:(!((((rd_T24 l0 x5_1).f0).toList)==(((rd_T24 l1 x5_1).f0).toList))||(!((((rd_T24 l0 x5_1).f1).toList)==(((rd_T24 l1 x5_1).f1).toList))))=true:=c7;clear c7;obtain rfl:=Option.some.inj H;have p353:0≤(x5_1:Int):=of_decide_eq_true zz8;have q353:x5_1<(l0.length:Int):=of_decide_eq_true zz8;obtain⟨ad353,e353,hx353_0,hx353_1⟩:=at_T24 HR0.out x5_1 p353 q353;cases e353;replace p353:=eq_true p353;replace q353:=eq_true q353;have p354:0≤(x5_1:Int):=of_decide_eq_true zz8;have q354:x5_1<(l1.length:Int):=of_decide_eq_true zz8;obtain⟨ad354,e354,hx354_0,hx354_1⟩:=at_T24 HR1.out x5_1 p354 q354;cases e354;replace p354:=eq_true p354;replace q354:=eq_true q354;go_wp2
        repeat(go_quiet (fail);try go_wp2)
        go_ret;exact⟨zz6,zz7⟩
       ·rw[if_neg c7]at H;have c7b0:(!((((rd_T24 l0 x5_1).f0).toList)==(((rd_T24 l1 x5_1).f0).toList))||(!((((rd_T24 l0 x5_1).f1).toList)==(((rd_T24 l1 x5_1).f1).toList))))=false:=by simpa using c7
        clear c7;have H':=Aside0.mk H;clear H;have p353:0≤(x5_1:Int):=of_decide_eq_true zz8;have q353:x5_1<(l0.length:Int):=of_decide_eq_true zz8;obtain⟨ad353,e353,hx353_0,hx353_1⟩:=at_T24 HR0.out x5_1 p353 q353;cases e353;replace p353:=eq_true p353;replace q353:=eq_true q353;have p354:0≤(x5_1:Int):=of_decide_eq_true zz8;have q354:x5_1<(l1.length:Int):=of_decide_eq_true zz8;obtain⟨ad354,e354,hx354_0,hx354_1⟩:=at_T24 HR1.out x5_1 p354 q354;cases e354;replace p354:=eq_true p354;replace q354:=eq_true q354;go_wp2
        repeat(go_quiet (fail);try go_wp2)
        go_roundg k1
        (case measure=>have:=HK1.out;omega);case rel=>exact⟨(wrap64 (x5_1+1)),zz6,H',⟨zz42⟩,zz7⟩
      ·rw[if_neg c6]at H;exact absurd H (by simp)
     ·rw[if_neg c5]at H;exact absurd H (by simp)
    ·rw[if_neg c4]at H;have c4b0:decide (x5_1<(l0.length:Int))=false:=decide_eq_false c4;clear c4;obtain rfl:=Option.some.inj H;go_wp2
     repeat(go_quiet (fail);try go_wp2)
     go_ret;exact⟨zz6,zz7⟩
 ·rw[if_neg c3]at H;have c3b0:((l0.length:Int)==(l1.length:Int))=false:=beq_eq_false_iff_ne.mpr c3;have c3b1:((l0.length:Int)!=(l1.length:Int))=true:=bne_iff_ne.mpr c3;have c3b2:(l0.length==l1.length)=false:=by first|simpa using c3|(simp at c3 ⊢;omega)
  obtain rfl:=Option.some.inj H;go_enter Try.func16,Try.ntmps16
  go_wp2
  repeat(go_quiet (fail);try go_wp2)
  go_ret;exact⟨zz6,zz7⟩
end Go.Proofs.Ytkkolioolgpljaa.GFnWiths
