-- Printed by gen.py and its programs for this claim.
import Derived.Test.YthmehmehoehlpaaGreatDoorGFnExactRecTextx0
import Derived.Test.YthmehmehoehlpaaGreatDoorGFnExactRecTextx8
import Derived.Test.YthmehmehoehlpaaGreatDoorGFnExactRecTextx9
import Derived.Test.YthmehmehoehlpaaGreatDoorGFnExactRecTextx12
import Derived.Test.YthmehmehoehlpaaGreatDoorGFnExactRecTextx13
import Derived.Test.YthmehmehoehlpaaGreatDoorZFnExactRecText
namespace Go.Proofs.YthmehmehoehlpaaGreatDoor.GFnExactRecText
open Go.RowKit Go.Proofs.YthmehmehoehlpaaGreatDoorW.PrintWords Go.Proofs.YthmehmehoehlpaaGreatDoorW.PrintLast Go.Proofs.YthmehmehoehlpaaGreatDoorW.PrintMore Go.Proofs.YthmehmehoehlpaaGreatDoorW.Zs
set_option maxHeartbeats 40000000
set_option maxRecDepth 100000
attribute [local go_sem] max2_int min2_int max_two min_two max_three min_three max_four min_four
set_option linter.unusedVariables false
set_option linter.unusedSimpArgs false
mutual
def spec_ShaAdd.j0:Nat→ByteArray→Bool→List Int→ByteArray→Int→Option (List Int×ByteArray×Int)
 |0,_,_,_,_,_=>none
 |k+1,x0,x1,x2,x3,x4=>if x1=true then(some (([]:List Int),(⟨#[]⟩:ByteArray),0))else((some (([]:List Int):List Int)).bind fun y0=>(if y0.length+x2.length<17592186044416 then(if x3.size+x0.size≤9223372036854775807 then(spec_ShaAdd.l0 k x0 (y0++x2) (x3++x0) 0 x2 x3 x4)else(none))else(none)))
def spec_ShaAdd.l0:Nat→ByteArray→List Int→ByteArray→Int→List Int→ByteArray→Int→Option (List Int×ByteArray×Int)
 |0,_,_,_,_,_,_,_=>none
 |k+1,x0,x1,x2,x3,x4,x5,x6=>if(wrap64 ((x2.size:Int)-x3))≥64 then(if 0≤x3 then(if x3≤(wrap64 (x3+64))then(if(wrap64 (x3+64))≤(x2.size:Int)then((spec_Compress.f k x1 (x2.extract (x3:Int).toNat ((wrap64 (x3+64)):Int).toNat)).bind fun t0=>(spec_ShaAdd.l0 k x0 t0 x2 (wrap64 (x3+64)) x4 x5 x6))else(none))else(none))else(none))else(if 0≤x3 then(if x3≤(x2.size:Int)then(some (x1,x2.extract (x3:Int).toNat x2.size,wrap64 (x6+(x0.size:Int))))else(none))else(none))
end
def spec_ShaAdd.f (k:Nat) (l0:List Int) (a0:ByteArray) (a1:Int) (a2:ByteArray):Option (List Int×ByteArray×Int):=(spec_ShaOk.f k l0 a0 a1).bind fun t0=>(if t0=true then(spec_ShaAdd.j0 k a2 (decide ((a2.size:Int)>(wrap64 (999999999999999-a1)))) l0 a0 a1)else(spec_ShaAdd.j0 k a2 true l0 a0 a1))
def spec_ShaAdd.T9:Bool×List (List Nat×List Nat):=(true,[([],[]),([],[]),([],[]),([1,2],[1,2]),([],[]),([4],[4]),([],[]),([6],[6]),([5,7],[5,7]),([0,3,8],[0,3,8]),([9,0,1,2,3,4,5,6,7,8,9],[9])])
def spec_ShaAdd.B9:List Nat:= [0,0,0,6,0,16,0,64,240,511,1023]
theorem spec_ShaAdd.tab9:rtab .any (opsOf Tryz.f56 9)=spec_ShaAdd.T9:=by kernel_rfl
theorem spec_ShaAdd.bits9:waitsOk spec_ShaAdd.T9.2 spec_ShaAdd.B9=true:=by kernel_rfl
theorem spec_ShaAdd.calls (k:Nat) (A0:Option Addr) (c0:Nat) (l1:List Int) (a0:ByteArray) (a1:Int) (a2:ByteArray) (r1:List Int) (r2:ByteArray) (r3:Int) (w:World) (h0:Kd.C (Kd.int .i64) w A0 l1.length l1) (hc0_0:l1.length≤c0) (H:spec_ShaAdd.f k l1 a0 a1 a2=some (r1,r2,r3)):
  Calls Tryz.prog 56 #[.agg #[.slice A0 l1.length c0,.string a0,.int .i64 a1],.string a2] w fun e w'=> ∃v0:Value,e= .returned (.agg #[v0,.string r2,.int .i64 r3])∧Kd.R (Kd.int .i64) 3 w' w.heap.size (fun _=>True) v0 r1∧Below w.heap.size w w':=by
 have hu71:=Tryz.underlying71;have HR0_0:=Aside0.mk h0;have C0:=Aside0.mk hc0_0;clear h0 hc0_0;have HB:=Aside0.mk (Below.refl w.heap.size w);unfold spec_ShaAdd.f at H;have C1:=Aside0.mk H;clear H;go_enter Tryz.func56,Tryz.ntmps56
 go_upto_region 1 with(first|((with_reducible refine gate_dst (N:=2) rfl ?_);(try(refine gate_guard (by rfl) ?_;dsimp only));refine boxP_ (N:=2) (cs:= #[.slice A0 l1.length c0,.string a0,.int .i64 a1]) (t:=71) ?_;intro g0 hg w2 hbox hb;have B0:=Aside0.mk (hbox);have G0:=geb_ (w:=w) hg zb_;replace HB:=Aside0.mk (below_step zb_ hb);clear hb hbox hg)|((with_reducible refine gate_dst (N:=4) rfl ?_);(try(refine gate_guard (by rfl) ?_;dsimp only));refine boxP_ (N:=4) (cs:= #[.slice none 0 0,.string (⟨#[]⟩:ByteArray),.int .i64 0]) (t:=71) ?_;intro g1 hg w3 hbox hb;have B1:=Aside0.mk (hbox);have G1:=geb_ (w:=w) hg zb_;replace HB:=Aside0.mk (below_step zb_ hb);have N0:=nbL_ (g:=g0) hg (bk_ B0);have N1:=nbG_ (g:=g0) hg (bk_ B0);replace B0:=Aside0.mk (blk_below (bk_ B0) hb);clear hb hbox hg))
 (try simp only[Act.put,List.setIfInBounds_toArray,List.set_cons_zero,List.set_cons_succ]);go_cut [18] (fun v1 wc=> ∃(kq:Nat) (x0:Bool),v1= .bool x0∧Aside0 (spec_ShaAdd.j0 kq a2 x0 l1 a0 a1=some (r1,r2,r3))∧Aside0 (kq≤k)∧Aside0 (wc.heap[g0]?=some (.cells #[(.slice A0 l1.length c0),.string a0,.int .i64 a1] 71 (0,0)))∧Aside0 (wc.heap[g1]?=some (.cells #[(.slice none 0 0),.string (⟨#[]⟩:ByteArray),.int .i64 0] 71 (0,0)))∧Aside0 (Below w.heap.size w wc))
 case first=>
  have H:=C1.out;clear C1;replace H:=bS_ H;obtain⟨t0,A1,H⟩:=H;(try dsimp only at H);have C2:=Aside0.mk H;clear H;have n0:=N0.out;have n1:=N1.out;obtain⟨_,_,_,_,_,_⟩:=cells3_ B0.out
  repeat' (first|(go_big_may;(first|((with_reducible refine gc_ 80 rfl ?_);refine gR 9 Tryz.func80 (spec_ShaOk.calls k _ _ l1 a0 a1 t0 _ zz9 C0.out A1.out) ?_;rintro w4 hb;replace B0:=Aside0.mk (blk_below (bk_ B0) hb);replace B1:=Aside0.mk (blk_below (bk_ B1) hb);replace HB:=Aside0.mk (below_step zb_ hb);(try clear hb))))|go_values|go_skip|go_big_skip|go_big_want|((first|(with_reducible refine gate_nog rfl ?_)|(fail_if_success with_reducible refine gate_any ?_));go_step)|go_upon|simp only[Bool.not_true,Bool.not_false,Bool.true_and,Bool.false_and,Bool.true_or,Bool.false_or]|dsimp only)
  (try simp only[Act.put,List.setIfInBounds_toArray,List.set_cons_zero,List.set_cons_succ]);have H:=C2.out;clear C2
  by_cases c1:t0=true
  ·subst c1;rw[if_pos rfl]at H;have H':=Aside0.mk H;clear H;have n2:=N0.out;have n3:=N1.out;obtain⟨_,_,_,_,_,_⟩:=cells3_ B0.out;go_wp2
   go_meet
   case rel=>exact⟨_,(decide ((a2.size:Int)>(wrap64 (999999999999999-a1)))),zr_,H',⟨zo_⟩,⟨(bk_ B0)⟩,⟨(bk_ B1)⟩,⟨zb_⟩⟩
  ·replace c1:=Bool.eq_false_iff.mpr c1;subst c1;rw[if_neg Bool.false_ne_true]at H;have H':=Aside0.mk H;clear H;go_wp2
   go_meet
   case rel=>exact⟨_,(true),zr_,H',⟨zo_⟩,⟨(bk_ B0)⟩,⟨(bk_ B1)⟩,⟨zb_⟩⟩
 case rest=>
  clear C1;(try clear c2);(try clear p0);(try clear c3);(try clear p1);(try clear c4);(try clear c1);(try clear c5);(try clear h1);(try clear h2);(try clear h3);(try clear h4);(try clear h5);(try clear h6);(try clear h7);(try clear h8);(try clear h9);(try clear h10);(try clear h11);(try clear h12);obtain⟨kq,x0,rfl,HA,J0,B0,B1,HB⟩:=hcut
  cases kq with
  |zero=>exact absurd HA.out (by simp[spec_ShaAdd.j0])
  |succ k0=>
   have H:=HA.out;clear HA;simp only[spec_ShaAdd.j0]at H
   by_cases c6:x0=true
   ·subst c6;rw[if_pos rfl]at H;simp only[Option.some.injEq,Prod.mk.injEq]at H;obtain⟨rfl,rfl,rfl⟩:=H;have n4:=N1.out;have n5:=N0.out;obtain⟨_,_,_,_,_,_⟩:=cells3_ B1.out;go_wp2
    refine bodyPost_ret (results_cell_row rfl _ _ g1 71 #[.slice none 0 0,.string (⟨#[]⟩:ByteArray),.int .i64 0] (0,0) _ rfl (bk_ B1) Tryz.underlying71 rfl zz0) rfl ?_;exact⟨_,ze_,zn_,zb_⟩
   ·replace c6:=Bool.eq_false_iff.mpr c6;subst c6;rw[if_neg Bool.false_ne_true]at H;generalize h13:(([]:List Int):List Int)=y0 at H;have Y0:=Aside0.mk h13.symm;clear h13
    replace H:=ifS_ H;obtain⟨c7,H⟩:=H;have L0:=Aside0.mk c7;clear c7;generalize h14:(y0++l1:List Int)=y1 at H;have Y1:=Aside0.mk h14.symm;clear h14
    replace H:=ifS_ H;obtain⟨c8,H⟩:=H;obtain⟨f0,f1⟩:=dT_ c8;(try have f2:=eq_false (Nat.not_lt.2 c8));have H':=Aside0.mk H;clear H;go_wp2_with (first|((with_reducible refine gate_dst (N:=20) rfl ?_);(try(refine gate_guard (by rfl) ?_;dsimp only));refine Kd.R_lit (Kd.int .i64) _ 3 ?hg (N:=20) ?hd (xs:=([]:List Int)) (inner:= []) (ok:=fun _=>True) (okp:=fun _=>True) ?hr ?hp (fun _ hk=>hk) trivial (Below.refl _ _) (Nat.le_refl _) (by simp) ?_;(case hd=>rfl);(case hg=>rfl);(case hr=>first|(go_simp;done)|(go_simp;rfl));(case hp=>exact(Reps.none _ _));intro v2 w5 h15 hb hg_ hnew_;clear hg_ hnew_;(first|rw[←Y0.out]at h15|(simp only[Int.reduceToNat]at h15;rw[←Y0.out]at h15));have O0:=Aside0.mk (Kd.R_lower h15 (below_size zb_));replace B0:=Aside0.mk (blk_below (bk_ B0) hb);replace B1:=Aside0.mk (blk_below (bk_ B1) hb);replace HB:=Aside0.mk (below_step zb_ hb);clear hb h15;have n6:=N0.out;have n7:=N1.out;obtain⟨_,_,_,_,_,_⟩:=cells3_ B0.out)|((with_reducible refine gate_builtin (b:= .append) (xs:= #[.tmp 20,.tmp 22]) rfl ?_);(try(refine gate_guard (by rfl) ?_;dsimp only));at_builtin;refine Kd.R_append_rows (Kd.int .i64) (w0:=w) w.heap.size rfl (.tmp 20) (.tmp 22) 69 3 (.int .i64 0) 8 rfl Tryz.underlying69 info3 rfl zz2 zz5 v2 y0 l1 _ _ _ (fun _=>True) (fun _=>False) rfl rfl ?aO ?aR (fun _ _ h=>h) (fun _ h=>h.elim) ?aF ?aB ?aS ?aL ?_;(case aR=>repeat(first|exact(Kd.C_below HR0_0.out HB.out)|(with_reducible refine Kd.C_alloc ?_ _)|(with_reducible refine Kd.C_drewN ?_ _)|(with_reducible refine Kd.C_drew ?_)));(case aB=>exact zb_);(case aF=>exact(fun _ _=>trivial));(case aO=>exact(kr_ O0));(case aS=>exact(below_size zb_));(case aL=>have:=L0.out;omega);intro v3 w6 ho hb hg hat;rw[←Y1.out]at ho;replace B0:=Aside0.mk (blk_grown (g:=g0) (o:= .cells #[.slice A0 l1.length c0,.string a0,.int .i64 a1] 71 (0,0)) (bk_ B0) hg (Kd.R_ne O0.out B0.out zz2));replace B1:=Aside0.mk (blk_grown (g:=g1) (o:= .cells #[.slice none 0 0,.string (⟨#[]⟩:ByteArray),.int .i64 0] 71 (0,0)) (bk_ B1) hg (Kd.R_ne O0.out B1.out zz2));replace HB:=Aside0.mk (hb);have O1:=Aside0.mk (ho);clear O0;clear ho hb hg hat;obtain⟨_,_,_,_,_,_⟩:=cells3_ B0.out))
    go_loopg [5,7] k0 (fun kq v4 v5 w'=> ∃(x1:List Int) (x2:Int),v5= .int .i64 x2∧Aside0 (spec_ShaAdd.l0 kq a2 x1 (a0++a2) x2 l1 a0 a1=some (r1,r2,r3))∧Aside0 (kq≤k0)∧Aside0 (Kd.R (Kd.int .i64) 3 w' w.heap.size (fun _=>True) v4 x1)∧Aside0 (w'.heap[g0]?=some (.cells #[(.slice A0 l1.length c0),.string a0,.int .i64 a1] 71 (0,0)))∧Aside0 (w'.heap[g1]?=some (.cells #[(.slice none 0 0),.string (⟨#[]⟩:ByteArray),.int .i64 0] 71 (0,0)))∧Aside0 (Below w.heap.size w w'))
    case atStart=>exact⟨(y1),(0),zr_,H',⟨Nat.le_refl _⟩,⟨by(with_reducible repeat(first|apply Kd.R_alloc|apply Kd.R_drewN|apply Kd.R_drew));exact O1.out⟩,⟨(bk_ B0)⟩,⟨(bk_ B1)⟩,⟨zb_⟩⟩
    case round=>
     clear H';(try clear c2);(try clear c9);(try clear p0);(try clear c3);(try clear p1);(try clear c4);(try clear c1);(try clear c5);(try clear c6);(try clear c10);(try clear c7);(try clear c8);(try clear f0);(try clear f1);(try clear f2);(try clear c11);(try clear h1);(try clear h2);(try clear h3);(try clear h16);(try clear h17);(try clear h18);(try clear h19);(try clear h20);(try clear h21);(try clear h22);(try clear h23);(try clear h24);(try clear h4);(try clear h5);(try clear h6);(try clear h7);(try clear h8);(try clear h9);(try clear h25);(try clear h26);(try clear h27);(try clear h28);(try clear h29);(try clear h30);(try clear h31);(try clear h32);(try clear h33);(try clear h10);(try clear h11);(try clear h12);(try clear p0);(try clear p1);obtain⟨x1,x2,rfl,HA,K0,O2,B0,B1,HB⟩:=hrel;generalize h34:a0++a2=x3 at *
     cases gk with
     |zero=>exact absurd HA.out (by simp[spec_ShaAdd.l0])
     |succ k1=>
      have H:=HA.out;clear HA;simp only[spec_ShaAdd.l0]at H
      by_cases c12:(wrap64 ((x3.size:Int)-x2))≥64
      ·rw[if_pos c12]at H;have f3:=decide_eq_true c12;clear c12
       replace H:=ifS_ H;obtain⟨c13,H⟩:=H;obtain⟨f4,f5⟩:=dT_ c13;clear c13
       replace H:=ifS_ H;obtain⟨c14,H⟩:=H;obtain⟨f6,f7⟩:=dT_ c14
       replace H:=ifS_ H;obtain⟨c15,H⟩:=H;obtain⟨f8,f9⟩:=dT_ c15;replace H:=bS_ H;obtain⟨t1,A2,H⟩:=H;(try dsimp only at H);have H':=Aside0.mk H;clear H;obtain⟨a3,o0,e0⟩:=Kd.R_slice O2.out;subst e0;go_wp2_with (first|((with_reducible refine gc_ 81 rfl ?_);refine gV 39 Tryz.func81 (spec_Compress.calls k1 _ _ x1 (x3.extract (x2:Int).toNat ((wrap64 (x2+64)):Int).toNat) t1 _ zz12 ((Kd.R_reads' O2.out).2.1) A2.out) ?_;rintro v6 w7 ⟨h35,hb⟩;have O3:=Aside0.mk (Kd.R_lower (Kd.R_new' h35 (Kd.R_lt (kr_ O2))) (below_size zb_));replace O2:=Aside0.mk (Kd.R_elder' (kr_ O2) (Kd.R_base h35) hb);replace B0:=Aside0.mk (blk_below (bk_ B0) hb);replace B1:=Aside0.mk (blk_below (bk_ B1) hb);replace HB:=Aside0.mk (below_step zb_ hb);(try clear hb);(try clear h35)))
       go_roundg k1
       (case measure=>have:=J0.out;have:=K0.out;omega);case rel=>exact⟨(t1),(wrap64 (x2+64)),zr_,H',⟨zz6⟩,⟨by(with_reducible repeat(first|apply Kd.R_alloc|apply Kd.R_drewN|apply Kd.R_drew));exact Kd.R_mono O3.out (fun _ hk=>trivial)⟩,⟨(bk_ B0)⟩,⟨(bk_ B1)⟩,⟨zb_⟩⟩
      ·rw[if_neg c12]at H;have f3:=decide_eq_false c12;clear c12
       replace H:=ifS_ H;obtain⟨c16,H⟩:=H;obtain⟨f10,f11⟩:=dT_ c16;clear c16
       replace H:=ifS_ H;obtain⟨c17,H⟩:=H;obtain⟨f12,f13⟩:=dT_ c17;simp only[Option.some.injEq,Prod.mk.injEq]at H;obtain⟨rfl,rfl,rfl⟩:=H;(try go_wp2);replace O2:=Aside0.mk (Kd.R_drew O2.out);replace B0:=Aside0.mk (blk_drew B0.out);replace B1:=Aside0.mk (blk_drew B1.out);replace HB:=Aside0.mk (below_drew1 HB.out);obtain⟨a4,o1,e1⟩:=Kd.R_slice O2.out;(first|subst e1|(injection e1 with f1_ f2_ f3_;have f4_:=f1_.symm;have f5_:=f3_.symm;clear f1_ f2_ f3_;subst f4_;subst f5_));refine st_ (n:=11) (S:=fun w'=>w'.cell? ⟨g0,0,none⟩=some (.slice A0 l1.length c0)∧w'.cell? ⟨g0,1,none⟩=some (.string a0)∧w'.cell? ⟨g0,2,none⟩=some (.int .i64 a1)) (ds:= []) (hold3_ B0.out) (fun hHeld=>?_);refine with_tabW spec_ShaAdd.tab9 spec_ShaAdd.bits9 (fun HT_ HW_=>?_);generalize wr.drew=w8 at O2 B0 B1 HB hHeld ⊢;refine pz 0 42 ?_;refine pz 1 43 ?_;refine pz 2 44 ?_;refine pz 3 45 ?_;refine pz 4 46 ?_;refine pz 6 48 ?_;refine pz 7 49 ?_;refine tk2_ 5 47 hHeld ?_;refine pz 8 50 ?_;refine pz 9 51 ?_;refine one_ (i:=10) (N:=none) #[true,true,true,true,true,true,true,true,true,true,true] rfl rfl (one_of HT_.out zz0) zz2 (fun K hK=>?_);have h36:w8.cell? ⟨g1,0,none⟩=some (.slice none 0 0):=(blk_cell B1.out 0).trans rfl;have h37:=blk_frozen B1.out 0;have n8:=N0.out;have n9:=N1.out;have h38:w8.cell? ⟨g1,1,none⟩=some (.string (⟨#[]⟩:ByteArray)):=(blk_cell B1.out 1).trans rfl;have h39:=blk_frozen B1.out 1;have n10:=N0.out;have n11:=N1.out;have h40:w8.cell? ⟨g1,2,none⟩=some (.int .i64 0):=(blk_cell B1.out 2).trans rfl;have h41:=blk_frozen B1.out 2;have n12:=N0.out;have n13:=N1.out;refine skip_ (w1:=?_) (by rfl) rfl ?_ ?_;rotate_left
       ·go_simp;rfl
       refine hK.out _ _ ⟨((cell_far (p:=⟨g1,_,none⟩) N0.out _).trans (((cell_far (p:=⟨g1,_,none⟩) N0.out _).trans (((cell_far (p:=⟨g1,_,none⟩) N0.out _).trans (hHeld.1)))))),((cell_far (p:=⟨g1,_,none⟩) N0.out _).trans (((cell_far (p:=⟨g1,_,none⟩) N0.out _).trans (((cell_far (p:=⟨g1,_,none⟩) N0.out _).trans (hHeld.2.1)))))),((cell_far (p:=⟨g1,_,none⟩) N0.out _).trans (((cell_far (p:=⟨g1,_,none⟩) N0.out _).trans (((cell_far (p:=⟨g1,_,none⟩) N0.out _).trans (hHeld.2.2))))))⟩ (fun hHeld=>?_);clear hK K;refine done_ (done_of HT_.out zz0) ?_;(try go_wp2);refine bodyPost_ret (results_cell_row rfl _ _ g1 71 #[.slice a4 x1.length o1,.string (x3.extract (x2:Int).toNat x3.size),.int .i64 (wrap64 (a1+(a2.size:Int)))] (0,0) _ rfl (bk_ B1) Tryz.underlying71 rfl zz0) rfl ?_;exact⟨_,ze_,by(with_reducible repeat(first|apply Kd.R_alloc|apply Kd.R_drewN|apply Kd.R_drew));exact Kd.R_mono (Kd.R_far (p:=⟨g1,2,none⟩) (Kd.R_far (p:=⟨g1,1,none⟩) (Kd.R_far (p:=⟨g1,0,none⟩) (Kd.R_types O2.out B1.out zz2) (fun _ hk=>hk.2) (.slice a4 x1.length o1)) (fun _ hk=>hk.2) (.string (x3.extract (x2:Int).toNat x3.size))) (fun _ hk=>hk.2) (.int .i64 (wrap64 (a1+(a2.size:Int))))) (fun _ hk=>trivial),zb_⟩
def spec_ShaNew.f:Option (List Int×ByteArray×Int):=some ((([1732584193,4023233417,2562383102,271733878,3285377520]:List Int)),(⟨#[]⟩:ByteArray),0)
theorem spec_ShaNew.calls (r1:List Int) (r2:ByteArray) (r3:Int) (w:World) (H:spec_ShaNew.f=some (r1,r2,r3)):
  Calls Tryz.prog 57 #[] w fun e w'=> ∃v0:Value,e= .returned (.agg #[v0,.string r2,.int .i64 r3])∧Kd.R (Kd.int .i64) 3 w' w.heap.size (fun _=>True) v0 r1∧Below w.heap.size w w':=by
 have hu71:=Tryz.underlying71;have HB:=Aside0.mk (Below.refl w.heap.size w);unfold spec_ShaNew.f at H;generalize h0:(([1732584193,4023233417,2562383102,271733878,3285377520]:List Int):List Int)=y0 at H;have Y0:=Aside0.mk h0.symm;clear h0;simp only[Option.some.injEq,Prod.mk.injEq]at H;obtain⟨rfl,rfl,rfl⟩:=H;go_enter Tryz.func57,Tryz.ntmps57
 go_wp2_with (first|((with_reducible refine gate_dst (N:=0) rfl ?_);refine boxP_ (N:=0) (cs:= #[.slice none 0 0,.string (⟨#[]⟩:ByteArray),.int .i64 0]) (t:=71) ?_;intro g0 hg w0 hbox hb;have B0:=Aside0.mk (hbox);have G0:=geb_ (w:=w) hg zb_;replace HB:=Aside0.mk (below_step zb_ hb);clear hb hbox hg)|((with_reducible refine gate_dst (N:=1) rfl ?_);refine Kd.R_lit (Kd.int .i64) _ 3 ?hg (N:=1) ?hd (xs:=([1732584193,4023233417,2562383102,271733878,3285377520]:List Int)) (inner:= [.int .i64 1732584193,.int .i64 4023233417,.int .i64 2562383102,.int .i64 271733878,.int .i64 3285377520]) (ok:=fun _=>True) (okp:=fun _=>True) ?hr ?hp (fun _ hk=>hk) trivial (Below.refl _ _) (Nat.le_refl _) (by simp) ?_;(case hd=>rfl);(case hg=>rfl);(case hr=>first|(go_simp;done)|(go_simp;rfl));(case hp=>exact(Reps.one (show Kd.M (Kd.int .i64) _ _ _ 1732584193 [.int .i64 1732584193]from rfl) (Reps.one (show Kd.M (Kd.int .i64) _ _ _ 4023233417 [.int .i64 4023233417]from rfl) (Reps.one (show Kd.M (Kd.int .i64) _ _ _ 2562383102 [.int .i64 2562383102]from rfl) (Reps.one (show Kd.M (Kd.int .i64) _ _ _ 271733878 [.int .i64 271733878]from rfl) (Reps.one (show Kd.M (Kd.int .i64) _ _ _ 3285377520 [.int .i64 3285377520]from rfl) (Reps.none _ _)))))));intro v1 w1 h1 hb hg_ hnew_;clear hg_ hnew_;(first|rw[←Y0.out]at h1|(simp only[Int.reduceToNat]at h1;rw[←Y0.out]at h1));have O0:=Aside0.mk (Kd.R_lower h1 (below_size zb_));replace B0:=Aside0.mk (blk_below (bk_ B0) hb);replace HB:=Aside0.mk (below_step zb_ hb);clear hb h1;obtain⟨a0,o0,e0⟩:=Kd.R_slice O0.out;subst e0;obtain⟨_,_,_,_,_,_⟩:=cells3_ B0.out))
 refine bodyPost_ret (results_cell_row rfl _ _ g0 71 #[.slice a0 y0.length o0,.string (⟨#[]⟩:ByteArray),.int .i64 0] (0,0) _ rfl (bk_ B0) Tryz.underlying71 rfl zz0) rfl ?_;exact⟨_,ze_,by(with_reducible repeat(first|apply Kd.R_alloc|apply Kd.R_drewN|apply Kd.R_drew));exact Kd.R_mono (Kd.R_far (p:=⟨g0,2,none⟩) (Kd.R_far (p:=⟨g0,1,none⟩) (Kd.R_far (p:=⟨g0,0,none⟩) (Kd.R_types O0.out B0.out zz2) (fun _ hk=>hk.2) (.slice a0 y0.length o0)) (fun _ hk=>hk.2) (.string (⟨#[]⟩:ByteArray))) (fun _ hk=>hk.2) (.int .i64 0)) (fun _ hk=>trivial),zb_⟩
def spec_Sha1.f (k:Nat) (a0:ByteArray):Option (ByteArray):=(spec_ShaNew.f).bind fun b0=>((spec_ShaAdd.f k b0.1 b0.2.1 b0.2.2 a0).bind fun b1=>((spec_ShaEnd.f k b1.1 b1.2.1 b1.2.2).bind fun t0=>(some t0)))
theorem spec_Sha1.calls (k:Nat) (a0 r:ByteArray) (w:World) (H:spec_Sha1.f k a0=some r):
  Calls Tryz.prog 38 #[.string a0] w fun e w'=>e= .returned (.string r)∧Below w.heap.size w w':=by
 have HB:=Aside0.mk (Below.refl w.heap.size w);unfold spec_Sha1.f at H;replace H:=bS_ H;obtain⟨⟨t0,t1,t2⟩,A0,H⟩:=H;(try dsimp only at H);replace H:=bS_ H;obtain⟨⟨t3,t4,t5⟩,A1,H⟩:=H;(try dsimp only at H);replace H:=bS_ H;obtain⟨t6,A2,H⟩:=H;(try dsimp only at H);obtain rfl:=Option.some.inj H;go_enter Tryz.func38,Tryz.ntmps38
 go_wp2_with (first|((with_reducible refine gc_ 57 rfl ?_);refine gV 3 Tryz.func57 (spec_ShaNew.calls t0 t1 t2 _ A0.out) ?_;rintro v0 w0 ⟨h0,hb⟩;have O0:=Aside0.mk (Kd.R_lower h0 (below_size zb_));replace HB:=Aside0.mk (below_step zb_ hb);(try clear hb);(try clear h0);obtain⟨a1,o0,e0⟩:=Kd.R_slice O0.out;subst e0)|((with_reducible refine gc_ 56 rfl ?_);refine gV 5 Tryz.func56 (spec_ShaAdd.calls k _ _ t0 t1 t2 a0 t3 t4 t5 _ zz11 ((Kd.R_reads' O0.out).2.1) A1.out) ?_;rintro v1 w1 ⟨h0,hb⟩;have O1:=Aside0.mk (Kd.R_lower (Kd.R_new' h0 (Kd.R_lt (kr_ O0))) (below_size zb_));replace O0:=Aside0.mk (Kd.R_elder' (kr_ O0) (Kd.R_base h0) hb);replace HB:=Aside0.mk (below_step zb_ hb);(try clear hb);(try clear h0);obtain⟨a2,o1,e1⟩:=Kd.R_slice O1.out;subst e1)|((with_reducible refine gc_ 55 rfl ?_);refine gR 6 Tryz.func55 (spec_ShaEnd.calls k _ _ t3 t4 t5 t6 _ zz10 ((Kd.R_reads' O1.out).2.1) A2.out) ?_;rintro w2 hb;replace O0:=Aside0.mk (Kd.R_below (kr_ O0) hb);replace O1:=Aside0.mk (Kd.R_below (kr_ O1) hb);replace HB:=Aside0.mk (below_step zb_ hb);(try clear hb)))
 go_ret;exact⟨ze_,zb_⟩
def spec_Label.f (k:Nat) (a0:ByteArray):Option (ByteArray):=(spec_Sha1.f k a0).bind fun t0=>((spec_Base32.f k t0).bind fun t1=>(if 5+t1.size≤9223372036854775807 then(some ((⟨#[115,104,97,49,58]⟩:ByteArray)++t1))else(none)))
theorem spec_Label.calls (k:Nat) (a0 r:ByteArray) (w:World) (H:spec_Label.f k a0=some r):
  Calls Tryz.prog 15 #[.string a0] w fun e w'=>e= .returned (.string r)∧Below w.heap.size w w':=by
 have HB:=Aside0.mk (Below.refl w.heap.size w);unfold spec_Label.f at H;replace H:=bS_ H;obtain⟨t0,A0,H⟩:=H;(try dsimp only at H);replace H:=bS_ H;obtain⟨t1,A1,H⟩:=H;(try dsimp only at H)
 replace H:=ifS_ H;obtain⟨c0,H⟩:=H;obtain⟨f0,f1⟩:=dT_ c0;(try have f2:=eq_false (Nat.not_lt.2 c0));obtain rfl:=Option.some.inj H;go_enter Tryz.func15,Tryz.ntmps15
 go_wp2_with (first|((with_reducible refine gc_ 38 rfl ?_);refine gR 4 Tryz.func38 (spec_Sha1.calls k a0 t0 _ A0.out) ?_;rintro w0 hb;replace HB:=Aside0.mk (below_step zb_ hb);(try clear hb))|((with_reducible refine gc_ 37 rfl ?_);refine gR 5 Tryz.func37 (spec_Base32.calls k t0 t1 _ A1.out) ?_;rintro w1 hb;replace HB:=Aside0.mk (below_step zb_ hb);(try clear hb)))
 go_ret;exact⟨ze_,zb_⟩
def spec_l1five.j0:Nat→Int→Bool→Option (Int)
 |0,_,_=>none
 |k+1,x0,x1=>if x1=true then(some ((x0-65)%256))else(if x0≥50 then(if x0≤55 then(some (((x0-50)%256)+26))else(some (-1)))else(some (-1)))
def spec_l1five.f (k:Nat) (a0:Int):Option (Int):=if a0≥65 then(spec_l1five.j0 k a0 (decide (a0≤90)))else(spec_l1five.j0 k a0 false)
theorem spec_l1five.calls (k:Nat) (a0 r:Int) (w:World) (H:spec_l1five.f k a0=some r):
  Calls Tryz.prog 58 #[.int .u8 a0] w fun e w'=>e= .returned (.int .i64 r)∧Drawn0 w w':=by
 unfold spec_l1five.f at H;have C0:=Aside0.mk H;clear H;go_enter Tryz.func58,Tryz.ntmps58
 go_upto_region 1 with(fail)
 go_cut [8] (fun v0 wc=> ∃(kq:Nat) (x0:Bool),v0= .bool x0∧Aside0 (spec_l1five.j0 kq a0 x0=some r)∧Aside0 (kq≤k)∧Drawn0 w wc)
 case first=>
  have H:=C0.out;clear C0
  by_cases c0:a0≥65
  ·rw[if_pos c0]at H;have f0:=decide_eq_true c0;clear c0;(first|rw[f0]|(simp only[i64_w,i32_w];rw[f0])|skip);have H':=Aside0.mk H;clear H;go_wp2
   go_meet
   case rel=>exact⟨_,(decide (a0≤90)),zr_,H',⟨zo_⟩,zd_⟩
  ·rw[if_neg c0]at H;have f0:=decide_eq_false c0;clear c0;(first|rw[f0]|(simp only[i64_w,i32_w];rw[f0])|skip);have H':=Aside0.mk H;clear H;go_wp2
   go_meet
   case rel=>exact⟨_,(false),zr_,H',⟨zo_⟩,zd_⟩
 case rest=>
  clear C0;(try clear p0);(try clear c0);(try clear f0);obtain⟨kq,x0,rfl,HA,J0,⟨mc1,rfl⟩⟩:=hcut
  cases kq with
  |zero=>exact absurd HA.out (by simp[spec_l1five.j0])
  |succ k0=>
   have H:=HA.out;clear HA;simp only[spec_l1five.j0]at H
   by_cases c1:x0=true
   ·subst c1;rw[if_pos rfl]at H;obtain rfl:=Option.some.inj H;go_wp2
    go_ret;exact⟨zr_,zd_⟩
   ·replace c1:=Bool.eq_false_iff.mpr c1;subst c1;rw[if_neg Bool.false_ne_true]at H
    by_cases c2:a0≥50
    ·rw[if_pos c2]at H;have f1:=decide_eq_true c2;clear c2
     by_cases c3:a0≤55
     ·rw[if_pos c3]at H;have f2:=decide_eq_true c3;clear c3;obtain rfl:=Option.some.inj H;go_wp2
      go_ret;exact⟨zr_,zd_⟩
     ·rw[if_neg c3]at H;have f2:=decide_eq_false c3;clear c3;obtain rfl:=Option.some.inj H;go_wp2
      go_ret;exact⟨zr_,zd_⟩
    ·rw[if_neg c2]at H;have f1:=decide_eq_false c2;clear c2;obtain rfl:=Option.some.inj H;go_wp2
     go_ret;exact⟨zr_,zd_⟩
end Go.Proofs.YthmehmehoehlpaaGreatDoor.GFnExactRecText
