-- Laid by gen.py of this session (over the kit's printing program): what the law FnWiths reaches, as Lean functions, and that Go comes to just that.
import Derived.Test.YtkkolioolgpljaaGFnWithsx0
import Derived.Test.YtkkolioolgpljaaGFnWithsx1
import Derived.Test.YtkkolioolgpljaaGFnWithsx2
import Derived.Test.YtkkolioolgpljaaGFnWithsx3
import Derived.Test.YtkkolioolgpljaaZFnWiths
namespace Go.Proofs.Ytkkolioolgpljaa.GFnWiths
open Go.RowKit Go.Proofs.YtkkolioolgpljaaW.PrintWords Go.Proofs.YtkkolioolgpljaaW.PrintLast Go.Proofs.YtkkolioolgpljaaW.PrintMore Go.Proofs.YtkkolioolgpljaaW.Zs
attribute [local go_sem] max2_int min2_int max_two min_two max_three min_three max_four min_four -- for this text's walks alone
set_option linter.unusedVariables false
set_option linter.unusedSimpArgs false
attribute [local go_sem high] eqA24
/-! ### impl_Elements: function 62 -/
def impl_Elements.add (k:Nat) (xs:List ByteArray) (x:ByteArray):Option (List ByteArray):=(impl_Trim.f k x).bind fun t=>(if t.toList=([]:List UInt8)then some xs else if xs.length<8796093022208 then some (xs++ [t])else none)
def impl_Elements.l0:Nat→ByteArray→List ByteArray→Int→Bool→Int→Option (List ByteArray)
 |0,_,_,_,_,_=>none
 |k+1,s,out,fr,q,i=>if i<(s.size:Int)then(if 0≤i then(if bt s i=34 then impl_Elements.l0 k s out fr (!q) (wrap64 (i+1))else(if q=true then(if bt s i=92 then impl_Elements.l0 k s out fr true (wrap64 (wrap64 (i+1)+1))else impl_Elements.l0 k s out fr true (wrap64 (i+1)))else(if bt s i=44 then(if 0≤fr then(if fr≤i then(impl_Elements.add k out (s.extract fr.toNat i.toNat)).bind fun o=>impl_Elements.l0 k s o (wrap64 (i+1)) false (wrap64 (i+1))else none)else none)else impl_Elements.l0 k s out fr false (wrap64 (i+1)))))else none)else(if 0≤fr then(if fr≤(s.size:Int)then impl_Elements.add k out (s.extract fr.toNat s.size)else none)else none)
def impl_Elements.f (k:Nat) (a0:ByteArray):Option (List ByteArray):=if(a0.size:Int)>4000 then some []else impl_Elements.l0 k a0 [] 0 false 0
theorem impl_Elements.mono_a: ∀xs x k,LeO (impl_Elements.add k xs x) (impl_Elements.add (k+1) xs x):=by
 intro xs x k;unfold impl_Elements.add
 repeat' first|(with_reducible first|exact impl_Trim.mono _ _|exact LeO.refl _|refine LeO.ite ?_ ?_|refine LeO.bind ?_ (fun _=>?_))
set_option maxHeartbeats 8000000 in
set_option maxRecDepth 100000 in
theorem impl_Elements.add_calls (k : Nat) (x : ByteArray) (g : Nat) (v : Value) (xs r : List ByteArray) (w0 w : World) (hg : w.heap[g]? = some (.cells #[v] 36 (0, 0))) (hR : Kd.R Kd.string 9 w w0.heap.size (fun j => j ≠ g) v xs) (HB0 : Below w0.heap.size w0 w) (hgb : w0.heap.size ≤ g) (h : impl_Elements.add k xs x = some r) :
  Calls Try.prog 71 #[.string x,.pointer (some ⟨g,0,none⟩)] w fun e w'=>e= .returned (.tuple #[])∧ ∃v',w'.heap[g]?=some (.cells #[v'] 36 (0,0))∧Kd.R Kd.string 9 w' w0.heap.size (fun j=>j≠g) v' r∧Below w0.heap.size w0 w':=by
 unfold impl_Elements.add at h;obtain⟨t,hT,h⟩:=Option.bind_eq_some_iff.mp h;(try dsimp only at h);have A1:=Aside0.mk hT;clear hT;have BK:=Aside0.mk hg;have HR:=Aside0.mk hR;have HB:=Aside0.mk HB0;have GE:=Aside0.mk hgb;have hcz:w.cell? ⟨g,0,none⟩=some v:=(blk_cell BK.out 0).trans rfl;have hfz:=blk_frozen BK.out 0;clear hg hR HB0 hgb
 by_cases c2:t.toList=([]:List UInt8)
 ·rw[if_pos c2]at h;obtain rfl:=Option.some.inj h;have c2b0:(t.toList==([]:List UInt8))=true:=beq_iff_eq.mpr c2;have c2b1:(t.toList !=([]:List UInt8))=false:=bne_eq_false_iff_eq.mpr c2;have c2e:t.toList.isEmpty=true:=by rw[c2];rfl
  clear c2;go_enter Try.func71,Try.ntmps71
  go_wp2_with (go_at_call 28;(with_reducible refine(impl_Trim.calls k x t _ A1.out).mono ?_);rintro e w' ⟨rfl,⟨nd,rfl⟩⟩)
  go_end0
  exact⟨rfl,v,BK.out,Kd.R_drewN HR.out _,pw_below_drewN HB.out _⟩
 ·rw[if_neg c2]at h
  by_cases c3:xs.length<8796093022208
  ·rw[if_pos c3]at h;obtain rfl:=Option.some.inj h;have c2b0:(t.toList==([]:List UInt8))=false:=beq_eq_false_iff_ne.mpr c2;have c2b1:(t.toList !=([]:List UInt8))=true:=bne_iff_ne.mpr c2;have c2e:t.toList.isEmpty=false:=by cases hz_:t.toList with|nil=>exact absurd hz_ c2|cons _ _=>rfl
   have LM:=Aside0.mk c3;clear c2 c3;go_enter Try.func71,Try.ntmps71
   go_wp2_with (first
    |(go_at_call 28;(with_reducible refine(impl_Trim.calls k x t _ A1.out).mono ?_);rintro e w' ⟨rfl,⟨nd,rfl⟩⟩)
    |((with_reducible refine gate_builtin (b:= .append) (xs:= #[.tmp 7,.tmp 9]) rfl ?_);at_builtin;refine Kd.R_append Kd.string (w0:=w0) w0.heap.size rfl (.tmp 7) (.tmp 9) 36 9 (.string ⟨#[]⟩) 16 rfl Try.underlying36 (by kernel_rfl) rfl (by decide) (by omega) v xs t [.string t] (fun j=>j≠g) (fun _=>False) rfl rfl ?aP (fun _ hk=>hk.elim) ?aF ?aO ?aB ?aS ?aL ?_;(case aP=>exact rfl);(case aB=>exact(by repeat(first|exact HB.out|apply below_alloc|apply pw_below_drewN|apply below_drew1)));(case aF=>exact(fun j hj=>Nat.ne_of_gt (Nat.lt_of_lt_of_le (blk_lt BK.out) hj)));(case aO=>exact(by(with_reducible repeat(first|apply Kd.R_alloc|apply Kd.R_drewN|apply Kd.R_drew));exact HR.out));(case aS=>exact(below_size (by repeat(first|exact HB.out|apply below_alloc|apply pw_below_drewN|apply below_drew1))));(case aL=>have:=LM.out;omega);intro v1 w1 ho hb hg hat;obtain⟨Ao,co,eo⟩:=Kd.R_slice ho;subst eo;have BK1:=Aside0.mk (blk_grown (g:=g) (o:= .cells #[v] 36 (0,0)) (by(with_reducible repeat(first|refine blk_drewN ?_ _|refine blk_drew ?_|refine blk_alloc ?_ _));exact BK.out) hg (fun e=>HR.out.1 g e.symm rfl));have HO1:=Aside0.mk ho;have HB1:=Aside0.mk hb;clear ho hb hg hat;have hcz1:w1.cell? ⟨g,0,none⟩=some v:=(blk_cell BK1.out 0).trans rfl;have hfz1:=blk_frozen BK1.out 0))
   go_end0
   exact⟨rfl,_,blk_put (cs:= #[v]) BK1.out 0 _ rfl,(by have h5:=Kd.R_far (p:=⟨g,0,none⟩) HO1.out (fun _ hk=>hk) (Value.slice Ao (xs.length+1) co);rw[List.length_append,List.length_singleton]at h5;exact h5),below_set HB1.out GE.out⟩
  ·rw[if_neg c3]at h;cases h
set_option maxHeartbeats 8000000 in
set_option maxRecDepth 100000 in
theorem impl_Elements.calls (k : Nat) (a0 : ByteArray) (r : List ByteArray) (w : World) (h : impl_Elements.f k a0 = some r) :
  Calls Try.prog 62 #[.string a0] w fun e w'=> ∃v0_:Value,e= .returned (v0_)∧Kd.R Kd.string 9 w' w.heap.size (fun _=>True) v0_ r∧Below w.heap.size w w':=by
 unfold impl_Elements.f at h
 by_cases c1:(a0.size:Int)>4000
 ·rw[if_pos c1]at h;obtain rfl:=Option.some.inj h;have c1b0:decide (4000<(a0.size:Int))=true:=decide_eq_true c1;have c1b1:decide (4000<a0.size)=true:=decide_eq_true (by omega);clear c1 h;go_enter Try.func62,Try.ntmps62
  go_wp2
  go_ret;exact⟨_,rfl,Kd.R_nil _ _ _ _ _,Below.refl _ _⟩
 ·rw[if_neg c1]at h;have c1b0:decide (4000<(a0.size:Int))=false:=decide_eq_false c1;have c1b1:decide (4000<a0.size)=false:=decide_eq_false (by omega);have H':=Aside0.mk h;clear c1 h;go_enter Try.func62,Try.ntmps62
  go_wp2_with (first|((with_reducible refine gate_dst (N:=3) rfl ?_);refine boxP_ (N:=3) (cs:= #[.slice none 0 0]) (t:=36) ?_;intro g hg w1 hbox hb;have HB0:=Aside0.mk (below_step (Below.refl w.heap.size w) hb);have BK0:=Aside0.mk hbox;have GE:=Aside0.mk (show w.heap.size≤g by rw[hg];exact Nat.le_refl _);clear hb hbox hg))
  go_loopg [5,6,7] k (fun kq v5 v6 v7 w'=> ∃(fr i:Int) (q:Bool) (out:List ByteArray) (v:Value),v5= .int .i64 fr∧v6= .bool q∧v7= .int .i64 i∧Aside0 (impl_Elements.l0 kq a0 out fr q i=some r)∧Aside0 (w'.heap[g]?=some (.cells #[v] 36 (0,0)))∧Aside0 (Kd.R Kd.string 9 w' w.heap.size (fun j=>j≠g) v out)∧Aside0 (Below w.heap.size w w'))
  case atStart=>exact⟨0,0,false,[],.slice none 0 0,rfl,rfl,rfl,H',BK0,⟨Kd.R_nil _ _ _ _ _⟩,HB0⟩
  case round=>
   clear H' BK0 HB0;obtain⟨fr,i,q,out,v,rfl,rfl,rfl,HA,BK1,HR,HB1⟩:=hrel
   cases gk with
   |zero=>exact absurd HA.out (by simp[impl_Elements.l0])
   |succ k1=>
    have H:=HA.out;clear HA;simp only[impl_Elements.l0]at H;have hcz:wr.cell? ⟨g,0,none⟩=some v:=(blk_cell BK1.out 0).trans rfl;have hfz:=blk_frozen BK1.out 0
    by_cases c3:i<(a0.size:Int)
    ·rw[if_pos c3]at H;have c3b0:decide (i<(a0.size:Int))=true:=decide_eq_true c3
     by_cases c4:0≤i
     ·rw[if_pos c4]at H;have c4b0:decide (0≤i)=true:=decide_eq_true c4;have p4:=eq_true c4;have q4:=eq_true c3;have q5:(i≤(a0.size:Int))=True:=eq_true (Int.le_of_lt c3);have hx4:=bt_at a0 i;clear c3 c4
      by_cases c5:bt a0 i=34
      ·rw[if_pos c5]at H;have c5b0:(bt a0 i==34)=true:=beq_iff_eq.mpr c5;have H':=Aside0.mk H;clear H c5;go_wp2
       go_roundg k1
       (case measure=>omega);case rel=>exact⟨fr,wrap64 (i+1),!q,out,v,rfl,zz6,zz6,H',⟨zz48⟩,⟨zz49⟩,⟨zz51⟩⟩
      ·rw[if_neg c5]at H;have c5b0:(bt a0 i==34)=false:=beq_eq_false_iff_ne.mpr c5;clear c5
       cases q with
       |true=>
        rw[if_pos rfl]at H
        by_cases c6:bt a0 i=92
        ·rw[if_pos c6]at H;have c6b0:(bt a0 i==92)=true:=beq_iff_eq.mpr c6;have H':=Aside0.mk H;clear H c6;go_wp2
         go_roundg k1
         (case measure=>omega);case rel=>exact⟨fr,wrap64 (wrap64 (i+1)+1),true,out,v,rfl,zz6,zz6,H',⟨zz48⟩,⟨zz49⟩,⟨zz51⟩⟩
        ·rw[if_neg c6]at H;have c6b0:(bt a0 i==92)=false:=beq_eq_false_iff_ne.mpr c6;have H':=Aside0.mk H;clear H c6;go_wp2
         go_roundg k1
         case measure=>omega
         case rel=>exact⟨fr,wrap64 (i+1),true,out,v,rfl,zz6,zz6,H',⟨zz48⟩,⟨zz49⟩,⟨zz51⟩⟩
       |false=>
        rw[if_neg Bool.false_ne_true]at H
        by_cases c7:bt a0 i=44
        ·rw[if_pos c7]at H;have c7b0:(bt a0 i==44)=true:=beq_iff_eq.mpr c7;clear c7
         by_cases c8:0≤fr
         ·rw[if_pos c8]at H
          by_cases c9:fr≤i
          ·rw[if_pos c9]at H;obtain⟨o,hadd,H⟩:=Option.bind_eq_some_iff.mp H;(try dsimp only at H);have HADD:=Aside0.mk hadd;have H':=Aside0.mk H;have p8:=eq_true c8;have p9:=eq_true c9;clear H hadd c8 c9;go_wp2_with (first|(go_at_call 71;(with_reducible refine(impl_Elements.add_calls k1 (a0.extract fr.toNat i.toNat) g v out o w _ ?s1 ?s2 ?s3 GE.out HADD.out).mono ?_);(case s1=>(with_reducible repeat(first|refine blk_drewN ?_ _|refine blk_drew ?_));exact BK1.out);(case s2=>(with_reducible repeat(first|apply Kd.R_drewN|apply Kd.R_drew));exact HR.out);(case s3=>repeat(first|exact HB1.out|apply pw_below_drewN|apply below_drew1));rintro e w2 ⟨rfl,v2,hg2,hR2,hB2⟩;obtain⟨Ao,co,eo⟩:=Kd.R_slice hR2;subst eo;have BK2:=Aside0.mk hg2;have HR2:=Aside0.mk hR2;have HB2:=Aside0.mk hB2;clear hg2 hR2 hB2;have hcz2:w2.cell? ⟨g,0,none⟩=some (.slice Ao o.length co):=(blk_cell BK2.out 0).trans rfl;have hfz2:=blk_frozen BK2.out 0))
           go_roundg k1
           (case measure=>omega);case rel=>exact⟨wrap64 (i+1),wrap64 (i+1),false,o,.slice Ao o.length co,zz6,zz6,zz6,H',⟨by(with_reducible repeat(first|refine blk_drewN ?_ _|refine blk_drew ?_));exact BK2.out⟩,⟨by(with_reducible repeat(first|apply Kd.R_drewN|apply Kd.R_drew));exact HR2.out⟩,⟨by repeat(first|exact HB2.out|apply pw_below_drewN|apply below_drew1)⟩⟩
          ·rw[if_neg c9]at H;cases H
         ·rw[if_neg c8]at H;cases H
        ·rw[if_neg c7]at H;have c7b0:(bt a0 i==44)=false:=beq_eq_false_iff_ne.mpr c7;have H':=Aside0.mk H;clear H c7;go_wp2
         go_roundg k1
         (case measure=>omega);case rel=>exact⟨fr,wrap64 (i+1),false,out,v,rfl,zz6,zz6,H',⟨zz48⟩,⟨zz49⟩,⟨zz51⟩⟩
     ·rw[if_neg c4]at H;cases H
    ·rw[if_neg c3]at H;have c3b0:decide (i<(a0.size:Int))=false:=decide_eq_false c3;clear c3
     by_cases c8:0≤fr
     ·rw[if_pos c8]at H
      by_cases c9:fr≤(a0.size:Int)
      ·rw[if_pos c9]at H;have HADD:=Aside0.mk H;have p8:=eq_true c8;have p9:=eq_true c9;clear H c8 c9;go_wp2_with (first|(go_at_call 71;(with_reducible refine(impl_Elements.add_calls k1 (a0.extract fr.toNat a0.size) g v out r w _ ?s1 ?s2 ?s3 GE.out HADD.out).mono ?_);(case s1=>(with_reducible repeat(first|refine blk_drewN ?_ _|refine blk_drew ?_));exact BK1.out);(case s2=>(with_reducible repeat(first|apply Kd.R_drewN|apply Kd.R_drew));exact HR.out);(case s3=>repeat(first|exact HB1.out|apply pw_below_drewN|apply below_drew1));rintro e w2 ⟨rfl,v2,hg2,hR2,hB2⟩;obtain⟨Ao,co,eo⟩:=Kd.R_slice hR2;subst eo;have BK2:=Aside0.mk hg2;have HR2:=Aside0.mk hR2;have HB2:=Aside0.mk hB2;clear hg2 hR2 hB2;have hcz2:w2.cell? ⟨g,0,none⟩=some (.slice Ao r.length co):=(blk_cell BK2.out 0).trans rfl;have hfz2:=blk_frozen BK2.out 0))
       go_ret;exact⟨_,rfl,by(with_reducible repeat(first|apply Kd.R_drewN|apply Kd.R_drew));exact Kd.R_mono HR2.out (fun _ _=>trivial),by repeat(first|exact HB2.out|apply pw_below_drewN|apply below_drew1)⟩
      ·rw[if_neg c9]at H;cases H
     ·rw[if_neg c8]at H;cases H
/-! ### strings_Join: function 72 -/
def strings_Join.f (l0:List ByteArray) (a1:ByteArray):Option (ByteArray):=if l0.length≤1099511627776∧(Lib.join (l0.map (·.data.toList)) a1.data.toList).length≤1099511627776 then some ⟨(Lib.join (l0.map (·.data.toList)) a1.data.toList).toArray⟩else none
theorem strings_Join.calls (A0 : Option Addr) (c0 : Nat) (l0 : List ByteArray) (a1 : ByteArray) (r : ByteArray) (w : World) (hr0 : Kd.C Kd.string w A0 l0.length l0) (hc0 : l0.length ≤ c0) (h : strings_Join.f l0 a1 = some r) :
  Calls Try.prog 72 #[.slice A0 l0.length c0,.string a1] w fun e w'=>e= .returned (.string r)∧Below w.heap.size w w':=by
 unfold strings_Join.f at h
 by_cases hs:l0.length≤1099511627776∧(Lib.join (l0.map (·.data.toList)) a1.data.toList).length≤1099511627776
 ·rw[if_pos hs]at h;obtain rfl:=Option.some.inj h
  rcases Nat.eq_zero_or_pos l0.length with h0|h0
  ·obtain rfl:=List.eq_nil_of_length_eq_zero h0;exact(Try.strings_Join_none A0 c0 a1 w).mono fun e w' ⟨he,hw⟩=>⟨he,hw ▸ Below.refl _ _⟩
  ·obtain⟨ad,rfl,hcell⟩:=Kd.at_string hr0 0 (by omega) (by omega);have hsp:=World.cell?_spot hcell;have hlt:=World.block_lt_of_cell? w _ hcell;obtain⟨bk,o,sp⟩:=ad;obtain rfl:sp=none:=by simpa [Addr.add]using hsp
   refine Try.strings_Join bk o c0 l0 a1 w (fun j x hj=>?_) (by simpa [Addr.add]using hlt) (by omega) hc0 (by omega);have hjl:j<l0.length:=(List.getElem?_eq_some_iff.1 hj).1;obtain⟨ad,had,hc⟩:=Kd.at_string hr0 (j:Int) (by omega) (by omega);obtain rfl:=Option.some.inj had
   rcases Nat.eq_zero_or_pos j with rfl|hj0
   ·simpa [Addr.add,rdOf,List.getD_eq_getElem?_getD,hj]using hc
   ·have hne:j≠0:=by omega
    simpa [Addr.add,rdOf,List.getD_eq_getElem?_getD,hj,hne]using hc
 ·rw[if_neg hs]at h;cases h
/-! ### impl_Joined: function 63 -/
def impl_Joined.f (k:Nat) (l0:List (S24)) (a1:ByteArray):Option (ByteArray):=(impl_Values.f k l0 a1).bind fun t138=>((strings_Join.f t138 (⟨#[44,32]⟩:ByteArray)).bind fun t141=>(some t141))
set_option maxHeartbeats 40000000 in
set_option maxRecDepth 100000 in
theorem impl_Joined.calls (k : Nat) (A0 : Option Addr) (c0 : Nat) (l0 : List (S24)) (a1 : ByteArray) (r : ByteArray) (w : World) (hr0 : Kd.C k24 w A0 l0.length l0) (hc0 : l0.length ≤ c0) (h : impl_Joined.f k l0 a1 = some r) :
  Calls Try.prog 63 #[.slice A0 l0.length c0,.string a1] w fun e w'=>e= .returned (.string r)∧Below w.heap.size w w':=by
 have HR0:=Aside0.mk hr0;have HC0:=Aside0.mk hc0;clear hr0 hc0;have HB:=Aside0.mk (Below.refl w.heap.size w);have H:((impl_Values.f k l0 a1).bind fun t138=>((strings_Join.f t138 (⟨#[44,32]⟩:ByteArray)).bind fun t141=>(some t141)))=some r:=h;clear h;replace H:=Option.bind_eq_some_iff.mp H;obtain⟨t138,A30,H⟩:=H;(try dsimp only at H);have A3:=Aside0.mk A30;clear A30;replace H:=Option.bind_eq_some_iff.mp H;obtain⟨t141,A40,H⟩:=H;(try dsimp only at H);have A4:=Aside0.mk A40;clear A40;obtain rfl:=Option.some.inj H;go_enter Try.func63,Try.ntmps63
 go_wp2_with (first|((with_reducible refine gate_callee (f:=13) rfl ?_);refine goesQ_ 7 Try.func13 #[.slice A0 l0.length c0,.string a1] ?_;(with_reducible refine(impl_Values.calls k _ _ l0 a1 t138 _ ?side1 ?side2 A3.out).mono ?_);(case side1=>repeat(first|exact HR0.out|(with_reducible refine Kd.C_alloc ?_ _)|(with_reducible refine Kd.C_drewN ?_ _)|(with_reducible refine Kd.C_drew ?_)));(case side2=>exact HC0.out);rintro e w5 ⟨v139,rfl,ho0,hb⟩;refine⟨_,rfl,?_⟩;have HO140:=Aside0.mk (Kd.R_lower ho0 (below_size zz0));replace HB:=Aside0.mk (below_step zz0 hb);(try clear hb);(try clear ho0);obtain⟨Ao6,co6,eo6⟩:=Kd.R_slice HO140.out;subst eo6)|((with_reducible refine gate_callee (f:=72) rfl ?_);refine goesQ_ 8 Try.func72 #[.slice Ao6 t138.length co6,.string (⟨#[44,32]⟩:ByteArray)] ?_;(with_reducible refine(strings_Join.calls _ _ t138 (⟨#[44,32]⟩:ByteArray) t141 _ ?side1 ?side2 A4.out).mono ?_);(case side1=>repeat(first|exact(Kd.R_reads' HO140.out).2.2|(with_reducible refine Kd.C_alloc ?_ _)|(with_reducible refine Kd.C_drewN ?_ _)|(with_reducible refine Kd.C_drew ?_)));(case side2=>exact(Kd.R_reads' HO140.out).2.1);rintro e w7 ⟨rfl,hb⟩;refine⟨_,rfl,?_⟩;replace HO140:=Aside0.mk (Kd.R_below (by(with_reducible repeat(first|apply Kd.R_alloc|apply Kd.R_drewN|apply Kd.R_drew));exact HO140.out) hb);replace HB:=Aside0.mk (below_step zz0 hb);(try clear hb)))
 go_ret;exact⟨zz4,zz0⟩
/-! ### impl_Words: function 47 -/
def impl_Words.f (k:Nat) (l0:List (S24)) (a1:ByteArray):Option (List ByteArray):=(impl_Joined.f k l0 a1).bind fun t142=>((impl_Elements.f k t142).bind fun t143=>(some t143))
set_option maxHeartbeats 40000000 in
set_option maxRecDepth 100000 in
theorem impl_Words.calls (k : Nat) (A0 : Option Addr) (c0 : Nat) (l0 : List (S24)) (a1 : ByteArray) (r : List ByteArray) (w : World) (hr0 : Kd.C k24 w A0 l0.length l0) (hc0 : l0.length ≤ c0) (h : impl_Words.f k l0 a1 = some r) :
  Calls Try.prog 47 #[.slice A0 l0.length c0,.string a1] w fun e w'=> ∃v0_:Value,e= .returned (v0_)∧Kd.R Kd.string 9 w' w.heap.size (fun _=>True) v0_ r∧Below w.heap.size w w':=by
 have HR0:=Aside0.mk hr0;have HC0:=Aside0.mk hc0;clear hr0 hc0;have HB:=Aside0.mk (Below.refl w.heap.size w);have H:((impl_Joined.f k l0 a1).bind fun t142=>((impl_Elements.f k t142).bind fun t143=>(some t143)))=some r:=h;clear h;replace H:=Option.bind_eq_some_iff.mp H;obtain⟨t142,A30,H⟩:=H;(try dsimp only at H);have A3:=Aside0.mk A30;clear A30;replace H:=Option.bind_eq_some_iff.mp H;obtain⟨t143,A40,H⟩:=H;(try dsimp only at H);have A4:=Aside0.mk A40;clear A40;obtain rfl:=Option.some.inj H;go_enter Try.func47,Try.ntmps47
 go_wp2_with (first|((with_reducible refine gate_callee (f:=63) rfl ?_);refine goesQ_ 7 Try.func63 #[.slice A0 l0.length c0,.string a1] ?_;(with_reducible refine(impl_Joined.calls k _ _ l0 a1 t142 _ ?side1 ?side2 A3.out).mono ?_);(case side1=>repeat(first|exact HR0.out|(with_reducible refine Kd.C_alloc ?_ _)|(with_reducible refine Kd.C_drewN ?_ _)|(with_reducible refine Kd.C_drew ?_)));(case side2=>exact HC0.out);rintro e w5 ⟨rfl,hb⟩;refine⟨_,rfl,?_⟩;replace HB:=Aside0.mk (below_step zz0 hb);(try clear hb))|((with_reducible refine gate_callee (f:=62) rfl ?_);refine goesQ_ 8 Try.func62 #[.string t142] ?_;(with_reducible refine(impl_Elements.calls k t142 t143 _ A4.out).mono ?_);rintro e w6 ⟨v144,rfl,ho0,hb⟩;refine⟨_,rfl,?_⟩;have HO145:=Aside0.mk (Kd.R_lower ho0 (below_size zz0));replace HB:=Aside0.mk (below_step zz0 hb);(try clear hb);(try clear ho0)))
 go_ret;exact⟨_,zz4,by(with_reducible repeat(first|apply Kd.R_alloc|apply Kd.R_drewN|apply Kd.R_drew));exact HO145.out,zz0⟩
/-! ### slices_Sort_string_string: function 49 -/
def slices_Sort_string_string.srt (l:List ByteArray):List ByteArray:=((l.map (·.data.toList)).mergeSort fun x y=>decide (x≤y)).map fun b=>⟨b.toArray⟩
def slices_Sort_string_string.f (l0:List ByteArray):Option (List ByteArray):=if l0.length<4611686018427387904 then some (slices_Sort_string_string.srt l0)else none
theorem sc_world {w : World} {e g cap m nd : Nat} {cur : Array Value} {ys : List (List UInt8)} {os : Array Obj} {base : Nat} {W : World} (hh : w.heap[g]? = some (.cells cur e (0, 0))) (hc : cur.size = cap) (hd : ys.length ≤ cap) (hm : m ≤ ys.length) (hl : cap ≤ maxLen) (hb : base ≤ g)
  (hW:W=Go.Sort.grow (Go.Sort.putRow Go.Proofs.encStr (Go.Sort.ahead w nd) g 0 ys.toArray) os):
  W.ownsRow base e 1 (.slice (some ⟨g,0,none⟩) m cap) m ((ys.take m).map Go.Proofs.encStr)∧w.heap.size≤W.heap.size∧(∀k,k<w.heap.size→k≠g→W.heap[k]?=w.heap[k]?)∧W.os=w.os∧W.tape=w.tape∧W.output=w.output:=by
 have hlt:g<w.heap.size:=by
  rcases Nat.lt_or_ge g w.heap.size with h'|h'
  ·exact h'
  ·simp[Array.getElem?_eq_none h']at hh
 have hg':W.heap[g]?=some (.cells (Go.Sort.putCells Go.Proofs.encStr 0 ys.toArray cur) e (0,0)):=by
  subst hW;rw[Go.Sort.heap_grow_old _ _ (by simpa [Go.Sort.ahead]using hlt)]
  simp[Go.Sort.putRow,Go.Sort.mapBlock,Go.Sort.ahead,Array.getElem?_modify,hh,Go.Sort.onCells]
 refine⟨⟨by simp;omega,.inr ⟨g,cap,_,rfl,hb,hg',by omega,hl,by simp[Go.Sort.putCells,hc],?_⟩⟩,?_,?_,?_,?_,?_⟩
 ·rw[Nat.mul_one]
  apply List.ext_getElem?
  intro i;rw[List.getElem?_take,List.getElem?_map,List.getElem?_take]
  by_cases hi:i<m
  ·rw[if_pos hi,if_pos hi,Array.getElem?_toList];have h1:i<cur.size:=by omega
   have h2:i<ys.length:=by omega
   simp[Go.Sort.putCells,Array.getElem?_mapIdx,Array.getElem?_eq_getElem h1,h2,List.getElem?_eq_getElem h2]
  ·rw[if_neg hi,if_neg hi];rfl
 ·subst hW;simp[Go.Sort.ahead]
 ·intro k hk hne;subst hW;have hne': ¬g=k:=fun h=>hne h.symm;rw[Go.Sort.heap_grow_old _ _ (by simpa [Go.Sort.ahead]using hk)]
  simp[Go.Sort.putRow,Go.Sort.mapBlock,Go.Sort.ahead,Array.getElem?_modify,hne']
 ·subst hW;rfl
 ·subst hW;rfl
 ·subst hW;rfl
theorem sc_holds {w:World} {base:Nat} {P0_:Nat→Prop} {g cap:Nat} {l0:List ByteArray} (ho0:Kd.R Kd.string 9 w base P0_ (.slice (some ⟨g,0,none⟩) l0.length cap) l0):Go.Sort.Holds Go.Proofs.encStr w g 0 (l0.map (·.data.toList)).toArray:=by
 intro j hj;have hj':j<l0.length:=by simpa using hj
 obtain⟨h1,h2⟩:=Kd.R_cell ByteArray.empty ho0 (j:Int) (by omega) (by omega);rw[Nat.zero_add];refine⟨?_,by simpa using h2⟩;rw[Int.toNat_natCast]at h1;rw[h1]
 simp[rdOf,hj',List.getElem?_eq_getElem hj']
theorem slices_Sort_string_string.calls (P0_ : Nat → Prop) (u9000_ : Value) (l0 : List ByteArray) (r : List ByteArray) (w0 w : World) (hB : Below w0.heap.size w0 w) (ho0 : Kd.R Kd.string 9 w w0.heap.size P0_ u9000_ l0) (h : slices_Sort_string_string.f l0 = some r) :
  Calls Try.prog 49 #[u9000_] w fun e w'=>e= .returned (.tuple #[])∧Kd.R Kd.string 9 w' w0.heap.size (fun k_=>(P0_ k_∨w.heap.size≤k_)) u9000_ r∧Below w0.heap.size w0 w'∧Kept w w' (fun k_=>P0_ k_):=by
 unfold slices_Sort_string_string.f at h
 by_cases hl:l0.length<4611686018427387904
 ·rw[if_pos hl]at h;obtain rfl:=Option.some.inj h;have hown:=Kd.own_of_R ho0
  rcases hown.2 with⟨hv,hn⟩|⟨g,cap,cur,hv,hg,hh,hnc,hcm,hcs,htk⟩
  ·subst hv;obtain rfl:=List.length_eq_zero_iff.mp hn;refine(Try.slices_Sort_string_none none 0 w).mono ?_;rintro e w' ⟨he,rfl⟩;refine⟨he,?_,hB,Kept.refl _ _⟩;rw[show slices_Sort_string_string.srt []= []from by simp[slices_Sort_string_string.srt]];exact Kd.R_nil _ _ _ _ _
  ·subst hv
   have hlt:g<w.heap.size:=by
    rcases Nat.lt_or_ge g w.heap.size with h'|h'
    ·exact h'
    ·simp[Array.getElem?_eq_none h']at hh
   have hc:=Try.slices_Sort_string g 0 cap (l0.map (·.data.toList)) w (sc_holds ho0) hlt (by simpa using hl);rw[List.length_map]at hc;refine hc.mono ?_;rintro e w' ⟨he,nd,os,hw⟩;obtain⟨o1,o2,o3,o4,o5,o6⟩:=sc_world (base:=w0.heap.size) (m:=l0.length) hh (hcs.trans (Nat.mul_one _)) (by simpa using hnc) (by simp) hcm hg hw;refine⟨he,Kd.R_of_own ?_ (fun k hk=> .inl (ho0.1 k hk)),⟨o4.trans hB.os,o5.trans hB.tape,o6.trans hB.output,Nat.le_trans hB.size o2,fun k hk=>(o3 k (Nat.lt_of_lt_of_le hk hB.size) (by omega)).trans (hB.block k hk)⟩,⟨o2,fun i hi hn=>o3 i hi (fun he=>hn (he ▸ ho0.1 g rfl))⟩⟩;have e1:(slices_Sort_string_string.srt l0).length=l0.length:=by simp[slices_Sort_string_string.srt]
   rw[e1];rw[List.take_of_length_le (by simp)]at o1;have e2:encs Value.string (slices_Sort_string_string.srt l0)=((l0.map (·.data.toList)).mergeSort fun x y=>decide (x≤y)).map Go.Proofs.encStr:=by simp[encs,slices_Sort_string_string.srt,Function.comp_def]
   rw[e2];exact o1
 ·rw[if_neg hl]at h;cases h
/-! ### slices_Compact_string_string: function 50 -/
def slices_Compact_string_string.cpt (l:List ByteArray):List ByteArray:=(Go.Lib.compact (l.map (·.data.toList))).map fun b=>⟨b.toArray⟩
def slices_Compact_string_string.f (l0:List ByteArray):Option (List ByteArray):=if l0.length<4611686018427387904 then some (slices_Compact_string_string.cpt l0)else none
theorem sc_compact_le {α:Type} [DecidableEq α] [Inhabited α] (zs:List α):(Go.Lib.compact zs).length≤zs.length:=by
 unfold Go.Lib.compact Go.Lib.compactUpTo;rw[List.length_map];exact Nat.le_trans (List.length_filter_le _ _) (by simp)
theorem slices_Compact_string_string.calls (P0_ : Nat → Prop) (u9000_ : Value) (l0 : List ByteArray) (r : List ByteArray) (w0 w : World) (hB : Below w0.heap.size w0 w) (ho0 : Kd.R Kd.string 9 w w0.heap.size P0_ u9000_ l0) (h : slices_Compact_string_string.f l0 = some r) :
  Calls Try.prog 50 #[u9000_] w fun e w'=> ∃v0_:Value,e= .returned (v0_)∧Kd.R Kd.string 9 w' w0.heap.size (fun k_=>(P0_ k_∨w.heap.size≤k_)) v0_ r∧Below w0.heap.size w0 w'∧Kept w w' (fun k_=>P0_ k_):=by
 unfold slices_Compact_string_string.f at h
 by_cases hl:l0.length<4611686018427387904
 ·rw[if_pos hl]at h;obtain rfl:=Option.some.inj h;have hown:=Kd.own_of_R ho0
  rcases hown.2 with⟨hv,hn⟩|⟨g,cap,cur,hv,hg,hh,hnc,hcm,hcs,htk⟩
  ·subst hv;obtain rfl:=List.length_eq_zero_iff.mp hn;refine(Try.slices_Compact_string_empty none 0 w).mono ?_;rintro e w' ⟨he,rfl⟩;refine⟨_,he,?_,hB,Kept.refl _ _⟩;rw[show slices_Compact_string_string.cpt []= []from by simp[slices_Compact_string_string.cpt,Go.Lib.compact,Go.Lib.compactUpTo]];exact Kd.R_nil _ _ _ _ _
  ·subst hv
   have hlt:g<w.heap.size:=by
    rcases Nat.lt_or_ge g w.heap.size with h'|h'
    ·exact h'
    ·simp[Array.getElem?_eq_none h']at hh
   have hle:=sc_compact_le (l0.map (·.data.toList));rw[List.length_map]at hle;have hc:=Try.slices_Compact_string g 0 cap (l0.map (·.data.toList)) w (sc_holds ho0) (by rw[List.length_map];omega) (by simpa using hnc);rw[List.length_map]at hc;refine hc.mono ?_;rintro e w' ⟨he,nd,hw⟩;obtain⟨o1,o2,o3,o4,o5,o6⟩:=sc_world (base:=w0.heap.size) (os:= #[]) (m:=(Go.Lib.compact (l0.map (·.data.toList))).length) hh (hcs.trans (Nat.mul_one _)) (by simp;omega) (by simp) hcm hg (hw.trans (Go.Sort.grow_empty _).symm);refine⟨_,he,Kd.R_of_own ?_ (fun k hk=> .inl (ho0.1 k hk)),⟨o4.trans hB.os,o5.trans hB.tape,o6.trans hB.output,Nat.le_trans hB.size o2,fun k hk=>(o3 k (Nat.lt_of_lt_of_le hk hB.size) (by omega)).trans (hB.block k hk)⟩,⟨o2,fun i hi hn=>o3 i hi (fun he=>hn (he ▸ ho0.1 g rfl))⟩⟩;have e1:(slices_Compact_string_string.cpt l0).length=(Go.Lib.compact (l0.map (·.data.toList))).length:=by simp[slices_Compact_string_string.cpt]
   rw[e1];rw[List.take_left' rfl]at o1;have e2:encs Value.string (slices_Compact_string_string.cpt l0)=(Go.Lib.compact (l0.map (·.data.toList))).map Go.Proofs.encStr:=by simp[encs,slices_Compact_string_string.cpt,Function.comp_def]
   rw[e2];exact o1
 ·rw[if_neg hl]at h;cases h
/-! ### impl_HopNames: function 26 -/
def impl_HopNames.l0:Nat→List ByteArray→List ByteArray→Int→Int→Option (List ByteArray)
 |0,_,_,_,_=>none
 |k+1,x3,x11,x12,x13=>if x13<x12 then(if 0≤x13 then(if x13<(x11.length:Int)then((impl_Token.f k (rdOf ByteArray.empty x11 x13)).bind fun t158=>(if t158=true then((impl_Fold.f (rdOf ByteArray.empty x11 x13)).bind fun t159=>(if x3.length<8796093022208 then(impl_HopNames.l0 k (x3++ [t159]) x11 x12 (wrap64 (x13+1)))else(none)))else(impl_HopNames.l0 k x3 x11 x12 (wrap64 (x13+1)))))else(none))else(none))else((slices_Sort_string_string.f x3).bind fun t153=>((slices_Compact_string_string.f t153).bind fun t154=>(some t154)))
def impl_HopNames.f (k:Nat) (l0:List (S24)):Option (List ByteArray):=(impl_FieldsOk.f k l0).bind fun t146=>(if t146=true then((impl_Words.f k l0 (⟨#[99,111,110,110,101,99,116,105,111,110]⟩:ByteArray)).bind fun t150=>(impl_HopNames.l0 k (([(⟨#[99,111,110,110,101,99,116,105,111,110]⟩:ByteArray),(⟨#[107,101,101,112,45,97,108,105,118,101]⟩:ByteArray),(⟨#[112,114,111,120,121,45,99,111,110,110,101,99,116,105,111,110]⟩:ByteArray),(⟨#[116,101]⟩:ByteArray),(⟨#[116,114,97,105,108,101,114]⟩:ByteArray),(⟨#[116,114,97,110,115,102,101,114,45,101,110,99,111,100,105,110,103]⟩:ByteArray),(⟨#[117,112,103,114,97,100,101]⟩:ByteArray)]:List ByteArray)) t150 (t150.length:Int) 0))else(some ([]:List ByteArray)))
set_option maxHeartbeats 40000000 in
set_option maxRecDepth 100000 in
theorem impl_HopNames.calls (k : Nat) (A0 : Option Addr) (c0 : Nat) (l0 : List (S24)) (r : List ByteArray) (w : World) (hr0 : Kd.C k24 w A0 l0.length l0) (hc0 : l0.length ≤ c0) (h : impl_HopNames.f k l0 = some r) :
  Calls Try.prog 26 #[.slice A0 l0.length c0] w fun e w'=> ∃v0_:Value,e= .returned (v0_)∧Kd.R Kd.string 9 w' w.heap.size (fun _=>True) v0_ r∧Below w.heap.size w w':=by
 have HR0:=Aside0.mk hr0;have HC0:=Aside0.mk hc0;clear hr0 hc0;have HB:=Aside0.mk (Below.refl w.heap.size w);have H:((impl_FieldsOk.f k l0).bind fun t146=>(if t146=true then((impl_Words.f k l0 (⟨#[99,111,110,110,101,99,116,105,111,110]⟩:ByteArray)).bind fun t150=>(impl_HopNames.l0 k (([(⟨#[99,111,110,110,101,99,116,105,111,110]⟩:ByteArray),(⟨#[107,101,101,112,45,97,108,105,118,101]⟩:ByteArray),(⟨#[112,114,111,120,121,45,99,111,110,110,101,99,116,105,111,110]⟩:ByteArray),(⟨#[116,101]⟩:ByteArray),(⟨#[116,114,97,105,108,101,114]⟩:ByteArray),(⟨#[116,114,97,110,115,102,101,114,45,101,110,99,111,100,105,110,103]⟩:ByteArray),(⟨#[117,112,103,114,97,100,101]⟩:ByteArray)]:List ByteArray)) t150 (t150.length:Int) 0))else(some ([]:List ByteArray))))=some r:=h;clear h;replace H:=Option.bind_eq_some_iff.mp H;obtain⟨t146,A20,H⟩:=H;(try dsimp only at H);have A2:=Aside0.mk A20;clear A20;have HC3:=Aside0.mk H;clear H;go_enter Try.func26,Try.ntmps26
 go_upto_if 8 with(first|((with_reducible refine gate_callee (f:=19) rfl ?_);refine goesQ_ 7 Try.func19 #[.slice A0 l0.length c0] ?_;(with_reducible refine(impl_FieldsOk.calls k _ _ l0 t146 _ ?side1 ?side2 A2.out).mono ?_);(case side1=>repeat(first|exact HR0.out|(with_reducible refine Kd.C_alloc ?_ _)|(with_reducible refine Kd.C_drewN ?_ _)|(with_reducible refine Kd.C_drew ?_)));(case side2=>exact HC0.out);rintro e w4 ⟨rfl,hb⟩;refine⟨_,rfl,?_⟩;replace HB:=Aside0.mk (below_step zz0 hb);(try clear hb)))
 (try simp only[Act.put,List.setIfInBounds_toArray,List.set_cons_zero,List.set_cons_succ]);have H:=HC3.out;clear HC3
 by_cases c5:t146=true
 ·subst c5;rw[if_pos rfl]at H;obtain⟨y147,hy147⟩: ∃y_:List ByteArray,y_=(([(⟨#[99,111,110,110,101,99,116,105,111,110]⟩:ByteArray),(⟨#[107,101,101,112,45,97,108,105,118,101]⟩:ByteArray),(⟨#[112,114,111,120,121,45,99,111,110,110,101,99,116,105,111,110]⟩:ByteArray),(⟨#[116,101]⟩:ByteArray),(⟨#[116,114,97,105,108,101,114]⟩:ByteArray),(⟨#[116,114,97,110,115,102,101,114,45,101,110,99,111,100,105,110,103]⟩:ByteArray),(⟨#[117,112,103,114,97,100,101]⟩:ByteArray)]:List ByteArray)):=⟨_,rfl⟩;replace H:((impl_Words.f k l0 (⟨#[99,111,110,110,101,99,116,105,111,110]⟩:ByteArray)).bind fun t150=>(impl_HopNames.l0 k y147 t150 (t150.length:Int) 0))=some r:=by first|(rw[hy147];with_reducible exact H)|(have H2_:=(Option.bind_some _ _).symm.trans H;rw[hy147];with_reducible exact H2_)|(have H2_:=(Option.bind_some _ _).symm.trans H;with_reducible exact H2_)|with_reducible exact H|(rw[hy147];exact H)|exact H
  have Ny147:=Aside0.mk hy147;clear hy147;replace H:=Option.bind_eq_some_iff.mp H;obtain⟨t150,A60,H⟩:=H;(try dsimp only at H);have A6:=Aside0.mk A60;clear A60;have H':=Aside0.mk H;clear H;go_wp2_with (first|((with_reducible refine gate_dst (N:=9) rfl ?_);refine Kd.R_lit Kd.string _ 9 ?hg (N:=9) ?hd (xs:=([(⟨#[99,111,110,110,101,99,116,105,111,110]⟩:ByteArray),(⟨#[107,101,101,112,45,97,108,105,118,101]⟩:ByteArray),(⟨#[112,114,111,120,121,45,99,111,110,110,101,99,116,105,111,110]⟩:ByteArray),(⟨#[116,101]⟩:ByteArray),(⟨#[116,114,97,105,108,101,114]⟩:ByteArray),(⟨#[116,114,97,110,115,102,101,114,45,101,110,99,111,100,105,110,103]⟩:ByteArray),(⟨#[117,112,103,114,97,100,101]⟩:ByteArray)]:List ByteArray)) (inner:= [.string (⟨#[99,111,110,110,101,99,116,105,111,110]⟩:ByteArray),.string (⟨#[107,101,101,112,45,97,108,105,118,101]⟩:ByteArray),.string (⟨#[112,114,111,120,121,45,99,111,110,110,101,99,116,105,111,110]⟩:ByteArray),.string (⟨#[116,101]⟩:ByteArray),.string (⟨#[116,114,97,105,108,101,114]⟩:ByteArray),.string (⟨#[116,114,97,110,115,102,101,114,45,101,110,99,111,100,105,110,103]⟩:ByteArray),.string (⟨#[117,112,103,114,97,100,101]⟩:ByteArray)]) (ok:=fun _=>True) (okp:=fun _=>True) ?hr ?hp (fun _ hk=>hk) trivial (Below.refl _ _) (Nat.le_refl _) (by simp) ?_;(case hd=>rfl);(case hg=>rfl);(case hr=>first|(go_simp;done)|(go_simp;rfl));(case hp=>exact(Reps.one (show Kd.M Kd.string _ _ _ (⟨#[99,111,110,110,101,99,116,105,111,110]⟩:ByteArray) [.string (⟨#[99,111,110,110,101,99,116,105,111,110]⟩:ByteArray)]from rfl) (Reps.one (show Kd.M Kd.string _ _ _ (⟨#[107,101,101,112,45,97,108,105,118,101]⟩:ByteArray) [.string (⟨#[107,101,101,112,45,97,108,105,118,101]⟩:ByteArray)]from rfl) (Reps.one (show Kd.M Kd.string _ _ _ (⟨#[112,114,111,120,121,45,99,111,110,110,101,99,116,105,111,110]⟩:ByteArray) [.string (⟨#[112,114,111,120,121,45,99,111,110,110,101,99,116,105,111,110]⟩:ByteArray)]from rfl) (Reps.one (show Kd.M Kd.string _ _ _ (⟨#[116,101]⟩:ByteArray) [.string (⟨#[116,101]⟩:ByteArray)]from rfl) (Reps.one (show Kd.M Kd.string _ _ _ (⟨#[116,114,97,105,108,101,114]⟩:ByteArray) [.string (⟨#[116,114,97,105,108,101,114]⟩:ByteArray)]from rfl) (Reps.one (show Kd.M Kd.string _ _ _ (⟨#[116,114,97,110,115,102,101,114,45,101,110,99,111,100,105,110,103]⟩:ByteArray) [.string (⟨#[116,114,97,110,115,102,101,114,45,101,110,99,111,100,105,110,103]⟩:ByteArray)]from rfl) (Reps.one (show Kd.M Kd.string _ _ _ (⟨#[117,112,103,114,97,100,101]⟩:ByteArray) [.string (⟨#[117,112,103,114,97,100,101]⟩:ByteArray)]from rfl) (Reps.none _ _)))))))));intro v148 w7 ho8 hb hg_ hnew_;clear hg_ hnew_;(first|rw[←Ny147.out]at ho8|(simp only[Int.reduceToNat]at ho8;rw[←Ny147.out]at ho8));have HO149:=Aside0.mk (Kd.R_lower ho8 (below_size zz0));replace HB:=Aside0.mk (below_step zz0 hb);clear hb ho8)|((with_reducible refine gate_callee (f:=47) rfl ?_);refine goesQ_ 11 Try.func47 #[.slice A0 l0.length c0,.string (⟨#[99,111,110,110,101,99,116,105,111,110]⟩:ByteArray)] ?_;(with_reducible refine(impl_Words.calls k _ _ l0 (⟨#[99,111,110,110,101,99,116,105,111,110]⟩:ByteArray) t150 _ ?side1 ?side2 A6.out).mono ?_);(case side1=>repeat(first|exact(Kd.C_below HR0.out HB.out)|(with_reducible refine Kd.C_alloc ?_ _)|(with_reducible refine Kd.C_drewN ?_ _)|(with_reducible refine Kd.C_drew ?_)));(case side2=>exact HC0.out);rintro e w9 ⟨v151,rfl,ho0,hb⟩;refine⟨_,rfl,?_⟩;have HO152:=Aside0.mk (Kd.R_lower (Kd.R_new' ho0 (Kd.R_lt (by(with_reducible repeat(first|apply Kd.R_alloc|apply Kd.R_drewN|apply Kd.R_drew));exact HO149.out))) (below_size zz0));replace HO149:=Aside0.mk (Kd.R_elder' (by(with_reducible repeat(first|apply Kd.R_alloc|apply Kd.R_drewN|apply Kd.R_drew));exact HO149.out) (Kd.R_base ho0) hb);replace HB:=Aside0.mk (below_step zz0 hb);(try clear hb);(try clear ho0);obtain⟨Ao10,co10,eo10⟩:=Kd.R_slice HO152.out;subst eo10))
  go_loopg [3,13] k (fun kq v3 v13 w'=> ∃(x3_1:List ByteArray) (x13_1:Int),v13= .int .i64 x13_1∧Aside0 (impl_HopNames.l0 kq x3_1 t150 (t150.length:Int) x13_1=some r)∧Aside0 (kq≤k)∧Aside0 (Kd.R Kd.string 9 w' w.heap.size (fun k_=>some k_≠((.slice Ao10 t150.length co10):Value).ownBlock) v3 x3_1)∧Aside0 (Kd.R Kd.string 9 w' w.heap.size (fun k_=>some k_≠(v3:Value).ownBlock) (.slice Ao10 t150.length co10) t150)∧Aside0 (Below w.heap.size w w'))
  case atStart=>exact⟨(y147),(0),zz6,H',⟨Nat.le_refl _⟩,⟨by(with_reducible repeat(first|apply Kd.R_alloc|apply Kd.R_drewN|apply Kd.R_drew));exact Kd.R_mono HO149.out (fun _ hk=>hk.2)⟩,⟨by(with_reducible repeat(first|apply Kd.R_alloc|apply Kd.R_drewN|apply Kd.R_drew));exact Kd.R_mono HO152.out (fun _ hk=>hk.2)⟩,⟨zz0⟩⟩
  case round=>
   clear H';(try clear c1);(try clear c2);(try clear p2);(try clear c4);(try clear c5);obtain⟨x3_1,x13_1,rfl,HA,HK1,HO_3,HO_11,HB⟩:=hrel
   cases gk with
   |zero=>exact absurd HA.out (by simp[impl_HopNames.l0])
   |succ k1=>
    have H:=HA.out;clear HA;simp only[impl_HopNames.l0]at H
    by_cases c11:x13_1<(t150.length:Int)
    ·rw[if_pos c11]at H;have c11b0:decide (x13_1<(t150.length:Int))=true:=decide_eq_true c11;clear c11;(first|rw[c11b0]|(simp only[i64_w,i32_w];rw[c11b0])|skip)
     by_cases c12:0≤x13_1
     ·rw[if_pos c12]at H;have c12b0:decide (0≤x13_1)=true:=decide_eq_true c12;clear c12
      by_cases c13:x13_1<(t150.length:Int)
      ·rw[if_pos c13]at H;have c13b0:decide (x13_1<(t150.length:Int))=true:=decide_eq_true c13;clear c13;replace H:=Option.bind_eq_some_iff.mp H;obtain⟨t158,A140,H⟩:=H;(try dsimp only at H);have A14:=Aside0.mk A140;clear A140;have HC15:=Aside0.mk H;clear H;have p157:0≤(x13_1:Int):=of_decide_eq_true zz8;have q157:x13_1<(t150.length:Int):=of_decide_eq_true zz8;obtain⟨ad157,e157,hx157_0⟩:=Kd.at_string (Kd.R_reads' HO_11.out).2.2 x13_1 p157 q157;cases e157;replace p157:=eq_true p157;replace q157:=eq_true q157;go_upto_if 18 with(first|((with_reducible refine gate_callee (f:=41) rfl ?_);refine goesQ_ 18 Try.func41 #[.string (rdOf ByteArray.empty t150 x13_1)] ?_;(with_reducible refine(impl_Token.calls k1 (rdOf ByteArray.empty t150 x13_1) t158 _ A14.out).mono ?_);rintro e w' ⟨rfl,⟨nd,rfl⟩⟩;refine⟨_,rfl,?_⟩))
       (try simp only[Act.put,List.setIfInBounds_toArray,List.set_cons_zero,List.set_cons_succ]);(try(rw[drewN_self wr];generalize hq_:World.drewN wr _=wr;have n0_:Aside0 (Kd.R Kd.string 9 wr w.heap.size (fun k_=>some k_≠(u3:Value).ownBlock) (.slice (some ad157) t150.length co10) t150):=⟨by rw[←hq_];exact zz44⟩;have n1_:Aside0 (Kd.R Kd.string 9 wr w.heap.size (fun k_=>some k_≠(.slice (some ad157) t150.length co10:Value).ownBlock) u3 x3_1):=⟨by rw[←hq_];exact zz16⟩;have n2_:Aside0 (Below w.heap.size w wr):=⟨by rw[←hq_];exact zz0⟩;clear HO_11 HO_3 HB hq_;have HO_11:=n0_;have HO_3:=n1_;have HB:=n2_;clear n0_ n1_ n2_));have H:=HC15.out;clear HC15
       by_cases c16:t158=true
       ·subst c16;rw[if_pos rfl]at H;replace H:=Option.bind_eq_some_iff.mp H;obtain⟨t159,A170,H⟩:=H;(try dsimp only at H);have A17:=Aside0.mk A170;clear A170
        by_cases c18:x3_1.length<8796093022208
        ·rw[if_pos c18]at H;have LMc18:=Aside0.mk c18;clear c18;obtain⟨y160,hy160⟩: ∃y_:List ByteArray,y_=(x3_1++ [t159]):=⟨_,rfl⟩;replace H:(impl_HopNames.l0 k1 y160 t150 (t150.length:Int) (wrap64 (x13_1+1)))=some r:=by first|(rw[hy160];with_reducible exact H)|(have H2_:=(Option.bind_some _ _).symm.trans H;rw[hy160];with_reducible exact H2_)|(have H2_:=(Option.bind_some _ _).symm.trans H;with_reducible exact H2_)|with_reducible exact H|(rw[hy160];exact H)|exact H
         have Ny160:=Aside0.mk hy160;clear hy160;have H':=Aside0.mk H;clear H;go_wp2_with (first|((with_reducible refine gate_callee (f:=48) rfl ?_);refine goesQ_ 21 Try.func48 #[.string (rdOf ByteArray.empty t150 x13_1)] ?_;(with_reducible refine(impl_Fold.calls (rdOf ByteArray.empty t150 x13_1) t159 _ A17.out).mono ?_);rintro e w19 ⟨rfl,hb⟩;refine⟨_,rfl,?_⟩;replace HO_3:=Aside0.mk (Kd.R_below zz16 hb);replace HO_11:=Aside0.mk (Kd.R_below zz44 hb);replace HB:=Aside0.mk (below_step zz0 hb);(try clear hb))|((with_reducible refine gate_builtin (b:= .append) (xs:= #[.tmp 19,.tmp 22]) rfl ?_);at_builtin;refine Kd.R_append Kd.string (w0:=w) w.heap.size rfl (.tmp 19) (.tmp 22) 36 9 (.string ⟨#[]⟩) 16 rfl Try.underlying36 info9 rfl (by decide) (by omega) u3 x3_1 t159 [.string t159] (fun k_=>some k_≠(.slice (some ad157) t150.length co10:Value).ownBlock) (fun _=>False) rfl rfl ?aP (fun _ hk=>hk.elim) ?aF ?aO ?aB ?aS ?aL ?_;(case aP=>exact rfl);(case aB=>exact zz0);(case aF=>exact(fun k_ hk=>Kd.fresh' (Kd.R_lt zz44) k_ hk));(case aO=>exact zz16);(case aS=>exact(below_size zz0));(case aL=>have:=LMc18.out;omega);intro v161 w20 ho hb hg hat;rw[←Ny160.out]at ho;replace HO_11:=Aside0.mk (Kd.R_after (ok:=(fun _=>True)) (by(with_reducible repeat(first|apply Kd.R_alloc|apply Kd.R_drewN|apply Kd.R_drew));exact Kd.R_mono HO_11.out (fun _ hk=>⟨trivial,hk⟩)) hg hat);replace HB:=Aside0.mk (hb);have HO162:=Aside0.mk (ho);clear HO_3;clear ho hb hg hat))
         go_roundg k1
         (case measure=>have:=HK1.out;omega);case rel=>exact⟨(y160),(wrap64 (x13_1+1)),zz6,H',⟨zz42⟩,⟨by(with_reducible repeat(first|apply Kd.R_alloc|apply Kd.R_drewN|apply Kd.R_drew));exact HO162.out⟩,⟨by(with_reducible repeat(first|apply Kd.R_alloc|apply Kd.R_drewN|apply Kd.R_drew));exact Kd.R_mono HO_11.out (fun _ hk=>hk.2)⟩,⟨zz0⟩⟩
        ·rw[if_neg c18]at H;exact absurd H (by simp)
       ·replace c16:=Bool.eq_false_iff.mpr c16;subst c16;rw[if_neg Bool.false_ne_true]at H;have H':=Aside0.mk H;clear H;go_wp2
        go_roundg k1
        (case measure=>have:=HK1.out;omega);case rel=>exact⟨(x3_1),(wrap64 (x13_1+1)),zz6,H',⟨zz42⟩,⟨zz16⟩,⟨zz44⟩,⟨zz0⟩⟩
      ·rw[if_neg c13]at H;exact absurd H (by simp)
     ·rw[if_neg c12]at H;exact absurd H (by simp)
    ·rw[if_neg c11]at H;have c11b0:decide (x13_1<(t150.length:Int))=false:=decide_eq_false c11;clear c11;(first|rw[c11b0]|(simp only[i64_w,i32_w];rw[c11b0])|skip);replace H:=Option.bind_eq_some_iff.mp H;obtain⟨t153,A210,H⟩:=H;(try dsimp only at H);have A21:=Aside0.mk A210;clear A210;replace H:=Option.bind_eq_some_iff.mp H;obtain⟨t154,A220,H⟩:=H;(try dsimp only at H);have A22:=Aside0.mk A220;clear A220;obtain rfl:=Option.some.inj H;obtain⟨Ao23,co23,eo23⟩:=Kd.R_slice HO_3.out;subst eo23;go_wp2_with (first|((with_reducible refine gate_callee (f:=49) rfl ?_);refine goesQ_ 26 Try.func49 #[.slice Ao23 x3_1.length co23] ?_;(with_reducible refine(slices_Sort_string_string.calls (fun k_=>some k_=(.slice Ao23 x3_1.length co23:Value).ownBlock) (.slice Ao23 x3_1.length co23) x3_1 t153 w _ ?side1 ?side2 A21.out).mono ?_);(case side1=>repeat(first|(with_reducible first|exact HB.out|apply below_alloc|apply pw_below_drewN|apply below_drew1)|exact HB.out));(case side2=>exact Kd.R_tight rfl HO_3.out);rintro e w24 ⟨rfl,hy0,hb,hkp⟩;refine⟨_,rfl,?_⟩;replace HO_3:=Aside0.mk (Kd.R_reok rfl hy0 (fun k_ e_=>HO_3.out.1 k_ e_));replace HO_11:=Aside0.mk (Kd.R_mono (ok':=fun k_=>some k_≠(.slice Ao23 x3_1.length co23:Value).ownBlock) (Kd.R_keptB (HO_11.out) hkp (fun k_ hk_ hs_=>(hk_) hs_)) (fun k_ hk_=>hk_.1));replace HB:=Aside0.mk (hb);(try clear hb);(try clear hkp);(try clear hy0))|((with_reducible refine gate_callee (f:=50) rfl ?_);refine goesQ_ 28 Try.func50 #[.slice Ao23 x3_1.length co23] ?_;(with_reducible refine(slices_Compact_string_string.calls (fun k_=>some k_=(.slice Ao23 x3_1.length co23:Value).ownBlock) (.slice Ao23 x3_1.length co23) t153 t154 w _ ?side1 ?side2 A22.out).mono ?_);(case side1=>repeat(first|(with_reducible first|exact HB.out|apply below_alloc|apply pw_below_drewN|apply below_drew1)|exact HB.out));(case side2=>exact Kd.R_tight rfl HO_3.out);rintro e w25 ⟨v155,rfl,ho0,hb,hkp⟩;refine⟨_,rfl,?_⟩;have HO156:=Aside0.mk (Kd.R_mono (ok':=fun k_=>some k_≠(.slice Ao10 t150.length co10:Value).ownBlock) ho0 (fun k_ hk_=>Or.elim hk_ (fun hs_=>fun e_=>(((HO_11.out).1 k_ e_.symm)) hs_) (fun hn_=>(Kd.fresh' (Kd.R_lt zz44) k_ hn_))));replace HO_11:=Aside0.mk (Kd.R_mono (ok':=fun k_=>some k_≠(v155:Value).ownBlock) (Kd.R_keptB (HO_11.out) hkp (fun k_ hk_ hs_=>(hk_) hs_)) (fun k_ hk_=>fun e_=>Or.elim (ho0.1 k_ e_.symm) (fun hs_=>hk_.2.1 hs_) (fun hn_=>Nat.not_le.2 hk_.2.2 hn_)));replace HB:=Aside0.mk (hb);clear HO_3;(try clear hb);(try clear hkp);(try clear ho0)))
     go_ret;exact⟨_,zz4,by(with_reducible repeat(first|apply Kd.R_alloc|apply Kd.R_drewN|apply Kd.R_drew));exact Kd.R_mono HO156.out (fun _ hk=>trivial),zz0⟩
 ·replace c5:=Bool.eq_false_iff.mpr c5;subst c5;rw[if_neg Bool.false_ne_true]at H;obtain rfl:=Option.some.inj H;go_wp2
  go_ret;exact⟨_,zz4,zz20,zz0⟩
/-! ### laws_heads: function 8 -/
def laws_heads.f (k:Nat):Option (Bool):=(impl_ReadField.f k (⟨#[65,58,32,32,98,32]⟩:ByteArray)).bind fun bt163=>((impl_Get.f k (([(⟨(⟨#[65]⟩:ByteArray),(⟨#[98]⟩:ByteArray)⟩:S24)]:List (S24))) (⟨#[97]⟩:ByteArray)).bind fun bt170=>(if bt163.2.2=true then(if(bt163.1.toList==([65]:List UInt8)&&(bt163.2.1.toList==([98]:List UInt8)))=true then(if bt170.2=true then(if bt170.1.toList=([98]:List UInt8)then((impl_HopNames.f k ([]:List (S24))).bind fun t172=>(some ((t172.length:Int)==7)))else(some false))else(some false))else(some false))else(some false)))
set_option maxHeartbeats 40000000 in
set_option maxRecDepth 100000 in
theorem laws_heads.calls (k : Nat)  (r : Bool) (w : World) (hG : Gl w) (h : laws_heads.f k  = some r) :
  Calls Try.prog 8 #[] w fun e w'=>e= .returned (.bool r)∧Below w.heap.size w w':=by
 have hu24:=Try.underlying24;have HG:=Aside0.mk hG;clear hG;have HB:=Aside0.mk (Below.refl w.heap.size w);have H:((impl_ReadField.f k (⟨#[65,58,32,32,98,32]⟩:ByteArray)).bind fun bt163=>((impl_Get.f k (([(⟨(⟨#[65]⟩:ByteArray),(⟨#[98]⟩:ByteArray)⟩:S24)]:List (S24))) (⟨#[97]⟩:ByteArray)).bind fun bt170=>(if bt163.2.2=true then(if(bt163.1.toList==([65]:List UInt8)&&(bt163.2.1.toList==([98]:List UInt8)))=true then(if bt170.2=true then(if bt170.1.toList=([98]:List UInt8)then((impl_HopNames.f k ([]:List (S24))).bind fun t172=>(some ((t172.length:Int)==7)))else(some false))else(some false))else(some false))else(some false))))=some r:=h;clear h;replace H:=Option.bind_eq_some_iff.mp H;obtain⟨⟨t163,t164,t165⟩,A10,H⟩:=H;(try dsimp only at H);have A1:=Aside0.mk A10;clear A10;obtain⟨y167,hy167⟩: ∃y_:List (S24),y_=(([(⟨(⟨#[65]⟩:ByteArray),(⟨#[98]⟩:ByteArray)⟩:S24)]:List (S24))):=⟨_,rfl⟩;replace H:((impl_Get.f k y167 (⟨#[97]⟩:ByteArray)).bind fun bt170=>(if t165=true then(if(t163.toList==([65]:List UInt8)&&(t164.toList==([98]:List UInt8)))=true then(if bt170.2=true then(if bt170.1.toList=([98]:List UInt8)then((impl_HopNames.f k ([]:List (S24))).bind fun t172=>(some ((t172.length:Int)==7)))else(some false))else(some false))else(some false))else(some false)))=some r:=by first|(rw[hy167];with_reducible exact H)|(have H2_:=(Option.bind_some _ _).symm.trans H;rw[hy167];with_reducible exact H2_)|(have H2_:=(Option.bind_some _ _).symm.trans H;with_reducible exact H2_)|with_reducible exact H|(rw[hy167];exact H)|exact H
 have Ny167:=Aside0.mk hy167;clear hy167;replace H:=Option.bind_eq_some_iff.mp H;obtain⟨⟨t170,t171⟩,A20,H⟩:=H;(try dsimp only at H);have A2:=Aside0.mk A20;clear A20;have HC3:=Aside0.mk H;clear H;go_enter Try.func8,Try.ntmps8
 repeat' (first|(go_big_may;(first|((with_reducible refine gate_callee (f:=9) rfl ?_);refine goesQ_ 6 Try.func9 #[.string (⟨#[65,58,32,32,98,32]⟩:ByteArray)] ?_;(with_reducible refine(impl_ReadField.calls k (⟨#[65,58,32,32,98,32]⟩:ByteArray) t163 t164 t165 _ ?side1 A1.out).mono ?_);(case side1=>exact Gl.below HG.out zz0);rintro e w4 ⟨rfl,hb⟩;refine⟨_,rfl,?_⟩;replace HB:=Aside0.mk (below_step zz0 hb);(try clear hb))|((with_reducible refine gate_dst (N:=1) rfl ?_);(try(refine gate_guard (by rfl) ?_;dsimp only));refine boxP_ (N:=1) (cs:= #[.string (⟨#[]⟩:ByteArray),.string (⟨#[]⟩:ByteArray)]) (t:=24) ?_;intro gb166 hg w5 hbox hb;have BK166:=Aside0.mk (hbox);have GE166:=geb_ (w:=w) hg zz0;replace HB:=Aside0.mk (below_step zz0 hb);clear hb hbox hg;obtain⟨_,_,_,_⟩:=cells2_ BK166.out)|((with_reducible refine gate_dst (N:=11) rfl ?_);(try(refine gate_guard (by rfl) ?_;dsimp only));refine Kd.R_lit k24 _ 24 ?hg (N:=11) ?hd (xs:=([(⟨(⟨#[65]⟩:ByteArray),(⟨#[98]⟩:ByteArray)⟩:S24)]:List (S24))) (inner:= [.string (⟨#[65]⟩:ByteArray),.string (⟨#[98]⟩:ByteArray)]) (ok:=fun _=>True) (okp:=fun _=>True) ?hr ?hp (fun _ hk=>hk) trivial (Below.refl _ _) (Nat.le_refl _) (by simp) ?_;(case hd=>rfl);(case hg=>rfl);(case hr=>first|(go_simp;done)|(go_simp;rfl));(case hp=>exact(Reps.c2 (show Kd.M k24 _ _ _ (⟨(⟨#[65]⟩:ByteArray),(⟨#[98]⟩:ByteArray)⟩:S24) [.string (⟨#[65]⟩:ByteArray),.string (⟨#[98]⟩:ByteArray)]from(k24_mkM _ _ _ (⟨(⟨#[65]⟩:ByteArray),(⟨#[98]⟩:ByteArray)⟩:S24))) (Reps.none _ _)));intro v168 w7 ho8 hb hg_ hnew_;clear hg_ hnew_;(first|rw[←Ny167.out]at ho8|(simp only[Int.reduceToNat]at ho8;rw[←Ny167.out]at ho8));have HO169:=Aside0.mk (Kd.R_lower (Kd.R_newB ho8 (g:=gb166) (o:= .cells #[.string t163,.string t164] 24 (0,0)) zz38) (below_size zz21));replace BK166:=Aside0.mk (blk_below (g:=gb166) (o:= .cells #[.string t163,.string t164] 24 (0,0)) zz38 hb);replace HB:=Aside0.mk (below_step zz21 hb);clear hb ho8;obtain⟨Ao9,co9,eo9⟩:=Kd.R_slice HO169.out;subst eo9)|((with_reducible refine gate_callee (f:=14) rfl ?_);refine goesQ_ 12 Try.func14 #[.slice Ao9 y167.length co9,.string (⟨#[97]⟩:ByteArray)] ?_;(with_reducible refine(impl_Get.calls k _ _ y167 (⟨#[97]⟩:ByteArray) t170 t171 _ ?side1 ?side2 A2.out).mono ?_);(case side1=>repeat(first|exact(Kd.R_reads' HO169.out).2.2|(with_reducible refine Kd.C_alloc ?_ _)|(with_reducible refine Kd.C_drewN ?_ _)|(with_reducible refine Kd.C_drew ?_)));(case side2=>exact(Kd.R_reads' HO169.out).2.1);rintro e w10 ⟨rfl,hb⟩;refine⟨_,rfl,?_⟩;replace HO169:=Aside0.mk (Kd.R_below (by(with_reducible repeat(first|apply Kd.R_alloc|apply Kd.R_drewN|apply Kd.R_drew));exact HO169.out) hb);replace BK166:=Aside0.mk (blk_below (by(with_reducible repeat(first|refine blk_drewN ?_ _|refine blk_drew ?_|refine blk_alloc ?_ _));exact BK166.out) hb);replace HB:=Aside0.mk (below_step zz21 hb);(try clear hb))))|go_values|go_skip|go_big_skip|go_big_want|((first|(with_reducible refine gate_nog rfl ?_)|(fail_if_success with_reducible refine gate_any ?_));go_step)|go_upon|simp only[Bool.not_true,Bool.not_false,Bool.true_and,Bool.false_and,Bool.true_or,Bool.false_or]|dsimp only)
 (try simp only[Act.put,List.setIfInBounds_toArray,List.set_cons_zero,List.set_cons_succ]);have H:=HC3.out;clear HC3
 by_cases c11:t165=true
 ·subst c11;rw[if_pos rfl]at H;have HC12:=Aside0.mk H;clear H;obtain⟨_,_,_,_⟩:=cells2_ BK166.out
  repeat' (first|(go_big_may;(fail))|go_values|go_skip|go_big_skip|go_big_want|((first|(with_reducible refine gate_nog rfl ?_)|(fail_if_success with_reducible refine gate_any ?_));go_step)|go_upon|simp only[Bool.not_true,Bool.not_false,Bool.true_and,Bool.false_and,Bool.true_or,Bool.false_or]|dsimp only)
  have H:=HC12.out;clear HC12
  by_cases c14:(t163.toList==([65]:List UInt8)&&(t164.toList==([98]:List UInt8)))=true
  ·rw[if_pos c14]at H;have c14b0:(t163.toList==([65]:List UInt8)&&(t164.toList==([98]:List UInt8)))=true:=c14;(try(have c14b1:decide (t163.toList=([65]:List UInt8)&&(t164.toList==([98]:List UInt8)))=true:=by simpa using c14));(try(have c14b2:(t163.toList==([65]:List UInt8)&&(t164.toList==([98]:List UInt8)))=true:=by simpa using c14));clear c14;(first|rw[c14b0]|(simp only[i64_w,i32_w];rw[c14b0])|rw[c14b1]|(rw[c14b2];simp only[Bool.not_true,Bool.not_false])|skip)
   by_cases c15:t171=true
   ·subst c15;rw[if_pos rfl]at H
    by_cases c16:t170.toList=([98]:List UInt8)
    ·rw[if_pos c16]at H;have c16b0:(t170.toList==([98]:List UInt8))=true:=beq_iff_eq.mpr c16;have c16b1:(t170.toList !=([98]:List UInt8))=false:=bne_eq_false_iff_eq.mpr c16;clear c16;replace H:=Option.bind_eq_some_iff.mp H;obtain⟨t172,A170,H⟩:=H;(try dsimp only at H);have A17:=Aside0.mk A170;clear A170;obtain rfl:=Option.some.inj H;go_wp2_with (first|(go_at_call 26;(refine(impl_HopNames.calls k _ _ ([]:List (S24)) t172 _ ?side1 ?side2 A17.out).mono ?_);(case side1=>exact Kd.C_nil _ _);(case side2=>exact Nat.le_refl _);rintro e w18 ⟨v173,rfl,ho0,hb⟩;have n0_:=Aside0.mk (Kd.R_below (by(with_reducible repeat(first|apply Kd.R_alloc|apply Kd.R_drewN|apply Kd.R_drew));exact HO169.out) hb);have n1_:=Aside0.mk (Kd.R_lower ho0 (below_size zz21));have n2_:=Aside0.mk (blk_below (by(with_reducible repeat(first|refine blk_drewN ?_ _|refine blk_drew ?_|refine blk_alloc ?_ _));exact BK166.out) hb);have n3_:=Aside0.mk (below_step zz21 hb);clear HO169;clear BK166;clear HB;have HO169:=n0_;have HO174:=n1_;have BK166:=n2_;have HB:=n3_;clear n0_ n1_ n2_ n3_;(try clear hb);(try clear hb2);(try clear hk);(try clear hi);(try clear ho0);obtain⟨Ao19,co19,eo19⟩:=Kd.R_slice HO174.out;subst eo19))
     go_ret;exact⟨zz4,zz21⟩
    ·rw[if_neg c16]at H;have c16b0:(t170.toList==([98]:List UInt8))=false:=beq_eq_false_iff_ne.mpr c16;have c16b1:(t170.toList !=([98]:List UInt8))=true:=bne_iff_ne.mpr c16;obtain rfl:=Option.some.inj H;go_wp2
     go_ret;exact⟨zz4,zz21⟩
   ·replace c15:=Bool.eq_false_iff.mpr c15;subst c15;rw[if_neg Bool.false_ne_true]at H;obtain rfl:=Option.some.inj H;go_wp2
    go_ret;exact⟨zz4,zz21⟩
  ·rw[if_neg c14]at H;have c14b0:(t163.toList==([65]:List UInt8)&&(t164.toList==([98]:List UInt8)))=false:=by simpa using c14
   (try(have c14b1:decide (t163.toList=([65]:List UInt8)&&(t164.toList==([98]:List UInt8)))=false:=by simpa using c14));(try(have c14b2:(t163.toList==([65]:List UInt8)&&(t164.toList==([98]:List UInt8)))=false:=by simpa using c14));(try(have c14b3: ¬(t163.toList=([65]:List UInt8)&&(t164.toList==([98]:List UInt8))):=by simpa using c14));clear c14;(first|rw[c14b0]|(simp only[i64_w,i32_w];rw[c14b0])|rw[c14b1]|(rw[c14b2];simp only[Bool.not_true,Bool.not_false])|skip);obtain rfl:=Option.some.inj H;go_wp2
   go_ret;exact⟨zz4,zz21⟩
 ·replace c11:=Bool.eq_false_iff.mpr c11;subst c11;rw[if_neg Bool.false_ne_true]at H;obtain rfl:=Option.some.inj H;go_wp2
  go_ret;exact⟨zz4,zz21⟩
end Go.Proofs.Ytkkolioolgpljaa.GFnWiths
