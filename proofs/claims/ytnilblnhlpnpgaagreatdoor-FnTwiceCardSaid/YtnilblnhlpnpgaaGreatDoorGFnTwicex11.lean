-- Printed by gen.py and its programs for this claim.
import Derived.Test.YtnilblnhlpnpgaaGreatDoorGFnTwicex0
import Derived.Test.YtnilblnhlpnpgaaGreatDoorGFnTwicex1
import Derived.Test.YtnilblnhlpnpgaaGreatDoorGFnTwicex2
import Derived.Test.YtnilblnhlpnpgaaGreatDoorGFnTwicex4
import Derived.Test.YtnilblnhlpnpgaaGreatDoorGFnTwicex6
import Derived.Test.YtnilblnhlpnpgaaGreatDoorZFnTwice
namespace Go.Proofs.YtnilblnhlpnpgaaGreatDoor.GFnTwice
open Go.RowKit Go.Proofs.YtnilblnhlpnpgaaGreatDoorW.PrintWords Go.Proofs.YtnilblnhlpnpgaaGreatDoorW.PrintLast Go.Proofs.YtnilblnhlpnpgaaGreatDoorW.PrintMore Go.Proofs.YtnilblnhlpnpgaaGreatDoorW.Zs
set_option maxHeartbeats 40000000
set_option maxRecDepth 100000
attribute [local go_sem] max2_int min2_int max_two min_two max_three min_three max_four min_four
set_option linter.unusedVariables false
set_option linter.unusedSimpArgs false
def impl_Elements.add (k:Nat) (xs:List ByteArray) (x:ByteArray):Option (List ByteArray):=(impl_Trim.f k x).bind fun t=>(if t.toList=([]:List UInt8)then some xs else if xs.length<8796093022208 then some (xs++ [t])else none)
def impl_Elements.l0:Nat→ByteArray→List ByteArray→Int→Bool→Int→Option (List ByteArray)
 |0,_,_,_,_,_=>none
 |k+1,s,out,fr,q,i=>if i<(s.size:Int)then(if 0≤i then(if bt s i=34 then impl_Elements.l0 k s out fr (!q) (wrap64 (i+1))else(if q=true then(if bt s i=92 then impl_Elements.l0 k s out fr true (wrap64 (wrap64 (i+1)+1))else impl_Elements.l0 k s out fr true (wrap64 (i+1)))else(if bt s i=44 then(if 0≤fr then(if fr≤i then(impl_Elements.add k out (s.extract fr.toNat i.toNat)).bind fun o=>impl_Elements.l0 k s o (wrap64 (i+1)) false (wrap64 (i+1))else none)else none)else impl_Elements.l0 k s out fr false (wrap64 (i+1)))))else none)else(if 0≤fr then(if fr≤(s.size:Int)then impl_Elements.add k out (s.extract fr.toNat s.size)else none)else none)
def impl_Elements.f (k:Nat) (a0:ByteArray):Option (List ByteArray):=if(a0.size:Int)>4000 then some []else impl_Elements.l0 k a0 [] 0 false 0
theorem impl_Elements.mono_a: ∀xs x k,LeO (impl_Elements.add k xs x) (impl_Elements.add (k+1) xs x):=by
 intro xs x k;unfold impl_Elements.add
 repeat' first|(with_reducible first|exact impl_Trim.mono _ _|exact LeO.refl _|refine LeO.ite ?_ ?_|refine LeO.bind ?_ (fun _=>?_))
theorem impl_Elements.add_calls (k:Nat) (x:ByteArray) (g:Nat) (v:Value) (xs r:List ByteArray) (w0 w:World) (hg:w.heap[g]?=some (.cells #[v] 71 (0,0))) (hR:Kd.R Kd.string 9 w w0.heap.size (fun j=>j≠g) v xs) (HB0:Below w0.heap.size w0 w) (hgb:w0.heap.size≤g) (h:impl_Elements.add k xs x=some r):
  Calls Tryz.prog 177 #[.string x,.pointer (some ⟨g,0,none⟩)] w fun e w'=>e= .returned (.tuple #[])∧ ∃v',w'.heap[g]?=some (.cells #[v'] 71 (0,0))∧Kd.R Kd.string 9 w' w0.heap.size (fun j=>j≠g) v' r∧Below w0.heap.size w0 w':=by
 unfold impl_Elements.add at h;obtain⟨t,hT,h⟩:=Option.bind_eq_some_iff.mp h;(try dsimp only at h);have A1:=Aside0.mk hT;clear hT;have BK:=Aside0.mk hg;have HR:=Aside0.mk hR;have HB:=Aside0.mk HB0;have GE:=Aside0.mk hgb;have hcz:w.cell? ⟨g,0,none⟩=some v:=(blk_cell BK.out 0).trans rfl;have hfz:=blk_frozen BK.out 0;clear hg hR HB0 hgb
 by_cases c2:t.toList=([]:List UInt8)
 ·rw[if_pos c2]at h;obtain rfl:=Option.some.inj h;have c2b0:(t.toList==([]:List UInt8))=true:=beq_iff_eq.mpr c2;have c2b1:(t.toList !=([]:List UInt8))=false:=bne_eq_false_iff_eq.mpr c2;have c2e:t.toList.isEmpty=true:=by rw[c2];rfl
  clear c2;go_enter Tryz.func177,Tryz.ntmps177
  go_wp2_with (go_at_call 53;(with_reducible refine(impl_Trim.calls k x t _ A1.out).mono ?_);rintro e w' ⟨rfl,⟨nd,rfl⟩⟩)
  go_end0
  exact⟨rfl,v,BK.out,Kd.R_drewN HR.out _,pw_below_drewN HB.out _⟩
 ·rw[if_neg c2]at h
  by_cases c3:xs.length<8796093022208
  ·rw[if_pos c3]at h;obtain rfl:=Option.some.inj h;have c2b0:(t.toList==([]:List UInt8))=false:=beq_eq_false_iff_ne.mpr c2;have c2b1:(t.toList !=([]:List UInt8))=true:=bne_iff_ne.mpr c2;have c2e:t.toList.isEmpty=false:=by cases hz_:t.toList with|nil=>exact absurd hz_ c2|cons _ _=>rfl
   have LM:=Aside0.mk c3;clear c2 c3;go_enter Tryz.func177,Tryz.ntmps177
   go_wp2_with (first
    |(go_at_call 53;(with_reducible refine(impl_Trim.calls k x t _ A1.out).mono ?_);rintro e w' ⟨rfl,⟨nd,rfl⟩⟩)
    |((with_reducible refine gate_builtin (b:= .append) (xs:= #[.tmp 7,.tmp 9]) rfl ?_);at_builtin;refine Kd.R_append Kd.string (w0:=w0) w0.heap.size rfl (.tmp 7) (.tmp 9) 71 9 (.string ⟨#[]⟩) 16 rfl Tryz.underlying71 (by kernel_rfl) rfl (by decide) (by omega) v xs t [.string t] (fun j=>j≠g) (fun _=>False) rfl rfl ?aP (fun _ hk=>hk.elim) ?aF ?aO ?aB ?aS ?aL ?_;(case aP=>exact rfl);(case aB=>exact(by repeat(first|exact HB.out|apply below_alloc|apply pw_below_drewN|apply below_drew1)));(case aF=>exact(fun j hj=>Nat.ne_of_gt (Nat.lt_of_lt_of_le (blk_lt BK.out) hj)));(case aO=>exact(by(with_reducible repeat(first|apply Kd.R_alloc|apply Kd.R_drewN|apply Kd.R_drew));exact HR.out));(case aS=>exact(below_size (by repeat(first|exact HB.out|apply below_alloc|apply pw_below_drewN|apply below_drew1))));(case aL=>have:=LM.out;omega);intro v1 w1 ho hb hg hat;obtain⟨Ao,co,eo⟩:=Kd.R_slice ho;subst eo;have BK1:=Aside0.mk (blk_grown (g:=g) (o:= .cells #[v] 71 (0,0)) (by(with_reducible repeat(first|refine blk_drewN ?_ _|refine blk_drew ?_|refine blk_alloc ?_ _));exact BK.out) hg (fun e=>HR.out.1 g e.symm rfl));have HO1:=Aside0.mk ho;have HB1:=Aside0.mk hb;clear ho hb hg hat;have hcz1:w1.cell? ⟨g,0,none⟩=some v:=(blk_cell BK1.out 0).trans rfl;have hfz1:=blk_frozen BK1.out 0))
   go_end0
   exact⟨rfl,_,blk_put (cs:= #[v]) BK1.out 0 _ rfl,(by have h5:=Kd.R_far (p:=⟨g,0,none⟩) HO1.out (fun _ hk=>hk) (Value.slice Ao (xs.length+1) co);rw[List.length_append,List.length_singleton]at h5;exact h5),below_set HB1.out GE.out⟩
  ·rw[if_neg c3]at h;cases h
theorem impl_Elements.calls (k:Nat) (a0:ByteArray) (r:List ByteArray) (w:World) (h:impl_Elements.f k a0=some r):
  Calls Tryz.prog 150 #[.string a0] w fun e w'=> ∃v0_:Value,e= .returned (v0_)∧Kd.R Kd.string 9 w' w.heap.size (fun _=>True) v0_ r∧Below w.heap.size w w':=by
 unfold impl_Elements.f at h
 by_cases c1:(a0.size:Int)>4000
 ·rw[if_pos c1]at h;obtain rfl:=Option.some.inj h;have c1b0:decide (4000<(a0.size:Int))=true:=decide_eq_true c1;have c1b1:decide (4000<a0.size)=true:=decide_eq_true (by omega);clear c1 h;go_enter Tryz.func150,Tryz.ntmps150
  go_wp2
  go_ret;exact⟨_,rfl,Kd.R_nil _ _ _ _ _,Below.refl _ _⟩
 ·rw[if_neg c1]at h;have c1b0:decide (4000<(a0.size:Int))=false:=decide_eq_false c1;have c1b1:decide (4000<a0.size)=false:=decide_eq_false (by omega);have H':=Aside0.mk h;clear c1 h;go_enter Tryz.func150,Tryz.ntmps150
  go_wp2_with (first|((with_reducible refine gate_dst (N:=3) rfl ?_);refine boxP_ (N:=3) (cs:= #[.slice none 0 0]) (t:=71) ?_;intro g hg w1 hbox hb;have HB0:=Aside0.mk (below_step (Below.refl w.heap.size w) hb);have BK0:=Aside0.mk hbox;have GE:=Aside0.mk (show w.heap.size≤g by rw[hg];exact Nat.le_refl _);clear hb hbox hg))
  go_loopg [5,6,7] k (fun kq v5 v6 v7 w'=> ∃(fr i:Int) (q:Bool) (out:List ByteArray) (v:Value),v5= .int .i64 fr∧v6= .bool q∧v7= .int .i64 i∧Aside0 (impl_Elements.l0 kq a0 out fr q i=some r)∧Aside0 (w'.heap[g]?=some (.cells #[v] 71 (0,0)))∧Aside0 (Kd.R Kd.string 9 w' w.heap.size (fun j=>j≠g) v out)∧Aside0 (Below w.heap.size w w'))
  case atStart=>exact⟨0,0,false,[],.slice none 0 0,rfl,rfl,rfl,H',BK0,⟨Kd.R_nil _ _ _ _ _⟩,HB0⟩
  case round=>
   clear H' BK0 HB0;obtain⟨fr,i,q,out,v,rfl,rfl,rfl,HA,BK1,HR,HB1⟩:=hrel
   cases gk with
   |zero=>exact absurd HA.out (by simp[impl_Elements.l0])
   |succ k1=>
    have H:=HA.out;clear HA;simp only[impl_Elements.l0]at H;have hcz:wr.cell? ⟨g,0,none⟩=some v:=(blk_cell BK1.out 0).trans rfl;have hfz:=blk_frozen BK1.out 0
    by_cases c3:i<(a0.size:Int)
    ·rw[if_pos c3]at H;have c3b0:decide (i<(a0.size:Int))=true:=decide_eq_true c3
     by_cases c4:0≤i
     ·rw[if_pos c4]at H;have c4b0:decide (0≤i)=true:=decide_eq_true c4;have p4:=eq_true c4;have q4:=eq_true c3;have q5:(i≤(a0.size:Int))=True:=eq_true (Int.le_of_lt c3);have hx4:=bt_at a0 i;clear c3 c4
      by_cases c5:bt a0 i=34
      ·rw[if_pos c5]at H;have c5b0:(bt a0 i==34)=true:=beq_iff_eq.mpr c5;have H':=Aside0.mk H;clear H c5;go_wp2
       go_roundg k1
       (case measure=>omega);case rel=>exact⟨fr,wrap64 (i+1),!q,out,v,rfl,zz4,zz4,H',⟨zz142⟩,⟨zz146⟩,⟨zz150⟩⟩
      ·rw[if_neg c5]at H;have c5b0:(bt a0 i==34)=false:=beq_eq_false_iff_ne.mpr c5;clear c5
       cases q with
       |true=>
        rw[if_pos rfl]at H
        by_cases c6:bt a0 i=92
        ·rw[if_pos c6]at H;have c6b0:(bt a0 i==92)=true:=beq_iff_eq.mpr c6;have H':=Aside0.mk H;clear H c6;go_wp2
         go_roundg k1
         (case measure=>omega);case rel=>exact⟨fr,wrap64 (wrap64 (i+1)+1),true,out,v,rfl,zz4,zz4,H',⟨zz142⟩,⟨zz146⟩,⟨zz150⟩⟩
        ·rw[if_neg c6]at H;have c6b0:(bt a0 i==92)=false:=beq_eq_false_iff_ne.mpr c6;have H':=Aside0.mk H;clear H c6;go_wp2
         go_roundg k1
         case measure=>omega
         case rel=>exact⟨fr,wrap64 (i+1),true,out,v,rfl,zz4,zz4,H',⟨zz142⟩,⟨zz146⟩,⟨zz150⟩⟩
       |false=>
        rw[if_neg Bool.false_ne_true]at H
        by_cases c7:bt a0 i=44
        ·rw[if_pos c7]at H;have c7b0:(bt a0 i==44)=true:=beq_iff_eq.mpr c7;clear c7
         by_cases c8:0≤fr
         ·rw[if_pos c8]at H
          by_cases c9:fr≤i
          ·rw[if_pos c9]at H;obtain⟨o,hadd,H⟩:=Option.bind_eq_some_iff.mp H;(try dsimp only at H);have HADD:=Aside0.mk hadd;have H':=Aside0.mk H;have p8:=eq_true c8;have p9:=eq_true c9;clear H hadd c8 c9;go_wp2_with (first|(go_at_call 177;(with_reducible refine(impl_Elements.add_calls k1 (a0.extract fr.toNat i.toNat) g v out o w _ ?s1 ?s2 ?s3 GE.out HADD.out).mono ?_);(case s1=>(with_reducible repeat(first|refine blk_drewN ?_ _|refine blk_drew ?_));exact BK1.out);(case s2=>(with_reducible repeat(first|apply Kd.R_drewN|apply Kd.R_drew));exact HR.out);(case s3=>repeat(first|exact HB1.out|apply pw_below_drewN|apply below_drew1));rintro e w2 ⟨rfl,v2,hg2,hR2,hB2⟩;obtain⟨Ao,co,eo⟩:=Kd.R_slice hR2;subst eo;have BK2:=Aside0.mk hg2;have HR2:=Aside0.mk hR2;have HB2:=Aside0.mk hB2;clear hg2 hR2 hB2;have hcz2:w2.cell? ⟨g,0,none⟩=some (.slice Ao o.length co):=(blk_cell BK2.out 0).trans rfl;have hfz2:=blk_frozen BK2.out 0))
           go_roundg k1
           (case measure=>omega);case rel=>exact⟨wrap64 (i+1),wrap64 (i+1),false,o,.slice Ao o.length co,zz4,zz4,zz4,H',⟨by(with_reducible repeat(first|refine blk_drewN ?_ _|refine blk_drew ?_));exact BK2.out⟩,⟨by(with_reducible repeat(first|apply Kd.R_drewN|apply Kd.R_drew));exact HR2.out⟩,⟨by repeat(first|exact HB2.out|apply pw_below_drewN|apply below_drew1)⟩⟩
          ·rw[if_neg c9]at H;cases H
         ·rw[if_neg c8]at H;cases H
        ·rw[if_neg c7]at H;have c7b0:(bt a0 i==44)=false:=beq_eq_false_iff_ne.mpr c7;have H':=Aside0.mk H;clear H c7;go_wp2
         go_roundg k1
         (case measure=>omega);case rel=>exact⟨fr,wrap64 (i+1),false,out,v,rfl,zz4,zz4,H',⟨zz142⟩,⟨zz146⟩,⟨zz150⟩⟩
     ·rw[if_neg c4]at H;cases H
    ·rw[if_neg c3]at H;have c3b0:decide (i<(a0.size:Int))=false:=decide_eq_false c3;clear c3
     by_cases c8:0≤fr
     ·rw[if_pos c8]at H
      by_cases c9:fr≤(a0.size:Int)
      ·rw[if_pos c9]at H;have HADD:=Aside0.mk H;have p8:=eq_true c8;have p9:=eq_true c9;clear H c8 c9;go_wp2_with (first|(go_at_call 177;(with_reducible refine(impl_Elements.add_calls k1 (a0.extract fr.toNat a0.size) g v out r w _ ?s1 ?s2 ?s3 GE.out HADD.out).mono ?_);(case s1=>(with_reducible repeat(first|refine blk_drewN ?_ _|refine blk_drew ?_));exact BK1.out);(case s2=>(with_reducible repeat(first|apply Kd.R_drewN|apply Kd.R_drew));exact HR.out);(case s3=>repeat(first|exact HB1.out|apply pw_below_drewN|apply below_drew1));rintro e w2 ⟨rfl,v2,hg2,hR2,hB2⟩;obtain⟨Ao,co,eo⟩:=Kd.R_slice hR2;subst eo;have BK2:=Aside0.mk hg2;have HR2:=Aside0.mk hR2;have HB2:=Aside0.mk hB2;clear hg2 hR2 hB2;have hcz2:w2.cell? ⟨g,0,none⟩=some (.slice Ao r.length co):=(blk_cell BK2.out 0).trans rfl;have hfz2:=blk_frozen BK2.out 0))
       go_ret;exact⟨_,rfl,by(with_reducible repeat(first|apply Kd.R_drewN|apply Kd.R_drew));exact Kd.R_mono HR2.out (fun _ _=>trivial),by repeat(first|exact HB2.out|apply pw_below_drewN|apply below_drew1)⟩
      ·rw[if_neg c9]at H;cases H
     ·rw[if_neg c8]at H;cases H
def strings_Join.f (l0:List ByteArray) (a1:ByteArray):Option (ByteArray):=if l0.length≤1099511627776∧(Lib.join (l0.map (·.data.toList)) a1.data.toList).length≤1099511627776 then some ⟨(Lib.join (l0.map (·.data.toList)) a1.data.toList).toArray⟩else none
theorem strings_Join.calls (A0:Option Addr) (c0:Nat) (l0:List ByteArray) (a1 r:ByteArray) (w:World) (hr0:Kd.C Kd.string w A0 l0.length l0) (hc0:l0.length≤c0) (h:strings_Join.f l0 a1=some r):
  Calls Tryz.prog 178 #[.slice A0 l0.length c0,.string a1] w fun e w'=>e= .returned (.string r)∧Below w.heap.size w w':=by
 unfold strings_Join.f at h
 by_cases hs:l0.length≤1099511627776∧(Lib.join (l0.map (·.data.toList)) a1.data.toList).length≤1099511627776
 ·rw[if_pos hs]at h;obtain rfl:=Option.some.inj h
  rcases Nat.eq_zero_or_pos l0.length with h0|h0
  ·obtain rfl:=List.eq_nil_of_length_eq_zero h0;exact(Tryz.strings_Join_none A0 c0 a1 w).mono fun e w' ⟨he,hw⟩=>⟨he,hw ▸ Below.refl _ _⟩
  ·obtain⟨ad,rfl,hcell⟩:=Kd.at_string hr0 0 (by omega) (by omega);have hsp:=World.cell?_spot hcell;have hlt:=World.block_lt_of_cell? w _ hcell;obtain⟨bk,o,sp⟩:=ad;obtain rfl:sp=none:=by simpa [Addr.add]using hsp
   refine Tryz.strings_Join bk o c0 l0 a1 w (fun j x hj=>?_) (by simpa [Addr.add]using hlt) (by omega) hc0 (by omega);have hjl:j<l0.length:=(List.getElem?_eq_some_iff.1 hj).1;obtain⟨ad,had,hc⟩:=Kd.at_string hr0 (j:Int) (by omega) (by omega);obtain rfl:=Option.some.inj had
   rcases Nat.eq_zero_or_pos j with rfl|hj0
   ·simpa [Addr.add,rdOf,List.getD_eq_getElem?_getD,hj]using hc
   ·have hne:j≠0:=by omega
    simpa [Addr.add,rdOf,List.getD_eq_getElem?_getD,hj,hne]using hc
 ·rw[if_neg hs]at h;cases h
def impl_Joined.f (k:Nat) (l0:List (S82)) (a1:ByteArray):Option (ByteArray):=(impl_Values.f k l0 a1).bind fun t252=>((strings_Join.f t252 (⟨#[44,32]⟩:ByteArray)).bind fun t255=>(some t255))
theorem impl_Joined.calls (k:Nat) (A0:Option Addr) (c0:Nat) (l0:List (S82)) (a1 r:ByteArray) (w:World) (hr0:Kd.C k82 w A0 l0.length l0) (hc0:l0.length≤c0) (h:impl_Joined.f k l0 a1=some r):
  Calls Tryz.prog 151 #[.slice A0 l0.length c0,.string a1] w fun e w'=>e= .returned (.string r)∧Below w.heap.size w w':=by
 have HR0:=Aside0.mk hr0;have HC0:=Aside0.mk hc0;clear hr0 hc0;have HB:=Aside0.mk (Below.refl w.heap.size w);have H:((impl_Values.f k l0 a1).bind fun t252=>((strings_Join.f t252 (⟨#[44,32]⟩:ByteArray)).bind fun t255=>(some t255)))=some r:=h;clear h;replace H:=Option.bind_eq_some_iff.mp H;obtain⟨t252,A30,H⟩:=H;(try dsimp only at H);have A3:=Aside0.mk A30;clear A30;replace H:=Option.bind_eq_some_iff.mp H;obtain⟨t255,A40,H⟩:=H;(try dsimp only at H);have A4:=Aside0.mk A40;clear A40;obtain rfl:=Option.some.inj H;go_enter Tryz.func151,Tryz.ntmps151
 go_wp2_with (first|((with_reducible refine gate_callee (f:=111) rfl ?_);refine goesQ_ 7 Tryz.func111 #[.slice A0 l0.length c0,.string a1] ?_;(with_reducible refine(impl_Values.calls k _ _ l0 a1 t252 _ ?side1 ?side2 A3.out).mono ?_);(case side1=>repeat(first|exact HR0.out|(with_reducible refine Kd.C_alloc ?_ _)|(with_reducible refine Kd.C_drewN ?_ _)|(with_reducible refine Kd.C_drew ?_)));(case side2=>exact HC0.out);rintro e w5 ⟨v253,rfl,ho0,hb⟩;refine⟨_,rfl,?_⟩;have HO254:=Aside0.mk (Kd.R_lower ho0 (below_size zz0));replace HB:=Aside0.mk (below_step zz0 hb);(try clear hb);(try clear ho0);obtain⟨Ao6,co6,eo6⟩:=Kd.R_slice HO254.out;subst eo6)|((with_reducible refine gate_callee (f:=178) rfl ?_);refine goesQ_ 8 Tryz.func178 #[.slice Ao6 t252.length co6,.string (⟨#[44,32]⟩:ByteArray)] ?_;(with_reducible refine(strings_Join.calls _ _ t252 (⟨#[44,32]⟩:ByteArray) t255 _ ?side1 ?side2 A4.out).mono ?_);(case side1=>repeat(first|exact(Kd.R_reads' HO254.out).2.2|(with_reducible refine Kd.C_alloc ?_ _)|(with_reducible refine Kd.C_drewN ?_ _)|(with_reducible refine Kd.C_drew ?_)));(case side2=>exact(Kd.R_reads' HO254.out).2.1);rintro e w7 ⟨rfl,hb⟩;refine⟨_,rfl,?_⟩;replace HO254:=Aside0.mk (Kd.R_below (by(with_reducible repeat(first|apply Kd.R_alloc|apply Kd.R_drewN|apply Kd.R_drew));exact HO254.out) hb);replace HB:=Aside0.mk (below_step zz0 hb);(try clear hb)))
 go_ret;exact⟨zz1,zz0⟩
def impl_Words.f (k:Nat) (l0:List (S82)) (a1:ByteArray):Option (List ByteArray):=(impl_Joined.f k l0 a1).bind fun t256=>((impl_Elements.f k t256).bind fun t257=>(some t257))
theorem impl_Words.calls (k:Nat) (A0:Option Addr) (c0:Nat) (l0:List (S82)) (a1:ByteArray) (r:List ByteArray) (w:World) (hr0:Kd.C k82 w A0 l0.length l0) (hc0:l0.length≤c0) (h:impl_Words.f k l0 a1=some r):
  Calls Tryz.prog 121 #[.slice A0 l0.length c0,.string a1] w fun e w'=> ∃v0_:Value,e= .returned (v0_)∧Kd.R Kd.string 9 w' w.heap.size (fun _=>True) v0_ r∧Below w.heap.size w w':=by
 have HR0:=Aside0.mk hr0;have HC0:=Aside0.mk hc0;clear hr0 hc0;have HB:=Aside0.mk (Below.refl w.heap.size w);have H:((impl_Joined.f k l0 a1).bind fun t256=>((impl_Elements.f k t256).bind fun t257=>(some t257)))=some r:=h;clear h;replace H:=Option.bind_eq_some_iff.mp H;obtain⟨t256,A30,H⟩:=H;(try dsimp only at H);have A3:=Aside0.mk A30;clear A30;replace H:=Option.bind_eq_some_iff.mp H;obtain⟨t257,A40,H⟩:=H;(try dsimp only at H);have A4:=Aside0.mk A40;clear A40;obtain rfl:=Option.some.inj H;go_enter Tryz.func121,Tryz.ntmps121
 go_wp2_with (first|((with_reducible refine gate_callee (f:=151) rfl ?_);refine goesQ_ 7 Tryz.func151 #[.slice A0 l0.length c0,.string a1] ?_;(with_reducible refine(impl_Joined.calls k _ _ l0 a1 t256 _ ?side1 ?side2 A3.out).mono ?_);(case side1=>repeat(first|exact HR0.out|(with_reducible refine Kd.C_alloc ?_ _)|(with_reducible refine Kd.C_drewN ?_ _)|(with_reducible refine Kd.C_drew ?_)));(case side2=>exact HC0.out);rintro e w5 ⟨rfl,hb⟩;refine⟨_,rfl,?_⟩;replace HB:=Aside0.mk (below_step zz0 hb);(try clear hb))|((with_reducible refine gate_callee (f:=150) rfl ?_);refine goesQ_ 8 Tryz.func150 #[.string t256] ?_;(with_reducible refine(impl_Elements.calls k t256 t257 _ A4.out).mono ?_);rintro e w6 ⟨v258,rfl,ho0,hb⟩;refine⟨_,rfl,?_⟩;have HO259:=Aside0.mk (Kd.R_lower ho0 (below_size zz0));replace HB:=Aside0.mk (below_step zz0 hb);(try clear hb);(try clear ho0)))
 go_ret;exact⟨_,zz1,by(with_reducible repeat(first|apply Kd.R_alloc|apply Kd.R_drewN|apply Kd.R_drew));exact HO259.out,zz0⟩
def impl_DecText.f (a0:Int):Option (ByteArray):=(impl_within.f a0 0 999999999999999).bind fun t260=>(if t260=true then((strconv_Itoa.f a0).bind fun t261=>(some t261))else(some (⟨#[]⟩:ByteArray)))
theorem impl_DecText.calls (a0:Int) (r:ByteArray) (w:World) (hG:Gl w) (h:impl_DecText.f a0=some r):
  Calls Tryz.prog 108 #[.int .i64 a0] w fun e w'=>e= .returned (.string r)∧Below w.heap.size w w':=by
 have HG:=Aside0.mk hG;clear hG;have HB:=Aside0.mk (Below.refl w.heap.size w);have H:((impl_within.f a0 0 999999999999999).bind fun t260=>(if t260=true then((strconv_Itoa.f a0).bind fun t261=>(some t261))else(some (⟨#[]⟩:ByteArray))))=some r:=h;clear h;replace H:=Option.bind_eq_some_iff.mp H;obtain⟨t260,A20,H⟩:=H;(try dsimp only at H);have A2:=Aside0.mk A20;clear A20
 by_cases c3:t260=true
 ·subst c3;rw[if_pos rfl]at H;replace H:=Option.bind_eq_some_iff.mp H;obtain⟨t261,A40,H⟩:=H;(try dsimp only at H);have A4:=Aside0.mk A40;clear A40;obtain rfl:=Option.some.inj H;go_enter Tryz.func108,Tryz.ntmps108
  go_wp2_with (first|((with_reducible refine gate_callee (f:=27) rfl ?_);refine goesR_ 4 Tryz.func27 #[.int .i64 a0,.int .i64 0,.int .i64 999999999999999] (impl_within.calls a0 0 999999999999999 true _ A2.out) ?_;rintro w' ⟨nd,rfl⟩)|((with_reducible refine gate_callee (f:=89) rfl ?_);refine goesQ_ 7 Tryz.func89 #[.int .i64 a0] ?_;(with_reducible refine(strconv_Itoa.calls a0 t261 _ ?side1 A4.out).mono ?_);(case side1=>exact Gl.below HG.out zz0);rintro e w5 ⟨rfl,hb⟩;refine⟨_,rfl,?_⟩;replace HB:=Aside0.mk (below_step zz0 hb);(try clear hb)))
  go_ret;exact⟨zz1,zz0⟩
 ·replace c3:=Bool.eq_false_iff.mpr c3;subst c3;rw[if_neg Bool.false_ne_true]at H;obtain rfl:=Option.some.inj H;go_enter Tryz.func108,Tryz.ntmps108
  go_wp2_with (first|((with_reducible refine gate_callee (f:=27) rfl ?_);refine goesR_ 4 Tryz.func27 #[.int .i64 a0,.int .i64 0,.int .i64 999999999999999] (impl_within.calls a0 0 999999999999999 false _ A2.out) ?_;rintro w' ⟨nd,rfl⟩))
  go_ret;exact⟨zz1,zz0⟩
def impl_ReadDec.ok (l:List UInt8):Int×Bool:=match Lib.atoiAll l with
 | .ok v=>if 0≤v∧v≤999999999999999∧Lib.itoa v=l then(v,true)else(0,false)
 |_=>(0,false)
def impl_ReadDec.f (a0:ByteArray):Option (Int×Bool):=if a0.size≤1099511627776 then some (impl_ReadDec.ok a0.data.toList)else none
theorem impl_ReadDec_text (v:Int) (h0:0≤v) (h1:v≤999999999999999):impl_DecText.f v=some ⟨(Lib.itoa v).toArray⟩:=by
 unfold impl_DecText.f impl_within.f strconv_Itoa.f
 simp[h0,h1,show-9223372036854775808≤v by omega,show v≤9223372036854775807 by omega]
theorem impl_ReadDec.calls (a0:ByteArray) (r1:Int) (r2:Bool) (w:World) (hG:Gl w) (h:impl_ReadDec.f a0=some (r1,r2)):
  Calls Tryz.prog 59 #[.string a0] w fun e w'=>e= .returned (.tuple #[.int .i64 r1,.bool r2])∧Below w.heap.size w w':=by
 unfold impl_ReadDec.f at h
 by_cases hlim:a0.size≤1099511627776
 ·rw[if_pos hlim]at h;have H:=Option.some.inj h;clear h;have HG:=Aside0.mk hG;clear hG;unfold impl_ReadDec.ok at H
  cases hA:Lib.atoiAll a0.data.toList with
  | «syntax» =>
   rw[hA]at H;obtain⟨rfl,rfl⟩:_∧_:=by simpa only[Prod.mk.injEq]using H
   obtain⟨tp,p,hv⟩:=HG.out.errS;go_enter Tryz.func59,Tryz.ntmps59
   go_wp2_with (go_at_call 107;refine(Tryz.strconv_Atoi_syntax_var a0 (by omega) hA tp p w hv).mono ?_;rintro e w' ⟨N,rfl,_,_,hb⟩)
   go_ret2
   exact⟨rfl,hb⟩
  |range=>
   rw[hA]at H;obtain⟨rfl,rfl⟩:_∧_:=by simpa only[Prod.mk.injEq]using H
   obtain⟨tp,p,hv⟩:=HG.out.errR;go_enter Tryz.func59,Tryz.ntmps59
   go_wp2_with (go_at_call 107;refine(Tryz.strconv_Atoi_range_var a0 (by omega) hA tp p w hv).mono ?_;rintro e w' ⟨N,rfl,_,_,hb⟩)
   go_ret2
   exact⟨rfl,hb⟩
  |ok v=>
   rw[hA]at H
   have hat:=(Tryz.strconv_Atoi_ok a0 (by omega) v hA w).mono (R':=fun e w'=>e= .returned (.tuple #[.int .i64 v,.nilIface])∧Below w.heap.size w w') (by
    rintro e w' ⟨he,hw|⟨t,hw⟩⟩
    ·subst hw;exact⟨he,Below.refl _ _⟩
    ·subst hw;exact⟨he,bytes_below (Below.refl _ _) (Nat.le_refl _) _ _⟩)
   by_cases hv:0≤v∧v≤999999999999999
   ·have hw:impl_within.f v 0 999999999999999=some true:=by unfold impl_within.f;rw[if_pos hv.1,decide_eq_true hv.2]
    have hd:=impl_ReadDec_text v hv.1 hv.2;have HV:=Aside0.mk hv;clear hv
    by_cases he:Lib.itoa v=a0.data.toList
    ·have hr:(v,true)=(r1,r2):=by rw[←H];exact(if_pos ⟨HV.out.1,HV.out.2,he⟩).symm
     obtain⟨rfl,rfl⟩:_∧_:=by simpa only[Prod.mk.injEq]using hr
     have he2:(⟨(Lib.itoa v).toArray⟩:ByteArray)=a0:=by rw[he]
     rw[he2]at hd;clear H hr he he2;go_enter Tryz.func59,Tryz.ntmps59
     go_wp2_with (first|(go_at_call 107;refine hat.mono ?_;rintro e w1 ⟨rfl,hb1⟩;have HB1:=Aside0.mk hb1;clear hb1)|(go_at_call 27;refine(impl_within.calls v 0 999999999999999 true _ hw).mono ?_;rintro e w2 ⟨rfl,⟨nd,rfl⟩⟩)|(go_at_call 108;refine(impl_DecText.calls v a0 _ (HG.out.below (pw_below_drewN HB1.out nd)) hd).mono ?_;rintro e w3 ⟨rfl,hb3⟩;have HB3:=Aside0.mk hb3;clear hb3))
     go_ret2
     exact⟨rfl,(pw_below_drewN HB1.out nd).trans (HB3.out.mono (by have:=HB1.out.size;simpa using this))⟩
    ·have hr:(0,false)=(r1,r2):=by rw[←H];exact(if_neg (fun hh=>he hh.2.2)).symm
     obtain⟨rfl,rfl⟩:_∧_:=by simpa only[Prod.mk.injEq]using hr
     obtain⟨d,hdd⟩: ∃d:ByteArray,(⟨(Lib.itoa v).toArray⟩:ByteArray)=d:=⟨_,rfl⟩
     have hne: ¬d.toList=a0.toList:=by
      rw[←hdd,ByteArray.toList_eq,ByteArray.toList_eq];exact fun hh=>he (by simpa using hh)
     have hnf:=eq_false hne;have hnb:(d.toList==a0.toList)=false:=beq_eq_false_iff_ne.2 hne;rw[hdd]at hd;clear H hr he hdd;go_enter Tryz.func59,Tryz.ntmps59
     go_wp2_with (first|(go_at_call 107;refine hat.mono ?_;rintro e w1 ⟨rfl,hb1⟩;have HB1:=Aside0.mk hb1;clear hb1)|(go_at_call 27;refine(impl_within.calls v 0 999999999999999 true _ hw).mono ?_;rintro e w2 ⟨rfl,⟨nd,rfl⟩⟩)|(go_at_call 108;refine(impl_DecText.calls v d _ (HG.out.below (pw_below_drewN HB1.out nd)) hd).mono ?_;rintro e w3 ⟨rfl,hb3⟩;have HB3:=Aside0.mk hb3;clear hb3))
     go_ret2
     exact⟨rfl,(pw_below_drewN HB1.out nd).trans (HB3.out.mono (by have:=HB1.out.size;simpa using this))⟩
   ·have hw:impl_within.f v 0 999999999999999=some false:=by
     unfold impl_within.f
     split
     ·rw[decide_eq_false (by omega)]
     ·rfl
    have hr:(0,false)=(r1,r2):=by rw[←H];exact(if_neg (fun hh=>hv ⟨hh.1,hh.2.1⟩)).symm
    obtain⟨rfl,rfl⟩:_∧_:=by simpa only[Prod.mk.injEq]using hr
    clear H hr hv;go_enter Tryz.func59,Tryz.ntmps59
    go_wp2_with (first|(go_at_call 107;refine hat.mono ?_;rintro e w1 ⟨rfl,hb1⟩;have HB1:=Aside0.mk hb1;clear hb1)|(go_at_call 27;refine(impl_within.calls v 0 999999999999999 false _ hw).mono ?_;rintro e w2 ⟨rfl,⟨nd,rfl⟩⟩))
    go_ret2
    exact⟨rfl,pw_below_drewN HB1.out nd⟩
 ·rw[if_neg hlim]at h;cases h
def impl_lengthOf.l0:Nat→Int→List ByteArray→Int→Int→Option (Int×Bool)
 |0,_,_,_,_=>none
 |k+1,x5,x12,x13,x14=>if x14<x13 then(if 0≤x14 then(if x14<(x12.length:Int)then((impl_ReadDec.f (rdOf ByteArray.empty x12 x14)).bind fun bt266=>(if bt266.2=true then(if x5≥0 then(if bt266.1=x5 then(impl_lengthOf.l0 k bt266.1 x12 x13 (wrap64 (x14+1)))else(some (0,false)))else(impl_lengthOf.l0 k bt266.1 x12 x13 (wrap64 (x14+1))))else(some (0,false))))else(none))else(none))else(some (x5,decide (x5≥0)))
def impl_lengthOf.f (k:Nat) (l0:List (S82)):Option (Int×Bool):=(impl_Words.f k l0 (⟨#[99,111,110,116,101,110,116,45,108,101,110,103,116,104]⟩:ByteArray)).bind fun t262=>(impl_lengthOf.l0 k (-1) t262 (t262.length:Int) 0)
theorem impl_lengthOf.calls (k:Nat) (A0:Option Addr) (c0:Nat) (l0:List (S82)) (r1:Int) (r2:Bool) (w:World) (hG:Gl w) (hr0:Kd.C k82 w A0 l0.length l0) (hc0:l0.length≤c0) (h:impl_lengthOf.f k l0=some (r1,r2)):
  Calls Tryz.prog 122 #[.slice A0 l0.length c0] w fun e w'=>e= .returned (.tuple #[.int .i64 r1,.bool r2])∧Below w.heap.size w w':=by
 have HG:=Aside0.mk hG;clear hG;have HR0:=Aside0.mk hr0;have HC0:=Aside0.mk hc0;clear hr0 hc0;have HB:=Aside0.mk (Below.refl w.heap.size w);have H:((impl_Words.f k l0 (⟨#[99,111,110,116,101,110,116,45,108,101,110,103,116,104]⟩:ByteArray)).bind fun t262=>(impl_lengthOf.l0 k (-1) t262 (t262.length:Int) 0))=some (r1,r2):=h;clear h;replace H:=Option.bind_eq_some_iff.mp H;obtain⟨t262,A20,H⟩:=H;(try dsimp only at H);have A2:=Aside0.mk A20;clear A20;have H':=Aside0.mk H;clear H;go_enter Tryz.func122,Tryz.ntmps122
 go_wp2_with (first|((with_reducible refine gate_callee (f:=121) rfl ?_);refine goesQ_ 11 Tryz.func121 #[.slice A0 l0.length c0,.string (⟨#[99,111,110,116,101,110,116,45,108,101,110,103,116,104]⟩:ByteArray)] ?_;(with_reducible refine(impl_Words.calls k _ _ l0 (⟨#[99,111,110,116,101,110,116,45,108,101,110,103,116,104]⟩:ByteArray) t262 _ ?side1 ?side2 A2.out).mono ?_);(case side1=>repeat(first|exact HR0.out|(with_reducible refine Kd.C_alloc ?_ _)|(with_reducible refine Kd.C_drewN ?_ _)|(with_reducible refine Kd.C_drew ?_)));(case side2=>exact HC0.out);rintro e w3 ⟨v263,rfl,ho0,hb⟩;refine⟨_,rfl,?_⟩;have HO264:=Aside0.mk (Kd.R_lower ho0 (below_size zz0));replace HB:=Aside0.mk (below_step zz0 hb);(try clear hb);(try clear ho0);obtain⟨Ao4,co4,eo4⟩:=Kd.R_slice HO264.out;subst eo4))
 go_loopg [5,14] k (fun kq v5 v14 w'=> ∃(x5_1 x14_1:Int),v5= .int .i64 x5_1∧v14= .int .i64 x14_1∧Aside0 (impl_lengthOf.l0 kq x5_1 t262 (t262.length:Int) x14_1=some (r1,r2))∧Aside0 (kq≤k)∧Aside0 (Kd.R Kd.string 9 w' w.heap.size (fun _=>True) (.slice Ao4 t262.length co4) t262)∧Aside0 (Below w.heap.size w w'))
 case atStart=>exact⟨((-1)),(0),zz4,zz4,H',⟨Nat.le_refl _⟩,⟨by(with_reducible repeat(first|apply Kd.R_alloc|apply Kd.R_drewN|apply Kd.R_drew));exact HO264.out⟩,⟨zz0⟩⟩
 case round=>
  clear H';(try clear c1);(try clear p2);obtain⟨x5_1,x14_1,rfl,rfl,HA,HK1,HO_12,HB⟩:=hrel
  cases gk with
  |zero=>exact absurd HA.out (by simp[impl_lengthOf.l0])
  |succ k1=>
   have H:=HA.out;clear HA;simp only[impl_lengthOf.l0]at H
   by_cases c5:x14_1<(t262.length:Int)
   ·rw[if_pos c5]at H;have c5b0:decide (x14_1<(t262.length:Int))=true:=decide_eq_true c5;clear c5
    by_cases c6:0≤x14_1
    ·rw[if_pos c6]at H;have c6b0:decide (0≤x14_1)=true:=decide_eq_true c6;clear c6
     by_cases c7:x14_1<(t262.length:Int)
     ·rw[if_pos c7]at H;have c7b0:decide (x14_1<(t262.length:Int))=true:=decide_eq_true c7;clear c7;replace H:=Option.bind_eq_some_iff.mp H;obtain⟨⟨t266,t267⟩,A80,H⟩:=H;(try dsimp only at H);have A8:=Aside0.mk A80;clear A80;have HC9:=Aside0.mk H;clear H;have p265:0≤(x14_1:Int):=of_decide_eq_true zz16;have q265:x14_1<(t262.length:Int):=of_decide_eq_true zz16;obtain⟨ad265,e265,hx265_0⟩:=Kd.at_string (Kd.R_reads' HO_12.out).2.2 x14_1 p265 q265;cases e265;replace p265:=eq_true p265;replace q265:=eq_true q265
      repeat' (first|(go_big_may;(first|((with_reducible refine gate_callee (f:=59) rfl ?_);refine goesQ_ 20 Tryz.func59 #[.string (rdOf ByteArray.empty t262 x14_1)] ?_;(with_reducible refine(impl_ReadDec.calls (rdOf ByteArray.empty t262 x14_1) t266 t267 _ ?side1 A8.out).mono ?_);(case side1=>exact Gl.below HG.out zz0);rintro e w10 ⟨rfl,hb⟩;refine⟨_,rfl,?_⟩;replace HO_12:=Aside0.mk (Kd.R_below zz154 hb);replace HB:=Aside0.mk (below_step zz0 hb);(try clear hb))))|go_values|go_skip|go_big_skip|go_big_want|((first|(with_reducible refine gate_nog rfl ?_)|(fail_if_success with_reducible refine gate_any ?_));go_step)|go_upon|simp only[Bool.not_true,Bool.not_false,Bool.true_and,Bool.false_and,Bool.true_or,Bool.false_or]|dsimp only)
      (try simp only[Act.put,List.setIfInBounds_toArray,List.set_cons_zero,List.set_cons_succ]);have H:=HC9.out;clear HC9
      by_cases c11:t267=true
      ·subst c11;rw[if_pos rfl]at H
       by_cases c12:x5_1≥0
       ·rw[if_pos c12]at H;have c12b0:decide (0≤x5_1)=true:=decide_eq_true c12;clear c12;(first|rw[c12b0]|(simp only[i64_w,i32_w];rw[c12b0])|skip)
        by_cases c13:t266=x5_1
        ·rw[if_pos c13]at H;have c13b0:(t266==x5_1)=true:=beq_iff_eq.mpr c13;have c13b1:(t266 !=x5_1)=false:=bne_eq_false_iff_eq.mpr c13;clear c13;have H':=Aside0.mk H;clear H;go_wp2
         go_roundg k1
         (case measure=>have:=HK1.out;omega);case rel=>exact⟨(t266),(wrap64 (x14_1+1)),zz4,zz4,H',⟨zz119⟩,⟨zz154⟩,⟨zz0⟩⟩
        ·rw[if_neg c13]at H;have c13b0:(t266==x5_1)=false:=beq_eq_false_iff_ne.mpr c13;have c13b1:(t266 !=x5_1)=true:=bne_iff_ne.mpr c13;simp only[Option.some.injEq,Prod.mk.injEq]at H;obtain⟨rfl,rfl⟩:=H;go_wp2
         go_ret2
         exact⟨zz1,zz0⟩
       ·rw[if_neg c12]at H;have c12b0:decide (0≤x5_1)=false:=decide_eq_false c12;clear c12;(first|rw[c12b0]|(simp only[i64_w,i32_w];rw[c12b0])|skip);have H':=Aside0.mk H;clear H;go_wp2
        go_roundg k1
        (case measure=>have:=HK1.out;omega);case rel=>exact⟨(t266),(wrap64 (x14_1+1)),zz4,zz4,H',⟨zz119⟩,⟨zz154⟩,⟨zz0⟩⟩
      ·replace c11:=Bool.eq_false_iff.mpr c11;subst c11;rw[if_neg Bool.false_ne_true]at H;simp only[Option.some.injEq,Prod.mk.injEq]at H;obtain⟨rfl,rfl⟩:=H;go_wp2
       go_ret2
       exact⟨zz1,zz0⟩
     ·rw[if_neg c7]at H;exact absurd H (by simp)
    ·rw[if_neg c6]at H;exact absurd H (by simp)
   ·rw[if_neg c5]at H;have c5b0:decide (x14_1<(t262.length:Int))=false:=decide_eq_false c5;clear c5;simp only[Option.some.injEq,Prod.mk.injEq]at H;obtain⟨rfl,rfl⟩:=H;go_wp2
    go_ret2
    exact⟨zz1,zz0⟩
end Go.Proofs.YtnilblnhlpnpgaaGreatDoor.GFnTwice
