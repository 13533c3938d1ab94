-- Printed by gen.py and its programs for this claim.
import Derived.Test.YtnilblnhlpnpgaaGreatDoorGFnExactGrammarx0
import Derived.Test.YtnilblnhlpnpgaaGreatDoorGFnExactGrammarx10
import Derived.Test.YtnilblnhlpnpgaaGreatDoorGFnExactGrammarx12
import Derived.Test.YtnilblnhlpnpgaaGreatDoorGFnExactGrammarx15
import Derived.Test.YtnilblnhlpnpgaaGreatDoorZFnExactGrammar
namespace Go.Proofs.YtnilblnhlpnpgaaGreatDoor.GFnExactGrammar
open Go.RowKit Go.Proofs.YtnilblnhlpnpgaaGreatDoorW.PrintWords Go.Proofs.YtnilblnhlpnpgaaGreatDoorW.PrintLast Go.Proofs.YtnilblnhlpnpgaaGreatDoorW.PrintMore Go.Proofs.YtnilblnhlpnpgaaGreatDoorW.Zs
set_option maxHeartbeats 40000000
set_option maxRecDepth 100000
attribute [local go_sem] max2_int min2_int max_two min_two max_three min_three max_four min_four
set_option linter.unusedVariables false
set_option linter.unusedSimpArgs false
def impl_DecText.f (a0:Int):Option (ByteArray):=(impl_within.f a0 0 999999999999999).bind fun t294=>(if t294=true then((strconv_Itoa.f a0).bind fun t295=>(some t295))else(some (⟨#[]⟩:ByteArray)))
theorem impl_DecText.calls (a0:Int) (r:ByteArray) (w:World) (hG:Gl w) (h:impl_DecText.f a0=some r):
  Calls Tryz.prog 108 #[.int .i64 a0] w fun e w'=>e= .returned (.string r)∧Below w.heap.size w w':=by
 have HG:=Aside0.mk hG;clear hG;have HB:=Aside0.mk (Below.refl w.heap.size w);have H:((impl_within.f a0 0 999999999999999).bind fun t294=>(if t294=true then((strconv_Itoa.f a0).bind fun t295=>(some t295))else(some (⟨#[]⟩:ByteArray))))=some r:=h;clear h;replace H:=Option.bind_eq_some_iff.mp H;obtain⟨t294,A20,H⟩:=H;(try dsimp only at H);have A2:=Aside0.mk A20;clear A20
 by_cases c3:t294=true
 ·subst c3;rw[if_pos rfl]at H;replace H:=Option.bind_eq_some_iff.mp H;obtain⟨t295,A40,H⟩:=H;(try dsimp only at H);have A4:=Aside0.mk A40;clear A40;obtain rfl:=Option.some.inj H;go_enter Tryz.func108,Tryz.ntmps108
  go_wp2_with (first|((with_reducible refine gate_callee (f:=27) rfl ?_);refine goesR_ 4 Tryz.func27 #[.int .i64 a0,.int .i64 0,.int .i64 999999999999999] (impl_within.calls a0 0 999999999999999 true _ A2.out) ?_;rintro w' ⟨nd,rfl⟩)|((with_reducible refine gate_callee (f:=89) rfl ?_);refine goesQ_ 7 Tryz.func89 #[.int .i64 a0] ?_;(with_reducible refine(strconv_Itoa.calls a0 t295 _ ?side1 A4.out).mono ?_);(case side1=>exact Gl.below HG.out zz0);rintro e w5 ⟨rfl,hb⟩;refine⟨_,rfl,?_⟩;replace HB:=Aside0.mk (below_step zz0 hb);(try clear hb)))
  go_ret;exact⟨zz2,zz0⟩
 ·replace c3:=Bool.eq_false_iff.mpr c3;subst c3;rw[if_neg Bool.false_ne_true]at H;obtain rfl:=Option.some.inj H;go_enter Tryz.func108,Tryz.ntmps108
  go_wp2_with (first|((with_reducible refine gate_callee (f:=27) rfl ?_);refine goesR_ 4 Tryz.func27 #[.int .i64 a0,.int .i64 0,.int .i64 999999999999999] (impl_within.calls a0 0 999999999999999 false _ A2.out) ?_;rintro w' ⟨nd,rfl⟩))
  go_ret;exact⟨zz2,zz0⟩
def impl_ReadDec.ok (l:List UInt8):Int×Bool:=match Lib.atoiAll l with
 | .ok v=>if 0≤v∧v≤999999999999999∧Lib.itoa v=l then(v,true)else(0,false)
 |_=>(0,false)
def impl_ReadDec.f (a0:ByteArray):Option (Int×Bool):=if a0.size≤1099511627776 then some (impl_ReadDec.ok a0.data.toList)else none
theorem impl_ReadDec_text (v:Int) (h0:0≤v) (h1:v≤999999999999999):impl_DecText.f v=some ⟨(Lib.itoa v).toArray⟩:=by
 unfold impl_DecText.f impl_within.f strconv_Itoa.f
 simp[h0,h1,show-9223372036854775808≤v by omega,show v≤9223372036854775807 by omega]
theorem impl_ReadDec.calls (a0:ByteArray) (r1:Int) (r2:Bool) (w:World) (hG:Gl w) (h:impl_ReadDec.f a0=some (r1,r2)):
  Calls Tryz.prog 59 #[.string a0] w fun e w'=>e= .returned (.tuple #[.int .i64 r1,.bool r2])∧Below w.heap.size w w':=by
 unfold impl_ReadDec.f at h
 by_cases hlim:a0.size≤1099511627776
 ·rw[if_pos hlim]at h;have H:=Option.some.inj h;clear h;have HG:=Aside0.mk hG;clear hG;unfold impl_ReadDec.ok at H
  cases hA:Lib.atoiAll a0.data.toList with
  | «syntax» =>
   rw[hA]at H;obtain⟨rfl,rfl⟩:_∧_:=by simpa only[Prod.mk.injEq]using H
   obtain⟨tp,p,hv⟩:=HG.out.errS;go_enter Tryz.func59,Tryz.ntmps59
   go_wp2_with (go_at_call 107;refine(Tryz.strconv_Atoi_syntax_var a0 (by omega) hA tp p w hv).mono ?_;rintro e w' ⟨N,rfl,_,_,hb⟩)
   go_ret2
   exact⟨rfl,hb⟩
  |range=>
   rw[hA]at H;obtain⟨rfl,rfl⟩:_∧_:=by simpa only[Prod.mk.injEq]using H
   obtain⟨tp,p,hv⟩:=HG.out.errR;go_enter Tryz.func59,Tryz.ntmps59
   go_wp2_with (go_at_call 107;refine(Tryz.strconv_Atoi_range_var a0 (by omega) hA tp p w hv).mono ?_;rintro e w' ⟨N,rfl,_,_,hb⟩)
   go_ret2
   exact⟨rfl,hb⟩
  |ok v=>
   rw[hA]at H
   have hat:=(Tryz.strconv_Atoi_ok a0 (by omega) v hA w).mono (R':=fun e w'=>e= .returned (.tuple #[.int .i64 v,.nilIface])∧Below w.heap.size w w') (by
    rintro e w' ⟨he,hw|⟨t,hw⟩⟩
    ·subst hw;exact⟨he,Below.refl _ _⟩
    ·subst hw;exact⟨he,bytes_below (Below.refl _ _) (Nat.le_refl _) _ _⟩)
   by_cases hv:0≤v∧v≤999999999999999
   ·have hw:impl_within.f v 0 999999999999999=some true:=by unfold impl_within.f;rw[if_pos hv.1,decide_eq_true hv.2]
    have hd:=impl_ReadDec_text v hv.1 hv.2;have HV:=Aside0.mk hv;clear hv
    by_cases he:Lib.itoa v=a0.data.toList
    ·have hr:(v,true)=(r1,r2):=by rw[←H];exact(if_pos ⟨HV.out.1,HV.out.2,he⟩).symm
     obtain⟨rfl,rfl⟩:_∧_:=by simpa only[Prod.mk.injEq]using hr
     have he2:(⟨(Lib.itoa v).toArray⟩:ByteArray)=a0:=by rw[he]
     rw[he2]at hd;clear H hr he he2;go_enter Tryz.func59,Tryz.ntmps59
     go_wp2_with (first|(go_at_call 107;refine hat.mono ?_;rintro e w1 ⟨rfl,hb1⟩;have HB1:=Aside0.mk hb1;clear hb1)|(go_at_call 27;refine(impl_within.calls v 0 999999999999999 true _ hw).mono ?_;rintro e w2 ⟨rfl,⟨nd,rfl⟩⟩)|(go_at_call 108;refine(impl_DecText.calls v a0 _ (HG.out.below (pw_below_drewN HB1.out nd)) hd).mono ?_;rintro e w3 ⟨rfl,hb3⟩;have HB3:=Aside0.mk hb3;clear hb3))
     go_ret2
     exact⟨rfl,(pw_below_drewN HB1.out nd).trans (HB3.out.mono (by have:=HB1.out.size;simpa using this))⟩
    ·have hr:(0,false)=(r1,r2):=by rw[←H];exact(if_neg (fun hh=>he hh.2.2)).symm
     obtain⟨rfl,rfl⟩:_∧_:=by simpa only[Prod.mk.injEq]using hr
     obtain⟨d,hdd⟩: ∃d:ByteArray,(⟨(Lib.itoa v).toArray⟩:ByteArray)=d:=⟨_,rfl⟩
     have hne: ¬d.toList=a0.toList:=by
      rw[←hdd,ByteArray.toList_eq,ByteArray.toList_eq];exact fun hh=>he (by simpa using hh)
     have hnf:=eq_false hne;have hnb:(d.toList==a0.toList)=false:=beq_eq_false_iff_ne.2 hne;rw[hdd]at hd;clear H hr he hdd;go_enter Tryz.func59,Tryz.ntmps59
     go_wp2_with (first|(go_at_call 107;refine hat.mono ?_;rintro e w1 ⟨rfl,hb1⟩;have HB1:=Aside0.mk hb1;clear hb1)|(go_at_call 27;refine(impl_within.calls v 0 999999999999999 true _ hw).mono ?_;rintro e w2 ⟨rfl,⟨nd,rfl⟩⟩)|(go_at_call 108;refine(impl_DecText.calls v d _ (HG.out.below (pw_below_drewN HB1.out nd)) hd).mono ?_;rintro e w3 ⟨rfl,hb3⟩;have HB3:=Aside0.mk hb3;clear hb3))
     go_ret2
     exact⟨rfl,(pw_below_drewN HB1.out nd).trans (HB3.out.mono (by have:=HB1.out.size;simpa using this))⟩
   ·have hw:impl_within.f v 0 999999999999999=some false:=by
     unfold impl_within.f
     split
     ·rw[decide_eq_false (by omega)]
     ·rfl
    have hr:(0,false)=(r1,r2):=by rw[←H];exact(if_neg (fun hh=>hv ⟨hh.1,hh.2.1⟩)).symm
    obtain⟨rfl,rfl⟩:_∧_:=by simpa only[Prod.mk.injEq]using hr
    clear H hr hv;go_enter Tryz.func59,Tryz.ntmps59
    go_wp2_with (first|(go_at_call 107;refine hat.mono ?_;rintro e w1 ⟨rfl,hb1⟩;have HB1:=Aside0.mk hb1;clear hb1)|(go_at_call 27;refine(impl_within.calls v 0 999999999999999 false _ hw).mono ?_;rintro e w2 ⟨rfl,⟨nd,rfl⟩⟩))
    go_ret2
    exact⟨rfl,pw_below_drewN HB1.out nd⟩
 ·rw[if_neg hlim]at h;cases h
def impl_all__impl_isPlain.l0:Nat→ByteArray→Int→Option (Bool)
 |0,_,_=>none
 |k+1,x0,x5=>if x5<(x0.size:Int)then(if 0≤x5 then((impl_isPlain.f (bt x0 x5)).bind fun t296=>(if t296=true then(impl_all__impl_isPlain.l0 k x0 (wrap64 (x5+1)))else(some false)))else(none))else(some true)
def impl_all__impl_isPlain.f (k:Nat) (a0:ByteArray):Option (Bool):=impl_all__impl_isPlain.l0 k a0 0
theorem impl_all__impl_isPlain.calls (k:Nat) (a0:ByteArray) (r:Bool) (w:World) (h:impl_all__impl_isPlain.f k a0=some r):
  Calls Tryz.prog 55 #[.string a0,.func (.func 56) #[] #[]] w fun e w'=>e= .returned (.bool r)∧Drawn0 w w':=by
 have H:(impl_all__impl_isPlain.l0 k a0 0)=some r:=h;clear h;have H':=Aside0.mk H;clear H;go_enter Tryz.func55,Tryz.ntmps55
 go_wp2
 go_loopg [5] k (fun kq v5 w'=> ∃(x5_1:Int),v5= .int .i64 x5_1∧Aside0 (impl_all__impl_isPlain.l0 kq a0 x5_1=some r)∧Aside0 (kq≤k)∧Drawn0 w w')
 case atStart=>exact⟨(0),zz3,H',⟨Nat.le_refl _⟩,zz5⟩
 case round=>
  clear H';obtain⟨x5_1,rfl,HA,HK1,⟨m1,rfl⟩⟩:=hrel
  cases gk with
  |zero=>exact absurd HA.out (by simp[impl_all__impl_isPlain.l0])
  |succ k1=>
   have H:=HA.out;clear HA;simp only[impl_all__impl_isPlain.l0]at H
   by_cases c2:x5_1<(a0.size:Int)
   ·rw[if_pos c2]at H;have c2b0:decide (x5_1<(a0.size:Int))=true:=decide_eq_true c2;clear c2
    by_cases c3:0≤x5_1
    ·rw[if_pos c3]at H;have c3b0:decide (0≤x5_1)=true:=decide_eq_true c3;clear c3;replace H:=Option.bind_eq_some_iff.mp H;obtain⟨t296,A50,H⟩:=H;(try dsimp only at H);have A5:=Aside0.mk A50;clear A50;have HC6:=Aside0.mk H;clear H;have p4:0≤(x5_1:Int):=of_decide_eq_true zz7;have q4:x5_1<(a0.size:Int):=of_decide_eq_true zz7;have hx4:=bt_at a0 x5_1;replace p4:=eq_true p4;replace q4:=eq_true q4;go_upto_if 17 with(first|(go_at_call 56;(with_reducible refine(impl_isPlain.calls (bt a0 x5_1) t296 _ A5.out).mono ?_);rintro e w' ⟨rfl,⟨nd,rfl⟩⟩))
     (try simp only[Act.put,List.setIfInBounds_toArray,List.set_cons_zero,List.set_cons_succ]);have H:=HC6.out;clear HC6
     by_cases c7:t296=true
     ·subst c7;rw[if_pos rfl]at H;have H':=Aside0.mk H;clear H;go_wp2
      go_roundg k1
      (case measure=>have:=HK1.out;omega);case rel=>exact⟨(wrap64 (x5_1+1)),zz3,H',⟨zz72⟩,zz5⟩
     ·replace c7:=Bool.eq_false_iff.mpr c7;subst c7;rw[if_neg Bool.false_ne_true]at H;obtain rfl:=Option.some.inj H;go_wp2
      go_ret;exact⟨zz3,zz5⟩
    ·rw[if_neg c3]at H;exact absurd H (by simp)
   ·rw[if_neg c2]at H;have c2b0:decide (x5_1<(a0.size:Int))=false:=decide_eq_false c2;clear c2;obtain rfl:=Option.some.inj H;go_wp2
    go_ret;exact⟨zz3,zz5⟩
end Go.Proofs.YtnilblnhlpnpgaaGreatDoor.GFnExactGrammar
