-- Printed by gen.py and its programs for this claim.
import Derived.Test.YtnilblnhlpnpgaaGreatDoorGFnTwicex0
import Derived.Test.YtnilblnhlpnpgaaGreatDoorGFnTwicex1
import Derived.Test.YtnilblnhlpnpgaaGreatDoorZFnTwice
namespace Go.Proofs.YtnilblnhlpnpgaaGreatDoor.GFnTwice
open Go.RowKit Go.Proofs.YtnilblnhlpnpgaaGreatDoorW.PrintWords Go.Proofs.YtnilblnhlpnpgaaGreatDoorW.PrintLast Go.Proofs.YtnilblnhlpnpgaaGreatDoorW.PrintMore Go.Proofs.YtnilblnhlpnpgaaGreatDoorW.Zs
set_option maxHeartbeats 40000000
set_option maxRecDepth 100000
attribute [local go_sem] max2_int min2_int max_two min_two max_three min_three max_four min_four
set_option linter.unusedVariables false
set_option linter.unusedSimpArgs false
def stringslite_HasPrefix.f (a0 a1:ByteArray):Option (Bool):=if(a0.size:Int)≥(a1.size:Int)then(if 0≤(a1.size:Int)then(if(a1.size:Int)≤(a0.size:Int)then(some ((a0.extract 0 ((a1.size:Int):Int).toNat).toList==a1.toList))else(none))else(none))else(some false)
theorem stringslite_HasPrefix.calls (a0 a1:ByteArray) (r:Bool) (w:World) (h:stringslite_HasPrefix.f a0 a1=some r):
  Calls Tryz.prog 185 #[.string a0,.string a1] w fun e w'=>e= .returned (.bool r)∧Drawn0 w w':=by
 have H:(if(a0.size:Int)≥(a1.size:Int)then(if 0≤(a1.size:Int)then(if(a1.size:Int)≤(a0.size:Int)then(some ((a0.extract 0 ((a1.size:Int):Int).toNat).toList==a1.toList))else(none))else(none))else(some false))=some r:=h;clear h
 by_cases c3:(a0.size:Int)≥(a1.size:Int)
 ·rw[if_pos c3]at H;have c3b0:decide ((a1.size:Int)≤(a0.size:Int))=true:=decide_eq_true c3;have c3b1:decide (a1.size≤a0.size)=true:=decide_eq_true (Int.ofNat_le.mp c3);clear c3
  by_cases c4:0≤(a1.size:Int)
  ·rw[if_pos c4]at H;have c4b0:=eq_true c4;have c4b1:decide (0≤(a1.size:Int))=true:=decide_eq_true c4;clear c4
   by_cases c5:(a1.size:Int)≤(a0.size:Int)
   ·rw[if_pos c5]at H;have c5b0:=eq_true c5;have c5b1:decide ((a1.size:Int)≤(a0.size:Int))=true:=decide_eq_true c5;clear c5;obtain rfl:=Option.some.inj H;go_enter Tryz.func185,Tryz.ntmps185
    go_wp2
    go_ret;exact⟨zz4,zz7⟩
   ·rw[if_neg c5]at H;exact absurd H (by simp)
  ·rw[if_neg c4]at H;exact absurd H (by simp)
 ·rw[if_neg c3]at H;have c3b0:decide ((a1.size:Int)≤(a0.size:Int))=false:=decide_eq_false c3;have c3b1:decide (a1.size≤a0.size)=false:=decide_eq_false (fun h=>c3 (Int.ofNat_le.mpr h));clear c3;obtain rfl:=Option.some.inj H;go_enter Tryz.func185,Tryz.ntmps185
  go_wp2
  go_ret;exact⟨zz4,zz7⟩
def stringslite_CutPrefix.f (a0 a1:ByteArray):Option (ByteArray×Bool):=(stringslite_HasPrefix.f a0 a1).bind fun t208=>(if t208=true then(if 0≤(a1.size:Int)then(if(a1.size:Int)≤(a0.size:Int)then(some (a0.extract ((a1.size:Int):Int).toNat a0.size,true))else(none))else(none))else(some (a0,false)))
theorem stringslite_CutPrefix.calls (a0 a1 r1:ByteArray) (r2:Bool) (w:World) (h:stringslite_CutPrefix.f a0 a1=some (r1,r2)):
  Calls Tryz.prog 175 #[.string a0,.string a1] w fun e w'=>e= .returned (.tuple #[.string r1,.bool r2])∧Drawn0 w w':=by
 have H:((stringslite_HasPrefix.f a0 a1).bind fun t208=>(if t208=true then(if 0≤(a1.size:Int)then(if(a1.size:Int)≤(a0.size:Int)then(some (a0.extract ((a1.size:Int):Int).toNat a0.size,true))else(none))else(none))else(some (a0,false))))=some (r1,r2):=h;clear h;replace H:=Option.bind_eq_some_iff.mp H;obtain⟨t208,A30,H⟩:=H;(try dsimp only at H);have A3:=Aside0.mk A30;clear A30;have HC4:=Aside0.mk H;clear H;go_enter Tryz.func175,Tryz.ntmps175
 go_upto_if 9 with(first|((with_reducible refine gate_callee (f:=185) rfl ?_);refine goesR_ 8 Tryz.func185 #[.string a0,.string a1] (stringslite_HasPrefix.calls a0 a1 t208 _ A3.out) ?_;rintro w' ⟨nd,rfl⟩))
 (try simp only[Act.put,List.setIfInBounds_toArray,List.set_cons_zero,List.set_cons_succ]);have H:=HC4.out;clear HC4
 by_cases c5:t208=true
 ·subst c5;rw[if_pos rfl]at H
  by_cases c6:0≤(a1.size:Int)
  ·rw[if_pos c6]at H;have c6b0:=eq_true c6;have c6b1:decide (0≤(a1.size:Int))=true:=decide_eq_true c6;clear c6
   by_cases c7:(a1.size:Int)≤(a0.size:Int)
   ·rw[if_pos c7]at H;have c7b0:=eq_true c7;have c7b1:decide ((a1.size:Int)≤(a0.size:Int))=true:=decide_eq_true c7;clear c7;simp only[Option.some.injEq,Prod.mk.injEq]at H;obtain⟨rfl,rfl⟩:=H;go_wp2
    go_ret2
    exact⟨zz4,zz7⟩
   ·rw[if_neg c7]at H;exact absurd H (by simp)
  ·rw[if_neg c6]at H;exact absurd H (by simp)
 ·replace c5:=Bool.eq_false_iff.mpr c5;subst c5;rw[if_neg Bool.false_ne_true]at H;simp only[Option.some.injEq,Prod.mk.injEq]at H;obtain⟨rfl,rfl⟩:=H;go_wp2
  go_ret2
  exact⟨zz4,zz7⟩
def strings_CutPrefix.f (a0 a1:ByteArray):Option (ByteArray×Bool):=(stringslite_CutPrefix.f a0 a1).bind fun bt209=>(some (bt209.1,bt209.2))
theorem strings_CutPrefix.calls (a0 a1 r1:ByteArray) (r2:Bool) (w:World) (h:strings_CutPrefix.f a0 a1=some (r1,r2)):
  Calls Tryz.prog 148 #[.string a0,.string a1] w fun e w'=>e= .returned (.tuple #[.string r1,.bool r2])∧Drawn0 w w':=by
 have H:((stringslite_CutPrefix.f a0 a1).bind fun bt209=>(some (bt209.1,bt209.2)))=some (r1,r2):=h;clear h;replace H:=Option.bind_eq_some_iff.mp H;obtain⟨⟨t209,t210⟩,A30,H⟩:=H;(try dsimp only at H);have A3:=Aside0.mk A30;clear A30;simp only[Option.some.injEq,Prod.mk.injEq]at H;obtain⟨rfl,rfl⟩:=H;go_enter Tryz.func148,Tryz.ntmps148
 go_wp2_with (first|((with_reducible refine gate_callee (f:=175) rfl ?_);refine goesR_ 8 Tryz.func175 #[.string a0,.string a1] (stringslite_CutPrefix.calls a0 a1 t209 t210 _ A3.out) ?_;rintro w' ⟨nd,rfl⟩))
 go_ret2
 exact⟨zz4,zz7⟩
def strings_Split.f (a0 a1:ByteArray):Option (List ByteArray):=if a0.size<4294967281∧1≤a1.size then some (Lib.splitB a1 0 (Lib.countB a0 a1) a0)else none
theorem strings_Split.calls (a0 a1:ByteArray) (r:List ByteArray) (w:World) (hG:Gl w) (h:strings_Split.f a0 a1=some r):
  Calls Tryz.prog 149 #[.string a0,.string a1] w fun e w'=> ∃v0_:Value,e= .returned (v0_)∧Kd.R Kd.string 9 w' w.heap.size (fun _=>True) v0_ r∧Below w.heap.size w w':=by
 unfold strings_Split.f at h
 by_cases hl:a0.size<4294967281∧1≤a1.size
 ·rw[if_pos hl]at h;obtain⟨hs,h1⟩:=hl;obtain⟨m,hm⟩:=hG.maxLen;have hr:=Option.some.inj h;have hlen:r.length=Lib.countB a0 a1+1:=by rw[←hr];exact Lib.splitB_all a1 h1 0 _ a0 rfl
  have hle:=Lib.countB_le a1 h1 a0.size a0 (Nat.le_refl _);refine(Tryz.strings_Split a0 a1 m w hs hm h1).mono ?_;rintro e w' ⟨he,hw⟩;rw[hr]at hw;subst hw;refine⟨_,he,?_,below_alloc (Below.refl _ _) _⟩;have ho:=World.ownsRow_lit (base:=w.heap.size) (e:=9) (size:=1) w (r.map Value.string).toArray (Lib.countB a0 a1+1) (Nat.le_refl _) (by unfold maxLen;omega) (by simp[hlen]);refine Kd.R_of_own ?_ (fun _ _=>trivial);rw[hlen]
  simpa [encs]using ho
 ·rw[if_neg hl]at h;cases h
def impl_all__impl_isDigit.l0:Nat→ByteArray→Int→Option (Bool)
 |0,_,_=>none
 |k+1,x0,x5=>if x5<(x0.size:Int)then(if 0≤x5 then((impl_isDigit.f (bt x0 x5)).bind fun t211=>(if t211=true then(impl_all__impl_isDigit.l0 k x0 (wrap64 (x5+1)))else(some false)))else(none))else(some true)
def impl_all__impl_isDigit.f (k:Nat) (a0:ByteArray):Option (Bool):=impl_all__impl_isDigit.l0 k a0 0
theorem impl_all__impl_isDigit.calls (k:Nat) (a0:ByteArray) (r:Bool) (w:World) (h:impl_all__impl_isDigit.f k a0=some r):
  Calls Tryz.prog 55 #[.string a0,.func (.func 104) #[] #[]] w fun e w'=>e= .returned (.bool r)∧Drawn0 w w':=by
 have H:(impl_all__impl_isDigit.l0 k a0 0)=some r:=h;clear h;have H':=Aside0.mk H;clear H;go_enter Tryz.func55,Tryz.ntmps55
 go_wp2
 go_loopg [5] k (fun kq v5 w'=> ∃(x5_1:Int),v5= .int .i64 x5_1∧Aside0 (impl_all__impl_isDigit.l0 kq a0 x5_1=some r)∧Aside0 (kq≤k)∧Drawn0 w w')
 case atStart=>exact⟨(0),zz4,H',⟨Nat.le_refl _⟩,zz7⟩
 case round=>
  clear H';obtain⟨x5_1,rfl,HA,HK1,⟨m1,rfl⟩⟩:=hrel
  cases gk with
  |zero=>exact absurd HA.out (by simp[impl_all__impl_isDigit.l0])
  |succ k1=>
   have H:=HA.out;clear HA;simp only[impl_all__impl_isDigit.l0]at H
   by_cases c2:x5_1<(a0.size:Int)
   ·rw[if_pos c2]at H;have c2b0:decide (x5_1<(a0.size:Int))=true:=decide_eq_true c2;clear c2
    by_cases c3:0≤x5_1
    ·rw[if_pos c3]at H;have c3b0:decide (0≤x5_1)=true:=decide_eq_true c3;clear c3;replace H:=Option.bind_eq_some_iff.mp H;obtain⟨t211,A50,H⟩:=H;(try dsimp only at H);have A5:=Aside0.mk A50;clear A50;have HC6:=Aside0.mk H;clear H;have p4:0≤(x5_1:Int):=of_decide_eq_true zz16;have q4:x5_1<(a0.size:Int):=of_decide_eq_true zz16;have hx4:=bt_at a0 x5_1;replace p4:=eq_true p4;replace q4:=eq_true q4;go_upto_if 17 with(first|(go_at_call 104;(with_reducible refine(impl_isDigit.calls (bt a0 x5_1) t211 _ A5.out).mono ?_);rintro e w' ⟨rfl,⟨nd,rfl⟩⟩))
     (try simp only[Act.put,List.setIfInBounds_toArray,List.set_cons_zero,List.set_cons_succ]);have H:=HC6.out;clear HC6
     by_cases c7:t211=true
     ·subst c7;rw[if_pos rfl]at H;have H':=Aside0.mk H;clear H;go_wp2
      go_roundg k1
      (case measure=>have:=HK1.out;omega);case rel=>exact⟨(wrap64 (x5_1+1)),zz4,H',⟨zz119⟩,zz7⟩
     ·replace c7:=Bool.eq_false_iff.mpr c7;subst c7;rw[if_neg Bool.false_ne_true]at H;obtain rfl:=Option.some.inj H;go_wp2
      go_ret;exact⟨zz4,zz7⟩
    ·rw[if_neg c3]at H;exact absurd H (by simp)
   ·rw[if_neg c2]at H;have c2b0:decide (x5_1<(a0.size:Int))=false:=decide_eq_false c2;clear c2;obtain rfl:=Option.some.inj H;go_wp2
    go_ret;exact⟨zz4,zz7⟩
end Go.Proofs.YtnilblnhlpnpgaaGreatDoor.GFnTwice
