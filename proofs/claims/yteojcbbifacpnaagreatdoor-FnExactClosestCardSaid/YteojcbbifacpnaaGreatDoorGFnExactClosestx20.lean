-- Printed by gen.py and its programs for this claim.
import Derived.Test.YteojcbbifacpnaaGreatDoorGFnExactClosestx0
import Derived.Test.YteojcbbifacpnaaGreatDoorGFnExactClosestx17
import Derived.Test.YteojcbbifacpnaaGreatDoorGFnExactClosestx18
import Derived.Test.YteojcbbifacpnaaGreatDoorGFnExactClosestx19
import Derived.Test.YteojcbbifacpnaaGreatDoorZFnExactClosest
namespace Go.Proofs.YteojcbbifacpnaaGreatDoor.GFnExactClosest
open Go.RowKit Go.Proofs.YteojcbbifacpnaaGreatDoorW.PrintWords Go.Proofs.YteojcbbifacpnaaGreatDoorW.PrintLast Go.Proofs.YteojcbbifacpnaaGreatDoorW.PrintMore Go.Proofs.YteojcbbifacpnaaGreatDoorW.Zs
set_option maxHeartbeats 40000000
set_option maxRecDepth 100000
attribute [local go_sem] max2_int min2_int max_two min_two max_three min_three max_four min_four
set_option linter.unusedVariables false
set_option linter.unusedSimpArgs false
def impl_all__impl_isVisible.l0:Nat→ByteArray→Int→Option (Bool)
 |0,_,_=>none
 |k+1,x0,x5=>if x5<(x0.size:Int)then(if 0≤x5 then((impl_isVisible.f (bt x0 x5)).bind fun t336=>(if t336=true then(impl_all__impl_isVisible.l0 k x0 (wrap64 (x5+1)))else(some false)))else(none))else(some true)
def impl_all__impl_isVisible.f (k:Nat) (a0:ByteArray):Option (Bool):=impl_all__impl_isVisible.l0 k a0 0
theorem impl_all__impl_isVisible.calls (k:Nat) (a0:ByteArray) (r:Bool) (w:World) (h:impl_all__impl_isVisible.f k a0=some r):
  Calls Tryz.prog 81 #[.string a0,.func (.func 99) #[] #[]] w fun e w'=>e= .returned (.bool r)∧Drawn0 w w':=by
 have H:(impl_all__impl_isVisible.l0 k a0 0)=some r:=h;clear h;have H':=Aside0.mk H;clear H;go_enter Tryz.func81,Tryz.ntmps81
 go_wp2
 go_loopg [5] k (fun kq v5 w'=> ∃(x5_1:Int),v5= .int .i64 x5_1∧Aside0 (impl_all__impl_isVisible.l0 kq a0 x5_1=some r)∧Aside0 (kq≤k)∧Drawn0 w w')
 case atStart=>exact⟨(0),zz2,H',⟨Nat.le_refl _⟩,zz4⟩
 case round=>
  clear H';obtain⟨x5_1,rfl,HA,HK1,⟨m1,rfl⟩⟩:=hrel
  cases gk with
  |zero=>exact absurd HA.out (by simp[impl_all__impl_isVisible.l0])
  |succ k1=>
   have H:=HA.out;clear HA;simp only[impl_all__impl_isVisible.l0]at H
   by_cases c2:x5_1<(a0.size:Int)
   ·rw[if_pos c2]at H;have c2b0:decide (x5_1<(a0.size:Int))=true:=decide_eq_true c2;clear c2
    by_cases c3:0≤x5_1
    ·rw[if_pos c3]at H;have c3b0:decide (0≤x5_1)=true:=decide_eq_true c3;clear c3;replace H:=Option.bind_eq_some_iff.mp H;obtain⟨t336,A50,H⟩:=H;(try dsimp only at H);have A5:=Aside0.mk A50;clear A50;have HC6:=Aside0.mk H;clear H;have p4:0≤(x5_1:Int):=of_decide_eq_true zz3;have q4:x5_1<(a0.size:Int):=of_decide_eq_true zz3;have hx4:=bt_at a0 x5_1;replace p4:=eq_true p4;replace q4:=eq_true q4;go_upto_if 17 with(first|(go_at_call 99;(with_reducible refine(impl_isVisible.calls (bt a0 x5_1) t336 _ A5.out).mono ?_);rintro e w' ⟨rfl,⟨nd,rfl⟩⟩))
     (try simp only[Act.put,List.setIfInBounds_toArray,List.set_cons_zero,List.set_cons_succ]);have H:=HC6.out;clear HC6
     by_cases c7:t336=true
     ·subst c7;rw[if_pos rfl]at H;have H':=Aside0.mk H;clear H;go_wp2
      go_roundg k1
      (case measure=>have:=HK1.out;omega);case rel=>exact⟨(wrap64 (x5_1+1)),zz2,H',⟨zz50⟩,zz4⟩
     ·replace c7:=Bool.eq_false_iff.mpr c7;subst c7;rw[if_neg Bool.false_ne_true]at H;obtain rfl:=Option.some.inj H;go_wp2
      go_ret;exact⟨zz2,zz4⟩
    ·rw[if_neg c3]at H;exact absurd H (by simp)
   ·rw[if_neg c2]at H;have c2b0:decide (x5_1<(a0.size:Int))=false:=decide_eq_false c2;clear c2;obtain rfl:=Option.some.inj H;go_wp2
    go_ret;exact⟨zz2,zz4⟩
theorem impl_CleanPath_ownB (A:Option Addr) (n c:Nat):(Value.slice A n c).ownBlock=A.map Addr.block:=by cases A<;>rfl
mutual
def impl_CleanPath.j0:Nat→ByteArray→Bool→Option (ByteArray)
 |0,_,_=>none
 |k+1,x0,x24=>if x24=true then(some (⟨#[]⟩:ByteArray))else((impl_unescaped.f k x0).bind fun t340=>(if 1≤(t340.size:Int)then((strings_Split.f (t340.extract 1 t340.size) (⟨#[47]⟩:ByteArray)).bind fun t341=>(impl_CleanPath.l0 k ([]:List ByteArray) t341 t341 (t341.length:Int) 0))else(none)))
def impl_CleanPath.l0:Nat→List ByteArray→List ByteArray→List ByteArray→Int→Int→Option (ByteArray)
 |0,_,_,_,_,_=>none
 |k+1,x3,x4,x29,x30,x31=>if x31<x30 then(if 0≤x31 then(if x31<(x29.length:Int)then(if(rdOf ByteArray.empty x29 x31).toList=([46]:List UInt8)then(impl_CleanPath.l0 k x3 x4 x29 x30 (wrap64 (x31+1)))else(if(rdOf ByteArray.empty x29 x31).toList=([46,46]:List UInt8)then(if 0≤(mx 0 (wrap64 ((x3.length:Int)-1)))then(if(mx 0 (wrap64 ((x3.length:Int)-1)))≤(x3.length:Int)then(impl_CleanPath.l0 k (x3.take ((mx 0 (wrap64 ((x3.length:Int)-1))):Int).toNat) x4 x29 x30 (wrap64 (x31+1)))else(none))else(none))else(if x3.length<8796093022208 then(impl_CleanPath.l0 k (x3++ [rdOf ByteArray.empty x29 x31]) x4 x29 x30 (wrap64 (x31+1)))else(none))))else(none))else(none))else(if 0≤(wrap64 ((x4.length:Int)-1))then(if(wrap64 ((x4.length:Int)-1))<(x4.length:Int)then(if(rdOf ByteArray.empty x4 (wrap64 ((x4.length:Int)-1))).toList=([46]:List UInt8)then(if x3.length<8796093022208 then((strings_Join.f (x3++ [(⟨#[]⟩:ByteArray)]) (⟨#[47]⟩:ByteArray)).bind fun t348=>(if 1+t348.size≤9223372036854775807 then(some ((⟨#[47]⟩:ByteArray)++t348))else(none)))else(none))else(if(rdOf ByteArray.empty x4 (wrap64 ((x4.length:Int)-1))).toList=([46,46]:List UInt8)then(if x3.length<8796093022208 then((strings_Join.f (x3++ [(⟨#[]⟩:ByteArray)]) (⟨#[47]⟩:ByteArray)).bind fun t352=>(if 1+t352.size≤9223372036854775807 then(some ((⟨#[47]⟩:ByteArray)++t352))else(none)))else(none))else((strings_Join.f x3 (⟨#[47]⟩:ByteArray)).bind fun t353=>(if 1+t353.size≤9223372036854775807 then(some ((⟨#[47]⟩:ByteArray)++t353))else(none)))))else(none))else(none))
end
def impl_CleanPath.f (k:Nat) (a0:ByteArray):Option (ByteArray):=(strings_HasPrefix.f a0 (⟨#[47]⟩:ByteArray)).bind fun t337=>(if t337=true then(if(a0.size:Int)>200 then(impl_CleanPath.j0 k a0 true)else((impl_all__impl_isVisible.f k a0).bind fun t338=>(if t338=true then((strings_ContainsAny.f a0 (⟨#[35,63]⟩:ByteArray)).bind fun t339=>(impl_CleanPath.j0 k a0 t339))else(impl_CleanPath.j0 k a0 true))))else(impl_CleanPath.j0 k a0 true))
theorem impl_CleanPath.calls (k:Nat) (a0 r:ByteArray) (w:World) (hG:Gl w) (h:impl_CleanPath.f k a0=some r):
  Calls Tryz.prog 98 #[.string a0] w fun e w'=>e= .returned (.string r)∧Below w.heap.size w w':=by
 have HG:=Aside0.mk hG;clear hG;have HB:=Aside0.mk (Below.refl w.heap.size w);have H:((strings_HasPrefix.f a0 (⟨#[47]⟩:ByteArray)).bind fun t337=>(if t337=true then(if(a0.size:Int)>200 then(impl_CleanPath.j0 k a0 true)else((impl_all__impl_isVisible.f k a0).bind fun t338=>(if t338=true then((strings_ContainsAny.f a0 (⟨#[35,63]⟩:ByteArray)).bind fun t339=>(impl_CleanPath.j0 k a0 t339))else(impl_CleanPath.j0 k a0 true))))else(impl_CleanPath.j0 k a0 true)))=some r:=h;clear h;have HC2:=Aside0.mk H;clear H;go_enter Tryz.func98,Tryz.ntmps98
 go_upto_region 1 with(fail)
 go_cut [24] (fun v24 wc=> ∃(kq:Nat) (x24_1:Bool),v24= .bool x24_1∧Aside0 (impl_CleanPath.j0 kq a0 x24_1=some r)∧Aside0 (kq≤k)∧Aside0 (Below w.heap.size w wc))
 case first=>
  have H:=HC2.out;clear HC2;replace H:=Option.bind_eq_some_iff.mp H;obtain⟨t337,A30,H⟩:=H;(try dsimp only at H);have A3:=Aside0.mk A30;clear A30
  by_cases c4:t337=true
  ·subst c4;rw[if_pos rfl]at H
   by_cases c5:(a0.size:Int)>200
   ·rw[if_pos c5]at H;have c5b0:decide (200<(a0.size:Int))=true:=decide_eq_true c5;have c5b1:decide (200<a0.size)=true:=decide_eq_true (by omega);clear c5;(first|rw[c5b0]|(simp only[i64_w,i32_w];rw[c5b0])|rw[c5b1]|(rw[c5b2];simp only[Bool.not_true,Bool.not_false])|skip);have H':=Aside0.mk H;clear H;go_wp2_with (first|((with_reducible refine gate_callee (f:=136) rfl ?_);refine goesR_ 9 Tryz.func136 #[.string a0,.string (⟨#[47]⟩:ByteArray)] (strings_HasPrefix.calls a0 (⟨#[47]⟩:ByteArray) true _ A3.out) ?_;rintro w' ⟨nd,rfl⟩))
    go_meet
    case rel=>exact⟨_,(true),zz2,H',⟨zz22⟩,⟨zz0⟩⟩
   ·rw[if_neg c5]at H;have c5b0:decide (200<(a0.size:Int))=false:=decide_eq_false c5;have c5b1:decide (200<a0.size)=false:=decide_eq_false (by omega);clear c5;(first|rw[c5b0]|(simp only[i64_w,i32_w];rw[c5b0])|rw[c5b1]|(rw[c5b2];simp only[Bool.not_true,Bool.not_false])|skip);replace H:=Option.bind_eq_some_iff.mp H;obtain⟨t338,A60,H⟩:=H;(try dsimp only at H);have A6:=Aside0.mk A60;clear A60
    by_cases c7:t338=true
    ·subst c7;rw[if_pos rfl]at H;replace H:=Option.bind_eq_some_iff.mp H;obtain⟨t339,A80,H⟩:=H;(try dsimp only at H);have A8:=Aside0.mk A80;clear A80;have H':=Aside0.mk H;clear H;go_wp2_with (first|((with_reducible refine gate_callee (f:=136) rfl ?_);refine goesR_ 9 Tryz.func136 #[.string a0,.string (⟨#[47]⟩:ByteArray)] (strings_HasPrefix.calls a0 (⟨#[47]⟩:ByteArray) true _ A3.out) ?_;rintro w' ⟨nd,rfl⟩)|(go_at_call 81;(with_reducible refine(impl_all__impl_isVisible.calls k a0 true _ A6.out).mono ?_);rintro e w' ⟨rfl,⟨nd,rfl⟩⟩)|(go_at_call 137;(with_reducible refine(strings_ContainsAny.calls a0 (⟨#[35,63]⟩:ByteArray) t339 _ A8.out).mono ?_);rintro e w9 ⟨rfl,hb⟩;have n0_:=Aside0.mk (below_step zz0 hb);clear HB;have HB:=n0_;clear n0_;(try clear hb);(try clear hb2);(try clear hk);(try clear hi)))
     go_meet
     case rel=>exact⟨_,(t339),zz2,H',⟨zz22⟩,⟨zz0⟩⟩
    ·replace c7:=Bool.eq_false_iff.mpr c7;subst c7;rw[if_neg Bool.false_ne_true]at H;have H':=Aside0.mk H;clear H;go_wp2_with (first|((with_reducible refine gate_callee (f:=136) rfl ?_);refine goesR_ 9 Tryz.func136 #[.string a0,.string (⟨#[47]⟩:ByteArray)] (strings_HasPrefix.calls a0 (⟨#[47]⟩:ByteArray) true _ A3.out) ?_;rintro w' ⟨nd,rfl⟩)|(go_at_call 81;(with_reducible refine(impl_all__impl_isVisible.calls k a0 false _ A6.out).mono ?_);rintro e w' ⟨rfl,⟨nd,rfl⟩⟩))
     go_meet
     case rel=>exact⟨_,(true),zz2,H',⟨zz22⟩,⟨zz0⟩⟩
  ·replace c4:=Bool.eq_false_iff.mpr c4;subst c4;rw[if_neg Bool.false_ne_true]at H;have H':=Aside0.mk H;clear H;go_wp2_with (first|((with_reducible refine gate_callee (f:=136) rfl ?_);refine goesR_ 9 Tryz.func136 #[.string a0,.string (⟨#[47]⟩:ByteArray)] (strings_HasPrefix.calls a0 (⟨#[47]⟩:ByteArray) false _ A3.out) ?_;rintro w' ⟨nd,rfl⟩))
   go_meet
   case rel=>exact⟨_,(true),zz2,H',⟨zz22⟩,⟨zz0⟩⟩
 case rest=>
  clear HC2;(try clear c1);(try clear p2);(try clear c4);(try clear c5);(try clear c5b0);(try clear c5b1);(try clear c7);(try clear c9);obtain⟨kq,x24_1,rfl,HA,HJ1,HB⟩:=hcut
  cases kq with
  |zero=>exact absurd HA.out (by simp[impl_CleanPath.j0])
  |succ kj1=>
   have H:=HA.out;clear HA;simp only[impl_CleanPath.j0]at H
   by_cases c10:x24_1=true
   ·subst c10;rw[if_pos rfl]at H;obtain rfl:=Option.some.inj H;go_wp2
    go_ret;exact⟨zz1,zz0⟩
   ·replace c10:=Bool.eq_false_iff.mpr c10;subst c10;rw[if_neg Bool.false_ne_true]at H;replace H:=Option.bind_eq_some_iff.mp H;obtain⟨t340,A110,H⟩:=H;(try dsimp only at H);have A11:=Aside0.mk A110;clear A110
    by_cases c12:1≤(t340.size:Int)
    ·rw[if_pos c12]at H;have c12b0:=eq_true c12;have c12b1:decide (1≤(t340.size:Int))=true:=decide_eq_true c12;clear c12;replace H:=Option.bind_eq_some_iff.mp H;obtain⟨t341,A130,H⟩:=H;(try dsimp only at H);have A13:=Aside0.mk A130;clear A130;have H':=Aside0.mk H;clear H;go_wp2_with (first|((with_reducible refine gate_callee (f:=138) rfl ?_);refine goesR_ 26 Tryz.func138 #[.string a0] (impl_unescaped.calls kj1 a0 t340 _ A11.out) ?_;rintro w14 hb;replace HB:=Aside0.mk (below_step zz0 hb);(try clear hb))|((with_reducible refine gate_callee (f:=50) rfl ?_);refine goesQ_ 28 Tryz.func50 #[.string (t340.extract 1 t340.size),.string (⟨#[47]⟩:ByteArray)] ?_;(with_reducible refine(strings_Split.calls (t340.extract 1 t340.size) (⟨#[47]⟩:ByteArray) t341 _ ?side1 A13.out).mono ?_);(case side1=>exact Gl.below HG.out zz0);rintro e w15 ⟨v342,rfl,ho0,hb⟩;refine⟨_,rfl,?_⟩;have HO343:=Aside0.mk (Kd.R_lower ho0 (below_size zz0));replace HB:=Aside0.mk (below_step zz0 hb);(try clear hb);(try clear ho0);obtain⟨Ao16,co16,eo16⟩:=Kd.R_slice HO343.out;subst eo16))
     go_loopg [3,31] kj1 (fun kq v3 v31 w'=> ∃(x3_2:List ByteArray) (x31_2:Int),v31= .int .i64 x31_2∧Aside0 (impl_CleanPath.l0 kq x3_2 t341 t341 (t341.length:Int) x31_2=some r)∧Aside0 (kq≤kj1)∧Aside0 (Kd.R Kd.string 9 w' w.heap.size (fun k_=>some k_≠((.slice Ao16 t341.length co16):Value).ownBlock∧some k_≠((.slice Ao16 t341.length co16):Value).ownBlock) v3 x3_2)∧Aside0 (Kd.R Kd.string 9 w' w.heap.size (fun k_=>some k_≠(v3:Value).ownBlock) (.slice Ao16 t341.length co16) t341)∧Aside0 (Kd.R Kd.string 9 w' w.heap.size (fun k_=>some k_≠(v3:Value).ownBlock) (.slice Ao16 t341.length co16) t341)∧Aside0 (Below w.heap.size w w'))
     case atStart=>exact⟨(([]:List ByteArray)),(0),zz2,H',⟨Nat.le_refl _⟩,⟨zz30⟩,⟨zz94⟩,⟨zz94⟩,⟨zz0⟩⟩
     case round=>
      clear H';(try clear c1);(try clear p2);(try clear c4);(try clear c5);(try clear c5b0);(try clear c5b1);(try clear c7);(try clear c9);(try clear c10);(try clear c12);(try clear c12b0);(try clear c12b1);(try clear c13);(try clear p2);obtain⟨x3_2,x31_2,rfl,HA,HK2,HO_3,HO_4,HO_29,HB⟩:=hrel
      cases gk with
      |zero=>exact absurd HA.out (by simp[impl_CleanPath.l0])
      |succ k2=>
       have H:=HA.out;clear HA;simp only[impl_CleanPath.l0]at H
       by_cases c17:x31_2<(t341.length:Int)
       ·rw[if_pos c17]at H;have c17b0:decide (x31_2<(t341.length:Int))=true:=decide_eq_true c17;clear c17
        by_cases c18:0≤x31_2
        ·rw[if_pos c18]at H;have c18b0:decide (0≤x31_2)=true:=decide_eq_true c18;clear c18
         by_cases c19:x31_2<(t341.length:Int)
         ·rw[if_pos c19]at H;have c19b0:decide (x31_2<(t341.length:Int))=true:=decide_eq_true c19;clear c19
          by_cases c20:(rdOf ByteArray.empty t341 x31_2).toList=([46]:List UInt8)
          ·rw[if_pos c20]at H;have c20b0:((rdOf ByteArray.empty t341 x31_2).toList==([46]:List UInt8))=true:=beq_iff_eq.mpr c20;have c20b1:((rdOf ByteArray.empty t341 x31_2).toList !=([46]:List UInt8))=false:=bne_eq_false_iff_eq.mpr c20;clear c20;have H':=Aside0.mk H;clear H;have p354:0≤(x31_2:Int):=of_decide_eq_true zz3;have q354:x31_2<(t341.length:Int):=of_decide_eq_true zz3;obtain⟨ad354,e354,hx354_0⟩:=Kd.at_string (Kd.R_reads' HO_29.out).2.2 x31_2 p354 q354;cases e354;replace p354:=eq_true p354;replace q354:=eq_true q354;go_wp2
           go_roundg k2
           (case measure=>have:=HJ1.out;have:=HK2.out;omega);case rel=>exact⟨(x3_2),(wrap64 (x31_2+1)),zz2,H',⟨zz71⟩,⟨by(with_reducible repeat(first|apply Kd.R_alloc|apply Kd.R_drewN|apply Kd.R_drew));first|exact HO_3.out|exact Kd.R_mono HO_3.out (fun _ hk_=>zz73)⟩,⟨zz103⟩,⟨zz102⟩,⟨zz0⟩⟩
          ·rw[if_neg c20]at H;have c20b0:((rdOf ByteArray.empty t341 x31_2).toList==([46]:List UInt8))=false:=beq_eq_false_iff_ne.mpr c20;have c20b1:((rdOf ByteArray.empty t341 x31_2).toList !=([46]:List UInt8))=true:=bne_iff_ne.mpr c20
           by_cases c21:(rdOf ByteArray.empty t341 x31_2).toList=([46,46]:List UInt8)
           ·rw[if_pos c21]at H;have c21b0:((rdOf ByteArray.empty t341 x31_2).toList==([46,46]:List UInt8))=true:=beq_iff_eq.mpr c21;have c21b1:((rdOf ByteArray.empty t341 x31_2).toList !=([46,46]:List UInt8))=false:=bne_eq_false_iff_eq.mpr c21;clear c21;obtain⟨ji22,hji22⟩: ∃j_:Int,(mx 0 (wrap64 ((x3_2.length:Int)-1)))=j_:=⟨_,rfl⟩;replace H:(if 0≤(ji22)then(if(ji22)≤(x3_2.length:Int)then(impl_CleanPath.l0 k2 (x3_2.take ((ji22):Int).toNat) t341 t341 (t341.length:Int) (wrap64 (x31_2+1)))else(none))else(none))=some r:=by first|(rw[hji22]at H;exact H)|(simp only[hji22]at H ⊢;exact H)
            have hji22_:(if 0<(wrap64 ((x3_2.length:Int)-1))then(wrap64 ((x3_2.length:Int)-1))else 0)=ji22:=hji22
            by_cases c23:0≤(ji22)
            ·rw[if_pos c23]at H;have c23b0:=eq_true c23;have c23b1:decide (0≤(ji22))=true:=decide_eq_true c23;clear c23
             by_cases c24:(ji22)≤(x3_2.length:Int)
             ·rw[if_pos c24]at H;have c24b0:=eq_true c24;have c24b1:decide ((ji22)≤(x3_2.length:Int))=true:=decide_eq_true c24;clear c24;obtain⟨y355,hy355⟩: ∃y_:List ByteArray,y_=(x3_2.take ((ji22):Int).toNat):=⟨_,rfl⟩;replace H:(impl_CleanPath.l0 k2 y355 t341 t341 (t341.length:Int) (wrap64 (x31_2+1)))=some r:=by first|(rw[hy355];with_reducible exact H)|(have H2_:=(Option.bind_some _ _).symm.trans H;rw[hy355];with_reducible exact H2_)|(have H2_:=(Option.bind_some _ _).symm.trans H;with_reducible exact H2_)|with_reducible exact H|(rw[hy355];exact H)|exact H
              have Ny355:=Aside0.mk hy355;clear hy355;have H':=Aside0.mk H;clear H;have p354:0≤(x31_2:Int):=of_decide_eq_true zz3;have q354:x31_2<(t341.length:Int):=of_decide_eq_true zz3;obtain⟨ad354,e354,hx354_0⟩:=Kd.at_string (Kd.R_reads' HO_29.out).2.2 x31_2 p354 q354;cases e354;replace p354:=eq_true p354;replace q354:=eq_true q354;obtain⟨Ao25,co25,eo25⟩:=Kd.R_slice HO_3.out;subst eo25;have q26:((ji22):Int)≤((x3_2.length:Int):Int):=of_decide_eq_true zz3;obtain⟨i026,hi026,_,hsz26,_⟩:=info_parts info9;have hcut26:=cut_to (P:=Tryz.prog) 57 9 .i64 Tryz.underlying57 hi026 Ao25 x3_2.length co25 (ji22) (of_decide_eq_true zz3) q26 (Kd.R_reads' HO_3.out).2.1;have hr26:=Kd.R_take (m:=((ji22):Int).toNat) HO_3.out (by omega);have hy26:y355.length=((ji22):Int).toNat:=(by rw[Ny355.out,List.length_take];omega);rw[←Ny355.out]at hr26;rw[←hy26]at hr26 hcut26;clear hy26 hi026 hsz26 HO_3;have HO357:=Aside0.mk hr26;clear hr26;replace q26:=eq_true q26;go_wp2
              go_roundg k2
              (case measure=>have:=HJ1.out;have:=HK2.out;omega);case rel=>exact⟨(y355),(wrap64 (x31_2+1)),zz2,H',⟨zz71⟩,⟨by(with_reducible repeat(first|apply Kd.R_alloc|apply Kd.R_drewN|apply Kd.R_drew));first|exact HO357.out|exact Kd.R_mono HO357.out (fun _ hk_=>zz73)⟩,⟨zz103⟩,⟨zz102⟩,⟨zz0⟩⟩
             ·rw[if_neg c24]at H;exact absurd H (by simp)
            ·rw[if_neg c23]at H;exact absurd H (by simp)
           ·rw[if_neg c21]at H;have c21b0:((rdOf ByteArray.empty t341 x31_2).toList==([46,46]:List UInt8))=false:=beq_eq_false_iff_ne.mpr c21;have c21b1:((rdOf ByteArray.empty t341 x31_2).toList !=([46,46]:List UInt8))=true:=bne_iff_ne.mpr c21
            by_cases c27:x3_2.length<8796093022208
            ·rw[if_pos c27]at H;have LMc27:=Aside0.mk c27;clear c27;obtain⟨y358,hy358⟩: ∃y_:List ByteArray,y_=(x3_2++ [rdOf ByteArray.empty t341 x31_2]):=⟨_,rfl⟩;replace H:(impl_CleanPath.l0 k2 y358 t341 t341 (t341.length:Int) (wrap64 (x31_2+1)))=some r:=by first|(rw[hy358];with_reducible exact H)|(have H2_:=(Option.bind_some _ _).symm.trans H;rw[hy358];with_reducible exact H2_)|(have H2_:=(Option.bind_some _ _).symm.trans H;with_reducible exact H2_)|with_reducible exact H|(rw[hy358];exact H)|exact H
             have Ny358:=Aside0.mk hy358;clear hy358;have H':=Aside0.mk H;clear H;have p354:0≤(x31_2:Int):=of_decide_eq_true zz3;have q354:x31_2<(t341.length:Int):=of_decide_eq_true zz3;obtain⟨ad354,e354,hx354_0⟩:=Kd.at_string (Kd.R_reads' HO_29.out).2.2 x31_2 p354 q354;cases e354;replace p354:=eq_true p354;replace q354:=eq_true q354;go_wp2_with (first|((with_reducible refine gate_builtin (b:= .append) (xs:= #[.tmp 36,.tmp 38]) rfl ?_);(try(refine gate_guard (by rfl) ?_;dsimp only));at_builtin;refine Kd.R_append Kd.string (w0:=w) w.heap.size rfl (.tmp 36) (.tmp 38) 57 9 (.string ⟨#[]⟩) 16 rfl Tryz.underlying57 info9 rfl (by decide) (by omega) u3 x3_2 (rdOf ByteArray.empty t341 x31_2) [.string (rdOf ByteArray.empty t341 x31_2)] (fun k_=>some k_≠(.slice (some ad354) t341.length co16:Value).ownBlock∧some k_≠(.slice (some ad354) t341.length co16:Value).ownBlock) (fun _=>False) rfl rfl ?aP (fun _ hk=>hk.elim) ?aF ?aO ?aB ?aS ?aL ?_;(case aP=>exact rfl);(case aB=>exact zz0);(case aF=>exact(fun k_ hk=>⟨Kd.fresh' (Kd.R_lt zz20) k_ hk,Kd.fresh' (Kd.R_lt zz43) k_ hk⟩));(case aO=>exact zz10);(case aS=>exact(below_size zz0));(case aL=>have:=LMc27.out;omega);intro v359 w28 ho hb hg hat;rw[←Ny358.out]at ho;replace HO_4:=Aside0.mk (Kd.R_after (ok:=(fun _=>True)) zz41 hg hat);replace HO_29:=Aside0.mk (Kd.R_after (ok:=(fun _=>True)) zz68 hg hat);replace HB:=Aside0.mk (hb);have HO360:=Aside0.mk (ho);clear HO_3;clear ho hb hg hat))
             go_roundg k2
             (case measure=>have:=HJ1.out;have:=HK2.out;omega);case rel=>exact⟨(y358),(wrap64 (x31_2+1)),zz2,H',⟨zz71⟩,⟨by(with_reducible repeat(first|apply Kd.R_alloc|apply Kd.R_drewN|apply Kd.R_drew));first|exact HO360.out|exact Kd.R_mono HO360.out (fun _ hk_=>zz73)⟩,⟨zz72⟩,⟨by(with_reducible repeat(first|apply Kd.R_alloc|apply Kd.R_drewN|apply Kd.R_drew));exact Kd.R_mono HO_29.out (fun _ hk=>hk.2)⟩,⟨zz0⟩⟩
            ·rw[if_neg c27]at H;exact absurd H (by simp)
         ·rw[if_neg c19]at H;exact absurd H (by simp)
        ·rw[if_neg c18]at H;exact absurd H (by simp)
       ·rw[if_neg c17]at H;have c17b0:decide (x31_2<(t341.length:Int))=false:=decide_eq_false c17;clear c17;obtain⟨ji29,hji29⟩: ∃j_:Int,(wrap64 ((t341.length:Int)-1))=j_:=⟨_,rfl⟩;replace H:(if 0≤(ji29)then(if(ji29)<(t341.length:Int)then(if(rdOf ByteArray.empty t341 (ji29)).toList=([46]:List UInt8)then(if x3_2.length<8796093022208 then((strings_Join.f (x3_2++ [(⟨#[]⟩:ByteArray)]) (⟨#[47]⟩:ByteArray)).bind fun t348=>(if 1+t348.size≤9223372036854775807 then(some ((⟨#[47]⟩:ByteArray)++t348))else(none)))else(none))else(if(rdOf ByteArray.empty t341 (ji29)).toList=([46,46]:List UInt8)then(if x3_2.length<8796093022208 then((strings_Join.f (x3_2++ [(⟨#[]⟩:ByteArray)]) (⟨#[47]⟩:ByteArray)).bind fun t352=>(if 1+t352.size≤9223372036854775807 then(some ((⟨#[47]⟩:ByteArray)++t352))else(none)))else(none))else((strings_Join.f x3_2 (⟨#[47]⟩:ByteArray)).bind fun t353=>(if 1+t353.size≤9223372036854775807 then(some ((⟨#[47]⟩:ByteArray)++t353))else(none)))))else(none))else(none))=some r:=by first|(rw[hji29]at H;exact H)|(simp only[hji29]at H ⊢;exact H)
        have hji29w:(IntKind.i64.wrap ((t341.length:Int)-1))=ji29:=(i64_w _).trans hji29
        by_cases c30:0≤(ji29)
        ·rw[if_pos c30]at H;have c30b0:decide (0≤(ji29))=true:=decide_eq_true c30;clear c30
         by_cases c31:(ji29)<(t341.length:Int)
         ·rw[if_pos c31]at H;have c31b0:decide ((ji29)<(t341.length:Int))=true:=decide_eq_true c31;clear c31;have HC32:=Aside0.mk H;clear H;have p344:0≤((ji29):Int):=of_decide_eq_true zz3;have q344:(ji29)<(t341.length:Int):=of_decide_eq_true zz3;obtain⟨ad344,e344,hx344_0⟩:=Kd.at_string (Kd.R_reads' HO_4.out).2.2 (ji29) p344 q344;cases e344;replace p344:=eq_true p344;replace q344:=eq_true q344
          repeat' (first|(go_big_may;(fail))|go_values|go_skip|go_big_skip|go_big_want|((first|(with_reducible refine gate_nog rfl ?_)|(fail_if_success with_reducible refine gate_any ?_));go_step)|go_upon|simp only[Bool.not_true,Bool.not_false,Bool.true_and,Bool.false_and,Bool.true_or,Bool.false_or]|dsimp only)
          have H:=HC32.out;clear HC32
          by_cases c33:(rdOf ByteArray.empty t341 (ji29)).toList=([46]:List UInt8)
          ·rw[if_pos c33]at H;have c33b0:((rdOf ByteArray.empty t341 (ji29)).toList==([46]:List UInt8))=true:=beq_iff_eq.mpr c33;have c33b1:((rdOf ByteArray.empty t341 (ji29)).toList !=([46]:List UInt8))=false:=bne_eq_false_iff_eq.mpr c33;clear c33;(first|rw[c33b0]|(simp only[i64_w,i32_w];rw[c33b0])|rw[c33b1]|(rw[c33b2];simp only[Bool.not_true,Bool.not_false])|skip)
           by_cases c34:x3_2.length<8796093022208
           ·rw[if_pos c34]at H;have LMc34:=Aside0.mk c34;clear c34;obtain⟨y345,hy345⟩: ∃y_:List ByteArray,y_=(x3_2++ [(⟨#[]⟩:ByteArray)]):=⟨_,rfl⟩;replace H:((strings_Join.f y345 (⟨#[47]⟩:ByteArray)).bind fun t348=>(if 1+t348.size≤9223372036854775807 then(some ((⟨#[47]⟩:ByteArray)++t348))else(none)))=some r:=by first|(rw[hy345];with_reducible exact H)|(have H2_:=(Option.bind_some _ _).symm.trans H;rw[hy345];with_reducible exact H2_)|(have H2_:=(Option.bind_some _ _).symm.trans H;with_reducible exact H2_)|with_reducible exact H|(rw[hy345];exact H)|exact H
            have Ny345:=Aside0.mk hy345;clear hy345;replace H:=Option.bind_eq_some_iff.mp H;obtain⟨t348,A350,H⟩:=H;(try dsimp only at H);have A35:=Aside0.mk A350;clear A350
            by_cases c36:1+t348.size≤9223372036854775807
            ·rw[if_pos c36]at H;have c36b0:=eq_true c36;have c36b1:decide (1+t348.size≤9223372036854775807)=true:=decide_eq_true c36;(try have c36b2:(9223372036854775807<1+t348.size)=False:=eq_false (Nat.not_lt.2 c36));obtain rfl:=Option.some.inj H;go_wp2_with (first|((with_reducible refine gate_builtin (b:= .append) (xs:= #[.tmp 63,.tmp 64]) rfl ?_);(try(refine gate_guard (by rfl) ?_;dsimp only));at_builtin;refine Kd.R_append Kd.string (w0:=w) w.heap.size rfl (.tmp 63) (.tmp 64) 57 9 (.string ⟨#[]⟩) 16 rfl Tryz.underlying57 info9 rfl (by decide) (by omega) u3 x3_2 (⟨#[]⟩:ByteArray) [.string (⟨#[]⟩:ByteArray)] (fun k_=>some k_≠(.slice (some ad344) t341.length co16:Value).ownBlock∧some k_≠(.slice (some ad344) t341.length co16:Value).ownBlock) (fun _=>False) rfl rfl ?aP (fun _ hk=>hk.elim) ?aF ?aO ?aB ?aS ?aL ?_;(case aP=>exact rfl);(case aB=>exact zz0);(case aF=>exact(fun k_ hk=>⟨Kd.fresh' (Kd.R_lt zz20) k_ hk,Kd.fresh' (Kd.R_lt zz43) k_ hk⟩));(case aO=>exact zz10);(case aS=>exact(below_size zz0));(case aL=>have:=LMc34.out;omega);intro v346 w37 ho hb hg hat;rw[←Ny345.out]at ho;replace HO_4:=Aside0.mk (Kd.R_after (ok:=(fun _=>True)) zz41 hg hat);replace HO_29:=Aside0.mk (Kd.R_after (ok:=(fun _=>True)) zz68 hg hat);replace HB:=Aside0.mk (hb);have HO347:=Aside0.mk (ho);clear HO_3;clear ho hb hg hat;obtain⟨Ao38,co38,eo38⟩:=Kd.R_slice HO347.out;subst eo38)|((with_reducible refine gate_callee (f:=62) rfl ?_);refine goesQ_ 67 Tryz.func62 #[.slice Ao38 y345.length co38,.string (⟨#[47]⟩:ByteArray)] ?_;(with_reducible refine(strings_Join.calls _ _ y345 (⟨#[47]⟩:ByteArray) t348 _ ?side1 ?side2 A35.out).mono ?_);(case side1=>repeat(first|exact(Kd.R_reads' HO347.out).2.2|(with_reducible refine Kd.C_alloc ?_ _)|(with_reducible refine Kd.C_drewN ?_ _)|(with_reducible refine Kd.C_drew ?_)));(case side2=>exact(Kd.R_reads' HO347.out).2.1);rintro e w39 ⟨rfl,hb⟩;refine⟨_,rfl,?_⟩;replace HO_4:=Aside0.mk (Kd.R_below zz20 hb);replace HO_29:=Aside0.mk (Kd.R_below zz43 hb);replace HO347:=Aside0.mk (Kd.R_below (by(with_reducible repeat(first|apply Kd.R_alloc|apply Kd.R_drewN|apply Kd.R_drew));exact HO347.out) hb);replace HB:=Aside0.mk (below_step zz0 hb);(try clear hb)))
             go_ret;exact⟨zz62,zz0⟩
            ·rw[if_neg c36]at H;exact absurd H (by simp)
           ·rw[if_neg c34]at H;exact absurd H (by simp)
          ·rw[if_neg c33]at H;have c33b0:((rdOf ByteArray.empty t341 (ji29)).toList==([46]:List UInt8))=false:=beq_eq_false_iff_ne.mpr c33;have c33b1:((rdOf ByteArray.empty t341 (ji29)).toList !=([46]:List UInt8))=true:=bne_iff_ne.mpr c33;(first|rw[c33b0]|(simp only[i64_w,i32_w];rw[c33b0])|rw[c33b1]|(rw[c33b2];simp only[Bool.not_true,Bool.not_false])|skip)
           by_cases c40:(rdOf ByteArray.empty t341 (ji29)).toList=([46,46]:List UInt8)
           ·rw[if_pos c40]at H;have c40b0:((rdOf ByteArray.empty t341 (ji29)).toList==([46,46]:List UInt8))=true:=beq_iff_eq.mpr c40;have c40b1:((rdOf ByteArray.empty t341 (ji29)).toList !=([46,46]:List UInt8))=false:=bne_eq_false_iff_eq.mpr c40;clear c40
            by_cases c41:x3_2.length<8796093022208
            ·rw[if_pos c41]at H;have LMc41:=Aside0.mk c41;clear c41;obtain⟨y349,hy349⟩: ∃y_:List ByteArray,y_=(x3_2++ [(⟨#[]⟩:ByteArray)]):=⟨_,rfl⟩;replace H:((strings_Join.f y349 (⟨#[47]⟩:ByteArray)).bind fun t352=>(if 1+t352.size≤9223372036854775807 then(some ((⟨#[47]⟩:ByteArray)++t352))else(none)))=some r:=by first|(rw[hy349];with_reducible exact H)|(have H2_:=(Option.bind_some _ _).symm.trans H;rw[hy349];with_reducible exact H2_)|(have H2_:=(Option.bind_some _ _).symm.trans H;with_reducible exact H2_)|with_reducible exact H|(rw[hy349];exact H)|exact H
             have Ny349:=Aside0.mk hy349;clear hy349;replace H:=Option.bind_eq_some_iff.mp H;obtain⟨t352,A420,H⟩:=H;(try dsimp only at H);have A42:=Aside0.mk A420;clear A420
             by_cases c43:1+t352.size≤9223372036854775807
             ·rw[if_pos c43]at H;have c43b0:=eq_true c43;have c43b1:decide (1+t352.size≤9223372036854775807)=true:=decide_eq_true c43;(try have c43b2:(9223372036854775807<1+t352.size)=False:=eq_false (Nat.not_lt.2 c43));obtain rfl:=Option.some.inj H;go_wp2_with (first|((with_reducible refine gate_builtin (b:= .append) (xs:= #[.tmp 63,.tmp 64]) rfl ?_);(try(refine gate_guard (by rfl) ?_;dsimp only));at_builtin;refine Kd.R_append Kd.string (w0:=w) w.heap.size rfl (.tmp 63) (.tmp 64) 57 9 (.string ⟨#[]⟩) 16 rfl Tryz.underlying57 info9 rfl (by decide) (by omega) u3 x3_2 (⟨#[]⟩:ByteArray) [.string (⟨#[]⟩:ByteArray)] (fun k_=>some k_≠(.slice (some ad344) t341.length co16:Value).ownBlock∧some k_≠(.slice (some ad344) t341.length co16:Value).ownBlock) (fun _=>False) rfl rfl ?aP (fun _ hk=>hk.elim) ?aF ?aO ?aB ?aS ?aL ?_;(case aP=>exact rfl);(case aB=>exact zz0);(case aF=>exact(fun k_ hk=>⟨Kd.fresh' (Kd.R_lt zz20) k_ hk,Kd.fresh' (Kd.R_lt zz43) k_ hk⟩));(case aO=>exact zz10);(case aS=>exact(below_size zz0));(case aL=>have:=LMc41.out;omega);intro v350 w44 ho hb hg hat;rw[←Ny349.out]at ho;replace HO_4:=Aside0.mk (Kd.R_after (ok:=(fun _=>True)) zz41 hg hat);replace HO_29:=Aside0.mk (Kd.R_after (ok:=(fun _=>True)) zz68 hg hat);replace HB:=Aside0.mk (hb);have HO351:=Aside0.mk (ho);clear HO_3;clear ho hb hg hat;obtain⟨Ao45,co45,eo45⟩:=Kd.R_slice HO351.out;subst eo45)|((with_reducible refine gate_callee (f:=62) rfl ?_);refine goesQ_ 67 Tryz.func62 #[.slice Ao45 y349.length co45,.string (⟨#[47]⟩:ByteArray)] ?_;(with_reducible refine(strings_Join.calls _ _ y349 (⟨#[47]⟩:ByteArray) t352 _ ?side1 ?side2 A42.out).mono ?_);(case side1=>repeat(first|exact(Kd.R_reads' HO351.out).2.2|(with_reducible refine Kd.C_alloc ?_ _)|(with_reducible refine Kd.C_drewN ?_ _)|(with_reducible refine Kd.C_drew ?_)));(case side2=>exact(Kd.R_reads' HO351.out).2.1);rintro e w46 ⟨rfl,hb⟩;refine⟨_,rfl,?_⟩;replace HO_4:=Aside0.mk (Kd.R_below zz20 hb);replace HO_29:=Aside0.mk (Kd.R_below zz43 hb);replace HO351:=Aside0.mk (Kd.R_below (by(with_reducible repeat(first|apply Kd.R_alloc|apply Kd.R_drewN|apply Kd.R_drew));exact HO351.out) hb);replace HB:=Aside0.mk (below_step zz0 hb);(try clear hb)))
              go_ret;exact⟨zz62,zz0⟩
             ·rw[if_neg c43]at H;exact absurd H (by simp)
            ·rw[if_neg c41]at H;exact absurd H (by simp)
           ·rw[if_neg c40]at H;have c40b0:((rdOf ByteArray.empty t341 (ji29)).toList==([46,46]:List UInt8))=false:=beq_eq_false_iff_ne.mpr c40;have c40b1:((rdOf ByteArray.empty t341 (ji29)).toList !=([46,46]:List UInt8))=true:=bne_iff_ne.mpr c40;replace H:=Option.bind_eq_some_iff.mp H;obtain⟨t353,A470,H⟩:=H;(try dsimp only at H);have A47:=Aside0.mk A470;clear A470
            by_cases c48:1+t353.size≤9223372036854775807
            ·rw[if_pos c48]at H;have c48b0:=eq_true c48;have c48b1:decide (1+t353.size≤9223372036854775807)=true:=decide_eq_true c48;(try have c48b2:(9223372036854775807<1+t353.size)=False:=eq_false (Nat.not_lt.2 c48));obtain rfl:=Option.some.inj H;obtain⟨Ao49,co49,eo49⟩:=Kd.R_slice HO_3.out;subst eo49;go_wp2_with (first|((with_reducible refine gate_callee (f:=62) rfl ?_);refine goesQ_ 67 Tryz.func62 #[.slice Ao49 x3_2.length co49,.string (⟨#[47]⟩:ByteArray)] ?_;(with_reducible refine(strings_Join.calls _ _ x3_2 (⟨#[47]⟩:ByteArray) t353 _ ?side1 ?side2 A47.out).mono ?_);(case side1=>repeat(first|exact(Kd.R_reads' HO_3.out).2.2|(with_reducible refine Kd.C_alloc ?_ _)|(with_reducible refine Kd.C_drewN ?_ _)|(with_reducible refine Kd.C_drew ?_)));(case side2=>exact(Kd.R_reads' HO_3.out).2.1);rintro e w50 ⟨rfl,hb⟩;refine⟨_,rfl,?_⟩;replace HO_3:=Aside0.mk (Kd.R_below zz10 hb);replace HO_4:=Aside0.mk (Kd.R_below zz20 hb);replace HO_29:=Aside0.mk (Kd.R_below zz43 hb);replace HB:=Aside0.mk (below_step zz0 hb);(try clear hb)))
             go_ret;exact⟨zz62,zz0⟩
            ·rw[if_neg c48]at H;exact absurd H (by simp)
         ·rw[if_neg c31]at H;exact absurd H (by simp)
        ·rw[if_neg c30]at H;exact absurd H (by simp)
    ·rw[if_neg c12]at H;exact absurd H (by simp)
def strings_Index.f (a0 a1:ByteArray):Option (Int):=if a0.size<4294967281 then some (Lib.index a0.data.toList a1.data.toList)else none
theorem strings_Index.calls (a0 a1:ByteArray) (r:Int) (w:World) (hG:Gl w) (h:strings_Index.f a0 a1=some r):
  Calls Tryz.prog 117 #[.string a0,.string a1] w fun e w'=>e= .returned (.int .i64 r)∧Below w.heap.size w w':=by
 unfold strings_Index.f at h
 by_cases hs:a0.size<4294967281
 ·rw[if_pos hs]at h;obtain rfl:=Option.some.inj h;obtain⟨m,hm⟩:=hG.maxLen;refine(Tryz.strings_Index a0 a1 m w hs hm).mono ?_;rintro e w' ⟨he,hw⟩;subst hw;exact⟨he,Below.refl _ _⟩
 ·rw[if_neg hs]at h;cases h
def strings_Contains.f (a0 a1:ByteArray):Option (Bool):=(strings_Index.f a0 a1).bind fun t361=>(some (decide (t361≥0)))
theorem strings_Contains.calls (a0 a1:ByteArray) (r:Bool) (w:World) (hG:Gl w) (h:strings_Contains.f a0 a1=some r):
  Calls Tryz.prog 100 #[.string a0,.string a1] w fun e w'=>e= .returned (.bool r)∧Below w.heap.size w w':=by
 have HG:=Aside0.mk hG;clear hG;have HB:=Aside0.mk (Below.refl w.heap.size w);have H:((strings_Index.f a0 a1).bind fun t361=>(some (decide (t361≥0))))=some r:=h;clear h;replace H:=Option.bind_eq_some_iff.mp H;obtain⟨t361,A30,H⟩:=H;(try dsimp only at H);have A3:=Aside0.mk A30;clear A30;obtain rfl:=Option.some.inj H;go_enter Tryz.func100,Tryz.ntmps100
 go_wp2_with (first|((with_reducible refine gate_callee (f:=117) rfl ?_);refine goesQ_ 7 Tryz.func117 #[.string a0,.string a1] ?_;(with_reducible refine(strings_Index.calls a0 a1 t361 _ ?side1 A3.out).mono ?_);(case side1=>exact Gl.below HG.out zz0);rintro e w4 ⟨rfl,hb⟩;refine⟨_,rfl,?_⟩;replace HB:=Aside0.mk (below_step zz0 hb);(try clear hb)))
 go_ret;exact⟨zz1,zz0⟩
def impl_portText.f (a0_0:ByteArray) (a0_1:Int) (a0_2 a0_3:ByteArray) (a0_4:Bool):Option (ByteArray):=if a0_1=80 then(some (⟨#[]⟩:ByteArray))else((strconv_Itoa.f a0_1).bind fun t363=>(if 1+t363.size≤9223372036854775807 then(some ((⟨#[58]⟩:ByteArray)++t363))else(none)))
theorem impl_portText.calls (a0_0:ByteArray) (a0_1:Int) (a0_2 a0_3:ByteArray) (a0_4:Bool) (r:ByteArray) (w:World) (hG:Gl w) (h:impl_portText.f a0_0 a0_1 a0_2 a0_3 a0_4=some r):
  Calls Tryz.prog 102 #[.agg #[.string a0_0,.int .i64 a0_1,.string a0_2,.string a0_3,.bool a0_4]] w fun e w'=>e= .returned (.string r)∧Below w.heap.size w w':=by
 have hu48:=Tryz.underlying48;have HG:=Aside0.mk hG;clear hG;have HB:=Aside0.mk (Below.refl w.heap.size w);have H:(if a0_1=80 then(some (⟨#[]⟩:ByteArray))else((strconv_Itoa.f a0_1).bind fun t363=>(if 1+t363.size≤9223372036854775807 then(some ((⟨#[58]⟩:ByteArray)++t363))else(none))))=some r:=h;clear h;have HC2:=Aside0.mk H;clear H;go_enter Tryz.func102,Tryz.ntmps102
 go_upto_if 5 with(first|((with_reducible refine gate_dst (N:=1) rfl ?_);refine boxP_ (N:=1) (cs:= #[.string a0_0,.int .i64 a0_1,.string a0_2,.string a0_3,.bool a0_4]) (t:=48) ?_;intro gb362 hg w3 hbox hb;have BK362:=Aside0.mk (hbox);have GE362:=geb_ (w:=w) hg zz0;replace HB:=Aside0.mk (below_step zz0 hb);clear hb hbox hg;obtain⟨_,_,_,_,_,_,_,_,_,_⟩:=cells5_ BK362.out))
 (try simp only[Act.put,List.setIfInBounds_toArray,List.set_cons_zero,List.set_cons_succ]);have H:=HC2.out;clear HC2
 by_cases c5:a0_1=80
 ·rw[if_pos c5]at H;have c5b0:(a0_1==80)=true:=beq_iff_eq.mpr c5;have c5b1:(a0_1 !=80)=false:=bne_eq_false_iff_eq.mpr c5;clear c5;(first|rw[c5b0]|(simp only[i64_w,i32_w];rw[c5b0])|rw[c5b1]|(rw[c5b2];simp only[Bool.not_true,Bool.not_false])|skip);obtain rfl:=Option.some.inj H;go_wp2
  go_ret;exact⟨zz1,zz47⟩
 ·rw[if_neg c5]at H;have c5b0:(a0_1==80)=false:=beq_eq_false_iff_ne.mpr c5;have c5b1:(a0_1 !=80)=true:=bne_iff_ne.mpr c5;(first|rw[c5b0]|(simp only[i64_w,i32_w];rw[c5b0])|rw[c5b1]|(rw[c5b2];simp only[Bool.not_true,Bool.not_false])|skip);replace H:=Option.bind_eq_some_iff.mp H;obtain⟨t363,A60,H⟩:=H;(try dsimp only at H);have A6:=Aside0.mk A60;clear A60
  by_cases c7:1+t363.size≤9223372036854775807
  ·rw[if_pos c7]at H;have c7b0:=eq_true c7;have c7b1:decide (1+t363.size≤9223372036854775807)=true:=decide_eq_true c7;(try have c7b2:(9223372036854775807<1+t363.size)=False:=eq_false (Nat.not_lt.2 c7));obtain rfl:=Option.some.inj H;obtain⟨_,_,_,_,_,_,_,_,_,_⟩:=cells5_ BK362.out;go_wp2_with (first|((with_reducible refine gate_callee (f:=72) rfl ?_);refine goesQ_ 8 Tryz.func72 #[.int .i64 a0_1] ?_;(with_reducible refine(strconv_Itoa.calls a0_1 t363 _ ?side1 A6.out).mono ?_);(case side1=>exact Gl.below HG.out zz47);rintro e w9 ⟨rfl,hb⟩;refine⟨_,rfl,?_⟩;replace BK362:=Aside0.mk (blk_below (by(with_reducible repeat(first|refine blk_drewN ?_ _|refine blk_drew ?_|refine blk_alloc ?_ _));exact BK362.out) hb);replace HB:=Aside0.mk (below_step zz47 hb);(try clear hb)))
   go_ret;exact⟨zz1,zz47⟩
  ·rw[if_neg c7]at H;exact absurd H (by simp)
def impl_pathText.f (a0_0:ByteArray) (a0_1:Int) (a0_2 a0_3:ByteArray) (a0_4:Bool):Option (ByteArray):=if a0_4=true then(if a0_2.size+1≤9223372036854775807 then(if(a0_2++(⟨#[63]⟩:ByteArray)).size+a0_3.size≤9223372036854775807 then(some ((a0_2++(⟨#[63]⟩:ByteArray))++a0_3))else(none))else(none))else(some a0_2)
theorem impl_pathText.calls (a0_0:ByteArray) (a0_1:Int) (a0_2 a0_3:ByteArray) (a0_4:Bool) (r:ByteArray) (w:World) (h:impl_pathText.f a0_0 a0_1 a0_2 a0_3 a0_4=some r):
  Calls Tryz.prog 103 #[.agg #[.string a0_0,.int .i64 a0_1,.string a0_2,.string a0_3,.bool a0_4]] w fun e w'=>e= .returned (.string r)∧Below w.heap.size w w':=by
 have hu48:=Tryz.underlying48;have HB:=Aside0.mk (Below.refl w.heap.size w);have H:(if a0_4=true then(if a0_2.size+1≤9223372036854775807 then(if(a0_2++(⟨#[63]⟩:ByteArray)).size+a0_3.size≤9223372036854775807 then(some ((a0_2++(⟨#[63]⟩:ByteArray))++a0_3))else(none))else(none))else(some a0_2))=some r:=h;clear h;have HC2:=Aside0.mk H;clear H;go_enter Tryz.func103,Tryz.ntmps103
 go_upto_if 4 with(first|((with_reducible refine gate_dst (N:=1) rfl ?_);refine boxP_ (N:=1) (cs:= #[.string a0_0,.int .i64 a0_1,.string a0_2,.string a0_3,.bool a0_4]) (t:=48) ?_;intro gb364 hg w3 hbox hb;have BK364:=Aside0.mk (hbox);have GE364:=geb_ (w:=w) hg zz0;replace HB:=Aside0.mk (below_step zz0 hb);clear hb hbox hg;obtain⟨_,_,_,_,_,_,_,_,_,_⟩:=cells5_ BK364.out))
 (try simp only[Act.put,List.setIfInBounds_toArray,List.set_cons_zero,List.set_cons_succ]);have H:=HC2.out;clear HC2
 by_cases c5:a0_4=true
 ·subst c5;rw[if_pos rfl]at H
  by_cases c6:a0_2.size+1≤9223372036854775807
  ·rw[if_pos c6]at H;have c6b0:=eq_true c6;have c6b1:decide (a0_2.size+1≤9223372036854775807)=true:=decide_eq_true c6;try have c6b2:(9223372036854775807<a0_2.size+1)=False:=eq_false (Nat.not_lt.2 c6)
   by_cases c7:(a0_2++(⟨#[63]⟩:ByteArray)).size+a0_3.size≤9223372036854775807
   ·rw[if_pos c7]at H;have c7b0:=eq_true c7;have c7b1:decide ((a0_2++(⟨#[63]⟩:ByteArray)).size+a0_3.size≤9223372036854775807)=true:=decide_eq_true c7;(try have c7b2:(9223372036854775807<(a0_2++(⟨#[63]⟩:ByteArray)).size+a0_3.size)=False:=eq_false (Nat.not_lt.2 c7));(try have c7z:=c7b2;simp only[ByteArray.size_append,show(⟨#[63]⟩:ByteArray).size=1 from rfl]at c7z;have c7b3:=c7z);obtain rfl:=Option.some.inj H;obtain⟨_,_,_,_,_,_,_,_,_,_⟩:=cells5_ BK364.out;go_wp2
    go_ret;exact⟨zz1,zz88⟩
   ·rw[if_neg c7]at H;exact absurd H (by simp)
  ·rw[if_neg c6]at H;exact absurd H (by simp)
 ·replace c5:=Bool.eq_false_iff.mpr c5;subst c5;rw[if_neg Bool.false_ne_true]at H;obtain rfl:=Option.some.inj H;obtain⟨_,_,_,_,_,_,_,_,_,_⟩:=cells5_ BK364.out;go_wp2
  go_ret;exact⟨zz1,zz88⟩
end Go.Proofs.YteojcbbifacpnaaGreatDoor.GFnExactClosest
