-- Printed by gen.py and its programs for this claim.
import Derived.Test.YteojcbbifacpnaaGreatDoorGFnExactReadLinex0
import Derived.Test.YteojcbbifacpnaaGreatDoorGFnExactReadLinex19
import Derived.Test.YteojcbbifacpnaaGreatDoorGFnExactReadLinex20
import Derived.Test.YteojcbbifacpnaaGreatDoorGFnExactReadLinex21
import Derived.Test.YteojcbbifacpnaaGreatDoorGFnExactReadLinex22
import Derived.Test.YteojcbbifacpnaaGreatDoorZFnExactReadLine
namespace Go.Proofs.YteojcbbifacpnaaGreatDoor.GFnExactReadLine
open Go.RowKit Go.Proofs.YteojcbbifacpnaaGreatDoorW.PrintWords Go.Proofs.YteojcbbifacpnaaGreatDoorW.PrintLast Go.Proofs.YteojcbbifacpnaaGreatDoorW.PrintMore Go.Proofs.YteojcbbifacpnaaGreatDoorW.Zs
set_option maxHeartbeats 40000000
set_option maxRecDepth 100000
attribute [local go_sem] zL qL xN zN qK xK xL jL
set_option linter.unusedVariables false
set_option linter.unusedSimpArgs false
def xE.l0:Nat→ByteArray→Int→Option (Bool)
 |0,_,_=>none
 |k+1,x0,x5=>if x5<(x0.size:Int)then(if 0≤x5 then((jU.f (bt x0 x5)).bind fun t365=>(if t365=true then(xE.l0 k x0 (wrap64 (x5+1)))else(some false)))else(none))else(some true)
def xE.f (k:Nat) (a0:ByteArray):Option (Bool):=xE.l0 k a0 0
theorem xE.calls (k:Nat) (a0:ByteArray) (r:Bool) (w:World) (h:xE.f k a0=some r):
  Calls Tryz.prog 81 #[.string a0,.func (.func 99) #[] #[]] w fun e w'=>e= .returned (.bool r)∧wI w w':=by
 have H:(xE.l0 k a0 0)=some r:=h;clear h;have H':=am_ H;clear H;go_enter Tryz.func81,Tryz.ntmps81
 go_wp2
 go_loopg [5] k (fun kq v5 w'=> ∃(x5_1:Int),v5= .int .i64 x5_1∧wA (xE.l0 kq a0 x5_1=some r)∧wA (kq≤k)∧wI w w')
 case atStart=>exact⟨(0),vB,H',⟨Nat.le_refl _⟩,zz4⟩
 case round=>
  clear H';obtain⟨x5_1,rfl,HA,HK1,⟨m1,rfl⟩⟩:=hrel
  cases gk with
  |zero=>exact absurd HA.out (by simp[xE.l0])
  |succ k1=>
   have H:=HA.out;clear HA;simp only[xE.l0]at H
   by_cases c2:x5_1<(a0.size:Int)
   ·rw[if_pos c2]at H;have c2b0:=dt_ c2;clear c2
    by_cases c3:0≤x5_1
    ·rw[if_pos c3]at H;have c3b0:=dt_ c3;clear c3;replace H:=be_ H;obtain⟨t365,A50,H⟩:=H;(try dsimp only at H);have A5:=am_ A50;clear A50;have HC6:=am_ H;clear H;have p4:0≤(x5_1:Int):=od_ zz5;have q4:x5_1<(a0.size:Int):=od_ zz5;have hx4:=wP a0 x5_1;replace p4:=eq_true p4;replace q4:=eq_true q4;go_upto_if 17 with(first|(go_at_call 99;(with_reducible refine(jU.calls (bt a0 x5_1) t365 _ A5.out).mono ?_);rintro e w' ⟨rfl,⟨nd,rfl⟩⟩))
     (try simp only[Act.put,List.setIfInBounds_toArray,List.set_cons_zero,List.set_cons_succ]);have H:=HC6.out;clear HC6
     by_cases c7:t365=true
     ·subst c7;rw[if_pos rfl]at H;have H':=am_ H;clear H;go_wp2
      go_roundg k1
      (case measure=>have:=HK1.out;omega);case rel=>exact⟨(wrap64 (x5_1+1)),vB,H',⟨aJ5⟩,zz4⟩
     ·replace c7:=bf_ c7;subst c7;rw[if_neg ft_]at H;obtain rfl:=si_ H;go_wp2
      go_ret;exact⟨vB,zz4⟩
    ·rw[if_neg c3]at H;exact absurd H (by simp)
   ·rw[if_neg c2]at H;have c2b0:=df_ c2;clear c2;obtain rfl:=si_ H;go_wp2
    go_ret;exact⟨vB,zz4⟩
theorem bY5 (A:Option Addr) (n c:Nat):(Value.slice A n c).ownBlock=A.map Addr.block:=by cases A<;>rfl
mutual
def vD.j0:Nat→ByteArray→Bool→Option (ByteArray)
 |0,_,_=>none
 |k+1,x0,x24=>if x24=true then(some (⟨#[]⟩:ByteArray))else((yB.f k x0).bind fun t369=>(if 1≤(t369.size:Int)then((strings_Split.f (t369.extract 1 t369.size) (⟨#[47]⟩:ByteArray)).bind fun t370=>(vD.l0 k ([]:List ByteArray) t370 t370 (t370.length:Int) 0))else(none)))
def vD.l0:Nat→List ByteArray→List ByteArray→List ByteArray→Int→Int→Option (ByteArray)
 |0,_,_,_,_,_=>none
 |k+1,x3,x4,x29,x30,x31=>if x31<x30 then(if 0≤x31 then(if x31<(x29.length:Int)then(if(jB ByteArray.empty x29 x31).toList=([46]:List UInt8)then(vD.l0 k x3 x4 x29 x30 (wrap64 (x31+1)))else(if(jB ByteArray.empty x29 x31).toList=([46,46]:List UInt8)then(if 0≤(mx 0 (wrap64 ((x3.length:Int)-1)))then(if(mx 0 (wrap64 ((x3.length:Int)-1)))≤(x3.length:Int)then(vD.l0 k (x3.take ((mx 0 (wrap64 ((x3.length:Int)-1))):Int).toNat) x4 x29 x30 (wrap64 (x31+1)))else(none))else(none))else(if x3.length<8796093022208 then(vD.l0 k (x3++ [jB ByteArray.empty x29 x31]) x4 x29 x30 (wrap64 (x31+1)))else(none))))else(none))else(none))else(if 0≤(wrap64 ((x4.length:Int)-1))then(if(wrap64 ((x4.length:Int)-1))<(x4.length:Int)then(if(jB ByteArray.empty x4 (wrap64 ((x4.length:Int)-1))).toList=([46]:List UInt8)then(if x3.length<8796093022208 then((strings_Join.f (x3++ [(⟨#[]⟩:ByteArray)]) (⟨#[47]⟩:ByteArray)).bind fun t377=>(if 1+t377.size≤9223372036854775807 then(some ((⟨#[47]⟩:ByteArray)++t377))else(none)))else(none))else(if(jB ByteArray.empty x4 (wrap64 ((x4.length:Int)-1))).toList=([46,46]:List UInt8)then(if x3.length<8796093022208 then((strings_Join.f (x3++ [(⟨#[]⟩:ByteArray)]) (⟨#[47]⟩:ByteArray)).bind fun t381=>(if 1+t381.size≤9223372036854775807 then(some ((⟨#[47]⟩:ByteArray)++t381))else(none)))else(none))else((strings_Join.f x3 (⟨#[47]⟩:ByteArray)).bind fun t382=>(if 1+t382.size≤9223372036854775807 then(some ((⟨#[47]⟩:ByteArray)++t382))else(none)))))else(none))else(none))
end
def vD.f (k:Nat) (a0:ByteArray):Option (ByteArray):=(strings_HasPrefix.f a0 (⟨#[47]⟩:ByteArray)).bind fun t366=>(if t366=true then(if(a0.size:Int)>200 then(vD.j0 k a0 true)else((xE.f k a0).bind fun t367=>(if t367=true then((strings_ContainsAny.f a0 (⟨#[35,63]⟩:ByteArray)).bind fun t368=>(vD.j0 k a0 t368))else(vD.j0 k a0 true))))else(vD.j0 k a0 true))
theorem vD.calls (k:Nat) (a0 r:ByteArray) (w:World) (hG:Gl w) (h:vD.f k a0=some r):
  Calls Tryz.prog 98 #[.string a0] w fun e w'=>e= .returned (.string r)∧Below w.heap.size w w':=by
 have HG:=am_ hG;clear hG;have HB:=am_ (Below.refl w.heap.size w);have H:((strings_HasPrefix.f a0 (⟨#[47]⟩:ByteArray)).bind fun t366=>(if t366=true then(if(a0.size:Int)>200 then(vD.j0 k a0 true)else((xE.f k a0).bind fun t367=>(if t367=true then((strings_ContainsAny.f a0 (⟨#[35,63]⟩:ByteArray)).bind fun t368=>(vD.j0 k a0 t368))else(vD.j0 k a0 true))))else(vD.j0 k a0 true)))=some r:=h;clear h;have HC2:=am_ H;clear H;go_enter Tryz.func98,Tryz.ntmps98
 go_upto_region 1 with(fail)
 go_cut [24] (fun v24 wc=> ∃(kq:Nat) (x24_1:Bool),v24= .bool x24_1∧wA (vD.j0 kq a0 x24_1=some r)∧wA (kq≤k)∧wA (Below w.heap.size w wc))
 case first=>
  have H:=HC2.out;clear HC2;replace H:=be_ H;obtain⟨t366,A30,H⟩:=H;(try dsimp only at H);have A3:=am_ A30;clear A30
  by_cases c4:t366=true
  ·subst c4;rw[if_pos rfl]at H
   by_cases c5:(a0.size:Int)>200
   ·rw[if_pos c5]at H;have c5b0:decide (200<(a0.size:Int))=true:=dt_ c5;have c5b1:decide (200<a0.size)=true:=dt_ (by omega);clear c5;(first|rw[c5b0]|(simp only[yC,qD];rw[c5b0])|rw[c5b1]|(rw[c5b2];simp only[Bool.not_true,Bool.not_false])|skip);have H':=am_ H;clear H;go_wp2_with (first|((with_reducible refine zB (f:=136) rfl ?_);refine jG 9 Tryz.func136 #[.string a0,.string (⟨#[47]⟩:ByteArray)] (strings_HasPrefix.calls a0 (⟨#[47]⟩:ByteArray) true _ A3.out) ?_;rintro w' ⟨nd,rfl⟩))
    go_meet
    case rel=>exact⟨_,(true),vB,H',⟨jT⟩,⟨zz0⟩⟩
   ·rw[if_neg c5]at H;have c5b0:decide (200<(a0.size:Int))=false:=df_ c5;have c5b1:decide (200<a0.size)=false:=df_ (by omega);clear c5;(first|rw[c5b0]|(simp only[yC,qD];rw[c5b0])|rw[c5b1]|(rw[c5b2];simp only[Bool.not_true,Bool.not_false])|skip);replace H:=be_ H;obtain⟨t367,A60,H⟩:=H;(try dsimp only at H);have A6:=am_ A60;clear A60
    by_cases c7:t367=true
    ·subst c7;rw[if_pos rfl]at H;replace H:=be_ H;obtain⟨t368,A80,H⟩:=H;(try dsimp only at H);have A8:=am_ A80;clear A80;have H':=am_ H;clear H;go_wp2_with (first|((with_reducible refine zB (f:=136) rfl ?_);refine jG 9 Tryz.func136 #[.string a0,.string (⟨#[47]⟩:ByteArray)] (strings_HasPrefix.calls a0 (⟨#[47]⟩:ByteArray) true _ A3.out) ?_;rintro w' ⟨nd,rfl⟩)|(go_at_call 81;(with_reducible refine(xE.calls k a0 true _ A6.out).mono ?_);rintro e w' ⟨rfl,⟨nd,rfl⟩⟩)|(go_at_call 137;(with_reducible refine(strings_ContainsAny.calls a0 (⟨#[35,63]⟩:ByteArray) t368 _ A8.out).mono ?_);rintro e w9 ⟨rfl,hb⟩;have n0_:=am_ (kA zz0 hb);clear HB;have HB:=n0_;clear n0_;(try clear hb);(try clear hb2);(try clear hk);(try clear hi)))
     go_meet
     case rel=>exact⟨_,(t368),vB,H',⟨jT⟩,⟨zz0⟩⟩
    ·replace c7:=bf_ c7;subst c7;rw[if_neg ft_]at H;have H':=am_ H;clear H;go_wp2_with (first|((with_reducible refine zB (f:=136) rfl ?_);refine jG 9 Tryz.func136 #[.string a0,.string (⟨#[47]⟩:ByteArray)] (strings_HasPrefix.calls a0 (⟨#[47]⟩:ByteArray) true _ A3.out) ?_;rintro w' ⟨nd,rfl⟩)|(go_at_call 81;(with_reducible refine(xE.calls k a0 false _ A6.out).mono ?_);rintro e w' ⟨rfl,⟨nd,rfl⟩⟩))
     go_meet
     case rel=>exact⟨_,(true),vB,H',⟨jT⟩,⟨zz0⟩⟩
  ·replace c4:=bf_ c4;subst c4;rw[if_neg ft_]at H;have H':=am_ H;clear H;go_wp2_with (first|((with_reducible refine zB (f:=136) rfl ?_);refine jG 9 Tryz.func136 #[.string a0,.string (⟨#[47]⟩:ByteArray)] (strings_HasPrefix.calls a0 (⟨#[47]⟩:ByteArray) false _ A3.out) ?_;rintro w' ⟨nd,rfl⟩))
   go_meet
   case rel=>exact⟨_,(true),vB,H',⟨jT⟩,⟨zz0⟩⟩
 case rest=>
  clear HC2;(try clear c1);(try clear p2);(try clear c4);(try clear c5);(try clear c5b0);(try clear c5b1);(try clear c7);(try clear c9);obtain⟨kq,x24_1,rfl,HA,HJ1,HB⟩:=hcut
  cases kq with
  |zero=>exact absurd HA.out (by simp[vD.j0])
  |succ kj1=>
   have H:=HA.out;clear HA;simp only[vD.j0]at H
   by_cases c10:x24_1=true
   ·subst c10;rw[if_pos rfl]at H;obtain rfl:=si_ H;go_wp2
    go_ret;exact⟨zz1,zz0⟩
   ·replace c10:=bf_ c10;subst c10;rw[if_neg ft_]at H;replace H:=be_ H;obtain⟨t369,A110,H⟩:=H;(try dsimp only at H);have A11:=am_ A110;clear A110
    by_cases c12:1≤(t369.size:Int)
    ·rw[if_pos c12]at H;have c12b0:=eq_true c12;have c12b1:=dt_ c12;clear c12;replace H:=be_ H;obtain⟨t370,A130,H⟩:=H;(try dsimp only at H);have A13:=am_ A130;clear A130;have H':=am_ H;clear H;go_wp2_with (first|((with_reducible refine zB (f:=138) rfl ?_);refine jG 26 Tryz.func138 #[.string a0] (yB.calls kj1 a0 t369 _ A11.out) ?_;rintro w14 hb;replace HB:=am_ (kA zz0 hb);(try clear hb))|((with_reducible refine zB (f:=50) rfl ?_);refine vQ 28 Tryz.func50 #[.string (t369.extract 1 t369.size),.string (⟨#[47]⟩:ByteArray)] ?_;(with_reducible refine(strings_Split.calls (t369.extract 1 t369.size) (⟨#[47]⟩:ByteArray) t370 _ ?side1 A13.out).mono ?_);(case side1=>exact Gl.below HG.out zz0);rintro e w15 ⟨v371,rfl,ho0,hb⟩;refine⟨_,rfl,?_⟩;have HO372:=am_ (Kd.R_lower ho0 (zH zz0));replace HB:=am_ (kA zz0 hb);(try clear hb);(try clear ho0);obtain⟨Ao16,co16,eo16⟩:=Kd.R_slice HO372.out;subst eo16))
     go_loopg [3,31] kj1 (fun kq v3 v31 w'=> ∃(x3_2:List ByteArray) (x31_2:Int),v31= .int .i64 x31_2∧wA (vD.l0 kq x3_2 t370 t370 (t370.length:Int) x31_2=some r)∧wA (kq≤kj1)∧wA (Kd.R Kd.string 9 w' w.heap.size (fun k_=>some k_≠((.slice Ao16 t370.length co16):Value).ownBlock∧some k_≠((.slice Ao16 t370.length co16):Value).ownBlock) v3 x3_2)∧wA (Kd.R Kd.string 9 w' w.heap.size (fun k_=>some k_≠(v3:Value).ownBlock) (.slice Ao16 t370.length co16) t370)∧wA (Kd.R Kd.string 9 w' w.heap.size (fun k_=>some k_≠(v3:Value).ownBlock) (.slice Ao16 t370.length co16) t370)∧wA (Below w.heap.size w w'))
     case atStart=>exact⟨(([]:List ByteArray)),(0),vB,H',⟨Nat.le_refl _⟩,⟨zz44⟩,⟨zz115⟩,⟨zz115⟩,⟨zz0⟩⟩
     case round=>
      clear H';(try clear c1);(try clear p2);(try clear c4);(try clear c5);(try clear c5b0);(try clear c5b1);(try clear c7);(try clear c9);(try clear c10);(try clear c12);(try clear c12b0);(try clear c12b1);(try clear c13);(try clear p2);obtain⟨x3_2,x31_2,rfl,HA,HK2,HO_3,HO_4,HO_29,HB⟩:=hrel
      cases gk with
      |zero=>exact absurd HA.out (by simp[vD.l0])
      |succ k2=>
       have H:=HA.out;clear HA;simp only[vD.l0]at H
       by_cases c17:x31_2<(t370.length:Int)
       ·rw[if_pos c17]at H;have c17b0:=dt_ c17;clear c17
        by_cases c18:0≤x31_2
        ·rw[if_pos c18]at H;have c18b0:=dt_ c18;clear c18
         by_cases c19:x31_2<(t370.length:Int)
         ·rw[if_pos c19]at H;have c19b0:=dt_ c19;clear c19
          by_cases c20:(jB ByteArray.empty t370 x31_2).toList=([46]:List UInt8)
          ·rw[if_pos c20]at H;have c20b0:((jB ByteArray.empty t370 x31_2).toList==([46]:List UInt8))=true:=beq_iff_eq.mpr c20;have c20b1:((jB ByteArray.empty t370 x31_2).toList !=([46]:List UInt8))=false:=bne_eq_false_iff_eq.mpr c20;clear c20;have H':=am_ H;clear H;have p383:0≤(x31_2:Int):=od_ zz5;have q383:x31_2<(t370.length:Int):=od_ zz5;obtain⟨ad383,e383,hx383_0⟩:=Kd.at_string (Kd.R_reads' HO_29.out).2.2 x31_2 p383 q383;cases e383;replace p383:=eq_true p383;replace q383:=eq_true q383;go_wp2
           go_roundg k2
           (case measure=>have:=HJ1.out;have:=HK2.out;omega);case rel=>exact⟨(x3_2),(wrap64 (x31_2+1)),vB,H',⟨zz98⟩,⟨by(with_reducible repeat(first|apply Kd.R_alloc|apply Kd.R_drewN|apply Kd.R_drew));first|exact HO_3.out|exact Kd.R_mono HO_3.out (fun _ hk_=>eX6)⟩,⟨zz124⟩,⟨zz123⟩,⟨zz0⟩⟩
          ·rw[if_neg c20]at H;have c20b0:((jB ByteArray.empty t370 x31_2).toList==([46]:List UInt8))=false:=beq_eq_false_iff_ne.mpr c20;have c20b1:((jB ByteArray.empty t370 x31_2).toList !=([46]:List UInt8))=true:=bne_iff_ne.mpr c20
           by_cases c21:(jB ByteArray.empty t370 x31_2).toList=([46,46]:List UInt8)
           ·rw[if_pos c21]at H;have c21b0:((jB ByteArray.empty t370 x31_2).toList==([46,46]:List UInt8))=true:=beq_iff_eq.mpr c21;have c21b1:((jB ByteArray.empty t370 x31_2).toList !=([46,46]:List UInt8))=false:=bne_eq_false_iff_eq.mpr c21;clear c21;obtain⟨ji22,hji22⟩: ∃j_:Int,(mx 0 (wrap64 ((x3_2.length:Int)-1)))=j_:=⟨_,rfl⟩;replace H:(if 0≤(ji22)then(if(ji22)≤(x3_2.length:Int)then(vD.l0 k2 (x3_2.take ((ji22):Int).toNat) t370 t370 (t370.length:Int) (wrap64 (x31_2+1)))else(none))else(none))=some r:=by first|(rw[hji22]at H;exact H)|(simp only[hji22]at H ⊢;exact H)
            have hji22_:(if 0<(wrap64 ((x3_2.length:Int)-1))then(wrap64 ((x3_2.length:Int)-1))else 0)=ji22:=hji22
            by_cases c23:0≤(ji22)
            ·rw[if_pos c23]at H;have c23b0:=eq_true c23;have c23b1:=dt_ c23;clear c23
             by_cases c24:(ji22)≤(x3_2.length:Int)
             ·rw[if_pos c24]at H;have c24b0:=eq_true c24;have c24b1:=dt_ c24;clear c24;obtain⟨y384,hy384⟩: ∃y_:List ByteArray,y_=(x3_2.take ((ji22):Int).toNat):=⟨_,rfl⟩;replace H:(vD.l0 k2 y384 t370 t370 (t370.length:Int) (wrap64 (x31_2+1)))=some r:=by first|(rw[hy384];with_reducible exact H)|(have H2_:=(Option.bind_some _ _).symm.trans H;rw[hy384];with_reducible exact H2_)|(have H2_:=(Option.bind_some _ _).symm.trans H;with_reducible exact H2_)|with_reducible exact H|(rw[hy384];exact H)|exact H
              have Ny384:=am_ hy384;clear hy384;have H':=am_ H;clear H;have p383:0≤(x31_2:Int):=od_ zz5;have q383:x31_2<(t370.length:Int):=od_ zz5;obtain⟨ad383,e383,hx383_0⟩:=Kd.at_string (Kd.R_reads' HO_29.out).2.2 x31_2 p383 q383;cases e383;replace p383:=eq_true p383;replace q383:=eq_true q383;obtain⟨Ao25,co25,eo25⟩:=Kd.R_slice HO_3.out;subst eo25;have q26:((ji22):Int)≤((x3_2.length:Int):Int):=od_ zz5;obtain⟨i026,hi026,_,hsz26,_⟩:=info_parts info9;have hcut26:=cut_to (P:=Tryz.prog) 57 9 .i64 Tryz.underlying57 hi026 Ao25 x3_2.length co25 (ji22) (od_ zz5) q26 (Kd.R_reads' HO_3.out).2.1;have hr26:=Kd.R_take (m:=((ji22):Int).toNat) HO_3.out (by omega);have hy26:y384.length=((ji22):Int).toNat:=(by rw[Ny384.out,List.length_take];omega);rw[←Ny384.out]at hr26;rw[←hy26]at hr26 hcut26;clear hy26 hi026 hsz26 HO_3;have HO386:=am_ hr26;clear hr26;replace q26:=eq_true q26;go_wp2
              go_roundg k2
              (case measure=>have:=HJ1.out;have:=HK2.out;omega);case rel=>exact⟨(y384),(wrap64 (x31_2+1)),vB,H',⟨zz98⟩,⟨by(with_reducible repeat(first|apply Kd.R_alloc|apply Kd.R_drewN|apply Kd.R_drew));first|exact HO386.out|exact Kd.R_mono HO386.out (fun _ hk_=>eX6)⟩,⟨zz124⟩,⟨zz123⟩,⟨zz0⟩⟩
             ·rw[if_neg c24]at H;exact absurd H (by simp)
            ·rw[if_neg c23]at H;exact absurd H (by simp)
           ·rw[if_neg c21]at H;have c21b0:((jB ByteArray.empty t370 x31_2).toList==([46,46]:List UInt8))=false:=beq_eq_false_iff_ne.mpr c21;have c21b1:((jB ByteArray.empty t370 x31_2).toList !=([46,46]:List UInt8))=true:=bne_iff_ne.mpr c21
            by_cases c27:x3_2.length<8796093022208
            ·rw[if_pos c27]at H;have LMc27:=am_ c27;clear c27;obtain⟨y387,hy387⟩: ∃y_:List ByteArray,y_=(x3_2++ [jB ByteArray.empty t370 x31_2]):=⟨_,rfl⟩;replace H:(vD.l0 k2 y387 t370 t370 (t370.length:Int) (wrap64 (x31_2+1)))=some r:=by first|(rw[hy387];with_reducible exact H)|(have H2_:=(Option.bind_some _ _).symm.trans H;rw[hy387];with_reducible exact H2_)|(have H2_:=(Option.bind_some _ _).symm.trans H;with_reducible exact H2_)|with_reducible exact H|(rw[hy387];exact H)|exact H
             have Ny387:=am_ hy387;clear hy387;have H':=am_ H;clear H;have p383:0≤(x31_2:Int):=od_ zz5;have q383:x31_2<(t370.length:Int):=od_ zz5;obtain⟨ad383,e383,hx383_0⟩:=Kd.at_string (Kd.R_reads' HO_29.out).2.2 x31_2 p383 q383;cases e383;replace p383:=eq_true p383;replace q383:=eq_true q383;go_wp2_with (first|((with_reducible refine zO (b:= .append) (xs:= #[.tmp 36,.tmp 38]) rfl ?_);(try(refine xV (by rfl) ?_;dsimp only));at_builtin;refine Kd.R_append Kd.string (w0:=w) w.heap.size rfl (.tmp 36) (.tmp 38) 57 9 (.string ⟨#[]⟩) 16 rfl Tryz.underlying57 info9 rfl (by decide) (by omega) u3 x3_2 (jB ByteArray.empty t370 x31_2) [.string (jB ByteArray.empty t370 x31_2)] (fun k_=>some k_≠(.slice (some ad383) t370.length co16:Value).ownBlock∧some k_≠(.slice (some ad383) t370.length co16:Value).ownBlock) (fun _=>False) rfl rfl ?aP (fun _ hk=>hk.elim) ?aF ?aO ?aB ?aS ?aL ?_;(case aP=>exact rfl);(case aB=>exact zz0);(case aF=>exact(fun k_ hk=>⟨Kd.fresh' (Kd.R_lt aZ7) k_ hk,Kd.fresh' (Kd.R_lt zz67) k_ hk⟩));(case aO=>exact xX);(case aS=>exact(zH zz0));(case aL=>have:=LMc27.out;omega);intro v388 w28 ho hb hg hat;rw[←Ny387.out]at ho;replace HO_4:=am_ (Kd.R_after (ok:=(fun _=>True)) zz65 hg hat);replace HO_29:=am_ (Kd.R_after (ok:=(fun _=>True)) zz96 hg hat);replace HB:=am_ (hb);have HO389:=am_ (ho);clear HO_3;clear ho hb hg hat))
             go_roundg k2
             (case measure=>have:=HJ1.out;have:=HK2.out;omega);case rel=>exact⟨(y387),(wrap64 (x31_2+1)),vB,H',⟨zz98⟩,⟨by(with_reducible repeat(first|apply Kd.R_alloc|apply Kd.R_drewN|apply Kd.R_drew));first|exact HO389.out|exact Kd.R_mono HO389.out (fun _ hk_=>eX6)⟩,⟨zz99⟩,⟨by(with_reducible repeat(first|apply Kd.R_alloc|apply Kd.R_drewN|apply Kd.R_drew));exact Kd.R_mono HO_29.out (fun _ hk=>hk.2)⟩,⟨zz0⟩⟩
            ·rw[if_neg c27]at H;exact absurd H (by simp)
         ·rw[if_neg c19]at H;exact absurd H (by simp)
        ·rw[if_neg c18]at H;exact absurd H (by simp)
       ·rw[if_neg c17]at H;have c17b0:=df_ c17;clear c17;obtain⟨ji29,hji29⟩: ∃j_:Int,(wrap64 ((t370.length:Int)-1))=j_:=⟨_,rfl⟩;replace H:(if 0≤(ji29)then(if(ji29)<(t370.length:Int)then(if(jB ByteArray.empty t370 (ji29)).toList=([46]:List UInt8)then(if x3_2.length<8796093022208 then((strings_Join.f (x3_2++ [(⟨#[]⟩:ByteArray)]) (⟨#[47]⟩:ByteArray)).bind fun t377=>(if 1+t377.size≤9223372036854775807 then(some ((⟨#[47]⟩:ByteArray)++t377))else(none)))else(none))else(if(jB ByteArray.empty t370 (ji29)).toList=([46,46]:List UInt8)then(if x3_2.length<8796093022208 then((strings_Join.f (x3_2++ [(⟨#[]⟩:ByteArray)]) (⟨#[47]⟩:ByteArray)).bind fun t381=>(if 1+t381.size≤9223372036854775807 then(some ((⟨#[47]⟩:ByteArray)++t381))else(none)))else(none))else((strings_Join.f x3_2 (⟨#[47]⟩:ByteArray)).bind fun t382=>(if 1+t382.size≤9223372036854775807 then(some ((⟨#[47]⟩:ByteArray)++t382))else(none)))))else(none))else(none))=some r:=by first|(rw[hji29]at H;exact H)|(simp only[hji29]at H ⊢;exact H)
        have hji29w:(IntKind.i64.wrap ((t370.length:Int)-1))=ji29:=(yC _).trans hji29
        by_cases c30:0≤(ji29)
        ·rw[if_pos c30]at H;have c30b0:=dt_ c30;clear c30
         by_cases c31:(ji29)<(t370.length:Int)
         ·rw[if_pos c31]at H;have c31b0:=dt_ c31;clear c31;have HC32:=am_ H;clear H;have p373:0≤((ji29):Int):=od_ zz5;have q373:(ji29)<(t370.length:Int):=od_ zz5;obtain⟨ad373,e373,hx373_0⟩:=Kd.at_string (Kd.R_reads' HO_4.out).2.2 (ji29) p373 q373;cases e373;replace p373:=eq_true p373;replace q373:=eq_true q373
          repeat' (first|(go_big_may;(fail))|go_values|go_skip|go_big_skip|go_big_want|((first|(with_reducible refine wE rfl ?_)|(fail_if_success with_reducible refine yE ?_));go_step)|go_upon|simp only[Bool.not_true,Bool.not_false,Bool.true_and,Bool.false_and,Bool.true_or,Bool.false_or]|dsimp only)
          have H:=HC32.out;clear HC32
          by_cases c33:(jB ByteArray.empty t370 (ji29)).toList=([46]:List UInt8)
          ·rw[if_pos c33]at H;have c33b0:((jB ByteArray.empty t370 (ji29)).toList==([46]:List UInt8))=true:=beq_iff_eq.mpr c33;have c33b1:((jB ByteArray.empty t370 (ji29)).toList !=([46]:List UInt8))=false:=bne_eq_false_iff_eq.mpr c33;clear c33;(first|rw[c33b0]|(simp only[yC,qD];rw[c33b0])|rw[c33b1]|(rw[c33b2];simp only[Bool.not_true,Bool.not_false])|skip)
           by_cases c34:x3_2.length<8796093022208
           ·rw[if_pos c34]at H;have LMc34:=am_ c34;clear c34;obtain⟨y374,hy374⟩: ∃y_:List ByteArray,y_=(x3_2++ [(⟨#[]⟩:ByteArray)]):=⟨_,rfl⟩;replace H:((strings_Join.f y374 (⟨#[47]⟩:ByteArray)).bind fun t377=>(if 1+t377.size≤9223372036854775807 then(some ((⟨#[47]⟩:ByteArray)++t377))else(none)))=some r:=by first|(rw[hy374];with_reducible exact H)|(have H2_:=(Option.bind_some _ _).symm.trans H;rw[hy374];with_reducible exact H2_)|(have H2_:=(Option.bind_some _ _).symm.trans H;with_reducible exact H2_)|with_reducible exact H|(rw[hy374];exact H)|exact H
            have Ny374:=am_ hy374;clear hy374;replace H:=be_ H;obtain⟨t377,A350,H⟩:=H;(try dsimp only at H);have A35:=am_ A350;clear A350
            by_cases c36:1+t377.size≤9223372036854775807
            ·rw[if_pos c36]at H;have c36b0:=eq_true c36;have c36b1:=dt_ c36;(try have c36b2:(9223372036854775807<1+t377.size)=False:=eq_false (Nat.not_lt.2 c36));obtain rfl:=si_ H;go_wp2_with (first|((with_reducible refine zO (b:= .append) (xs:= #[.tmp 63,.tmp 64]) rfl ?_);(try(refine xV (by rfl) ?_;dsimp only));at_builtin;refine Kd.R_append Kd.string (w0:=w) w.heap.size rfl (.tmp 63) (.tmp 64) 57 9 (.string ⟨#[]⟩) 16 rfl Tryz.underlying57 info9 rfl (by decide) (by omega) u3 x3_2 (⟨#[]⟩:ByteArray) [.string (⟨#[]⟩:ByteArray)] (fun k_=>some k_≠(.slice (some ad373) t370.length co16:Value).ownBlock∧some k_≠(.slice (some ad373) t370.length co16:Value).ownBlock) (fun _=>False) rfl rfl ?aP (fun _ hk=>hk.elim) ?aF ?aO ?aB ?aS ?aL ?_;(case aP=>exact rfl);(case aB=>exact zz0);(case aF=>exact(fun k_ hk=>⟨Kd.fresh' (Kd.R_lt aZ7) k_ hk,Kd.fresh' (Kd.R_lt zz67) k_ hk⟩));(case aO=>exact xX);(case aS=>exact(zH zz0));(case aL=>have:=LMc34.out;omega);intro v375 w37 ho hb hg hat;rw[←Ny374.out]at ho;replace HO_4:=am_ (Kd.R_after (ok:=(fun _=>True)) zz65 hg hat);replace HO_29:=am_ (Kd.R_after (ok:=(fun _=>True)) zz96 hg hat);replace HB:=am_ (hb);have HO376:=am_ (ho);clear HO_3;clear ho hb hg hat;obtain⟨Ao38,co38,eo38⟩:=Kd.R_slice HO376.out;subst eo38)|((with_reducible refine zB (f:=62) rfl ?_);refine vQ 67 Tryz.func62 #[.slice Ao38 y374.length co38,.string (⟨#[47]⟩:ByteArray)] ?_;(with_reducible refine(strings_Join.calls _ _ y374 (⟨#[47]⟩:ByteArray) t377 _ ?side1 ?side2 A35.out).mono ?_);(case side1=>repeat(first|exact(Kd.R_reads' HO376.out).2.2|(with_reducible refine Kd.C_alloc ?_ _)|(with_reducible refine Kd.C_drewN ?_ _)|(with_reducible refine Kd.C_drew ?_)));(case side2=>exact(Kd.R_reads' HO376.out).2.1);rintro e w39 ⟨rfl,hb⟩;refine⟨_,rfl,?_⟩;replace HO_4:=am_ (Kd.R_below aZ7 hb);replace HO_29:=am_ (Kd.R_below zz67 hb);replace HO376:=am_ (Kd.R_below (by(with_reducible repeat(first|apply Kd.R_alloc|apply Kd.R_drewN|apply Kd.R_drew));exact HO376.out) hb);replace HB:=am_ (kA zz0 hb);(try clear hb)))
             go_ret;exact⟨zz91,zz0⟩
            ·rw[if_neg c36]at H;exact absurd H (by simp)
           ·rw[if_neg c34]at H;exact absurd H (by simp)
          ·rw[if_neg c33]at H;have c33b0:((jB ByteArray.empty t370 (ji29)).toList==([46]:List UInt8))=false:=beq_eq_false_iff_ne.mpr c33;have c33b1:((jB ByteArray.empty t370 (ji29)).toList !=([46]:List UInt8))=true:=bne_iff_ne.mpr c33;(first|rw[c33b0]|(simp only[yC,qD];rw[c33b0])|rw[c33b1]|(rw[c33b2];simp only[Bool.not_true,Bool.not_false])|skip)
           by_cases c40:(jB ByteArray.empty t370 (ji29)).toList=([46,46]:List UInt8)
           ·rw[if_pos c40]at H;have c40b0:((jB ByteArray.empty t370 (ji29)).toList==([46,46]:List UInt8))=true:=beq_iff_eq.mpr c40;have c40b1:((jB ByteArray.empty t370 (ji29)).toList !=([46,46]:List UInt8))=false:=bne_eq_false_iff_eq.mpr c40;clear c40
            by_cases c41:x3_2.length<8796093022208
            ·rw[if_pos c41]at H;have LMc41:=am_ c41;clear c41;obtain⟨y378,hy378⟩: ∃y_:List ByteArray,y_=(x3_2++ [(⟨#[]⟩:ByteArray)]):=⟨_,rfl⟩;replace H:((strings_Join.f y378 (⟨#[47]⟩:ByteArray)).bind fun t381=>(if 1+t381.size≤9223372036854775807 then(some ((⟨#[47]⟩:ByteArray)++t381))else(none)))=some r:=by first|(rw[hy378];with_reducible exact H)|(have H2_:=(Option.bind_some _ _).symm.trans H;rw[hy378];with_reducible exact H2_)|(have H2_:=(Option.bind_some _ _).symm.trans H;with_reducible exact H2_)|with_reducible exact H|(rw[hy378];exact H)|exact H
             have Ny378:=am_ hy378;clear hy378;replace H:=be_ H;obtain⟨t381,A420,H⟩:=H;(try dsimp only at H);have A42:=am_ A420;clear A420
             by_cases c43:1+t381.size≤9223372036854775807
             ·rw[if_pos c43]at H;have c43b0:=eq_true c43;have c43b1:=dt_ c43;(try have c43b2:(9223372036854775807<1+t381.size)=False:=eq_false (Nat.not_lt.2 c43));obtain rfl:=si_ H;go_wp2_with (first|((with_reducible refine zO (b:= .append) (xs:= #[.tmp 63,.tmp 64]) rfl ?_);(try(refine xV (by rfl) ?_;dsimp only));at_builtin;refine Kd.R_append Kd.string (w0:=w) w.heap.size rfl (.tmp 63) (.tmp 64) 57 9 (.string ⟨#[]⟩) 16 rfl Tryz.underlying57 info9 rfl (by decide) (by omega) u3 x3_2 (⟨#[]⟩:ByteArray) [.string (⟨#[]⟩:ByteArray)] (fun k_=>some k_≠(.slice (some ad373) t370.length co16:Value).ownBlock∧some k_≠(.slice (some ad373) t370.length co16:Value).ownBlock) (fun _=>False) rfl rfl ?aP (fun _ hk=>hk.elim) ?aF ?aO ?aB ?aS ?aL ?_;(case aP=>exact rfl);(case aB=>exact zz0);(case aF=>exact(fun k_ hk=>⟨Kd.fresh' (Kd.R_lt aZ7) k_ hk,Kd.fresh' (Kd.R_lt zz67) k_ hk⟩));(case aO=>exact xX);(case aS=>exact(zH zz0));(case aL=>have:=LMc41.out;omega);intro v379 w44 ho hb hg hat;rw[←Ny378.out]at ho;replace HO_4:=am_ (Kd.R_after (ok:=(fun _=>True)) zz65 hg hat);replace HO_29:=am_ (Kd.R_after (ok:=(fun _=>True)) zz96 hg hat);replace HB:=am_ (hb);have HO380:=am_ (ho);clear HO_3;clear ho hb hg hat;obtain⟨Ao45,co45,eo45⟩:=Kd.R_slice HO380.out;subst eo45)|((with_reducible refine zB (f:=62) rfl ?_);refine vQ 67 Tryz.func62 #[.slice Ao45 y378.length co45,.string (⟨#[47]⟩:ByteArray)] ?_;(with_reducible refine(strings_Join.calls _ _ y378 (⟨#[47]⟩:ByteArray) t381 _ ?side1 ?side2 A42.out).mono ?_);(case side1=>repeat(first|exact(Kd.R_reads' HO380.out).2.2|(with_reducible refine Kd.C_alloc ?_ _)|(with_reducible refine Kd.C_drewN ?_ _)|(with_reducible refine Kd.C_drew ?_)));(case side2=>exact(Kd.R_reads' HO380.out).2.1);rintro e w46 ⟨rfl,hb⟩;refine⟨_,rfl,?_⟩;replace HO_4:=am_ (Kd.R_below aZ7 hb);replace HO_29:=am_ (Kd.R_below zz67 hb);replace HO380:=am_ (Kd.R_below (by(with_reducible repeat(first|apply Kd.R_alloc|apply Kd.R_drewN|apply Kd.R_drew));exact HO380.out) hb);replace HB:=am_ (kA zz0 hb);(try clear hb)))
              go_ret;exact⟨zz91,zz0⟩
             ·rw[if_neg c43]at H;exact absurd H (by simp)
            ·rw[if_neg c41]at H;exact absurd H (by simp)
           ·rw[if_neg c40]at H;have c40b0:((jB ByteArray.empty t370 (ji29)).toList==([46,46]:List UInt8))=false:=beq_eq_false_iff_ne.mpr c40;have c40b1:((jB ByteArray.empty t370 (ji29)).toList !=([46,46]:List UInt8))=true:=bne_iff_ne.mpr c40;replace H:=be_ H;obtain⟨t382,A470,H⟩:=H;(try dsimp only at H);have A47:=am_ A470;clear A470
            by_cases c48:1+t382.size≤9223372036854775807
            ·rw[if_pos c48]at H;have c48b0:=eq_true c48;have c48b1:=dt_ c48;(try have c48b2:(9223372036854775807<1+t382.size)=False:=eq_false (Nat.not_lt.2 c48));obtain rfl:=si_ H;obtain⟨Ao49,co49,eo49⟩:=Kd.R_slice HO_3.out;subst eo49;go_wp2_with (first|((with_reducible refine zB (f:=62) rfl ?_);refine vQ 67 Tryz.func62 #[.slice Ao49 x3_2.length co49,.string (⟨#[47]⟩:ByteArray)] ?_;(with_reducible refine(strings_Join.calls _ _ x3_2 (⟨#[47]⟩:ByteArray) t382 _ ?side1 ?side2 A47.out).mono ?_);(case side1=>repeat(first|exact(Kd.R_reads' HO_3.out).2.2|(with_reducible refine Kd.C_alloc ?_ _)|(with_reducible refine Kd.C_drewN ?_ _)|(with_reducible refine Kd.C_drew ?_)));(case side2=>exact(Kd.R_reads' HO_3.out).2.1);rintro e w50 ⟨rfl,hb⟩;refine⟨_,rfl,?_⟩;replace HO_3:=am_ (Kd.R_below xX hb);replace HO_4:=am_ (Kd.R_below aZ7 hb);replace HO_29:=am_ (Kd.R_below zz67 hb);replace HB:=am_ (kA zz0 hb);(try clear hb)))
             go_ret;exact⟨zz91,zz0⟩
            ·rw[if_neg c48]at H;exact absurd H (by simp)
         ·rw[if_neg c31]at H;exact absurd H (by simp)
        ·rw[if_neg c30]at H;exact absurd H (by simp)
    ·rw[if_neg c12]at H;exact absurd H (by simp)
def strings_Index.f (a0 a1:ByteArray):Option (Int):=if a0.size<4294967281 then some (Lib.index a0.data.toList a1.data.toList)else none
theorem strings_Index.calls (a0 a1:ByteArray) (r:Int) (w:World) (hG:Gl w) (h:strings_Index.f a0 a1=some r):
  Calls Tryz.prog 117 #[.string a0,.string a1] w fun e w'=>e= .returned (.int .i64 r)∧Below w.heap.size w w':=by
 unfold strings_Index.f at h
 by_cases hs:a0.size<4294967281
 ·rw[if_pos hs]at h;obtain rfl:=si_ h;obtain⟨m,hm⟩:=hG.maxLen;refine(Tryz.strings_Index a0 a1 m w hs hm).mono ?_;rintro e w' ⟨he,hw⟩;subst hw;exact⟨he,Below.refl _ _⟩
 ·rw[if_neg hs]at h;cases h
def strings_Contains.f (a0 a1:ByteArray):Option (Bool):=(strings_Index.f a0 a1).bind fun t390=>(some (decide (t390≥0)))
theorem strings_Contains.calls (a0 a1:ByteArray) (r:Bool) (w:World) (hG:Gl w) (h:strings_Contains.f a0 a1=some r):
  Calls Tryz.prog 100 #[.string a0,.string a1] w fun e w'=>e= .returned (.bool r)∧Below w.heap.size w w':=by
 have HG:=am_ hG;clear hG;have HB:=am_ (Below.refl w.heap.size w);have H:((strings_Index.f a0 a1).bind fun t390=>(some (decide (t390≥0))))=some r:=h;clear h;replace H:=be_ H;obtain⟨t390,A30,H⟩:=H;(try dsimp only at H);have A3:=am_ A30;clear A30;obtain rfl:=si_ H;go_enter Tryz.func100,Tryz.ntmps100
 go_wp2_with (first|((with_reducible refine zB (f:=117) rfl ?_);refine vQ 7 Tryz.func117 #[.string a0,.string a1] ?_;(with_reducible refine(strings_Index.calls a0 a1 t390 _ ?side1 A3.out).mono ?_);(case side1=>exact Gl.below HG.out zz0);rintro e w4 ⟨rfl,hb⟩;refine⟨_,rfl,?_⟩;replace HB:=am_ (kA zz0 hb);(try clear hb)))
 go_ret;exact⟨zz1,zz0⟩
def xR.f (a0_0:ByteArray) (a0_1:Int) (a0_2 a0_3:ByteArray) (a0_4:Bool):Option (ByteArray):=if a0_1=80 then(some (⟨#[]⟩:ByteArray))else((strconv_Itoa.f a0_1).bind fun t392=>(if 1+t392.size≤9223372036854775807 then(some ((⟨#[58]⟩:ByteArray)++t392))else(none)))
theorem xR.calls (a0_0:ByteArray) (a0_1:Int) (a0_2 a0_3:ByteArray) (a0_4:Bool) (r:ByteArray) (w:World) (hG:Gl w) (h:xR.f a0_0 a0_1 a0_2 a0_3 a0_4=some r):
  Calls Tryz.prog 102 #[.agg #[.string a0_0,.int .i64 a0_1,.string a0_2,.string a0_3,.bool a0_4]] w fun e w'=>e= .returned (.string r)∧Below w.heap.size w w':=by
 have hu48:=Tryz.underlying48;have HG:=am_ hG;clear hG;have HB:=am_ (Below.refl w.heap.size w);have H:(if a0_1=80 then(some (⟨#[]⟩:ByteArray))else((strconv_Itoa.f a0_1).bind fun t392=>(if 1+t392.size≤9223372036854775807 then(some ((⟨#[58]⟩:ByteArray)++t392))else(none))))=some r:=h;clear h;have HC2:=am_ H;clear H;go_enter Tryz.func102,Tryz.ntmps102
 go_upto_if 5 with(first|((with_reducible refine xF (N:=1) rfl ?_);refine jN (N:=1) (cs:= #[.string a0_0,.int .i64 a0_1,.string a0_2,.string a0_3,.bool a0_4]) (t:=48) ?_;intro gb391 hg w3 hbox hb;have BK391:=am_ (hbox);have GE391:=wQ (w:=w) hg zz0;replace HB:=am_ (kA zz0 hb);clear hb hbox hg;obtain⟨_,_,_,_,_,_,_,_,_,_⟩:=wK BK391.out))
 (try simp only[Act.put,List.setIfInBounds_toArray,List.set_cons_zero,List.set_cons_succ]);have H:=HC2.out;clear HC2
 by_cases c5:a0_1=80
 ·rw[if_pos c5]at H;have c5b0:(a0_1==80)=true:=beq_iff_eq.mpr c5;have c5b1:(a0_1 !=80)=false:=bne_eq_false_iff_eq.mpr c5;clear c5;(first|rw[c5b0]|(simp only[yC,qD];rw[c5b0])|rw[c5b1]|(rw[c5b2];simp only[Bool.not_true,Bool.not_false])|skip);obtain rfl:=si_ H;go_wp2
  go_ret;exact⟨zz1,zz72⟩
 ·rw[if_neg c5]at H;have c5b0:(a0_1==80)=false:=beq_eq_false_iff_ne.mpr c5;have c5b1:(a0_1 !=80)=true:=bne_iff_ne.mpr c5;(first|rw[c5b0]|(simp only[yC,qD];rw[c5b0])|rw[c5b1]|(rw[c5b2];simp only[Bool.not_true,Bool.not_false])|skip);replace H:=be_ H;obtain⟨t392,A60,H⟩:=H;(try dsimp only at H);have A6:=am_ A60;clear A60
  by_cases c7:1+t392.size≤9223372036854775807
  ·rw[if_pos c7]at H;have c7b0:=eq_true c7;have c7b1:=dt_ c7;(try have c7b2:(9223372036854775807<1+t392.size)=False:=eq_false (Nat.not_lt.2 c7));obtain rfl:=si_ H;obtain⟨_,_,_,_,_,_,_,_,_,_⟩:=wK BK391.out;go_wp2_with (first|((with_reducible refine zB (f:=72) rfl ?_);refine vQ 8 Tryz.func72 #[.int .i64 a0_1] ?_;(with_reducible refine(strconv_Itoa.calls a0_1 t392 _ ?side1 A6.out).mono ?_);(case side1=>exact Gl.below HG.out zz72);rintro e w9 ⟨rfl,hb⟩;refine⟨_,rfl,?_⟩;replace BK391:=am_ (qB (by(with_reducible repeat(first|refine zA ?_ _|refine vA ?_|refine jA ?_ _));exact BK391.out) hb);replace HB:=am_ (kA zz72 hb);(try clear hb)))
   go_ret;exact⟨zz1,zz72⟩
  ·rw[if_neg c7]at H;exact absurd H (by simp)
def qR.f (a0_0:ByteArray) (a0_1:Int) (a0_2 a0_3:ByteArray) (a0_4:Bool):Option (ByteArray):=if a0_4=true then(if a0_2.size+1≤9223372036854775807 then(if(a0_2++(⟨#[63]⟩:ByteArray)).size+a0_3.size≤9223372036854775807 then(some ((a0_2++(⟨#[63]⟩:ByteArray))++a0_3))else(none))else(none))else(some a0_2)
theorem qR.calls (a0_0:ByteArray) (a0_1:Int) (a0_2 a0_3:ByteArray) (a0_4:Bool) (r:ByteArray) (w:World) (h:qR.f a0_0 a0_1 a0_2 a0_3 a0_4=some r):
  Calls Tryz.prog 103 #[.agg #[.string a0_0,.int .i64 a0_1,.string a0_2,.string a0_3,.bool a0_4]] w fun e w'=>e= .returned (.string r)∧Below w.heap.size w w':=by
 have hu48:=Tryz.underlying48;have HB:=am_ (Below.refl w.heap.size w);have H:(if a0_4=true then(if a0_2.size+1≤9223372036854775807 then(if(a0_2++(⟨#[63]⟩:ByteArray)).size+a0_3.size≤9223372036854775807 then(some ((a0_2++(⟨#[63]⟩:ByteArray))++a0_3))else(none))else(none))else(some a0_2))=some r:=h;clear h;have HC2:=am_ H;clear H;go_enter Tryz.func103,Tryz.ntmps103
 go_upto_if 4 with(first|((with_reducible refine xF (N:=1) rfl ?_);refine jN (N:=1) (cs:= #[.string a0_0,.int .i64 a0_1,.string a0_2,.string a0_3,.bool a0_4]) (t:=48) ?_;intro gb393 hg w3 hbox hb;have BK393:=am_ (hbox);have GE393:=wQ (w:=w) hg zz0;replace HB:=am_ (kA zz0 hb);clear hb hbox hg;obtain⟨_,_,_,_,_,_,_,_,_,_⟩:=wK BK393.out))
 (try simp only[Act.put,List.setIfInBounds_toArray,List.set_cons_zero,List.set_cons_succ]);have H:=HC2.out;clear HC2
 by_cases c5:a0_4=true
 ·subst c5;rw[if_pos rfl]at H
  by_cases c6:a0_2.size+1≤9223372036854775807
  ·rw[if_pos c6]at H;have c6b0:=eq_true c6;have c6b1:=dt_ c6;try have c6b2:(9223372036854775807<a0_2.size+1)=False:=eq_false (Nat.not_lt.2 c6)
   by_cases c7:(a0_2++(⟨#[63]⟩:ByteArray)).size+a0_3.size≤9223372036854775807
   ·rw[if_pos c7]at H;have c7b0:=eq_true c7;have c7b1:=dt_ c7;(try have c7b2:(9223372036854775807<(a0_2++(⟨#[63]⟩:ByteArray)).size+a0_3.size)=False:=eq_false (Nat.not_lt.2 c7));(try have c7z:=c7b2;simp only[ByteArray.size_append,show(⟨#[63]⟩:ByteArray).size=1 from rfl]at c7z;have c7b3:=c7z);obtain rfl:=si_ H;obtain⟨_,_,_,_,_,_,_,_,_,_⟩:=wK BK393.out;go_wp2
    go_ret;exact⟨zz1,zz112⟩
   ·rw[if_neg c7]at H;exact absurd H (by simp)
  ·rw[if_neg c6]at H;exact absurd H (by simp)
 ·replace c5:=bf_ c5;subst c5;rw[if_neg ft_]at H;obtain rfl:=si_ H;obtain⟨_,_,_,_,_,_,_,_,_,_⟩:=wK BK393.out;go_wp2
  go_ret;exact⟨zz1,zz112⟩
end Go.Proofs.YteojcbbifacpnaaGreatDoor.GFnExactReadLine
