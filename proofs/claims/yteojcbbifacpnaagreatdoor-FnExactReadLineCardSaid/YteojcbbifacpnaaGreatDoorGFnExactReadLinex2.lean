-- Printed by gen.py and its programs for this claim.
import Derived.Test.YteojcbbifacpnaaGreatDoorGFnExactReadLinex0
import Derived.Test.YteojcbbifacpnaaGreatDoorGFnExactReadLinex1
import Derived.Test.YteojcbbifacpnaaGreatDoorZFnExactReadLine
namespace Go.Proofs.YteojcbbifacpnaaGreatDoor.GFnExactReadLine
open Go.RowKit Go.Proofs.YteojcbbifacpnaaGreatDoorW.PrintWords Go.Proofs.YteojcbbifacpnaaGreatDoorW.PrintLast Go.Proofs.YteojcbbifacpnaaGreatDoorW.PrintMore Go.Proofs.YteojcbbifacpnaaGreatDoorW.Zs
set_option maxHeartbeats 40000000
set_option maxRecDepth 100000
attribute [local go_sem] zL qL xN zN qK xK xL jL
set_option linter.unusedVariables false
set_option linter.unusedSimpArgs false
def qG.l0:Nat→ByteArray→Int→List ByteArray→Int→Int→Option (List ByteArray)
 |0,_,_,_,_,_=>none
 |k+1,x0,x1,x5,x6,x7=>if x7≤(x0.size:Int)then(if x7=(x0.size:Int)then(if 0≤x6 then(if x6≤x7 then(if x5.length<8796093022208 then(qG.l0 k x0 x1 (x5++ [x0.extract (x6:Int).toNat (x7:Int).toNat]) (wrap64 (x7+1)) (wrap64 (x7+1)))else(none))else(none))else(none))else(if 0≤x7 then(if x7<(x0.size:Int)then(if(bt x0 x7)=x1 then(if 0≤x6 then(if x6≤x7 then(if x5.length<8796093022208 then(qG.l0 k x0 x1 (x5++ [x0.extract (x6:Int).toNat (x7:Int).toNat]) (wrap64 (x7+1)) (wrap64 (x7+1)))else(none))else(none))else(none))else(qG.l0 k x0 x1 x5 x6 (wrap64 (x7+1))))else(none))else(none)))else(some x5)
def qG.f (k:Nat) (a0:ByteArray) (a1:Int):Option (List ByteArray):=qG.l0 k a0 a1 ([]:List ByteArray) 0 0
theorem qG.calls (k:Nat) (a0:ByteArray) (a1:Int) (r:List ByteArray) (w:World) (h:qG.f k a0 a1=some r):
  Calls Tryz.prog 47 #[.string a0,.int .u8 a1] w fun e w'=> ∃v0_:Value,e= .returned (v0_)∧Kd.R Kd.string 9 w' w.heap.size (fun _=>True) v0_ r∧Below w.heap.size w w':=by
 have HB:=am_ (Below.refl w.heap.size w);have H:(qG.l0 k a0 a1 ([]:List ByteArray) 0 0)=some r:=h;clear h;have H':=am_ H;clear H;go_enter Tryz.func47,Tryz.ntmps47
 go_wp2
 go_loopg [5,6,7] k (fun kq v5 v6 v7 w'=> ∃(x5_1:List ByteArray) (x6_1 x7_1:Int),v6= .int .i64 x6_1∧v7= .int .i64 x7_1∧wA (qG.l0 kq a0 a1 x5_1 x6_1 x7_1=some r)∧wA (kq≤k)∧wA (Kd.R Kd.string 9 w' w.heap.size (fun _=>True) v5 x5_1)∧wA (Below w.heap.size w w'))
 case atStart=>exact⟨(([]:List ByteArray)),(0),(0),vB,vB,H',⟨Nat.le_refl _⟩,⟨zz44⟩,⟨zz0⟩⟩
 case round=>
  clear H';(try clear p2);obtain⟨x5_1,x6_1,x7_1,rfl,rfl,HA,HK1,HO_5,HB⟩:=hrel
  cases gk with
  |zero=>exact absurd HA.out (by simp[qG.l0])
  |succ k1=>
   have H:=HA.out;clear HA;simp only[qG.l0]at H
   by_cases c3:x7_1≤(a0.size:Int)
   ·rw[if_pos c3]at H;have c3b0:=dt_ c3;clear c3
    by_cases c4:x7_1=(a0.size:Int)
    ·rw[if_pos c4]at H;have c4b0:(x7_1==(a0.size:Int))=true:=beq_iff_eq.mpr c4;have c4b1:(x7_1 !=(a0.size:Int))=false:=bne_eq_false_iff_eq.mpr c4;clear c4
     by_cases c5:0≤x6_1
     ·rw[if_pos c5]at H;have c5b0:=eq_true c5;have c5b1:=dt_ c5;clear c5
      by_cases c6:x6_1≤x7_1
      ·rw[if_pos c6]at H;have c6b0:=eq_true c6;have c6b1:=dt_ c6;clear c6;have c7b0:=eq_true (od_ zz5:x7_1≤(a0.size:Int))
       by_cases c8:x5_1.length<8796093022208
       ·rw[if_pos c8]at H;have LMc8:=am_ c8;clear c8;obtain⟨y110,hy110⟩: ∃y_:List ByteArray,y_=(x5_1++ [a0.extract (x6_1:Int).toNat (x7_1:Int).toNat]):=⟨_,rfl⟩;replace H:(qG.l0 k1 a0 a1 y110 (wrap64 (x7_1+1)) (wrap64 (x7_1+1)))=some r:=by first|(rw[hy110];with_reducible exact H)|(have H2_:=(Option.bind_some _ _).symm.trans H;rw[hy110];with_reducible exact H2_)|(have H2_:=(Option.bind_some _ _).symm.trans H;with_reducible exact H2_)|with_reducible exact H|(rw[hy110];exact H)|exact H
        have Ny110:=am_ hy110;clear hy110;have H':=am_ H;clear H;go_wp2_with (first|((with_reducible refine zO (b:= .append) (xs:= #[.tmp 25,.tmp 30]) rfl ?_);at_builtin;refine Kd.R_append Kd.string (w0:=w) w.heap.size rfl (.tmp 25) (.tmp 30) 57 9 (.string ⟨#[]⟩) 16 rfl Tryz.underlying57 info9 rfl (by decide) (by omega) u5 x5_1 (a0.extract (x6_1:Int).toNat (x7_1:Int).toNat) [.string (a0.extract (x6_1:Int).toNat (x7_1:Int).toNat)] (fun _=>True) (fun _=>False) rfl rfl ?aP (fun _ hk=>hk.elim) ?aF ?aO ?aB ?aS ?aL ?_;(case aP=>exact rfl);(case aB=>exact zz0);(case aF=>exact(fun _ _=>trivial));(case aO=>exact zz68);(case aS=>exact(zH zz0));(case aL=>have:=LMc8.out;omega);intro v111 w9 ho hb hg hat;rw[←Ny110.out]at ho;replace HB:=am_ (hb);have HO112:=am_ (ho);clear HO_5;clear ho hb hg hat))
        go_roundg k1
        (case measure=>have:=HK1.out;omega);case rel=>exact⟨(y110),(wrap64 (x7_1+1)),(wrap64 (x7_1+1)),vB,vB,H',⟨aJ5⟩,⟨by(with_reducible repeat(first|apply Kd.R_alloc|apply Kd.R_drewN|apply Kd.R_drew));exact HO112.out⟩,⟨zz0⟩⟩
       ·rw[if_neg c8]at H;exact absurd H (by simp)
      ·rw[if_neg c6]at H;exact absurd H (by simp)
     ·rw[if_neg c5]at H;exact absurd H (by simp)
    ·rw[if_neg c4]at H;have c4b0:(x7_1==(a0.size:Int))=false:=beq_eq_false_iff_ne.mpr c4;have c4b1:(x7_1 !=(a0.size:Int))=true:=bne_iff_ne.mpr c4
     by_cases c10:0≤x7_1
     ·rw[if_pos c10]at H;have c10b0:=dt_ c10;clear c10
      by_cases c11:x7_1<(a0.size:Int)
      ·rw[if_pos c11]at H;have c11b0:=dt_ c11;clear c11
       by_cases c13:(bt a0 x7_1)=a1
       ·rw[if_pos c13]at H;have c13b0:((bt a0 x7_1)==a1)=true:=beq_iff_eq.mpr c13;have c13b1:((bt a0 x7_1)!=a1)=false:=bne_eq_false_iff_eq.mpr c13;clear c13
        by_cases c14:0≤x6_1
        ·rw[if_pos c14]at H;have c14b0:=eq_true c14;have c14b1:=dt_ c14;clear c14
         by_cases c15:x6_1≤x7_1
         ·rw[if_pos c15]at H;have c15b0:=eq_true c15;have c15b1:=dt_ c15;clear c15;have c16b0:=eq_true (od_ zz5:x7_1≤(a0.size:Int))
          by_cases c17:x5_1.length<8796093022208
          ·rw[if_pos c17]at H;have LMc17:=am_ c17;clear c17;obtain⟨y113,hy113⟩: ∃y_:List ByteArray,y_=(x5_1++ [a0.extract (x6_1:Int).toNat (x7_1:Int).toNat]):=⟨_,rfl⟩;replace H:(qG.l0 k1 a0 a1 y113 (wrap64 (x7_1+1)) (wrap64 (x7_1+1)))=some r:=by first|(rw[hy113];with_reducible exact H)|(have H2_:=(Option.bind_some _ _).symm.trans H;rw[hy113];with_reducible exact H2_)|(have H2_:=(Option.bind_some _ _).symm.trans H;with_reducible exact H2_)|with_reducible exact H|(rw[hy113];exact H)|exact H
           have Ny113:=am_ hy113;clear hy113;have H':=am_ H;clear H;have p12:0≤(x7_1:Int):=od_ zz5;have q12:x7_1<(a0.size:Int):=od_ zz5;have hx12:=wP a0 x7_1;replace p12:=eq_true p12;replace q12:=eq_true q12;go_wp2_with (first|((with_reducible refine zO (b:= .append) (xs:= #[.tmp 25,.tmp 30]) rfl ?_);at_builtin;refine Kd.R_append Kd.string (w0:=w) w.heap.size rfl (.tmp 25) (.tmp 30) 57 9 (.string ⟨#[]⟩) 16 rfl Tryz.underlying57 info9 rfl (by decide) (by omega) u5 x5_1 (a0.extract (x6_1:Int).toNat (x7_1:Int).toNat) [.string (a0.extract (x6_1:Int).toNat (x7_1:Int).toNat)] (fun _=>True) (fun _=>False) rfl rfl ?aP (fun _ hk=>hk.elim) ?aF ?aO ?aB ?aS ?aL ?_;(case aP=>exact rfl);(case aB=>exact zz0);(case aF=>exact(fun _ _=>trivial));(case aO=>exact zz68);(case aS=>exact(zH zz0));(case aL=>have:=LMc17.out;omega);intro v114 w18 ho hb hg hat;rw[←Ny113.out]at ho;replace HB:=am_ (hb);have HO115:=am_ (ho);clear HO_5;clear ho hb hg hat))
           go_roundg k1
           (case measure=>have:=HK1.out;omega);case rel=>exact⟨(y113),(wrap64 (x7_1+1)),(wrap64 (x7_1+1)),vB,vB,H',⟨aJ5⟩,⟨by(with_reducible repeat(first|apply Kd.R_alloc|apply Kd.R_drewN|apply Kd.R_drew));exact HO115.out⟩,⟨zz0⟩⟩
          ·rw[if_neg c17]at H;exact absurd H (by simp)
         ·rw[if_neg c15]at H;exact absurd H (by simp)
        ·rw[if_neg c14]at H;exact absurd H (by simp)
       ·rw[if_neg c13]at H;have c13b0:((bt a0 x7_1)==a1)=false:=beq_eq_false_iff_ne.mpr c13;have c13b1:((bt a0 x7_1)!=a1)=true:=bne_iff_ne.mpr c13;have H':=am_ H;clear H;have p12:0≤(x7_1:Int):=od_ zz5;have q12:x7_1<(a0.size:Int):=od_ zz5;have hx12:=wP a0 x7_1;replace p12:=eq_true p12;replace q12:=eq_true q12;go_wp2
        go_roundg k1
        (case measure=>have:=HK1.out;omega);case rel=>exact⟨(x5_1),(x6_1),(wrap64 (x7_1+1)),vB,vB,H',⟨aJ5⟩,⟨zz68⟩,⟨zz0⟩⟩
      ·rw[if_neg c11]at H;exact absurd H (by simp)
     ·rw[if_neg c10]at H;exact absurd H (by simp)
   ·rw[if_neg c3]at H;have c3b0:=df_ c3;clear c3;obtain rfl:=si_ H;go_wp2
    go_ret;exact⟨_,zz1,zz68,zz0⟩
def xJ.l0:Nat→ByteArray→List ByteArray→ByteArray→Int→Option (ByteArray)
 |0,_,_,_,_=>none
 |k+1,x2,x7,x8,x9=>if x9≥0 then(if x8.toList=([]:List UInt8)then(if 0≤x9 then(if x9<(x7.length:Int)then(if x8.size+(jB ByteArray.empty x7 x9).size≤9223372036854775807 then(xJ.l0 k x2 x7 (x8++(jB ByteArray.empty x7 x9)) (wrap64 (x9-1)))else(none))else(none))else(none))else(if x8.size+x2.size≤9223372036854775807 then(if 0≤x9 then(if x9<(x7.length:Int)then(if(x8++x2).size+(jB ByteArray.empty x7 x9).size≤9223372036854775807 then(xJ.l0 k x2 x7 ((x8++x2)++(jB ByteArray.empty x7 x9)) (wrap64 (x9-1)))else(none))else(none))else(none))else(none)))else(some x8)
def xJ.f (k:Nat) (a0:ByteArray) (a1:Int) (a2:ByteArray):Option (ByteArray):=(qG.f k a0 a1).bind fun t116=>(xJ.l0 k a2 t116 (⟨#[]⟩:ByteArray) (wrap64 ((t116.length:Int)-1)))
theorem xJ.calls (k:Nat) (a0:ByteArray) (a1:Int) (a2 r:ByteArray) (w:World) (h:xJ.f k a0 a1 a2=some r):
  Calls Tryz.prog 56 #[.string a0,.int .u8 a1,.string a2] w fun e w'=>e= .returned (.string r)∧Below w.heap.size w w':=by
 have HB:=am_ (Below.refl w.heap.size w);have H:((qG.f k a0 a1).bind fun t116=>(xJ.l0 k a2 t116 (⟨#[]⟩:ByteArray) (wrap64 ((t116.length:Int)-1))))=some r:=h;clear h;replace H:=be_ H;obtain⟨t116,A40,H⟩:=H;(try dsimp only at H);have A4:=am_ A40;clear A40;have H':=am_ H;clear H;go_enter Tryz.func56,Tryz.ntmps56
 go_wp2_with (first|((with_reducible refine zB (f:=47) rfl ?_);refine vQ 12 Tryz.func47 #[.string a0,.int .u8 a1] ?_;(with_reducible refine(qG.calls k a0 a1 t116 _ A4.out).mono ?_);rintro e w5 ⟨v117,rfl,ho0,hb⟩;refine⟨_,rfl,?_⟩;have HO118:=am_ (Kd.R_lower ho0 (zH zz0));replace HB:=am_ (kA zz0 hb);(try clear hb);(try clear ho0);obtain⟨Ao6,co6,eo6⟩:=Kd.R_slice HO118.out;subst eo6))
 go_loopg [8,9] k (fun kq v8 v9 w'=> ∃(x8_1:ByteArray) (x9_1:Int),v8= .string x8_1∧v9= .int .i64 x9_1∧wA (xJ.l0 kq a2 t116 x8_1 x9_1=some r)∧wA (kq≤k)∧wA (Kd.R Kd.string 9 w' w.heap.size (fun _=>True) (.slice Ao6 t116.length co6) t116)∧wA (Below w.heap.size w w'))
 case atStart=>exact⟨((⟨#[]⟩:ByteArray)),(wrap64 ((t116.length:Int)-1)),vB,vB,H',⟨Nat.le_refl _⟩,⟨by(with_reducible repeat(first|apply Kd.R_alloc|apply Kd.R_drewN|apply Kd.R_drew));exact HO118.out⟩,⟨zz0⟩⟩
 case round=>
  clear H';(try clear p2);(try clear c4);(try clear c5);(try clear p6);obtain⟨x8_1,x9_1,rfl,rfl,HA,HK1,HO_7,HB⟩:=hrel
  cases gk with
  |zero=>exact absurd HA.out (by simp[xJ.l0])
  |succ k1=>
   have H:=HA.out;clear HA;simp only[xJ.l0]at H
   by_cases c7:x9_1≥0
   ·rw[if_pos c7]at H;have c7b0:decide (0≤x9_1)=true:=dt_ c7;clear c7
    by_cases c8:x8_1.toList=([]:List UInt8)
    ·rw[if_pos c8]at H;have c8b0:(x8_1.toList==([]:List UInt8))=true:=beq_iff_eq.mpr c8;have c8e:x8_1.toList.isEmpty=true:=by have hz_:=beq_iff_eq.1 c8b0;rw[hz_];rfl
     (try rw[c8e]);have c8b1:(x8_1.toList !=([]:List UInt8))=false:=bne_eq_false_iff_eq.mpr c8;clear c8
     by_cases c9:0≤x9_1
     ·rw[if_pos c9]at H;have c9b0:=dt_ c9;clear c9
      by_cases c10:x9_1<(t116.length:Int)
      ·rw[if_pos c10]at H;have c10b0:=dt_ c10;clear c10
       by_cases c11:x8_1.size+(jB ByteArray.empty t116 x9_1).size≤9223372036854775807
       ·rw[if_pos c11]at H;have c11b0:=eq_true c11;have c11b1:=dt_ c11;(try have c11b2:(9223372036854775807<x8_1.size+(jB ByteArray.empty t116 x9_1).size)=False:=eq_false (Nat.not_lt.2 c11));have H':=am_ H;clear H;have p119:0≤(x9_1:Int):=od_ zz5;have q119:x9_1<(t116.length:Int):=od_ zz5;obtain⟨ad119,e119,hx119_0⟩:=Kd.at_string (Kd.R_reads' HO_7.out).2.2 x9_1 p119 q119;cases e119;replace p119:=eq_true p119;replace q119:=eq_true q119;go_wp2
        go_roundg k1
        (case measure=>have:=HK1.out;omega);case rel=>exact⟨(x8_1++(jB ByteArray.empty t116 x9_1)),(wrap64 (x9_1-1)),vB,vB,H',⟨aJ5⟩,⟨by(with_reducible repeat(first|apply Kd.R_alloc|apply Kd.R_drewN|apply Kd.R_drew));exact HO_7.out⟩,⟨zz0⟩⟩
       ·rw[if_neg c11]at H;exact absurd H (by simp)
      ·rw[if_neg c10]at H;exact absurd H (by simp)
     ·rw[if_neg c9]at H;exact absurd H (by simp)
    ·rw[if_neg c8]at H;have c8b0:(x8_1.toList==([]:List UInt8))=false:=beq_eq_false_iff_ne.mpr c8;have c8e:x8_1.toList.isEmpty=false:=by cases hz_:x8_1.toList with|nil=>(rw[hz_]at c8b0;exact absurd c8b0 (by decide))|cons _ _=>rfl
     (try rw[c8e]);have c8b1:(x8_1.toList !=([]:List UInt8))=true:=bne_iff_ne.mpr c8
     by_cases c12:x8_1.size+a2.size≤9223372036854775807
     ·rw[if_pos c12]at H;have c12b0:=eq_true c12;have c12b1:=dt_ c12;try have c12b2:(9223372036854775807<x8_1.size+a2.size)=False:=eq_false (Nat.not_lt.2 c12)
      by_cases c13:0≤x9_1
      ·rw[if_pos c13]at H;have c13b0:=dt_ c13;clear c13
       by_cases c14:x9_1<(t116.length:Int)
       ·rw[if_pos c14]at H;have c14b0:=dt_ c14;clear c14
        by_cases c15:(x8_1++a2).size+(jB ByteArray.empty t116 x9_1).size≤9223372036854775807
        ·rw[if_pos c15]at H;have c15b0:=eq_true c15;have c15b1:=dt_ c15;(try have c15b2:(9223372036854775807<(x8_1++a2).size+(jB ByteArray.empty t116 x9_1).size)=False:=eq_false (Nat.not_lt.2 c15));(try have c15z:=c15b2;simp only[ByteArray.size_append]at c15z;have c15b3:=c15z);have H':=am_ H;clear H;have p120:0≤(x9_1:Int):=od_ zz5;have q120:x9_1<(t116.length:Int):=od_ zz5;obtain⟨ad120,e120,hx120_0⟩:=Kd.at_string (Kd.R_reads' HO_7.out).2.2 x9_1 p120 q120;cases e120;replace p120:=eq_true p120;replace q120:=eq_true q120;go_wp2
         go_roundg k1
         (case measure=>have:=HK1.out;omega);case rel=>exact⟨((x8_1++a2)++(jB ByteArray.empty t116 x9_1)),(wrap64 (x9_1-1)),vB,vB,H',⟨aJ5⟩,⟨by(with_reducible repeat(first|apply Kd.R_alloc|apply Kd.R_drewN|apply Kd.R_drew));exact HO_7.out⟩,⟨zz0⟩⟩
        ·rw[if_neg c15]at H;exact absurd H (by simp)
       ·rw[if_neg c14]at H;exact absurd H (by simp)
      ·rw[if_neg c13]at H;exact absurd H (by simp)
     ·rw[if_neg c12]at H;exact absurd H (by simp)
   ·rw[if_neg c7]at H;have c7b0:decide (0≤x9_1)=false:=df_ c7;clear c7;obtain rfl:=si_ H;go_wp2
    go_ret;exact⟨zz1,zz0⟩
mutual
def kD.j0:Nat→ByteArray→Bool→Option (Bool)
 |0,_,_=>none
 |k+1,x0,x14=>if x14=true then(some false)else((qG.f k x0 46).bind fun t121=>(kD.l0 k t121 0))
def kD.l0:Nat→List ByteArray→Int→Option (Bool)
 |0,_,_=>none
 |k+1,x3,x4=>if x4<(x3.length:Int)then(if 0≤x4 then(if(jB ByteArray.empty x3 x4).toList=([]:List UInt8)then(some false)else(kD.l1 k x3 x4 0))else(none))else(some true)
def kD.l1:Nat→List ByteArray→Int→Int→Option (Bool)
 |0,_,_,_=>none
 |k+1,x3,x4,x5=>if 0≤x4 then(if x4<(x3.length:Int)then(if x5<((jB ByteArray.empty x3 x4).size:Int)then(if 0≤x5 then(if(bt (jB ByteArray.empty x3 x4) x5)≥97 then(if((bt (jB ByteArray.empty x3 x4) x5)≤122)then(kD.l1 k x3 x4 (wrap64 (x5+1)))else((jI.f (bt (jB ByteArray.empty x3 x4) x5)).bind fun t127=>(if t127=true then(kD.l1 k x3 x4 (wrap64 (x5+1)))else(if(bt (jB ByteArray.empty x3 x4) x5)=45 then(kD.l1 k x3 x4 (wrap64 (x5+1)))else(some false)))))else((jI.f (bt (jB ByteArray.empty x3 x4) x5)).bind fun t128=>(if t128=true then(kD.l1 k x3 x4 (wrap64 (x5+1)))else(if(bt (jB ByteArray.empty x3 x4) x5)=45 then(kD.l1 k x3 x4 (wrap64 (x5+1)))else(some false)))))else(none))else(kD.l0 k x3 (wrap64 (x4+1))))else(none))else(none)
end
def kD.f (k:Nat) (a0:ByteArray):Option (Bool):=if(a0.size:Int)=0 then(kD.j0 k a0 true)else(kD.j0 k a0 (decide ((a0.size:Int)>60)))
theorem kD.calls (k:Nat) (a0:ByteArray) (r:Bool) (w:World) (h:kD.f k a0=some r):
  Calls Tryz.prog 124 #[.string a0] w fun e w'=>e= .returned (.bool r)∧Below w.heap.size w w':=by
 have HB:=am_ (Below.refl w.heap.size w);have H:(if(a0.size:Int)=0 then(kD.j0 k a0 true)else(kD.j0 k a0 (decide ((a0.size:Int)>60))))=some r:=h;clear h;have HC2:=am_ H;clear H;go_enter Tryz.func124,Tryz.ntmps124
 go_upto_region 1 with(fail)
 go_cut [14] (fun v14 wc=> ∃(kq:Nat) (x14_1:Bool),v14= .bool x14_1∧wA (kD.j0 kq a0 x14_1=some r)∧wA (kq≤k)∧wA (Below w.heap.size w wc))
 case first=>
  have H:=HC2.out;clear HC2
  by_cases c3:(a0.size:Int)=0
  ·rw[if_pos c3]at H;have c3b0:((a0.size:Int)==0)=true:=beq_iff_eq.mpr c3;have c3b1:((a0.size:Int)!=0)=false:=bne_eq_false_iff_eq.mpr c3;clear c3;(first|rw[c3b0]|(simp only[yC,qD];rw[c3b0])|rw[c3b1]|(rw[c3b2];simp only[Bool.not_true,Bool.not_false])|skip);have H':=am_ H;clear H;go_wp2
   go_meet
   case rel=>exact⟨_,(true),vB,H',⟨jT⟩,⟨zz0⟩⟩
  ·rw[if_neg c3]at H;have c3b0:((a0.size:Int)==0)=false:=beq_eq_false_iff_ne.mpr c3;have c3b1:((a0.size:Int)!=0)=true:=bne_iff_ne.mpr c3;(first|rw[c3b0]|(simp only[yC,qD];rw[c3b0])|rw[c3b1]|(rw[c3b2];simp only[Bool.not_true,Bool.not_false])|skip);have H':=am_ H;clear H;go_wp2
   go_meet
   case rel=>exact⟨_,(decide ((a0.size:Int)>60)),vB,H',⟨jT⟩,⟨zz0⟩⟩
 case rest=>
  clear HC2;(try clear c1);(try clear p2);(try clear c3);(try clear c3b0);(try clear c3b1);obtain⟨kq,x14_1,rfl,HA,HJ1,HB⟩:=hcut
  cases kq with
  |zero=>exact absurd HA.out (by simp[kD.j0])
  |succ kj1=>
   have H:=HA.out;clear HA;simp only[kD.j0]at H
   by_cases c4:x14_1=true
   ·subst c4;rw[if_pos rfl]at H;obtain rfl:=si_ H;go_wp2
    go_ret;exact⟨zz1,zz0⟩
   ·replace c4:=bf_ c4;subst c4;rw[if_neg ft_]at H;replace H:=be_ H;obtain⟨t121,A50,H⟩:=H;(try dsimp only at H);have A5:=am_ A50;clear A50;have H':=am_ H;clear H;go_wp2_with (first|((with_reducible refine zB (f:=47) rfl ?_);refine vQ 16 Tryz.func47 #[.string a0,.int .u8 46] ?_;(with_reducible refine(qG.calls kj1 a0 46 t121 _ A5.out).mono ?_);rintro e w6 ⟨v122,rfl,ho0,hb⟩;refine⟨_,rfl,?_⟩;have HO123:=am_ (Kd.R_lower ho0 (zH zz0));replace HB:=am_ (kA zz0 hb);(try clear hb);(try clear ho0)))
    go_loopg [4] kj1 (fun kq v4 w'=> ∃(x4_2:Int),v4= .int .i64 x4_2∧wA (kD.l0 kq t121 x4_2=some r)∧wA (kq≤kj1)∧wA (Kd.R Kd.string 9 w' w.heap.size (fun _=>True) v122 t121)∧wA (Below w.heap.size w w'))
    case atStart=>exact⟨(0),vB,H',⟨Nat.le_refl _⟩,⟨by(with_reducible repeat(first|apply Kd.R_alloc|apply Kd.R_drewN|apply Kd.R_drew));exact HO123.out⟩,⟨zz0⟩⟩
    case round=>
     clear H';(try clear c1);(try clear p2);(try clear c3);(try clear c3b0);(try clear c3b1);(try clear c4);(try clear p2);obtain⟨x4_2,rfl,HA,HK2,HO_3,HB⟩:=hrel
     cases gk with
     |zero=>exact absurd HA.out (by simp[kD.l0])
     |succ k2=>
      have H:=HA.out;clear HA;simp only[kD.l0]at H
      by_cases c7:x4_2<(t121.length:Int)
      ·rw[if_pos c7]at H;have c7b0:=dt_ c7;clear c7
       by_cases c8:0≤x4_2
       ·rw[if_pos c8]at H;have c8b0:=dt_ c8;clear c8
        by_cases c9:(jB ByteArray.empty t121 x4_2).toList=([]:List UInt8)
        ·rw[if_pos c9]at H;have c9b0:((jB ByteArray.empty t121 x4_2).toList==([]:List UInt8))=true:=beq_iff_eq.mpr c9;have c9e:(jB ByteArray.empty t121 x4_2).toList.isEmpty=true:=by have hz_:=beq_iff_eq.1 c9b0;rw[hz_];rfl
         (try rw[c9e]);have c9b1:((jB ByteArray.empty t121 x4_2).toList !=([]:List UInt8))=false:=bne_eq_false_iff_eq.mpr c9;clear c9;obtain rfl:=si_ H;obtain⟨Ao10,co10,eo10⟩:=Kd.R_slice HO_3.out;subst eo10;have p124:0≤(x4_2:Int):=od_ zz5;have q124:x4_2<(t121.length:Int):=od_ zz5;obtain⟨ad124,e124,hx124_0⟩:=Kd.at_string (Kd.R_reads' HO_3.out).2.2 x4_2 p124 q124;cases e124;replace p124:=eq_true p124;replace q124:=eq_true q124;go_wp2
         go_ret;exact⟨zz1,zz0⟩
        ·rw[if_neg c9]at H;have c9b0:((jB ByteArray.empty t121 x4_2).toList==([]:List UInt8))=false:=beq_eq_false_iff_ne.mpr c9;have c9e:(jB ByteArray.empty t121 x4_2).toList.isEmpty=false:=by cases hz_:(jB ByteArray.empty t121 x4_2).toList with|nil=>(rw[hz_]at c9b0;exact absurd c9b0 (by decide))|cons _ _=>rfl
         (try rw[c9e]);have c9b1:((jB ByteArray.empty t121 x4_2).toList !=([]:List UInt8))=true:=bne_iff_ne.mpr c9;have H':=am_ H;clear H;obtain⟨Ao11,co11,eo11⟩:=Kd.R_slice HO_3.out;subst eo11;have p124:0≤(x4_2:Int):=od_ zz5;have q124:x4_2<(t121.length:Int):=od_ zz5;obtain⟨ad124,e124,hx124_0⟩:=Kd.at_string (Kd.R_reads' HO_3.out).2.2 x4_2 p124 q124;cases e124;replace p124:=eq_true p124;replace q124:=eq_true q124;go_wp2
         go_loopg [5] k2 (fun kq v5 w'=> ∃(x5_3:Int),v5= .int .i64 x5_3∧wA (kD.l1 kq t121 x4_2 x5_3=some r)∧wA (kq≤k2)∧wA (Kd.R Kd.string 9 w' w.heap.size (fun _=>True) (.slice (some ad124) t121.length co11) t121)∧wA (Below w.heap.size w w'))
         case atStart=>exact⟨(0),vB,H',⟨Nat.le_refl _⟩,⟨xX⟩,⟨zz0⟩⟩
         case round=>
          clear H';(try clear c1);(try clear p1);(try clear q1);(try clear hx1);(try clear p2);(try clear c3);(try clear c3b0);(try clear c3b1);(try clear c4);(try clear c7);(try clear c7b0);(try clear c8);(try clear c8b0);(try clear c9);(try clear c9b0);(try clear c9b1);(try clear hx124_0);(try clear p124);(try clear p2);(try clear q124);obtain⟨x5_3,rfl,HA,HK3,HO_3,HB⟩:=hrel
          cases gk with
          |zero=>exact absurd HA.out (by simp[kD.l1])
          |succ k3=>
           have H:=HA.out;clear HA;simp only[kD.l1]at H
           by_cases c12:0≤x4_2
           ·rw[if_pos c12]at H;have c12b0:=dt_ c12;clear c12
            by_cases c13:x4_2<(t121.length:Int)
            ·rw[if_pos c13]at H;have c13b0:=dt_ c13;clear c13
             by_cases c14:x5_3<((jB ByteArray.empty t121 x4_2).size:Int)
             ·rw[if_pos c14]at H;have c14b0:=dt_ c14;clear c14
              by_cases c15:0≤x5_3
              ·rw[if_pos c15]at H;have c15b0:=dt_ c15;clear c15;have HC17:=am_ H;clear H;have p125:0≤(x4_2:Int):=od_ zz5;have q125:x4_2<(t121.length:Int):=od_ zz5;obtain⟨ad125,e125,hx125_0⟩:=Kd.at_string (Kd.R_reads' HO_3.out).2.2 x4_2 p125 q125;obtain rfl:ad124=ad125:=(by injection e125);replace p125:=eq_true p125;replace q125:=eq_true q125;have p126:0≤(x4_2:Int):=od_ zz5;have q126:x4_2<(t121.length:Int):=od_ zz5;obtain⟨ad126,e126,hx126_0⟩:=Kd.at_string (Kd.R_reads' HO_3.out).2.2 x4_2 p126 q126;obtain rfl:ad124=ad126:=(by injection e126);replace p126:=eq_true p126;replace q126:=eq_true q126;have p16:0≤(x5_3:Int):=od_ zz5;have q16:x5_3<((jB ByteArray.empty t121 x4_2).size:Int):=od_ zz5;have hx16:=wP (jB ByteArray.empty t121 x4_2) x5_3;replace p16:=eq_true p16;replace q16:=eq_true q16
               repeat' (first|(go_big_may;(fail))|go_values|go_skip|go_big_skip|go_big_want|((first|(with_reducible refine wE rfl ?_)|(fail_if_success with_reducible refine yE ?_));go_step)|go_upon|simp only[Bool.not_true,Bool.not_false,Bool.true_and,Bool.false_and,Bool.true_or,Bool.false_or]|dsimp only)
               have H:=HC17.out;clear HC17
               by_cases c18:(bt (jB ByteArray.empty t121 x4_2) x5_3)≥97
               ·rw[if_pos c18]at H;have c18b0:decide (97≤(bt (jB ByteArray.empty t121 x4_2) x5_3))=true:=dt_ c18;clear c18;(first|rw[c18b0]|(simp only[yC,qD];rw[c18b0])|skip)
                by_cases c19:((bt (jB ByteArray.empty t121 x4_2) x5_3)≤122)
                ·rw[if_pos c19]at H;have c19b0:=dt_ c19;clear c19;have H':=am_ H;clear H;go_wp2
                 go_roundg k3
                 (case measure=>have:=HJ1.out;have:=HK2.out;have:=HK3.out;omega);case rel=>exact⟨(wrap64 (x5_3+1)),vB,H',⟨zz97⟩,⟨xX⟩,⟨zz0⟩⟩
                ·rw[if_neg c19]at H;have c19b0:=df_ c19;clear c19;replace H:=be_ H;obtain⟨t127,A200,H⟩:=H;(try dsimp only at H);have A20:=am_ A200;clear A200;have HC21:=am_ H;clear H
                 repeat' (first|(go_big_may;(first|(go_at_call 79;(with_reducible refine(jI.calls (bt (jB ByteArray.empty t121 x4_2) x5_3) t127 _ A20.out).mono ?_);rintro e w' ⟨rfl,⟨nd,rfl⟩⟩)))|go_values|go_skip|go_big_skip|go_big_want|((first|(with_reducible refine wE rfl ?_)|(fail_if_success with_reducible refine yE ?_));go_step)|go_upon|simp only[Bool.not_true,Bool.not_false,Bool.true_and,Bool.false_and,Bool.true_or,Bool.false_or]|dsimp only)
                 (try simp only[Act.put,List.setIfInBounds_toArray,List.set_cons_zero,List.set_cons_succ]);(try(rw[jJ wr];generalize hq_:World.drewN wr _=wr;have n0_:wA (Kd.R Kd.string 9 wr w.heap.size (fun _=>True) (.slice (some ad124) t121.length co11) t121):=⟨by rw[←hq_];exact xX⟩;have n1_:wA (Below w.heap.size w wr):=⟨cQ1⟩;clear HO_3 HB hq_;have HO_3:=n0_;have HB:=n1_;clear n0_ n1_));have H:=HC21.out;clear HC21
                 by_cases c22:t127=true
                 ·subst c22;rw[if_pos rfl]at H;have H':=am_ H;clear H;go_wp2
                  go_roundg k3
                  (case measure=>have:=HJ1.out;have:=HK2.out;have:=HK3.out;omega);case rel=>exact⟨(wrap64 (x5_3+1)),vB,H',⟨zz97⟩,⟨xX⟩,⟨zz0⟩⟩
                 ·replace c22:=bf_ c22;subst c22;rw[if_neg ft_]at H
                  by_cases c23:(bt (jB ByteArray.empty t121 x4_2) x5_3)=45
                  ·rw[if_pos c23]at H;have c23b0:((bt (jB ByteArray.empty t121 x4_2) x5_3)==45)=true:=beq_iff_eq.mpr c23;have c23b1:((bt (jB ByteArray.empty t121 x4_2) x5_3)!=45)=false:=bne_eq_false_iff_eq.mpr c23;clear c23;(first|rw[c23b0]|(simp only[yC,qD];rw[c23b0])|rw[c23b1]|(rw[c23b2];simp only[Bool.not_true,Bool.not_false])|skip);have H':=am_ H;clear H;go_wp2
                   go_roundg k3
                   (case measure=>have:=HJ1.out;have:=HK2.out;have:=HK3.out;omega);case rel=>exact⟨(wrap64 (x5_3+1)),vB,H',⟨zz97⟩,⟨xX⟩,⟨zz0⟩⟩
                  ·rw[if_neg c23]at H;have c23b0:((bt (jB ByteArray.empty t121 x4_2) x5_3)==45)=false:=beq_eq_false_iff_ne.mpr c23;have c23b1:((bt (jB ByteArray.empty t121 x4_2) x5_3)!=45)=true:=bne_iff_ne.mpr c23;(first|rw[c23b0]|(simp only[yC,qD];rw[c23b0])|rw[c23b1]|(rw[c23b2];simp only[Bool.not_true,Bool.not_false])|skip);obtain rfl:=si_ H;go_wp2
                   go_ret;exact⟨zz1,zz0⟩
               ·rw[if_neg c18]at H;have c18b0:decide (97≤(bt (jB ByteArray.empty t121 x4_2) x5_3))=false:=df_ c18;clear c18;(first|rw[c18b0]|(simp only[yC,qD];rw[c18b0])|skip);replace H:=be_ H;obtain⟨t128,A240,H⟩:=H;(try dsimp only at H);have A24:=am_ A240;clear A240;have HC25:=am_ H;clear H
                repeat' (first|(go_big_may;(first|(go_at_call 79;(with_reducible refine(jI.calls (bt (jB ByteArray.empty t121 x4_2) x5_3) t128 _ A24.out).mono ?_);rintro e w' ⟨rfl,⟨nd,rfl⟩⟩)))|go_values|go_skip|go_big_skip|go_big_want|((first|(with_reducible refine wE rfl ?_)|(fail_if_success with_reducible refine yE ?_));go_step)|go_upon|simp only[Bool.not_true,Bool.not_false,Bool.true_and,Bool.false_and,Bool.true_or,Bool.false_or]|dsimp only)
                (try simp only[Act.put,List.setIfInBounds_toArray,List.set_cons_zero,List.set_cons_succ]);(try(rw[jJ wr];generalize hq_:World.drewN wr _=wr;have n0_:wA (Kd.R Kd.string 9 wr w.heap.size (fun _=>True) (.slice (some ad124) t121.length co11) t121):=⟨by rw[←hq_];exact xX⟩;have n1_:wA (Below w.heap.size w wr):=⟨cQ1⟩;clear HO_3 HB hq_;have HO_3:=n0_;have HB:=n1_;clear n0_ n1_));have H:=HC25.out;clear HC25
                by_cases c26:t128=true
                ·subst c26;rw[if_pos rfl]at H;have H':=am_ H;clear H;go_wp2
                 go_roundg k3
                 (case measure=>have:=HJ1.out;have:=HK2.out;have:=HK3.out;omega);case rel=>exact⟨(wrap64 (x5_3+1)),vB,H',⟨zz97⟩,⟨xX⟩,⟨zz0⟩⟩
                ·replace c26:=bf_ c26;subst c26;rw[if_neg ft_]at H
                 by_cases c27:(bt (jB ByteArray.empty t121 x4_2) x5_3)=45
                 ·rw[if_pos c27]at H;have c27b0:((bt (jB ByteArray.empty t121 x4_2) x5_3)==45)=true:=beq_iff_eq.mpr c27;have c27b1:((bt (jB ByteArray.empty t121 x4_2) x5_3)!=45)=false:=bne_eq_false_iff_eq.mpr c27;clear c27;(first|rw[c27b0]|(simp only[yC,qD];rw[c27b0])|rw[c27b1]|(rw[c27b2];simp only[Bool.not_true,Bool.not_false])|skip);have H':=am_ H;clear H;go_wp2
                  go_roundg k3
                  (case measure=>have:=HJ1.out;have:=HK2.out;have:=HK3.out;omega);case rel=>exact⟨(wrap64 (x5_3+1)),vB,H',⟨zz97⟩,⟨xX⟩,⟨zz0⟩⟩
                 ·rw[if_neg c27]at H;have c27b0:((bt (jB ByteArray.empty t121 x4_2) x5_3)==45)=false:=beq_eq_false_iff_ne.mpr c27;have c27b1:((bt (jB ByteArray.empty t121 x4_2) x5_3)!=45)=true:=bne_iff_ne.mpr c27;(first|rw[c27b0]|(simp only[yC,qD];rw[c27b0])|rw[c27b1]|(rw[c27b2];simp only[Bool.not_true,Bool.not_false])|skip);obtain rfl:=si_ H;go_wp2
                  go_ret;exact⟨zz1,zz0⟩
              ·rw[if_neg c15]at H;exact absurd H (by simp)
             ·rw[if_neg c14]at H;have c14b0:=df_ c14;clear c14;have H':=am_ H;clear H;have p125:0≤(x4_2:Int):=od_ zz5;have q125:x4_2<(t121.length:Int):=od_ zz5;obtain⟨ad125,e125,hx125_0⟩:=Kd.at_string (Kd.R_reads' HO_3.out).2.2 x4_2 p125 q125;obtain rfl:ad124=ad125:=(by injection e125);replace p125:=eq_true p125;replace q125:=eq_true q125;go_wp2
              go_roundg k3
              (case measure=>have:=HJ1.out;have:=HK2.out;have:=HK3.out;omega);case rel=>exact⟨(wrap64 (x4_2+1)),vB,H',⟨zz97⟩,⟨xX⟩,⟨zz0⟩⟩
            ·rw[if_neg c13]at H;exact absurd H (by simp)
           ·rw[if_neg c12]at H;exact absurd H (by simp)
       ·rw[if_neg c8]at H;exact absurd H (by simp)
      ·rw[if_neg c7]at H;have c7b0:=df_ c7;clear c7;obtain rfl:=si_ H;obtain⟨Ao28,co28,eo28⟩:=Kd.R_slice HO_3.out;subst eo28;go_wp2
       go_ret;exact⟨zz1,zz0⟩
end Go.Proofs.YteojcbbifacpnaaGreatDoor.GFnExactReadLine
