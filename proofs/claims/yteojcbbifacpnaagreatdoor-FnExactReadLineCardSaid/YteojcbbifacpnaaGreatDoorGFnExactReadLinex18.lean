-- Printed by gen.py and its programs for this claim.
import Derived.Test.YteojcbbifacpnaaGreatDoorGFnExactReadLinex0
import Derived.Test.YteojcbbifacpnaaGreatDoorGFnExactReadLinex13
import Derived.Test.YteojcbbifacpnaaGreatDoorGFnExactReadLinex15
import Derived.Test.YteojcbbifacpnaaGreatDoorGFnExactReadLinex17
import Derived.Test.YteojcbbifacpnaaGreatDoorZFnExactReadLine
namespace Go.Proofs.YteojcbbifacpnaaGreatDoor.GFnExactReadLine
open Go.RowKit Go.Proofs.YteojcbbifacpnaaGreatDoorW.PrintWords Go.Proofs.YteojcbbifacpnaaGreatDoorW.PrintLast Go.Proofs.YteojcbbifacpnaaGreatDoorW.PrintMore Go.Proofs.YteojcbbifacpnaaGreatDoorW.Zs
set_option maxHeartbeats 40000000
set_option maxRecDepth 100000
attribute [local go_sem] zL qL xN zN qK xK xL jL
set_option linter.unusedVariables false
set_option linter.unusedSimpArgs false
def xM.f (k:Nat) (a0:ByteArray):Option (Int×Bool):=if(a0.size:Int)=14 then(if 0≤4 then(if 4≤(a0.size:Int)then((kH.f k (a0.extract 0 4)).bind fun t282=>(if 4≤6 then(if 6≤(a0.size:Int)then((kH.f k (a0.extract 4 6)).bind fun t283=>(if 6≤8 then(if 8≤(a0.size:Int)then((kH.f k (a0.extract 6 8)).bind fun t284=>(if 8≤10 then(if 10≤(a0.size:Int)then(if(a0.extract 8 10).size+1≤9223372036854775807 then(if 10≤12 then(if 12≤(a0.size:Int)then(if((a0.extract 8 10)++(⟨#[58]⟩:ByteArray)).size+(a0.extract 10 12).size≤9223372036854775807 then(if(((a0.extract 8 10)++(⟨#[58]⟩:ByteArray))++(a0.extract 10 12)).size+1≤9223372036854775807 then(if 12≤14 then(if 14≤(a0.size:Int)then(if((((a0.extract 8 10)++(⟨#[58]⟩:ByteArray))++(a0.extract 10 12))++(⟨#[58]⟩:ByteArray)).size+(a0.extract 12 14).size≤9223372036854775807 then((qS.f k t282 t283 t284 (((((a0.extract 8 10)++(⟨#[58]⟩:ByteArray))++(a0.extract 10 12))++(⟨#[58]⟩:ByteArray))++(a0.extract 12 14))).bind fun t285=>((kN.f k t285).bind fun t286=>(if t286.toList=a0.toList then(some (t285,true))else(some (0,false)))))else(none))else(none))else(none))else(none))else(none))else(none))else(none))else(none))else(none))else(none)))else(none))else(none)))else(none))else(none)))else(none))else(none))else(some (0,false))
def xM.T3:Bool×List (List Nat×List Nat):=(true,[([],[]),([0],[0]),([1],[1]),([],[]),([3],[3]),([4,2],[4]),([],[]),([6],[6]),([7,5],[7]),([],[]),([9],[9]),([10],[10]),([],[]),([12],[12]),([11,13],[11,13]),([14],[14]),([],[]),([16],[16]),([15,17],[15,17]),([2,5,8,18,8],[2,5,8,18]),([19,19,0,1,2,3,4,5,6,7,8,9,10,11,12,13,14,15,16,17,18,19],[19])])
def xM.B3:List Nat:= [0,1,3,0,8,31,0,64,255,0,512,1536,0,4096,15872,32256,0,65536,261632,524287,1048575]
theorem xM.tab3:kU .any (kX Tryz.f48 3)=xM.T3:=by kernel_rfl
theorem xM.bits3:kP xM.T3.2 xM.B3=true:=by kernel_rfl
theorem xM.calls (k:Nat) (a0:ByteArray) (r1:Int) (r2:Bool) (w:World) (h:xM.f k a0=some (r1,r2)):
  Calls Tryz.prog 48 #[.string a0] w fun e w'=>e= .returned (.tuple #[.int .i64 r1,.bool r2])∧Below w.heap.size w w':=by
 have HB:=am_ (Below.refl w.heap.size w);have H:(if(a0.size:Int)=14 then(if 0≤4 then(if 4≤(a0.size:Int)then((kH.f k (a0.extract 0 4)).bind fun t282=>(if 4≤6 then(if 6≤(a0.size:Int)then((kH.f k (a0.extract 4 6)).bind fun t283=>(if 6≤8 then(if 8≤(a0.size:Int)then((kH.f k (a0.extract 6 8)).bind fun t284=>(if 8≤10 then(if 10≤(a0.size:Int)then(if(a0.extract 8 10).size+1≤9223372036854775807 then(if 10≤12 then(if 12≤(a0.size:Int)then(if((a0.extract 8 10)++(⟨#[58]⟩:ByteArray)).size+(a0.extract 10 12).size≤9223372036854775807 then(if(((a0.extract 8 10)++(⟨#[58]⟩:ByteArray))++(a0.extract 10 12)).size+1≤9223372036854775807 then(if 12≤14 then(if 14≤(a0.size:Int)then(if((((a0.extract 8 10)++(⟨#[58]⟩:ByteArray))++(a0.extract 10 12))++(⟨#[58]⟩:ByteArray)).size+(a0.extract 12 14).size≤9223372036854775807 then((qS.f k t282 t283 t284 (((((a0.extract 8 10)++(⟨#[58]⟩:ByteArray))++(a0.extract 10 12))++(⟨#[58]⟩:ByteArray))++(a0.extract 12 14))).bind fun t285=>((kN.f k t285).bind fun t286=>(if t286.toList=a0.toList then(some (t285,true))else(some (0,false)))))else(none))else(none))else(none))else(none))else(none))else(none))else(none))else(none))else(none))else(none)))else(none))else(none)))else(none))else(none)))else(none))else(none))else(some (0,false)))=some (r1,r2):=h;clear h
 by_cases c2:(a0.size:Int)=14
 ·rw[if_pos c2]at H;have c2b0:((a0.size:Int)==14)=true:=beq_iff_eq.mpr c2;have c2b1:((a0.size:Int)!=14)=false:=bne_eq_false_iff_eq.mpr c2;clear c2
  by_cases c3:0≤4
  ·rw[if_pos c3]at H;have c3b0:=eq_true c3;have c3b1:=dt_ c3;clear c3
   by_cases c4:4≤(a0.size:Int)
   ·rw[if_pos c4]at H;have c4b0:=eq_true c4;have c4b1:=dt_ c4;clear c4;replace H:=be_ H;obtain⟨t282,A50,H⟩:=H;(try dsimp only at H);have A5:=am_ A50;clear A50
    by_cases c6:4≤6
    ·rw[if_pos c6]at H;have c6b0:=eq_true c6;have c6b1:=dt_ c6;clear c6
     by_cases c7:6≤(a0.size:Int)
     ·rw[if_pos c7]at H;have c7b0:=eq_true c7;have c7b1:=dt_ c7;clear c7;replace H:=be_ H;obtain⟨t283,A80,H⟩:=H;(try dsimp only at H);have A8:=am_ A80;clear A80
      by_cases c9:6≤8
      ·rw[if_pos c9]at H;have c9b0:=eq_true c9;have c9b1:=dt_ c9;clear c9
       by_cases c10:8≤(a0.size:Int)
       ·rw[if_pos c10]at H;have c10b0:=eq_true c10;have c10b1:=dt_ c10;clear c10;replace H:=be_ H;obtain⟨t284,A110,H⟩:=H;(try dsimp only at H);have A11:=am_ A110;clear A110
        by_cases c12:8≤10
        ·rw[if_pos c12]at H;have c12b0:=eq_true c12;have c12b1:=dt_ c12;clear c12
         by_cases c13:10≤(a0.size:Int)
         ·rw[if_pos c13]at H;have c13b0:=eq_true c13;have c13b1:=dt_ c13;clear c13
          by_cases c14:(a0.extract 8 10).size+1≤9223372036854775807
          ·rw[if_pos c14]at H;have c14b0:=eq_true c14;have c14b1:=dt_ c14;(try have c14b2:(9223372036854775807<(a0.extract 8 10).size+1)=False:=eq_false (Nat.not_lt.2 c14));try have c14y:=c14b2;simp only[ByteArray.size_extract]at c14y;have c14b4:=c14y
           by_cases c15:10≤12
           ·rw[if_pos c15]at H;have c15b0:=eq_true c15;have c15b1:=dt_ c15;clear c15
            by_cases c16:12≤(a0.size:Int)
            ·rw[if_pos c16]at H;have c16b0:=eq_true c16;have c16b1:=dt_ c16;clear c16
             by_cases c17:((a0.extract 8 10)++(⟨#[58]⟩:ByteArray)).size+(a0.extract 10 12).size≤9223372036854775807
             ·rw[if_pos c17]at H;have c17b0:=eq_true c17;have c17b1:=dt_ c17;(try have c17b2:(9223372036854775807<((a0.extract 8 10)++(⟨#[58]⟩:ByteArray)).size+(a0.extract 10 12).size)=False:=eq_false (Nat.not_lt.2 c17));(try have c17z:=c17b2;simp only[ByteArray.size_append,show(⟨#[58]⟩:ByteArray).size=1 from rfl]at c17z;have c17b3:=c17z);(try have c17y:=c17b2;simp only[ByteArray.size_append,ByteArray.size_extract,show(⟨#[58]⟩:ByteArray).size=1 from rfl]at c17y;have c17b4:=c17y);try have c17v:=c17b2;simp only[ByteArray.size_append,ByteArray.size_extract,show(⟨#[58]⟩:ByteArray).size=1 from rfl]at c17v;rw[Nat.min_eq_left (by omega)]at c17v;(try simp only[Nat.sub_zero]at c17v);have c17b5:=c17v
              by_cases c18:(((a0.extract 8 10)++(⟨#[58]⟩:ByteArray))++(a0.extract 10 12)).size+1≤9223372036854775807
              ·rw[if_pos c18]at H;have c18b0:=eq_true c18;have c18b1:=dt_ c18;(try have c18b2:(9223372036854775807<(((a0.extract 8 10)++(⟨#[58]⟩:ByteArray))++(a0.extract 10 12)).size+1)=False:=eq_false (Nat.not_lt.2 c18));(try have c18z:=c18b2;simp only[ByteArray.size_append,show(⟨#[58]⟩:ByteArray).size=1 from rfl]at c18z;have c18b3:=c18z);(try have c18y:=c18b2;simp only[ByteArray.size_append,ByteArray.size_extract,show(⟨#[58]⟩:ByteArray).size=1 from rfl]at c18y;have c18b4:=c18y);try have c18v:=c18b2;simp only[ByteArray.size_append,ByteArray.size_extract,show(⟨#[58]⟩:ByteArray).size=1 from rfl]at c18v;rw[Nat.min_eq_left (by omega)]at c18v;(try simp only[Nat.sub_zero]at c18v);have c18b5:=c18v
               by_cases c19:12≤14
               ·rw[if_pos c19]at H;have c19b0:=eq_true c19;have c19b1:=dt_ c19;clear c19
                by_cases c20:14≤(a0.size:Int)
                ·rw[if_pos c20]at H;have c20b0:=eq_true c20;have c20b1:=dt_ c20;clear c20
                 by_cases c21:((((a0.extract 8 10)++(⟨#[58]⟩:ByteArray))++(a0.extract 10 12))++(⟨#[58]⟩:ByteArray)).size+(a0.extract 12 14).size≤9223372036854775807
                 ·rw[if_pos c21]at H;have c21b0:=eq_true c21;have c21b1:=dt_ c21;(try have c21b2:(9223372036854775807<((((a0.extract 8 10)++(⟨#[58]⟩:ByteArray))++(a0.extract 10 12))++(⟨#[58]⟩:ByteArray)).size+(a0.extract 12 14).size)=False:=eq_false (Nat.not_lt.2 c21));(try have c21z:=c21b2;simp only[ByteArray.size_append,show(⟨#[58]⟩:ByteArray).size=1 from rfl]at c21z;have c21b3:=c21z);(try have c21y:=c21b2;simp only[ByteArray.size_append,ByteArray.size_extract,show(⟨#[58]⟩:ByteArray).size=1 from rfl]at c21y;have c21b4:=c21y);(try have c21v:=c21b2;simp only[ByteArray.size_append,ByteArray.size_extract,show(⟨#[58]⟩:ByteArray).size=1 from rfl]at c21v;rw[Nat.min_eq_left (by omega)]at c21v;(try simp only[Nat.sub_zero]at c21v);have c21b5:=c21v);replace H:=be_ H;obtain⟨t285,A220,H⟩:=H;(try dsimp only at H);have A22:=am_ A220;clear A220;replace H:=be_ H;obtain⟨t286,A230,H⟩:=H;(try dsimp only at H);have A23:=am_ A230;clear A230;have HC24:=am_ H;clear H;go_enter Tryz.func48,Tryz.ntmps48
                  (try go_wp2);have n0_:=am_ (wB HB.out);clear HB;have HB:=n0_;clear n0_;refine st_ (n:=21) (S:=fun w'=>True) (ds:= []) trivial (fun hHeld=>?_);refine vF xM.tab3 xM.bits3 (fun HT_ HW_=>?_);generalize w.drew=w25 at HB hHeld ⊢;refine pz 0 8 ?_;refine pz 1 9 ?_;refine pz 3 11 ?_;refine pz 4 12 ?_;refine pz 6 14 ?_;refine pz 7 15 ?_;refine pz 9 17 ?_;refine pz 10 18 ?_;refine pz 11 19 ?_;refine pz 12 20 ?_;refine pz 13 21 ?_;refine pz 14 22 ?_;refine pz 15 23 ?_;refine pz 16 24 ?_;refine pz 17 25 ?_;refine pz 18 26 ?_;refine ozZ 2 10 Tryz.func78 #[.string (a0.extract 0 4)] (kH.calls k (a0.extract 0 4) t282 _ A5.out) (fun K hK=>?_);rintro w' ⟨nd,rfl⟩;refine hK.out _ _ trivial (fun hHeld=>?_);clear hK K;refine nz ?_;refine ozZ 5 13 Tryz.func78 #[.string (a0.extract 4 6)] (kH.calls k (a0.extract 4 6) t283 _ A8.out) (fun K hK=>?_);rintro w' ⟨nd,rfl⟩;refine hK.out _ _ trivial (fun hHeld=>?_);clear hK K;refine nz ?_;refine ozZ 8 16 Tryz.func78 #[.string (a0.extract 6 8)] (kH.calls k (a0.extract 6 8) t284 _ A11.out) (fun K hK=>?_);rintro w' ⟨nd,rfl⟩;refine hK.out _ _ trivial (fun hHeld=>?_);clear hK K;refine nz ?_;refine ozZ 19 27 Tryz.func77 #[.int .i64 t282,.int .i64 t283,.int .i64 t284,.string (((((a0.extract 8 10)++(⟨#[58]⟩:ByteArray))++(a0.extract 10 12))++(⟨#[58]⟩:ByteArray))++(a0.extract 12 14))] (qS.calls k t282 t283 t284 (((((a0.extract 8 10)++(⟨#[58]⟩:ByteArray))++(a0.extract 10 12))++(⟨#[58]⟩:ByteArray))++(a0.extract 12 14)) t285 _ A22.out) (fun K hK=>?_);rintro w26 hb;have n0_:=am_ (kA zz0 hb);clear HB;have HB:=n0_;clear n0_;(try clear hb);(try clear hb2);(try clear hk);(try clear hi);refine hK.out _ _ trivial (fun hHeld=>?_);clear hK K;refine nz ?_;refine pz 20 4 ?_;refine qP (wJ HT_.out (by kernel_rfl)) ?_;go_upto_if 31 with(first|((with_reducible refine zB (f:=69) rfl ?_);refine jG 29 Tryz.func69 #[.int .i64 t285] (kN.calls k t285 t286 _ A23.out) ?_;rintro w27 hb;replace HB:=am_ (kA zz0 hb);(try clear hb)))
                  (try simp only[Act.put,List.setIfInBounds_toArray,List.set_cons_zero,List.set_cons_succ]);have H:=HC24.out;clear HC24
                  by_cases c28:t286.toList=a0.toList
                  ·rw[if_pos c28]at H;have c28b0:(t286.toList==a0.toList)=true:=beq_iff_eq.mpr c28;have c28b1:(t286.toList !=a0.toList)=false:=bne_eq_false_iff_eq.mpr c28;clear c28;(first|rw[c28b0]|(simp only[yC,qD];rw[c28b0])|rw[c28b1]|(rw[c28b2];simp only[Bool.not_true,Bool.not_false])|skip);simp only[Option.some.injEq,Prod.mk.injEq]at H;obtain⟨rfl,rfl⟩:=H;go_wp2
                   go_ret2
                   exact⟨zz1,zz0⟩
                  ·rw[if_neg c28]at H;have c28b0:(t286.toList==a0.toList)=false:=beq_eq_false_iff_ne.mpr c28;have c28b1:(t286.toList !=a0.toList)=true:=bne_iff_ne.mpr c28;(first|rw[c28b0]|(simp only[yC,qD];rw[c28b0])|rw[c28b1]|(rw[c28b2];simp only[Bool.not_true,Bool.not_false])|skip);simp only[Option.some.injEq,Prod.mk.injEq]at H;obtain⟨rfl,rfl⟩:=H;go_wp2
                   go_ret2
                   exact⟨zz1,zz0⟩
                 ·rw[if_neg c21]at H;exact absurd H (by simp)
                ·rw[if_neg c20]at H;exact absurd H (by simp)
               ·rw[if_neg c19]at H;exact absurd H (by simp)
              ·rw[if_neg c18]at H;exact absurd H (by simp)
             ·rw[if_neg c17]at H;exact absurd H (by simp)
            ·rw[if_neg c16]at H;exact absurd H (by simp)
           ·rw[if_neg c15]at H;exact absurd H (by simp)
          ·rw[if_neg c14]at H;exact absurd H (by simp)
         ·rw[if_neg c13]at H;exact absurd H (by simp)
        ·rw[if_neg c12]at H;exact absurd H (by simp)
       ·rw[if_neg c10]at H;exact absurd H (by simp)
      ·rw[if_neg c9]at H;exact absurd H (by simp)
     ·rw[if_neg c7]at H;exact absurd H (by simp)
    ·rw[if_neg c6]at H;exact absurd H (by simp)
   ·rw[if_neg c4]at H;exact absurd H (by simp)
  ·rw[if_neg c3]at H;exact absurd H (by simp)
 ·rw[if_neg c2]at H;have c2b0:((a0.size:Int)==14)=false:=beq_eq_false_iff_ne.mpr c2;have c2b1:((a0.size:Int)!=14)=true:=bne_iff_ne.mpr c2;simp only[Option.some.injEq,Prod.mk.injEq]at H;obtain⟨rfl,rfl⟩:=H;go_enter Tryz.func48,Tryz.ntmps48
  go_wp2
  go_ret2
  exact⟨zz1,zz0⟩
end Go.Proofs.YteojcbbifacpnaaGreatDoor.GFnExactReadLine
