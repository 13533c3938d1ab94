-- Printed by gen.py and its programs for this claim.
import Derived.Test.YteojcbbifacpnaaGreatDoorGFnExactReadLinex0
import Derived.Test.YteojcbbifacpnaaGreatDoorGFnExactReadLinex19
import Derived.Test.YteojcbbifacpnaaGreatDoorGFnExactReadLinex20
import Derived.Test.YteojcbbifacpnaaGreatDoorZFnExactReadLine
namespace Go.Proofs.YteojcbbifacpnaaGreatDoor.GFnExactReadLine
open Go.RowKit Go.Proofs.YteojcbbifacpnaaGreatDoorW.PrintWords Go.Proofs.YteojcbbifacpnaaGreatDoorW.PrintLast Go.Proofs.YteojcbbifacpnaaGreatDoorW.PrintMore Go.Proofs.YteojcbbifacpnaaGreatDoorW.Zs
set_option maxHeartbeats 40000000
set_option maxRecDepth 100000
attribute [local go_sem] zL qL xN zN qK xK xL jL
set_option linter.unusedVariables false
set_option linter.unusedSimpArgs false
def kG.l0:Nat→ByteArray→Int→Option (Bool)
 |0,_,_=>none
 |k+1,x0,x5=>if x5<(x0.size:Int)then(if 0≤x5 then((jV.f (bt x0 x5)).bind fun t335=>(if t335=true then(kG.l0 k x0 (wrap64 (x5+1)))else(some false)))else(none))else(some true)
def kG.f (k:Nat) (a0:ByteArray):Option (Bool):=kG.l0 k a0 0
theorem kG.calls (k:Nat) (a0:ByteArray) (r:Bool) (w:World) (h:kG.f k a0=some r):
  Calls Tryz.prog 81 #[.string a0,.func (.func 133) #[] #[]] w fun e w'=>e= .returned (.bool r)∧wI w w':=by
 have H:(kG.l0 k a0 0)=some r:=h;clear h;have H':=am_ H;clear H;go_enter Tryz.func81,Tryz.ntmps81
 go_wp2
 go_loopg [5] k (fun kq v5 w'=> ∃(x5_1:Int),v5= .int .i64 x5_1∧wA (kG.l0 kq a0 x5_1=some r)∧wA (kq≤k)∧wI w w')
 case atStart=>exact⟨(0),vB,H',⟨Nat.le_refl _⟩,zz4⟩
 case round=>
  clear H';obtain⟨x5_1,rfl,HA,HK1,⟨m1,rfl⟩⟩:=hrel
  cases gk with
  |zero=>exact absurd HA.out (by simp[kG.l0])
  |succ k1=>
   have H:=HA.out;clear HA;simp only[kG.l0]at H
   by_cases c2:x5_1<(a0.size:Int)
   ·rw[if_pos c2]at H;have c2b0:=dt_ c2;clear c2
    by_cases c3:0≤x5_1
    ·rw[if_pos c3]at H;have c3b0:=dt_ c3;clear c3;replace H:=be_ H;obtain⟨t335,A50,H⟩:=H;(try dsimp only at H);have A5:=am_ A50;clear A50;have HC6:=am_ H;clear H;have p4:0≤(x5_1:Int):=od_ zz5;have q4:x5_1<(a0.size:Int):=od_ zz5;have hx4:=wP a0 x5_1;replace p4:=eq_true p4;replace q4:=eq_true q4;go_upto_if 17 with(first|(go_at_call 133;(with_reducible refine(jV.calls (bt a0 x5_1) t335 _ A5.out).mono ?_);rintro e w' ⟨rfl,⟨nd,rfl⟩⟩))
     (try simp only[Act.put,List.setIfInBounds_toArray,List.set_cons_zero,List.set_cons_succ]);have H:=HC6.out;clear HC6
     by_cases c7:t335=true
     ·subst c7;rw[if_pos rfl]at H;have H':=am_ H;clear H;go_wp2
      go_roundg k1
      (case measure=>have:=HK1.out;omega);case rel=>exact⟨(wrap64 (x5_1+1)),vB,H',⟨aJ5⟩,zz4⟩
     ·replace c7:=bf_ c7;subst c7;rw[if_neg ft_]at H;obtain rfl:=si_ H;go_wp2
      go_ret;exact⟨vB,zz4⟩
    ·rw[if_neg c3]at H;exact absurd H (by simp)
   ·rw[if_neg c2]at H;have c2b0:=df_ c2;clear c2;obtain rfl:=si_ H;go_wp2
    go_ret;exact⟨vB,zz4⟩
def jM.j0:Nat→ByteArray→Bool→Option (Bool)
 |0,_,_=>none
 |k+1,x0,x11=>if x11=true then(some false)else((strings_Split.f x0 (⟨#[46]⟩:ByteArray)).bind fun t338=>((wL.f k t338 (⟨#[]⟩:ByteArray)).bind fun t341=>(some (!t341))))
def jM.f (k:Nat) (a0:ByteArray):Option (Bool):=(vC.f (a0.size:Int) 1 60).bind fun t336=>(if t336=true then((kG.f k a0).bind fun t337=>(jM.j0 k a0 (!t337)))else(jM.j0 k a0 true))
theorem jM.calls (k:Nat) (a0:ByteArray) (r:Bool) (w:World) (hG:Gl w) (h:jM.f k a0=some r):
  Calls Tryz.prog 97 #[.string a0] w fun e w'=>e= .returned (.bool r)∧Below w.heap.size w w':=by
 have HG:=am_ hG;clear hG;have HB:=am_ (Below.refl w.heap.size w);have H:((vC.f (a0.size:Int) 1 60).bind fun t336=>(if t336=true then((kG.f k a0).bind fun t337=>(jM.j0 k a0 (!t337)))else(jM.j0 k a0 true)))=some r:=h;clear h;have HC2:=am_ H;clear H;go_enter Tryz.func97,Tryz.ntmps97
 go_upto_region 1 with(fail)
 go_cut [11] (fun v11 wc=> ∃(kq:Nat) (x11_1:Bool),v11= .bool x11_1∧wA (jM.j0 kq a0 x11_1=some r)∧wA (kq≤k)∧wA (Below w.heap.size w wc))
 case first=>
  have H:=HC2.out;clear HC2;replace H:=be_ H;obtain⟨t336,A30,H⟩:=H;(try dsimp only at H);have A3:=am_ A30;clear A30
  by_cases c4:t336=true
  ·subst c4;rw[if_pos rfl]at H;replace H:=be_ H;obtain⟨t337,A50,H⟩:=H;(try dsimp only at H);have A5:=am_ A50;clear A50;have H':=am_ H;clear H;go_wp2_with (first|((with_reducible refine zB (f:=40) rfl ?_);refine jG 5 Tryz.func40 #[.int .i64 (a0.size:Int),.int .i64 1,.int .i64 60] (vC.calls (a0.size:Int) 1 60 true _ A3.out) ?_;rintro w' ⟨nd,rfl⟩)|(go_at_call 81;(with_reducible refine(kG.calls k a0 t337 _ A5.out).mono ?_);rintro e w' ⟨rfl,⟨nd,rfl⟩⟩))
   go_meet
   case rel=>exact⟨_,(!t337),vB,H',⟨jT⟩,⟨zz0⟩⟩
  ·replace c4:=bf_ c4;subst c4;rw[if_neg ft_]at H;have H':=am_ H;clear H;go_wp2_with (first|((with_reducible refine zB (f:=40) rfl ?_);refine jG 5 Tryz.func40 #[.int .i64 (a0.size:Int),.int .i64 1,.int .i64 60] (vC.calls (a0.size:Int) 1 60 false _ A3.out) ?_;rintro w' ⟨nd,rfl⟩))
   go_meet
   case rel=>exact⟨_,(true),vB,H',⟨jT⟩,⟨zz0⟩⟩
 case rest=>
  clear HC2;(try clear p2);(try clear c4);obtain⟨kq,x11_1,rfl,HA,HJ1,HB⟩:=hcut
  cases kq with
  |zero=>exact absurd HA.out (by simp[jM.j0])
  |succ kj1=>
   have H:=HA.out;clear HA;simp only[jM.j0]at H
   by_cases c6:x11_1=true
   ·subst c6;rw[if_pos rfl]at H;obtain rfl:=si_ H;go_wp2
    go_ret;exact⟨zz1,zz0⟩
   ·replace c6:=bf_ c6;subst c6;rw[if_neg ft_]at H;replace H:=be_ H;obtain⟨t338,A70,H⟩:=H;(try dsimp only at H);have A7:=am_ A70;clear A70;replace H:=be_ H;obtain⟨t341,A80,H⟩:=H;(try dsimp only at H);have A8:=am_ A80;clear A80;obtain rfl:=si_ H;go_wp2_with (first|((with_reducible refine zB (f:=50) rfl ?_);refine vQ 13 Tryz.func50 #[.string a0,.string (⟨#[46]⟩:ByteArray)] ?_;(with_reducible refine(strings_Split.calls a0 (⟨#[46]⟩:ByteArray) t338 _ ?side1 A7.out).mono ?_);(case side1=>exact Gl.below HG.out zz0);rintro e w9 ⟨v339,rfl,ho0,hb⟩;refine⟨_,rfl,?_⟩;have HO340:=am_ (Kd.R_lower ho0 (zH zz0));replace HB:=am_ (kA zz0 hb);(try clear hb);(try clear ho0);obtain⟨Ao10,co10,eo10⟩:=Kd.R_slice HO340.out;subst eo10)|((with_reducible refine zB (f:=135) rfl ?_);refine vQ 14 Tryz.func135 #[.slice Ao10 t338.length co10,.string (⟨#[]⟩:ByteArray)] ?_;(with_reducible refine(wL.calls kj1 _ _ t338 (⟨#[]⟩:ByteArray) t341 _ ?side1 ?side2 A8.out).mono ?_);(case side1=>repeat(first|exact(Kd.R_reads' HO340.out).2.2|(with_reducible refine Kd.C_alloc ?_ _)|(with_reducible refine Kd.C_drewN ?_ _)|(with_reducible refine Kd.C_drew ?_)));(case side2=>exact(Kd.R_reads' HO340.out).2.1);rintro e w' ⟨rfl,⟨nd,rfl⟩⟩;refine⟨_,rfl,?_⟩))
    go_ret;exact⟨zz1,zz0⟩
def jU.f (a0:Int):Option (Bool):=if a0≥33 then(some (decide (a0≤126)))else(some false)
theorem jU.calls (a0:Int) (r:Bool) (w:World) (h:jU.f a0=some r):
  Calls Tryz.prog 99 #[.int .u8 a0] w fun e w'=>e= .returned (.bool r)∧wI w w':=by
 have H:(if a0≥33 then(some (decide (a0≤126)))else(some false))=some r:=h;clear h
 by_cases c2:a0≥33
 ·rw[if_pos c2]at H;have c2b0:decide (33≤a0)=true:=dt_ c2;clear c2;obtain rfl:=si_ H;go_enter Tryz.func99,Tryz.ntmps99
  go_wp2
  go_ret;exact⟨vB,zz4⟩
 ·rw[if_neg c2]at H;have c2b0:decide (33≤a0)=false:=df_ c2;clear c2;obtain rfl:=si_ H;go_enter Tryz.func99,Tryz.ntmps99
  go_wp2
  go_ret;exact⟨vB,zz4⟩
def stringslite_HasPrefix.f (a0 a1:ByteArray):Option (Bool):=if(a0.size:Int)≥(a1.size:Int)then(if 0≤(a1.size:Int)then(if(a1.size:Int)≤(a0.size:Int)then(some ((a0.extract 0 ((a1.size:Int):Int).toNat).toList==a1.toList))else(none))else(none))else(some false)
theorem stringslite_HasPrefix.calls (a0 a1:ByteArray) (r:Bool) (w:World) (h:stringslite_HasPrefix.f a0 a1=some r):
  Calls Tryz.prog 139 #[.string a0,.string a1] w fun e w'=>e= .returned (.bool r)∧wI w w':=by
 have H:(if(a0.size:Int)≥(a1.size:Int)then(if 0≤(a1.size:Int)then(if(a1.size:Int)≤(a0.size:Int)then(some ((a0.extract 0 ((a1.size:Int):Int).toNat).toList==a1.toList))else(none))else(none))else(some false))=some r:=h;clear h
 by_cases c3:(a0.size:Int)≥(a1.size:Int)
 ·rw[if_pos c3]at H;have c3b0:decide ((a1.size:Int)≤(a0.size:Int))=true:=dt_ c3;have c3b1:decide (a1.size≤a0.size)=true:=dt_ (Int.ofNat_le.mp c3);clear c3
  by_cases c4:0≤(a1.size:Int)
  ·rw[if_pos c4]at H;have c4b0:=eq_true c4;have c4b1:=dt_ c4;clear c4
   by_cases c5:(a1.size:Int)≤(a0.size:Int)
   ·rw[if_pos c5]at H;have c5b0:=eq_true c5;have c5b1:=dt_ c5;clear c5;obtain rfl:=si_ H;go_enter Tryz.func139,Tryz.ntmps139
    go_wp2
    go_ret;exact⟨vB,zz4⟩
   ·rw[if_neg c5]at H;exact absurd H (by simp)
  ·rw[if_neg c4]at H;exact absurd H (by simp)
 ·rw[if_neg c3]at H;have c3b0:decide ((a1.size:Int)≤(a0.size:Int))=false:=df_ c3;have c3b1:decide (a1.size≤a0.size)=false:=df_ (fun h=>c3 (Int.ofNat_le.mpr h));clear c3;obtain rfl:=si_ H;go_enter Tryz.func139,Tryz.ntmps139
  go_wp2
  go_ret;exact⟨vB,zz4⟩
def strings_HasPrefix.f (a0 a1:ByteArray):Option (Bool):=(stringslite_HasPrefix.f a0 a1).bind fun t342=>(some t342)
theorem strings_HasPrefix.calls (a0 a1:ByteArray) (r:Bool) (w:World) (h:strings_HasPrefix.f a0 a1=some r):
  Calls Tryz.prog 136 #[.string a0,.string a1] w fun e w'=>e= .returned (.bool r)∧wI w w':=by
 have H:((stringslite_HasPrefix.f a0 a1).bind fun t342=>(some t342))=some r:=h;clear h;replace H:=be_ H;obtain⟨t342,A30,H⟩:=H;(try dsimp only at H);have A3:=am_ A30;clear A30;obtain rfl:=si_ H;go_enter Tryz.func136,Tryz.ntmps136
 go_wp2_with (first|((with_reducible refine zB (f:=139) rfl ?_);refine jG 7 Tryz.func139 #[.string a0,.string a1] (stringslite_HasPrefix.calls a0 a1 t342 _ A3.out) ?_;rintro w' ⟨nd,rfl⟩))
 go_ret;exact⟨vB,zz4⟩
def strings_IndexByte.f (a0:ByteArray) (a1:Int):Option (Int):=some (Lib.indexByte a0.data.toList a1.toNat.toUInt8)
theorem strings_IndexByte.calls (a0:ByteArray) (a1 r:Int) (w:World) (h:strings_IndexByte.f a0 a1=some r):
  Calls Tryz.prog 105 #[.string a0,.int .u8 a1] w fun e w'=>e= .returned (.int .i64 r)∧wI w w':=by
 obtain rfl:=si_ h;exact(Tryz.strings_IndexByte a0 a1 w).mono fun e w' ⟨he,hw⟩=>⟨he,hw ▸ wI.refl w⟩
theorem ia_get_data (s:ByteArray) (i:Nat) (h:i<s.size):s.data.toList[i]?=some (s.get! i):=by
 have:=get_at s i h;rw[Nat.add_zero]at this;rw[this]
 show s.data.toList[i]?=some s.data[i]
 simp
theorem ia_decode_span (s:ByteArray) (pos:Nat) (h:pos<s.size) (ha:128≤(s[pos]'h).toNat): ∀k,k<(Utf8.decode s pos).2→ ∃b,s.data.toList[pos+k]?=some b∧128≤b.toNat:=by
 have h0:128≤(s.get! (pos+0)).toNat:=by rw[get_at s pos h];exact ha
 have key: ∀k,pos+k<s.size→128≤(s.get! (pos+k)).toNat→ ∃b,s.data.toList[pos+k]?=some b∧128≤b.toNat:=fun k hk hb=>⟨_,ia_get_data s _ hk,hb⟩;have hn: ¬(s.get! (pos+0)).toNat<128:=by omega
 intro k;simp only[Utf8.decode,hn,if_false]
 repeat' split
 all_goals intro hk
 all_goals simp only[Bool.and_eq_true,decide_eq_true_eq,beq_iff_eq]at*
 all_goals have hk4:k=0∨k=1∨k=2∨k=3:=by omega
 all_goals rcases hk4 with rfl|rfl|rfl|rfl
 all_goals first
  |(exact key 0 (by omega) h0)
  |(exact key _ (by omega) (by omega))
  |omega
theorem ia_run_next_any_at {P:Program} (W:World) (k:Nat) (s:ByteArray) (pos:Nat) (ty:TypeId) (hk:W.heap[k]?=some (.stringIter s pos)) (h:pos<s.size):
  (Instr.next (.pointer (some ⟨k,0,none⟩)) true ty).run P W=
   .ok (.tuple #[.bool true,.int .i64 pos,.int .i32 (Utf8.decode s pos).1]) {W with heap:=W.heap.setIfInBounds k (.stringIter s (pos+(Utf8.decode s pos).2))}:=by
 simp only[Instr.next,getObj,setObj,Sem.run_bind,Sem.run,hk,Result.andThen,h,if_true]
 simp[goInt]
theorem ia_run_next_end_at {P:Program} (W:World) (k:Nat) (s:ByteArray) (pos:Nat) (ty:TypeId) (hk:W.heap[k]?=some (.stringIter s pos)) (h: ¬pos<s.size):
  (Instr.next (.pointer (some ⟨k,0,none⟩)) true ty).run P W= .ok (.tuple #[.bool false]) W:=by
 simp[Instr.next,getObj,Sem.run,hk,h]
theorem ia_NoAny_span (s:ByteArray) (chars:List UInt8) (pos:Nat) (h:pos<s.size) (ha:128≤(s[pos]'h).toNat) (hc: ∀b∈chars,b.toNat<128) (hn:Lib.NoAny s.data.toList chars pos):Lib.NoAny s.data.toList chars (pos+(Utf8.decode s pos).2):=by
 intro j b hj hb
 by_cases hlt:j<pos
 ·exact hn j b hlt hb
 ·obtain⟨b',hb',hge⟩:=ia_decode_span s pos h ha (j-pos) (by omega);rw[show pos+(j-pos)=j by omega]at hb';rw[hb]at hb';obtain rfl:=si_ hb'
  cases hq:chars.contains b with
  |false=>rfl
  |true=>have:=hc b (by simpa using hq);omega
theorem ia_decode_in (s:ByteArray) (pos:Nat) (h:pos<s.size):pos+(Utf8.decode s pos).2≤s.size∧1≤(Utf8.decode s pos).2:=by
 simp only[Utf8.decode]
 repeat' split
 all_goals simp only[Bool.and_eq_true,decide_eq_true_eq,beq_iff_eq]at*
 all_goals omega
theorem ia_run_convert_int_string {P:Program} (w:World) (src dst:TypeId) (k:IntKind) (r:Int) (hs:P.underlying src=some (.int k)) (hd:P.underlying dst=some .string):
  (convert src dst (.int k r)).run P w= .ok (.string (Utf8.encode r)) w:=by
 simp[convert,run_underlying hs,run_underlying hd,Conv.intToString,Result.andThen]
theorem ia_enc_high (r:Nat) (h0:128≤r) (hv:Utf8.valid (r:Int)=true): ∃(n:Nat) (b:UInt8),(Utf8.encode (r:Int)).data.toList[n]?=some b∧128≤b.toNat∧(Utf8.encode (r:Int)).size=n+1∧1≤n∧n≤3:=by
 unfold Utf8.encode;simp only[hv,if_true,Int.toNat_natCast];rw[if_neg (by omega)]
 split
 ·exact⟨1,UInt8.ofNat (128+r%64),by simp,by simp;omega,rfl,by omega,by omega⟩
 ·split
  ·exact⟨2,UInt8.ofNat (128+r%64),by simp,by simp;omega,rfl,by omega,by omega⟩
  ·exact⟨3,UInt8.ofNat (128+r%64),by simp,by simp;omega,rfl,by omega,by omega⟩
theorem ia_quiet_add_same {P:Program} {f:FuncId} {args:Array Value} {w:World} {a n:Nat} {v:Value}
  (h:Calls P f args (w.drewN (a+n)) fun e w'=>e= .returned v∧w'=w.drewN (a+n)):
  Calls P f args (w.drewN (a+n)) fun e w''=>e= .returned v∧ ∃m,w''=w.drewN (a+m):=
 h.mono fun _ _ ⟨he,hm⟩=>⟨he,n,hm⟩
theorem ia_irempty (b:UInt8) (W:World):Calls Tryz.prog 105 #[.string ByteArray.empty,.int .u8 (b.toNat:Int)] W fun e w'=>e= .returned (.int .i64 (-1))∧w'=W:=
 (Tryz.strings_IndexByte ByteArray.empty (b.toNat:Int) W).mono fun e w' ⟨h1,h2⟩=>⟨h1,h2⟩
theorem ia_irune (chars:ByteArray) (h2:chars.size=2) (hc: ∀(j:Nat) b,chars.data.toList[j]?=some b→b.toNat<128) (r:Nat) (h0:128≤r) (h1:r≤2147483647) (w:World):
  Calls Tryz.prog 179 #[.string chars,.int .i32 r] w fun e w'=>e= .returned (.int .i64 (-1))∧Below w.heap.size w w':=by
 have p1:decide ((r:Int)<128)=false:=df_ (by omega);have p2:(0≤(r:Int))=True:=eq_true (by omega);have HC:=am_ hc;clear hc
 by_cases hE:r=65533
 ·subst hE;go_enter Tryz.func179,Tryz.ntmps179
  go_wp2
  go_loopg [5,6] 2 (fun g _ _ wx=> ∃i:Nat,i+g=2∧wx=w.iter chars i)
  case atStart=>exact⟨0,rfl,rfl⟩
  case round=>
   obtain⟨i,hig,rfl⟩:=hrel
   cases gk with
   |zero=>
    obtain rfl:i=2:=by omega
    have hnx:=fun ty=>run_next_end (P:=Tryz.prog) w chars 2 ty (by omega);go_wp2
    go_ret
    exact⟨rfl,⟨rfl,rfl,rfl,by simp[World.iter],fun k hk=>Below.heap_alloc w _ k hk⟩⟩
   |succ g=>
    have hi:i<chars.size:=by omega
    obtain⟨x,hx⟩: ∃x:UInt8,chars[i]'hi=x:=⟨_,rfl⟩;have hx128:x.toNat<128:=HC.out i x (by rw[←hx];exact Lib.data_getElem? chars i hi);have hnx:=fun ty=>run_next_ascii (P:=Tryz.prog) w chars i ty hi (by rw[hx];exact hx128);rw[hx]at hnx;have hne:((x.toNat:Int)==65533)=false:=beq_eq_false_iff_ne.2 (by omega);go_wp2
    go_roundg g
    (case measure=>omega);case rel=>exact⟨i+1,by omega,rfl⟩
 ·have hE1:((r:Int)==65533)=false:=beq_eq_false_iff_ne.2 (by omega)
  by_cases hv:Lib.validRune r=true
  ·have hval:Utf8.valid (r:Int)=true:=by
    simp[Lib.validRune,Utf8.valid]at hv ⊢
    omega
   obtain⟨n,b,hnb,hb,hsz,hn1,hn3⟩:=ia_enc_high r h0 hval;have kb:=fun W=>ia_run_convert_int_string (P:=Tryz.prog) W 21 9 .i32 (r:Int) Tryz.underlying21 Tryz.underlying9;generalize Utf8.encode (r:Int)=rs at hnb hsz kb;go_enter Tryz.func179,Tryz.ntmps179
   go_wp2_with (go_at_call 190;refine(Tryz.utf8_ValidRune _ _).mono ?_;rintro e w' ⟨rfl,hw⟩;rw[hw,hv])
   go_step3
   go_wp2_with fail
   go_loopg [9] 0 (fun g v9 w'=>v9= .int .i64 (n:Int)∧w=w')
   case atStart=>exact⟨by simp[hsz],rfl⟩
   case round=>
    obtain⟨rfl,rfl⟩:=hrel
    by_cases hn2:n=1
    ·subst hn2;have hi:1<chars.size:=by omega
     have hj:1<rs.size:=by omega
     have hx128:(chars[1]'hi).toNat<128:=HC.out 1 _ (Lib.data_getElem? chars 1 hi);have hrb:rs[1]'hj=b:=by have:=Lib.data_getElem? rs 1 hj;rw[hnb]at this;exact(si_ this).symm
     have hne:(((chars[1]'hi).toNat:Int)==((rs[1]'hj).toNat:Int))=false:=beq_eq_false_iff_ne.2 (by rw[hrb];omega);have hne2:(((chars[1]'hi).toNat:Int)!=((rs[1]'hj).toNat:Int))=true:=bne_iff_ne.2 (by rw[hrb];omega);have hnb1:(((chars[1]'hi).toNat:Int)==(b.toNat:Int))=false:=beq_eq_false_iff_ne.2 (by omega);have hnb2:(((chars[1]'hi).toNat:Int)!=(b.toNat:Int))=true:=bne_iff_ne.2 (by omega);have hnb3:((chars[1]'hi).toNat==b.toNat)=false:=beq_eq_false_iff_ne.2 (by omega);have hnb4:(chars[1]'hi).toNat≠b.toNat:=by omega
     go_wp2_with fail
     go_step3
     go_wp2_with fail
     go_quiet (fail)
     go_wp2_with fail
     have hw2:IntKind.i64.wrap 2=2:=by decide
     have hz2:(2:Int)≤(chars.size:Int):=by omega
     have HIB:=am_ (ia_irempty b);clear hnb1 hnb2 hnb3 hnb4 hne hne2 hx128;go_quiet ((go_at_call 105;exact ia_quiet_add_same (HIB.out _)))
     go_wp2_with fail
     go_simp;go_ret;exact⟨rfl,wC (Below.refl _ _) _⟩
    ·have c1:decide ((n:Int)<2)=false:=df_ (by omega);have c2:((n:Int)<2)=False:=eq_false (by omega);have c3:(n<2)=False:=eq_false (by omega);go_wp2_with fail
     rw[Exit.noGoto_ret];go_ret;exact⟨rfl,Below.refl _ _⟩
  ·have hv2:Lib.validRune r=false:=by simpa using hv
   go_enter Tryz.func179,Tryz.ntmps179
   go_wp2_with (go_at_call 190;refine(Tryz.utf8_ValidRune _ _).mono ?_;rintro e w' ⟨rfl,hw⟩;rw[hw,hv2])
   go_ret;exact⟨rfl,Below.refl _ _⟩
theorem ia_iter_heap_set (W:World) (k:Nat) (o:Obj) (hk:k<W.heap.size):({W with heap:=W.heap.setIfInBounds k o}:World).heap[k]?=some o:=by
 simp[hk]
theorem ia_iter_set_below {w W:World} (h:Below w.heap.size w W) (o:Obj):Below w.heap.size w {W with heap:=W.heap.setIfInBounds w.heap.size o}:=
 ⟨h.os,h.tape,h.output,by simpa using h.size,fun i hi=>by
  rw[←h.block i hi]
  show(W.heap.setIfInBounds w.heap.size o)[i]?=_
  rw[Array.getElem?_setIfInBounds_ne (by omega)]⟩
theorem ia_iany_short (s chars:ByteArray) (w:World) (h2:chars.size=2) (h8:s.size≤8) (hac: ∀(j:Nat) b,chars.data.toList[j]?=some b→b.toNat<128):
  Calls Tryz.prog 162 #[.string s,.string chars] w fun e w'=>e= .returned (.int .i64 (Lib.indexAny s.data.toList chars.data.toList))∧Below w.heap.size w w':=by
 have hemp:chars.toList.isEmpty=false:=by
  rw[Lib.toList_data]
  cases h:chars.data.toList with
  |nil=>have:=Lib.size_eq chars;rw[h,List.length_nil]at this;omega
  |cons _ _=>rfl
 have hn1:((chars.size:Int)==1)=false:=beq_eq_false_iff_ne.2 (by omega);have h8z:decide ((8:Int)<(s.size:Int))=false:=df_ (by omega);have IR:=am_ (ia_irune chars h2 hac);have HA:=am_ hac;have H2:=am_ h2;clear h2 hac;go_enter Tryz.func162,Tryz.ntmps162
 go_wp2_with (go_at_call 180;refine(Tryz.strings_shouldUseASCIISet _ _).mono ?_;rintro e w' ⟨rfl,hw⟩;rw[hw,h8z])
 go_loopg [9,10] s.size (fun g _ _ wx=> ∃i:Nat,i≤s.size∧s.size≤i+g∧wA (wx.heap[w.heap.size]?=some (.stringIter s i))∧wA (Below w.heap.size w wx)∧wA (Lib.NoAny s.data.toList chars.data.toList i))
 case atStart=>exact⟨0,by omega,by omega,⟨World.iter_heap w s 0⟩,⟨zD (Below.refl _ _) _⟩,⟨Lib.NoAny.zero _ _⟩⟩
 case round=>
  obtain⟨i,hil,hig,HI,HB,HN⟩:=hrel
  by_cases hi:i<s.size
  ·cases gk with
   |zero=>omega
   |succ g=>
    have hnx0:=fun ty=>ia_run_next_any_at (P:=Tryz.prog) wr w.heap.size s i ty HI.out hi;have hlt:w.heap.size<wr.heap.size:=aX9 HI.out;have hin:=ia_decode_in s i hi;have HS0:=ia_NoAny_span s chars.data.toList i hi;obtain⟨W2,hW2⟩: ∃W2:World,{wr with heap:=wr.heap.setIfInBounds w.heap.size (.stringIter s (i+(Utf8.decode s i).2))}=W2:=⟨_,rfl⟩;have HI2:wA (W2.heap[w.heap.size]?=some (.stringIter s (i+(Utf8.decode s i).2))):=⟨by rw[←hW2];exact ia_iter_heap_set wr _ _ hlt⟩;have HB2:wA (Below w.heap.size w W2):=⟨by rw[←hW2];exact ia_iter_set_below HB.out _⟩;rw[hW2]at hnx0;clear hW2 hlt HB
    by_cases hx128:(s[i]'hi).toNat<128
    ·have hd:=decode_ascii s i hi hx128;obtain⟨x,hx⟩: ∃x:UInt8,s[i]'hi=x:=⟨_,rfl⟩;have hxl:s.data.toList[i]?=some x:=by rw[←hx];exact Lib.data_getElem? s i hi
     rw[hd]at hin HI2;simp only[hd,hx]at hnx0 HI2 hin;rw[hx]at hx128;have hnx:=hnx0;clear hnx0 HI hd HS0;have Hx:=am_ hxl;clear hxl hx;have hcon:=Lib.contains_iff_indexByte chars.data.toList x;have hback:((x.toNat:Int)).toNat.toUInt8=x:=by simp
     cases hinc:chars.data.toList.contains x
     ·rw[hinc]at hcon;have hltb: ¬((0:Int)≤Lib.indexByte chars.data.toList x):=of_decide_eq_false hcon.symm;clear hcon;go_wp2_with (go_at_call 179;refine(Tryz.strings_IndexRune_ascii _ _ _ (by omega) (by omega)).mono ?_;rintro e w' ⟨rfl,hw⟩;rw[hw,hback])
      go_roundg g
      (case measure=>omega);case rel=>exact⟨i+1,by omega,by omega,HI2,HB2,⟨HN.out.succ Hx.out hinc⟩⟩
     ·rw[hinc]at hcon;have hge:(0:Int)≤Lib.indexByte chars.data.toList x:=od_ hcon.symm;clear hcon;go_wp2_with (go_at_call 179;refine(Tryz.strings_IndexRune_ascii _ _ _ (by omega) (by omega)).mono ?_;rintro e w' ⟨rfl,hw⟩;rw[hw,hback])
      go_ret;exact⟨by rw[Lib.indexAny_hit HN.out Hx.out hinc];rfl,HB2.out⟩
    ·have hd:=decode_high s i hi (by omega);have hle:=decode_le s i;have HS:=am_ (HS0 (by omega) (fun b hb=>by obtain⟨j,hj⟩:=List.mem_iff_getElem?.1 hb;exact HA.out j b hj) HN.out);clear HS0 hx128 HN;obtain⟨dd,hdd⟩: ∃dd,Utf8.decode s i=dd:=⟨_,rfl⟩;rw[hdd]at HS hd hle HI2 hin;simp only[hdd]at hnx0;have hnx:=hnx0;clear hnx0 HI hdd;obtain⟨rr,nn⟩:=dd;dsimp only at hnx HS hd hle HI2 hin;go_wp2_with (go_at_call 179;(with_reducible refine(IR.out rr (by omega) (by omega) _).mono ?_);rintro e w' ⟨rfl,hb⟩;have hI3:=am_ (qB HI2.out hb);have hB3:=am_ (kA HB2.out hb);clear hb)
     go_roundg g
     (case measure=>omega);case rel=>exact⟨i+nn,by omega,by omega,hI3,hB3,HS⟩
  ·obtain rfl:i=s.size:=by omega
   have hnx:=fun ty=>ia_run_next_end_at (P:=Tryz.prog) wr w.heap.size s s.size ty HI.out hi;go_wp2
   go_ret;exact⟨by rw[Lib.indexAny_none (by rw[←Lib.size_eq];exact HN.out)];rfl,HB.out⟩
def strings_IndexAny.f (a0 a1:ByteArray):Option Int:=if a0.size<4294967281∧a1.size=2∧(a1.data.toList.all fun b=>decide (b.toNat<128))=true then some (Lib.indexAny a0.data.toList a1.data.toList)else none
theorem strings_IndexAny.calls (a0 a1:ByteArray) (r:Int) (w:World) (h:strings_IndexAny.f a0 a1=some r):
  Calls Tryz.prog 162 #[.string a0,.string a1] w fun e w'=>e= .returned (.int .i64 r)∧Below w.heap.size w w':=by
 unfold strings_IndexAny.f at h
 by_cases hl:a0.size<4294967281∧a1.size=2∧(a1.data.toList.all fun b=>decide (b.toNat<128))=true
 ·rw[if_pos hl]at h;obtain⟨hs,h2,ha⟩:=hl;have hac: ∀(j:Nat) b,a1.data.toList[j]?=some b→b.toNat<128:=fun j b hj=>od_ (List.all_eq_true.1 ha b (List.mem_iff_getElem?.2 ⟨j,hj⟩));obtain rfl:=si_ h
  by_cases h8:a0.size≤8
  ·exact ia_iany_short a0 a1 w h2 h8 hac
  ·refine(Any.strings_IndexAny_long Tryz.lays153 (zero_of_info (t:=145) (n:=256) (by kernel_rfl)).1 (by kernel_rfl) a0 a1 w (by omega) (by omega) hs (by omega) hac).mono fun e w' ⟨h1,h2⟩=>⟨h1,?_⟩;rw[h2];exact((Below.refl _ _).alloc (Nat.le_refl _) _).alloc (by simp) _
 ·rw[if_neg hl]at h;cases h
def strings_ContainsAny.f (a0 a1:ByteArray):Option (Bool):=(strings_IndexAny.f a0 a1).bind fun t343=>(some (decide (t343≥0)))
theorem strings_ContainsAny.calls (a0 a1:ByteArray) (r:Bool) (w:World) (h:strings_ContainsAny.f a0 a1=some r):
  Calls Tryz.prog 137 #[.string a0,.string a1] w fun e w'=>e= .returned (.bool r)∧Below w.heap.size w w':=by
 have HB:=am_ (Below.refl w.heap.size w);have H:((strings_IndexAny.f a0 a1).bind fun t343=>(some (decide (t343≥0))))=some r:=h;clear h;replace H:=be_ H;obtain⟨t343,A30,H⟩:=H;(try dsimp only at H);have A3:=am_ A30;clear A30;obtain rfl:=si_ H;go_enter Tryz.func137,Tryz.ntmps137
 go_wp2_with (first|((with_reducible refine zB (f:=162) rfl ?_);refine jG 7 Tryz.func162 #[.string a0,.string a1] (strings_IndexAny.calls a0 a1 t343 _ A3.out) ?_;rintro w4 hb;replace HB:=am_ (kA zz0 hb);(try clear hb)))
 go_ret;exact⟨zz1,zz0⟩
def vJ.j0:Nat→Int→Bool→Option (Int)
 |0,_,_=>none
 |k+1,x0,x9=>if x9=true then(some (((x0-97)%256)+10))else(if x0≥65 then(if x0≤70 then(some (((x0-65)%256)+10))else(some (-1)))else(some (-1)))
def vJ.f (k:Nat) (a0:Int):Option (Int):=(kL.f a0).bind fun t344=>(if t344=true then(some ((a0-48)%256))else(if a0≥97 then(vJ.j0 k a0 (decide (a0≤102)))else(vJ.j0 k a0 false)))
theorem vJ.calls (k:Nat) (a0 r:Int) (w:World) (h:vJ.f k a0=some r):
  Calls Tryz.prog 163 #[.int .u8 a0] w fun e w'=>e= .returned (.int .i64 r)∧wI w w':=by
 have H:((kL.f a0).bind fun t344=>(if t344=true then(some ((a0-48)%256))else(if a0≥97 then(vJ.j0 k a0 (decide (a0≤102)))else(vJ.j0 k a0 false))))=some r:=h;clear h;replace H:=be_ H;obtain⟨t344,A20,H⟩:=H;(try dsimp only at H);have A2:=am_ A20;clear A20;have HC3:=am_ H;clear H;go_enter Tryz.func163,Tryz.ntmps163
 go_upto_if 3 with(first|((with_reducible refine zB (f:=82) rfl ?_);refine jG 5 Tryz.func82 #[.int .u8 a0] (kL.calls a0 t344 _ A2.out) ?_;rintro w' ⟨nd,rfl⟩))
 (try simp only[Act.put,List.setIfInBounds_toArray,List.set_cons_zero,List.set_cons_succ]);have H:=HC3.out;clear HC3
 by_cases c4:t344=true
 ·subst c4;rw[if_pos rfl]at H;obtain rfl:=si_ H;go_wp2
  go_ret;exact⟨vB,zz4⟩
 ·replace c4:=bf_ c4;subst c4;rw[if_neg ft_]at H;have HC5:=am_ H;clear H;go_upto_region 3 with(fail)
  go_cut [9] (fun v9 wc=> ∃(kq:Nat) (x9_4:Bool),v9= .bool x9_4∧wA (vJ.j0 kq a0 x9_4=some r)∧wA (kq≤k)∧wI w wc)
  case first=>
   have H:=HC5.out;clear HC5
   by_cases c6:a0≥97
   ·rw[if_pos c6]at H;have c6b0:decide (97≤a0)=true:=dt_ c6;clear c6;(first|rw[c6b0]|(simp only[yC,qD];rw[c6b0])|skip);have H':=am_ H;clear H;go_wp2
    go_meet
    case rel=>exact⟨_,(decide (a0≤102)),vB,H',⟨jT⟩,zz4⟩
   ·rw[if_neg c6]at H;have c6b0:decide (97≤a0)=false:=df_ c6;clear c6;(first|rw[c6b0]|(simp only[yC,qD];rw[c6b0])|skip);have H':=am_ H;clear H;go_wp2
    go_meet
    case rel=>exact⟨_,(false),vB,H',⟨jT⟩,zz4⟩
  case rest=>
   clear HC5;(try clear c1);(try clear p2);(try clear c4);(try clear c6);(try clear c6b0);obtain⟨kq,x9_4,rfl,HA,HJ4,⟨mc4,rfl⟩⟩:=hcut
   cases kq with
   |zero=>exact absurd HA.out (by simp[vJ.j0])
   |succ kj4=>
    have H:=HA.out;clear HA;simp only[vJ.j0]at H
    by_cases c7:x9_4=true
    ·subst c7;rw[if_pos rfl]at H;obtain rfl:=si_ H;go_wp2
     go_ret;exact⟨vB,zz4⟩
    ·replace c7:=bf_ c7;subst c7;rw[if_neg ft_]at H
     by_cases c8:a0≥65
     ·rw[if_pos c8]at H;have c8b0:decide (65≤a0)=true:=dt_ c8;clear c8
      by_cases c9:a0≤70
      ·rw[if_pos c9]at H;have c9b0:=dt_ c9;clear c9;obtain rfl:=si_ H;go_wp2
       go_ret;exact⟨vB,zz4⟩
      ·rw[if_neg c9]at H;have c9b0:=df_ c9;clear c9;obtain rfl:=si_ H;go_wp2
       go_ret;exact⟨vB,zz4⟩
     ·rw[if_neg c8]at H;have c8b0:decide (65≤a0)=false:=df_ c8;clear c8;obtain rfl:=si_ H;go_wp2
      go_ret;exact⟨vB,zz4⟩
def qT.f (a0:Int):Option (Bool):=if a0≥65 then(some (decide (a0≤90)))else(some false)
theorem qT.calls (a0:Int) (r:Bool) (w:World) (h:qT.f a0=some r):
  Calls Tryz.prog 141 #[.int .u8 a0] w fun e w'=>e= .returned (.bool r)∧wI w w':=by
 have H:(if a0≥65 then(some (decide (a0≤90)))else(some false))=some r:=h;clear h
 by_cases c2:a0≥65
 ·rw[if_pos c2]at H;have c2b0:decide (65≤a0)=true:=dt_ c2;clear c2;obtain rfl:=si_ H;go_enter Tryz.func141,Tryz.ntmps141
  go_wp2
  go_ret;exact⟨vB,zz4⟩
 ·rw[if_neg c2]at H;have c2b0:decide (65≤a0)=false:=df_ c2;clear c2;obtain rfl:=si_ H;go_enter Tryz.func141,Tryz.ntmps141
  go_wp2
  go_ret;exact⟨vB,zz4⟩
end Go.Proofs.YteojcbbifacpnaaGreatDoor.GFnExactReadLine
