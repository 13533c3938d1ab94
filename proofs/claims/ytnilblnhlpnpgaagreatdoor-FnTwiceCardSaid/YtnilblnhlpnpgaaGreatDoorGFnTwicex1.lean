-- Printed by gen.py and its programs for this claim.
import Derived.Test.YtnilblnhlpnpgaaGreatDoorGFnTwicex0
import Derived.Test.YtnilblnhlpnpgaaGreatDoorZFnTwice
namespace Go.Proofs.YtnilblnhlpnpgaaGreatDoor.GFnTwice
open Go.RowKit Go.Proofs.YtnilblnhlpnpgaaGreatDoorW.PrintWords Go.Proofs.YtnilblnhlpnpgaaGreatDoorW.PrintLast Go.Proofs.YtnilblnhlpnpgaaGreatDoorW.PrintMore Go.Proofs.YtnilblnhlpnpgaaGreatDoorW.Zs
set_option maxHeartbeats 40000000
set_option maxRecDepth 100000
attribute [local go_sem] max2_int min2_int max_two min_two max_three min_three max_four min_four
set_option linter.unusedVariables false
set_option linter.unusedSimpArgs false
def impl_within.f (a0 a1 a2:Int):Option (Bool):=if a1≤a0 then(some (decide (a0≤a2)))else(some false)
theorem impl_within.calls (a0 a1 a2:Int) (r:Bool) (w:World) (h:impl_within.f a0 a1 a2=some r):
  Calls Tryz.prog 27 #[.int .i64 a0,.int .i64 a1,.int .i64 a2] w fun e w'=>e= .returned (.bool r)∧Drawn0 w w':=by
 have H:(if a1≤a0 then(some (decide (a0≤a2)))else(some false))=some r:=h;clear h
 by_cases c4:a1≤a0
 ·rw[if_pos c4]at H;have c4b0:decide (a1≤a0)=true:=decide_eq_true c4;clear c4;obtain rfl:=Option.some.inj H;go_enter Tryz.func27,Tryz.ntmps27
  go_wp2
  go_ret;exact⟨zz4,zz7⟩
 ·rw[if_neg c4]at H;have c4b0:decide (a1≤a0)=false:=decide_eq_false c4;clear c4;obtain rfl:=Option.some.inj H;go_enter Tryz.func27,Tryz.ntmps27
  go_wp2
  go_ret;exact⟨zz4,zz7⟩
def impl_CurOk.f (a0_0:ByteArray) (a0_1:Int):Option (Bool):=(impl_within.f a0_1 0 (a0_0.size:Int)).bind fun t102=>(some t102)
theorem impl_CurOk.calls (a0_0:ByteArray) (a0_1:Int) (r:Bool) (w:World) (h:impl_CurOk.f a0_0 a0_1=some r):
  Calls Tryz.prog 71 #[.agg #[.string a0_0,.int .i64 a0_1]] w fun e w'=>e= .returned (.bool r)∧Below w.heap.size w w':=by
 have hu41:=Tryz.underlying41;have HB:=Aside0.mk (Below.refl w.heap.size w);have H:((impl_within.f a0_1 0 (a0_0.size:Int)).bind fun t102=>(some t102))=some r:=h;clear h;replace H:=Option.bind_eq_some_iff.mp H;obtain⟨t102,A20,H⟩:=H;(try dsimp only at H);have A2:=Aside0.mk A20;clear A20;obtain rfl:=Option.some.inj H;go_enter Tryz.func71,Tryz.ntmps71
 go_wp2_with (first|((with_reducible refine gate_dst (N:=1) rfl ?_);refine boxP_ (N:=1) (cs:= #[.string a0_0,.int .i64 a0_1]) (t:=41) ?_;intro gb101 hg w3 hbox hb;have BK101:=Aside0.mk (hbox);have GE101:=geb_ (w:=w) hg zz0;replace HB:=Aside0.mk (below_step zz0 hb);clear hb hbox hg;obtain⟨_,_,_,_⟩:=cells2_ BK101.out)|((with_reducible refine gate_callee (f:=27) rfl ?_);refine goesR_ 8 Tryz.func27 #[.int .i64 a0_1,.int .i64 0,.int .i64 (a0_0.size:Int)] (impl_within.calls a0_1 0 (a0_0.size:Int) t102 _ A2.out) ?_;rintro w' ⟨nd,rfl⟩))
 go_ret;exact⟨zz1,by repeat(first|(with_reducible first|exact HB.out|apply below_alloc|apply pw_below_drewN|apply below_drew1|refine below_set ?_ GE101.out)|exact HB.out)⟩
def strings_IndexByte.f (a0:ByteArray) (a1:Int):Option (Int):=some (Lib.indexByte a0.data.toList a1.toNat.toUInt8)
theorem strings_IndexByte.calls (a0:ByteArray) (a1 r:Int) (w:World) (h:strings_IndexByte.f a0 a1=some r):
  Calls Tryz.prog 132 #[.string a0,.int .u8 a1] w fun e w'=>e= .returned (.int .i64 r)∧Drawn0 w w':=by
 obtain rfl:=Option.some.inj h;exact(Tryz.strings_IndexByte a0 a1 w).mono fun e w' ⟨he,hw⟩=>⟨he,hw ▸ Drawn0.refl w⟩
theorem ia_get_data (s:ByteArray) (i:Nat) (h:i<s.size):s.data.toList[i]?=some (s.get! i):=by
 have:=get_at s i h;rw[Nat.add_zero]at this;rw[this]
 show s.data.toList[i]?=some s.data[i]
 simp
theorem ia_decode_span (s:ByteArray) (pos:Nat) (h:pos<s.size) (ha:128≤(s[pos]'h).toNat): ∀k,k<(Utf8.decode s pos).2→ ∃b,s.data.toList[pos+k]?=some b∧128≤b.toNat:=by
 have h0:128≤(s.get! (pos+0)).toNat:=by rw[get_at s pos h];exact ha
 have key: ∀k,pos+k<s.size→128≤(s.get! (pos+k)).toNat→ ∃b,s.data.toList[pos+k]?=some b∧128≤b.toNat:=fun k hk hb=>⟨_,ia_get_data s _ hk,hb⟩;have hn: ¬(s.get! (pos+0)).toNat<128:=by omega
 intro k;simp only[Utf8.decode,hn,if_false]
 repeat' split
 all_goals intro hk
 all_goals simp only[Bool.and_eq_true,decide_eq_true_eq,beq_iff_eq]at*
 all_goals have hk4:k=0∨k=1∨k=2∨k=3:=by omega
 all_goals rcases hk4 with rfl|rfl|rfl|rfl
 all_goals first
  |(exact key 0 (by omega) h0)
  |(exact key _ (by omega) (by omega))
  |omega
theorem ia_run_next_any_at {P:Program} (W:World) (k:Nat) (s:ByteArray) (pos:Nat) (ty:TypeId) (hk:W.heap[k]?=some (.stringIter s pos)) (h:pos<s.size):
  (Instr.next (.pointer (some ⟨k,0,none⟩)) true ty).run P W=
   .ok (.tuple #[.bool true,.int .i64 pos,.int .i32 (Utf8.decode s pos).1]) {W with heap:=W.heap.setIfInBounds k (.stringIter s (pos+(Utf8.decode s pos).2))}:=by
 simp only[Instr.next,getObj,setObj,Sem.run_bind,Sem.run,hk,Result.andThen,h,if_true]
 simp[goInt]
theorem ia_run_next_end_at {P:Program} (W:World) (k:Nat) (s:ByteArray) (pos:Nat) (ty:TypeId) (hk:W.heap[k]?=some (.stringIter s pos)) (h: ¬pos<s.size):
  (Instr.next (.pointer (some ⟨k,0,none⟩)) true ty).run P W= .ok (.tuple #[.bool false]) W:=by
 simp[Instr.next,getObj,Sem.run,hk,h]
theorem ia_NoAny_span (s:ByteArray) (chars:List UInt8) (pos:Nat) (h:pos<s.size) (ha:128≤(s[pos]'h).toNat) (hc: ∀b∈chars,b.toNat<128) (hn:Lib.NoAny s.data.toList chars pos):Lib.NoAny s.data.toList chars (pos+(Utf8.decode s pos).2):=by
 intro j b hj hb
 by_cases hlt:j<pos
 ·exact hn j b hlt hb
 ·obtain⟨b',hb',hge⟩:=ia_decode_span s pos h ha (j-pos) (by omega);rw[show pos+(j-pos)=j by omega]at hb';rw[hb]at hb';obtain rfl:=Option.some.inj hb'
  cases hq:chars.contains b with
  |false=>rfl
  |true=>have:=hc b (by simpa using hq);omega
theorem ia_decode_in (s:ByteArray) (pos:Nat) (h:pos<s.size):pos+(Utf8.decode s pos).2≤s.size∧1≤(Utf8.decode s pos).2:=by
 simp only[Utf8.decode]
 repeat' split
 all_goals simp only[Bool.and_eq_true,decide_eq_true_eq,beq_iff_eq]at*
 all_goals omega
theorem ia_run_convert_int_string {P:Program} (w:World) (src dst:TypeId) (k:IntKind) (r:Int) (hs:P.underlying src=some (.int k)) (hd:P.underlying dst=some .string):
  (convert src dst (.int k r)).run P w= .ok (.string (Utf8.encode r)) w:=by
 simp[convert,run_underlying hs,run_underlying hd,Conv.intToString,Result.andThen]
theorem ia_enc_high (r:Nat) (h0:128≤r) (hv:Utf8.valid (r:Int)=true): ∃(n:Nat) (b:UInt8),(Utf8.encode (r:Int)).data.toList[n]?=some b∧128≤b.toNat∧(Utf8.encode (r:Int)).size=n+1∧1≤n∧n≤3:=by
 unfold Utf8.encode;simp only[hv,if_true,Int.toNat_natCast];rw[if_neg (by omega)]
 split
 ·exact⟨1,UInt8.ofNat (128+r%64),by simp,by simp;omega,rfl,by omega,by omega⟩
 ·split
  ·exact⟨2,UInt8.ofNat (128+r%64),by simp,by simp;omega,rfl,by omega,by omega⟩
  ·exact⟨3,UInt8.ofNat (128+r%64),by simp,by simp;omega,rfl,by omega,by omega⟩
theorem ia_quiet_add_same {P:Program} {f:FuncId} {args:Array Value} {w:World} {a n:Nat} {v:Value}
  (h:Calls P f args (w.drewN (a+n)) fun e w'=>e= .returned v∧w'=w.drewN (a+n)):
  Calls P f args (w.drewN (a+n)) fun e w''=>e= .returned v∧ ∃m,w''=w.drewN (a+m):=
 h.mono fun _ _ ⟨he,hm⟩=>⟨he,n,hm⟩
theorem ia_irempty (b:UInt8) (W:World):Calls Tryz.prog 132 #[.string ByteArray.empty,.int .u8 (b.toNat:Int)] W fun e w'=>e= .returned (.int .i64 (-1))∧w'=W:=
 (Tryz.strings_IndexByte ByteArray.empty (b.toNat:Int) W).mono fun e w' ⟨h1,h2⟩=>⟨h1,h2⟩
theorem ia_irune (chars:ByteArray) (h2:chars.size=2) (hc: ∀(j:Nat) b,chars.data.toList[j]?=some b→b.toNat<128) (r:Nat) (h0:128≤r) (h1:r≤2147483647) (w:World):
  Calls Tryz.prog 113 #[.string chars,.int .i32 r] w fun e w'=>e= .returned (.int .i64 (-1))∧Below w.heap.size w w':=by
 have p1:decide ((r:Int)<128)=false:=decide_eq_false (by omega);have p2:(0≤(r:Int))=True:=eq_true (by omega);have HC:=Aside0.mk hc;clear hc
 by_cases hE:r=65533
 ·subst hE;go_enter Tryz.func113,Tryz.ntmps113
  go_wp2
  go_loopg [5,6] 2 (fun g _ _ wx=> ∃i:Nat,i+g=2∧wx=w.iter chars i)
  case atStart=>exact⟨0,rfl,rfl⟩
  case round=>
   obtain⟨i,hig,rfl⟩:=hrel
   cases gk with
   |zero=>
    obtain rfl:i=2:=by omega
    have hnx:=fun ty=>run_next_end (P:=Tryz.prog) w chars 2 ty (by omega);go_wp2
    go_ret
    exact⟨rfl,⟨rfl,rfl,rfl,by simp[World.iter],fun k hk=>Below.heap_alloc w _ k hk⟩⟩
   |succ g=>
    have hi:i<chars.size:=by omega
    obtain⟨x,hx⟩: ∃x:UInt8,chars[i]'hi=x:=⟨_,rfl⟩;have hx128:x.toNat<128:=HC.out i x (by rw[←hx];exact Lib.data_getElem? chars i hi);have hnx:=fun ty=>run_next_ascii (P:=Tryz.prog) w chars i ty hi (by rw[hx];exact hx128);rw[hx]at hnx;have hne:((x.toNat:Int)==65533)=false:=beq_eq_false_iff_ne.2 (by omega);go_wp2
    go_roundg g
    (case measure=>omega);case rel=>exact⟨i+1,by omega,rfl⟩
 ·have hE1:((r:Int)==65533)=false:=beq_eq_false_iff_ne.2 (by omega)
  by_cases hv:Lib.validRune r=true
  ·have hval:Utf8.valid (r:Int)=true:=by
    simp[Lib.validRune,Utf8.valid]at hv ⊢
    omega
   obtain⟨n,b,hnb,hb,hsz,hn1,hn3⟩:=ia_enc_high r h0 hval;have kb:=fun W=>ia_run_convert_int_string (P:=Tryz.prog) W 21 9 .i32 (r:Int) Tryz.underlying21 Tryz.underlying9;generalize Utf8.encode (r:Int)=rs at hnb hsz kb;go_enter Tryz.func113,Tryz.ntmps113
   go_wp2_with (go_at_call 143;refine(Tryz.utf8_ValidRune _ _).mono ?_;rintro e w' ⟨rfl,hw⟩;rw[hw,hv])
   go_step3
   go_wp2_with fail
   go_loopg [9] 0 (fun g v9 w'=>v9= .int .i64 (n:Int)∧w=w')
   case atStart=>exact⟨by simp[hsz],rfl⟩
   case round=>
    obtain⟨rfl,rfl⟩:=hrel
    by_cases hn2:n=1
    ·subst hn2;have hi:1<chars.size:=by omega
     have hj:1<rs.size:=by omega
     have hx128:(chars[1]'hi).toNat<128:=HC.out 1 _ (Lib.data_getElem? chars 1 hi);have hrb:rs[1]'hj=b:=by have:=Lib.data_getElem? rs 1 hj;rw[hnb]at this;exact(Option.some.inj this).symm
     have hne:(((chars[1]'hi).toNat:Int)==((rs[1]'hj).toNat:Int))=false:=beq_eq_false_iff_ne.2 (by rw[hrb];omega);have hne2:(((chars[1]'hi).toNat:Int)!=((rs[1]'hj).toNat:Int))=true:=bne_iff_ne.2 (by rw[hrb];omega);have hnb1:(((chars[1]'hi).toNat:Int)==(b.toNat:Int))=false:=beq_eq_false_iff_ne.2 (by omega);have hnb2:(((chars[1]'hi).toNat:Int)!=(b.toNat:Int))=true:=bne_iff_ne.2 (by omega);have hnb3:((chars[1]'hi).toNat==b.toNat)=false:=beq_eq_false_iff_ne.2 (by omega);have hnb4:(chars[1]'hi).toNat≠b.toNat:=by omega
     go_wp2_with fail
     go_step3
     go_wp2_with fail
     go_quiet (fail)
     go_wp2_with fail
     have hw2:IntKind.i64.wrap 2=2:=by decide
     have hz2:(2:Int)≤(chars.size:Int):=by omega
     have HIB:=Aside0.mk (ia_irempty b);clear hnb1 hnb2 hnb3 hnb4 hne hne2 hx128;go_quiet ((go_at_call 132;exact ia_quiet_add_same (HIB.out _)))
     go_wp2_with fail
     go_simp;go_ret;exact⟨rfl,pw_below_drewN (Below.refl _ _) _⟩
    ·have c1:decide ((n:Int)<2)=false:=decide_eq_false (by omega);have c2:((n:Int)<2)=False:=eq_false (by omega);have c3:(n<2)=False:=eq_false (by omega);go_wp2_with fail
     rw[Exit.noGoto_ret];go_ret;exact⟨rfl,Below.refl _ _⟩
  ·have hv2:Lib.validRune r=false:=by simpa using hv
   go_enter Tryz.func113,Tryz.ntmps113
   go_wp2_with (go_at_call 143;refine(Tryz.utf8_ValidRune _ _).mono ?_;rintro e w' ⟨rfl,hw⟩;rw[hw,hv2])
   go_ret;exact⟨rfl,Below.refl _ _⟩
theorem ia_iter_heap_set (W:World) (k:Nat) (o:Obj) (hk:k<W.heap.size):({W with heap:=W.heap.setIfInBounds k o}:World).heap[k]?=some o:=by
 simp[hk]
theorem ia_iter_set_below {w W:World} (h:Below w.heap.size w W) (o:Obj):Below w.heap.size w {W with heap:=W.heap.setIfInBounds w.heap.size o}:=
 ⟨h.os,h.tape,h.output,by simpa using h.size,fun i hi=>by
  rw[←h.block i hi]
  show(W.heap.setIfInBounds w.heap.size o)[i]?=_
  rw[Array.getElem?_setIfInBounds_ne (by omega)]⟩
theorem ia_iany_short (s chars:ByteArray) (w:World) (h2:chars.size=2) (h8:s.size≤8) (hac: ∀(j:Nat) b,chars.data.toList[j]?=some b→b.toNat<128):
  Calls Tryz.prog 72 #[.string s,.string chars] w fun e w'=>e= .returned (.int .i64 (Lib.indexAny s.data.toList chars.data.toList))∧Below w.heap.size w w':=by
 have hemp:chars.toList.isEmpty=false:=by
  rw[Lib.toList_data]
  cases h:chars.data.toList with
  |nil=>have:=Lib.size_eq chars;rw[h,List.length_nil]at this;omega
  |cons _ _=>rfl
 have hn1:((chars.size:Int)==1)=false:=beq_eq_false_iff_ne.2 (by omega);have h8z:decide ((8:Int)<(s.size:Int))=false:=decide_eq_false (by omega);have IR:=Aside0.mk (ia_irune chars h2 hac);have HA:=Aside0.mk hac;have H2:=Aside0.mk h2;clear h2 hac;go_enter Tryz.func72,Tryz.ntmps72
 go_wp2_with (go_at_call 114;refine(Tryz.strings_shouldUseASCIISet _ _).mono ?_;rintro e w' ⟨rfl,hw⟩;rw[hw,h8z])
 go_loopg [9,10] s.size (fun g _ _ wx=> ∃i:Nat,i≤s.size∧s.size≤i+g∧Aside0 (wx.heap[w.heap.size]?=some (.stringIter s i))∧Aside0 (Below w.heap.size w wx)∧Aside0 (Lib.NoAny s.data.toList chars.data.toList i))
 case atStart=>exact⟨0,by omega,by omega,⟨World.iter_heap w s 0⟩,⟨below_alloc (Below.refl _ _) _⟩,⟨Lib.NoAny.zero _ _⟩⟩
 case round=>
  obtain⟨i,hil,hig,HI,HB,HN⟩:=hrel
  by_cases hi:i<s.size
  ·cases gk with
   |zero=>omega
   |succ g=>
    have hnx0:=fun ty=>ia_run_next_any_at (P:=Tryz.prog) wr w.heap.size s i ty HI.out hi;have hlt:w.heap.size<wr.heap.size:=blk_lt HI.out;have hin:=ia_decode_in s i hi;have HS0:=ia_NoAny_span s chars.data.toList i hi;obtain⟨W2,hW2⟩: ∃W2:World,{wr with heap:=wr.heap.setIfInBounds w.heap.size (.stringIter s (i+(Utf8.decode s i).2))}=W2:=⟨_,rfl⟩;have HI2:Aside0 (W2.heap[w.heap.size]?=some (.stringIter s (i+(Utf8.decode s i).2))):=⟨by rw[←hW2];exact ia_iter_heap_set wr _ _ hlt⟩;have HB2:Aside0 (Below w.heap.size w W2):=⟨by rw[←hW2];exact ia_iter_set_below HB.out _⟩;rw[hW2]at hnx0;clear hW2 hlt HB
    by_cases hx128:(s[i]'hi).toNat<128
    ·have hd:=decode_ascii s i hi hx128;obtain⟨x,hx⟩: ∃x:UInt8,s[i]'hi=x:=⟨_,rfl⟩;have hxl:s.data.toList[i]?=some x:=by rw[←hx];exact Lib.data_getElem? s i hi
     rw[hd]at hin HI2;simp only[hd,hx]at hnx0 HI2 hin;rw[hx]at hx128;have hnx:=hnx0;clear hnx0 HI hd HS0;have Hx:=Aside0.mk hxl;clear hxl hx;have hcon:=Lib.contains_iff_indexByte chars.data.toList x;have hback:((x.toNat:Int)).toNat.toUInt8=x:=by simp
     cases hinc:chars.data.toList.contains x
     ·rw[hinc]at hcon;have hltb: ¬((0:Int)≤Lib.indexByte chars.data.toList x):=of_decide_eq_false hcon.symm;clear hcon;go_wp2_with (go_at_call 113;refine(Tryz.strings_IndexRune_ascii _ _ _ (by omega) (by omega)).mono ?_;rintro e w' ⟨rfl,hw⟩;rw[hw,hback])
      go_roundg g
      (case measure=>omega);case rel=>exact⟨i+1,by omega,by omega,HI2,HB2,⟨HN.out.succ Hx.out hinc⟩⟩
     ·rw[hinc]at hcon;have hge:(0:Int)≤Lib.indexByte chars.data.toList x:=of_decide_eq_true hcon.symm;clear hcon;go_wp2_with (go_at_call 113;refine(Tryz.strings_IndexRune_ascii _ _ _ (by omega) (by omega)).mono ?_;rintro e w' ⟨rfl,hw⟩;rw[hw,hback])
      go_ret;exact⟨by rw[Lib.indexAny_hit HN.out Hx.out hinc];rfl,HB2.out⟩
    ·have hd:=decode_high s i hi (by omega);have hle:=decode_le s i;have HS:=Aside0.mk (HS0 (by omega) (fun b hb=>by obtain⟨j,hj⟩:=List.mem_iff_getElem?.1 hb;exact HA.out j b hj) HN.out);clear HS0 hx128 HN;obtain⟨dd,hdd⟩: ∃dd,Utf8.decode s i=dd:=⟨_,rfl⟩;rw[hdd]at HS hd hle HI2 hin;simp only[hdd]at hnx0;have hnx:=hnx0;clear hnx0 HI hdd;obtain⟨rr,nn⟩:=dd;dsimp only at hnx HS hd hle HI2 hin;go_wp2_with (go_at_call 113;(with_reducible refine(IR.out rr (by omega) (by omega) _).mono ?_);rintro e w' ⟨rfl,hb⟩;have hI3:=Aside0.mk (blk_below HI2.out hb);have hB3:=Aside0.mk (below_step HB2.out hb);clear hb)
     go_roundg g
     (case measure=>omega);case rel=>exact⟨i+nn,by omega,by omega,hI3,hB3,HS⟩
  ·obtain rfl:i=s.size:=by omega
   have hnx:=fun ty=>ia_run_next_end_at (P:=Tryz.prog) wr w.heap.size s s.size ty HI.out hi;go_wp2
   go_ret;exact⟨by rw[Lib.indexAny_none (by rw[←Lib.size_eq];exact HN.out)];rfl,HB.out⟩
def strings_IndexAny.f (a0 a1:ByteArray):Option Int:=if a0.size<4294967281∧a1.size=2∧(a1.data.toList.all fun b=>decide (b.toNat<128))=true then some (Lib.indexAny a0.data.toList a1.data.toList)else none
theorem strings_IndexAny.calls (a0 a1:ByteArray) (r:Int) (w:World) (h:strings_IndexAny.f a0 a1=some r):
  Calls Tryz.prog 72 #[.string a0,.string a1] w fun e w'=>e= .returned (.int .i64 r)∧Below w.heap.size w w':=by
 unfold strings_IndexAny.f at h
 by_cases hl:a0.size<4294967281∧a1.size=2∧(a1.data.toList.all fun b=>decide (b.toNat<128))=true
 ·rw[if_pos hl]at h;obtain⟨hs,h2,ha⟩:=hl;have hac: ∀(j:Nat) b,a1.data.toList[j]?=some b→b.toNat<128:=fun j b hj=>of_decide_eq_true (List.all_eq_true.1 ha b (List.mem_iff_getElem?.2 ⟨j,hj⟩));obtain rfl:=Option.some.inj h
  by_cases h8:a0.size≤8
  ·exact ia_iany_short a0 a1 w h2 h8 hac
  ·refine(Any.strings_IndexAny_long Tryz.lays153 (zero_of_info (t:=108) (n:=256) (by kernel_rfl)).1 (by kernel_rfl) a0 a1 w (by omega) (by omega) hs (by omega) hac).mono fun e w' ⟨h1,h2⟩=>⟨h1,?_⟩;rw[h2];exact((Below.refl _ _).alloc (Nat.le_refl _) _).alloc (by simp) _
 ·rw[if_neg hl]at h;cases h
def impl_TakeLine.j0:Nat→ByteArray→Int→Bool→ByteArray→Int→Option (ByteArray×ByteArray×Int×Int)
 |0,_,_,_,_,_=>none
 |k+1,x5,x6,x18,x104000,x104001=>if x18=true then(some ((⟨#[]⟩:ByteArray),(⟨#[]⟩:ByteArray),0,1))else(if 0≤x6 then(if x6<(x5.size:Int)then(if(bt x5 x6)=13 then(if 0≤(wrap64 (x6+1))then(if(wrap64 (x6+1))<(x5.size:Int)then(if(bt x5 (wrap64 (x6+1)))=10 then(if x6≤(x5.size:Int)then(some (x5.extract 0 (x6:Int).toNat,x104000,wrap64 ((wrap64 (x104001+x6))+2),0))else(none))else(some ((⟨#[]⟩:ByteArray),(⟨#[]⟩:ByteArray),0,2)))else(none))else(none))else(some ((⟨#[]⟩:ByteArray),(⟨#[]⟩:ByteArray),0,2)))else(none))else(none))
def impl_TakeLine.f (k:Nat) (a0_0:ByteArray) (a0_1:Int):Option (ByteArray×ByteArray×Int×Int):=(impl_CurOk.f a0_0 a0_1).bind fun t105=>(if t105=true then(if 0≤a0_1 then(if a0_1≤(a0_0.size:Int)then((strings_IndexAny.f (a0_0.extract (a0_1:Int).toNat a0_0.size) (⟨#[13,10]⟩:ByteArray)).bind fun t106=>(if t106<0 then(impl_TakeLine.j0 k (a0_0.extract (a0_1:Int).toNat a0_0.size) t106 true a0_0 a0_1)else(if 0≤t106 then(if t106<((a0_0.extract (a0_1:Int).toNat a0_0.size).size:Int)then(if(bt (a0_0.extract (a0_1:Int).toNat a0_0.size) t106)=13 then(impl_TakeLine.j0 k (a0_0.extract (a0_1:Int).toNat a0_0.size) t106 (t106==(wrap64 (((a0_0.extract (a0_1:Int).toNat a0_0.size).size:Int)-1))) a0_0 a0_1)else(impl_TakeLine.j0 k (a0_0.extract (a0_1:Int).toNat a0_0.size) t106 false a0_0 a0_1))else(none))else(none))))else(none))else(none))else(some ((⟨#[]⟩:ByteArray),(⟨#[]⟩:ByteArray),0,2)))
def impl_TakeLine.T8:Bool×List (List Nat×List Nat):=(true,[([],[]),([],[]),([0,1],[0,1]),([],[]),([3],[3]),([],[]),([5],[5]),([],[]),([6,7],[6,7]),([8],[8]),([4,9],[4,9]),([2,0,1,2],[2]),([10,11,0,1,2,3,4,5,6,7,8,9,10,11],[10]),([12,0,1,2,3,4,5,6,7,8,9,10,11,12],[])])
def impl_TakeLine.B8:List Nat:= [0,0,3,0,8,0,32,0,224,480,1016,7,4095,8191]
theorem impl_TakeLine.tab8:rtab .any (opsOf Tryz.f31 8)=impl_TakeLine.T8:=by kernel_rfl
theorem impl_TakeLine.bits8:waitsOk impl_TakeLine.T8.2 impl_TakeLine.B8=true:=by kernel_rfl
theorem impl_TakeLine.calls (k:Nat) (a0_0:ByteArray) (a0_1:Int) (r1 r2:ByteArray) (r3 r4:Int) (w:World) (h:impl_TakeLine.f k a0_0 a0_1=some (r1,r2,r3,r4)):
  Calls Tryz.prog 31 #[.agg #[.string a0_0,.int .i64 a0_1]] w fun e w'=>e= .returned (.tuple #[.string r1,.agg #[.string r2,.int .i64 r3],.int .i64 r4])∧Below w.heap.size w w':=by
 have hu41:=Tryz.underlying41;have HB:=Aside0.mk (Below.refl w.heap.size w);have H:((impl_CurOk.f a0_0 a0_1).bind fun t105=>(if t105=true then(if 0≤a0_1 then(if a0_1≤(a0_0.size:Int)then((strings_IndexAny.f (a0_0.extract (a0_1:Int).toNat a0_0.size) (⟨#[13,10]⟩:ByteArray)).bind fun t106=>(if t106<0 then(impl_TakeLine.j0 k (a0_0.extract (a0_1:Int).toNat a0_0.size) t106 true a0_0 a0_1)else(if 0≤t106 then(if t106<((a0_0.extract (a0_1:Int).toNat a0_0.size).size:Int)then(if(bt (a0_0.extract (a0_1:Int).toNat a0_0.size) t106)=13 then(impl_TakeLine.j0 k (a0_0.extract (a0_1:Int).toNat a0_0.size) t106 (t106==(wrap64 (((a0_0.extract (a0_1:Int).toNat a0_0.size).size:Int)-1))) a0_0 a0_1)else(impl_TakeLine.j0 k (a0_0.extract (a0_1:Int).toNat a0_0.size) t106 false a0_0 a0_1))else(none))else(none))))else(none))else(none))else(some ((⟨#[]⟩:ByteArray),(⟨#[]⟩:ByteArray),0,2))))=some (r1,r2,r3,r4):=h;clear h;replace H:=Option.bind_eq_some_iff.mp H;obtain⟨t105,A20,H⟩:=H;(try dsimp only at H);have A2:=Aside0.mk A20;clear A20;have HC3:=Aside0.mk H;clear H;go_enter Tryz.func31,Tryz.ntmps31
 go_upto_if 9 with(first|((with_reducible refine gate_dst (N:=1) rfl ?_);(try(refine gate_guard (by rfl) ?_;dsimp only));refine boxP_ (N:=1) (cs:= #[.string a0_0,.int .i64 a0_1]) (t:=41) ?_;intro gb103 hg w4 hbox hb;have BK103:=Aside0.mk (hbox);have GE103:=geb_ (w:=w) hg zz0;replace HB:=Aside0.mk (below_step zz0 hb);clear hb hbox hg)|((with_reducible refine gate_dst (N:=3) rfl ?_);(try(refine gate_guard (by rfl) ?_;dsimp only));refine boxP_ (N:=3) (cs:= #[.string (⟨#[]⟩:ByteArray),.int .i64 0]) (t:=41) ?_;intro gb104 hg w5 hbox hb;have BK104:=Aside0.mk (hbox);have GE104:=geb_ (w:=w) hg zz160;replace HB:=Aside0.mk (below_step zz160 hb);have NB103_104:=nbL_ (g:=gb103) hg zz69;have NB104_103:=nbG_ (g:=gb103) hg zz69;replace BK103:=Aside0.mk (blk_below zz69 hb);clear hb hbox hg;have hnb6:=NB103_104.out;have hnc6:=NB104_103.out;obtain⟨_,_,_,_⟩:=cells2_ BK103.out)|((with_reducible refine gate_callee (f:=71) rfl ?_);refine goesR_ 8 Tryz.func71 #[.agg #[.string a0_0,.int .i64 a0_1]] (impl_CurOk.calls a0_0 a0_1 t105 _ A2.out) ?_;rintro w8 hb;replace BK103:=Aside0.mk (blk_below zz69 hb);replace BK104:=Aside0.mk (blk_below zz124 hb);replace HB:=Aside0.mk (below_step zz36 hb);(try clear hb)))
 (try simp only[Act.put,List.setIfInBounds_toArray,List.set_cons_zero,List.set_cons_succ]);have H:=HC3.out;clear HC3
 by_cases c9:t105=true
 ·subst c9;rw[if_pos rfl]at H
  by_cases c10:0≤a0_1
  ·rw[if_pos c10]at H;have c10b0:=eq_true c10;have c10b1:decide (0≤a0_1)=true:=decide_eq_true c10;clear c10
   by_cases c11:a0_1≤(a0_0.size:Int)
   ·rw[if_pos c11]at H;have c11b0:=eq_true c11;have c11b1:decide (a0_1≤(a0_0.size:Int))=true:=decide_eq_true c11;clear c11;replace H:=Option.bind_eq_some_iff.mp H;obtain⟨t106,A120,H⟩:=H;(try dsimp only at H);have A12:=Aside0.mk A120;clear A120;have HC13:=Aside0.mk H;clear H;have hnb14:=NB103_104.out;have hnc14:=NB104_103.out;obtain⟨_,_,_,_⟩:=cells2_ BK103.out;go_upto_region 5 with(first|((with_reducible refine gate_callee (f:=72) rfl ?_);refine goesR_ 17 Tryz.func72 #[.string (a0_0.extract (a0_1:Int).toNat a0_0.size),.string (⟨#[13,10]⟩:ByteArray)] (strings_IndexAny.calls (a0_0.extract (a0_1:Int).toNat a0_0.size) (⟨#[13,10]⟩:ByteArray) t106 _ A12.out) ?_;rintro w16 hb;replace BK103:=Aside0.mk (blk_below zz69 hb);replace BK104:=Aside0.mk (blk_below zz124 hb);replace HB:=Aside0.mk (below_step zz36 hb);(try clear hb)))
    (try simp only[Act.put,List.setIfInBounds_toArray,List.set_cons_zero,List.set_cons_succ]);go_cut [18] (fun v18 wc=> ∃(kq:Nat) (x18_12:Bool),v18= .bool x18_12∧Aside0 (impl_TakeLine.j0 kq (a0_0.extract (a0_1:Int).toNat a0_0.size) t106 x18_12 a0_0 a0_1=some (r1,r2,r3,r4))∧Aside0 (kq≤k)∧Aside0 (wc.heap[gb103]?=some (.cells #[.string a0_0,.int .i64 a0_1] 41 (0,0)))∧Aside0 (wc.heap[gb104]?=some (.cells #[.string (⟨#[]⟩:ByteArray),.int .i64 0] 41 (0,0)))∧Aside0 (Below w.heap.size w wc))
    case first=>
     have H:=HC13.out;clear HC13
     by_cases c17:t106<0
     ·rw[if_pos c17]at H;have c17b0:decide (t106<0)=true:=decide_eq_true c17;clear c17;(first|rw[c17b0]|(simp only[i64_w,i32_w];rw[c17b0])|skip);have H':=Aside0.mk H;clear H;go_wp2
      go_meet
      case rel=>exact⟨_,(true),zz4,H',⟨zz55⟩,⟨zz69⟩,⟨zz124⟩,⟨zz36⟩⟩
     ·rw[if_neg c17]at H;have c17b0:decide (t106<0)=false:=decide_eq_false c17;clear c17;(first|rw[c17b0]|(simp only[i64_w,i32_w];rw[c17b0])|skip)
      by_cases c18:0≤t106
      ·rw[if_pos c18]at H;have c18b0:decide (0≤t106)=true:=decide_eq_true c18;clear c18
       by_cases c19:t106<((a0_0.extract (a0_1:Int).toNat a0_0.size).size:Int)
       ·rw[if_pos c19]at H;have c19b0:decide (t106<((a0_0.extract (a0_1:Int).toNat a0_0.size).size:Int))=true:=decide_eq_true c19;(try have c19x:=c19b0;simp only[ByteArray.size_extract,Nat.min_self]at c19x;have c19y:=eq_true (of_decide_eq_true c19x));clear c19;have HC21:=Aside0.mk H;clear H;have p20:0≤(t106:Int):=of_decide_eq_true zz16;have q20:t106<((a0_0.extract (a0_1:Int).toNat a0_0.size).size:Int):=of_decide_eq_true zz16;have hx20:=bt_at (a0_0.extract (a0_1:Int).toNat a0_0.size) t106;replace p20:=eq_true p20;replace q20:=eq_true q20
        repeat' (first|(go_big_may;(fail))|go_values|go_skip|go_big_skip|go_big_want|((first|(with_reducible refine gate_nog rfl ?_)|(fail_if_success with_reducible refine gate_any ?_));go_step)|go_upon|simp only[Bool.not_true,Bool.not_false,Bool.true_and,Bool.false_and,Bool.true_or,Bool.false_or]|dsimp only)
        have H:=HC21.out;clear HC21
        by_cases c22:(bt (a0_0.extract (a0_1:Int).toNat a0_0.size) t106)=13
        ·rw[if_pos c22]at H;have c22b0:((bt (a0_0.extract (a0_1:Int).toNat a0_0.size) t106)==13)=true:=beq_iff_eq.mpr c22;have c22b1:((bt (a0_0.extract (a0_1:Int).toNat a0_0.size) t106)!=13)=false:=bne_eq_false_iff_eq.mpr c22;clear c22;(first|rw[c22b0]|(simp only[i64_w,i32_w];rw[c22b0])|rw[c22b1]|(rw[c22b2];simp only[Bool.not_true,Bool.not_false])|skip);have H':=Aside0.mk H;clear H;go_wp2
         go_meet
         case rel=>exact⟨_,((t106==(wrap64 (((a0_0.extract (a0_1:Int).toNat a0_0.size).size:Int)-1)))),zz4,H',⟨zz55⟩,⟨zz69⟩,⟨zz124⟩,⟨zz36⟩⟩
        ·rw[if_neg c22]at H;have c22b0:((bt (a0_0.extract (a0_1:Int).toNat a0_0.size) t106)==13)=false:=beq_eq_false_iff_ne.mpr c22;have c22b1:((bt (a0_0.extract (a0_1:Int).toNat a0_0.size) t106)!=13)=true:=bne_iff_ne.mpr c22;(first|rw[c22b0]|(simp only[i64_w,i32_w];rw[c22b0])|rw[c22b1]|(rw[c22b2];simp only[Bool.not_true,Bool.not_false])|skip);have H':=Aside0.mk H;clear H;go_wp2
         go_meet
         case rel=>exact⟨_,(false),zz4,H',⟨zz55⟩,⟨zz69⟩,⟨zz124⟩,⟨zz36⟩⟩
       ·rw[if_neg c19]at H;exact absurd H (by simp)
      ·rw[if_neg c18]at H;exact absurd H (by simp)
    case rest=>
     clear HC13;(try clear c1);(try clear c2);(try clear p2);(try clear q2);(try clear hx2);(try clear c3);(try clear c6);(try clear p6);(try clear c7);(try clear c9);(try clear c10);(try clear c10b0);(try clear c10b1);(try clear c11);(try clear c11b0);(try clear c11b1);(try clear c14);(try clear c17);(try clear c17b0);(try clear c18);(try clear c18b0);(try clear c19);(try clear c19b0);(try clear p20);(try clear q20);(try clear hx20);(try clear c22);(try clear c22b0);(try clear c22b1);(try clear hcz15_0);(try clear hcz15_1);(try clear hcz7_0);(try clear hcz7_1);(try clear hfz15_0);(try clear hfz15_1);(try clear hfz7_0);(try clear hfz7_1);(try clear p20);(try clear q20);obtain⟨kq,x18_12,rfl,HA,HJ12,BK103,BK104,HB⟩:=hcut
     cases kq with
     |zero=>exact absurd HA.out (by simp[impl_TakeLine.j0])
     |succ kj12=>
      have H:=HA.out;clear HA;simp only[impl_TakeLine.j0]at H
      by_cases c23:x18_12=true
      ·subst c23;rw[if_pos rfl]at H;simp only[Option.some.injEq,Prod.mk.injEq]at H;obtain⟨rfl,rfl,rfl,rfl⟩:=H;have hnb24:=NB104_103.out;have hnc24:=NB103_104.out;obtain⟨_,_,_,_⟩:=cells2_ BK104.out;go_wp2
       refine bodyPost_ret (results_list (rs:= [.tmp 2,.cell 3 41,.tmp 4]) rfl (by simp) (.tmp (.cell gb104 41 #[.string (⟨#[]⟩:ByteArray),.int .i64 0] (0,0) _ rfl zz41 Tryz.underlying41 rfl (by kernel_rfl) (.tmp .nil)))) rfl ?_;exact⟨zz1,zz36⟩
      ·replace c23:=Bool.eq_false_iff.mpr c23;subst c23;rw[if_neg Bool.false_ne_true]at H
       by_cases c26:0≤t106
       ·rw[if_pos c26]at H;have c26b0:decide (0≤t106)=true:=decide_eq_true c26;clear c26
        by_cases c27:t106<((a0_0.extract (a0_1:Int).toNat a0_0.size).size:Int)
        ·rw[if_pos c27]at H;have c27b0:decide (t106<((a0_0.extract (a0_1:Int).toNat a0_0.size).size:Int))=true:=decide_eq_true c27;(try have c27x:=c27b0;simp only[ByteArray.size_extract,Nat.min_self]at c27x;have c27y:=eq_true (of_decide_eq_true c27x));clear c27;have HC29:=Aside0.mk H;clear H;have p28:0≤(t106:Int):=of_decide_eq_true zz16;have q28:t106<((a0_0.extract (a0_1:Int).toNat a0_0.size).size:Int):=of_decide_eq_true zz16;have hx28:=bt_at (a0_0.extract (a0_1:Int).toNat a0_0.size) t106;replace p28:=eq_true p28;replace q28:=eq_true q28
         repeat' (first|(go_big_may;(fail))|go_values|go_skip|go_big_skip|go_big_want|((first|(with_reducible refine gate_nog rfl ?_)|(fail_if_success with_reducible refine gate_any ?_));go_step)|go_upon|simp only[Bool.not_true,Bool.not_false,Bool.true_and,Bool.false_and,Bool.true_or,Bool.false_or]|dsimp only)
         have H:=HC29.out;clear HC29
         by_cases c30:(bt (a0_0.extract (a0_1:Int).toNat a0_0.size) t106)=13
         ·rw[if_pos c30]at H;have c30b0:((bt (a0_0.extract (a0_1:Int).toNat a0_0.size) t106)==13)=true:=beq_iff_eq.mpr c30;have c30b1:((bt (a0_0.extract (a0_1:Int).toNat a0_0.size) t106)!=13)=false:=bne_eq_false_iff_eq.mpr c30;clear c30;(first|rw[c30b0]|(simp only[i64_w,i32_w];rw[c30b0])|rw[c30b1]|(rw[c30b2];simp only[Bool.not_true,Bool.not_false])|skip);obtain⟨ji31,hji31⟩: ∃j_:Int,(wrap64 (t106+1))=j_:=⟨_,rfl⟩;replace H:(if 0≤(ji31)then(if(ji31)<((a0_0.extract (a0_1:Int).toNat a0_0.size).size:Int)then(if(bt (a0_0.extract (a0_1:Int).toNat a0_0.size) (ji31))=10 then(if t106≤((a0_0.extract (a0_1:Int).toNat a0_0.size).size:Int)then(some ((a0_0.extract (a0_1:Int).toNat a0_0.size).extract 0 (t106:Int).toNat,a0_0,wrap64 ((wrap64 (a0_1+t106))+2),0))else(none))else(some ((⟨#[]⟩:ByteArray),(⟨#[]⟩:ByteArray),0,2)))else(none))else(none))=some (r1,r2,r3,r4):=by first|(rw[hji31]at H;exact H)|(simp only[hji31]at H ⊢;exact H)
          have hji31w:(IntKind.i64.wrap (t106+1))=ji31:=(i64_w _).trans hji31
          by_cases c32:0≤(ji31)
          ·rw[if_pos c32]at H;have c32b0:decide (0≤(ji31))=true:=decide_eq_true c32;clear c32
           by_cases c33:(ji31)<((a0_0.extract (a0_1:Int).toNat a0_0.size).size:Int)
           ·rw[if_pos c33]at H;have c33b0:decide ((ji31)<((a0_0.extract (a0_1:Int).toNat a0_0.size).size:Int))=true:=decide_eq_true c33;(try have c33x:=c33b0;simp only[ByteArray.size_extract,Nat.min_self]at c33x;have c33y:=eq_true (of_decide_eq_true c33x));clear c33
            by_cases c35:(bt (a0_0.extract (a0_1:Int).toNat a0_0.size) (ji31))=10
            ·rw[if_pos c35]at H;have c35b0:((bt (a0_0.extract (a0_1:Int).toNat a0_0.size) (ji31))==10)=true:=beq_iff_eq.mpr c35;have c35b1:((bt (a0_0.extract (a0_1:Int).toNat a0_0.size) (ji31))!=10)=false:=bne_eq_false_iff_eq.mpr c35;clear c35;have c36b0:=eq_true (of_decide_eq_true zz16:0≤t106)
             by_cases c37:t106≤((a0_0.extract (a0_1:Int).toNat a0_0.size).size:Int)
             ·rw[if_pos c37]at H;have c37b0:=eq_true c37;have c37b1:decide (t106≤((a0_0.extract (a0_1:Int).toNat a0_0.size).size:Int))=true:=decide_eq_true c37;(try have c37x:=c37b1;simp only[ByteArray.size_extract,Nat.min_self]at c37x;have c37y:=eq_true (of_decide_eq_true c37x));clear c37;simp only[Option.some.injEq,Prod.mk.injEq]at H;obtain⟨rfl,rfl,rfl,rfl⟩:=H;have p34:0≤((ji31):Int):=of_decide_eq_true zz16;have q34:(ji31)<((a0_0.extract (a0_1:Int).toNat a0_0.size).size:Int):=of_decide_eq_true zz16;have hx34:=bt_at (a0_0.extract (a0_1:Int).toNat a0_0.size) (ji31);replace p34:=eq_true p34;replace q34:=eq_true q34;(try go_wp2);replace BK103:=Aside0.mk (blk_drew BK103.out);replace BK104:=Aside0.mk (blk_drew BK104.out);replace HB:=Aside0.mk (below_drew1 HB.out);refine st_ (n:=14) (S:=fun w'=>w'.cell? ⟨gb103,0,none⟩=some (.string a0_0)∧w'.cell? ⟨gb103,1,none⟩=some (.int .i64 a0_1)) (ds:= []) (hold2_ BK103.out) (fun hHeld=>?_);refine with_tabW impl_TakeLine.tab8 impl_TakeLine.bits8 (fun HT_ HW_=>?_);generalize wc.drew=w38 at BK103 BK104 HB hHeld ⊢;refine pz 0 47 ?_;refine pz 1 48 ?_;refine pz 2 49 ?_;refine pz 3 50 ?_;refine pz 5 52 ?_;refine pz 7 54 ?_;refine pz 11 2 ?_;refine tk0_ 4 51 hHeld ?_;refine tk0_ 6 53 hHeld ?_;refine pz 8 55 ?_;refine pz 9 56 ?_;refine pz 10 57 ?_;refine one_ (i:=12) (N:=none) #[true,true,true,true,true,true,true,true,true,true,true,true,true,false] rfl rfl (one_of HT_.out (by kernel_rfl)) (by decide) (fun K hK=>?_);have hs39:w38.cell? ⟨gb104,0,none⟩=some (.string (⟨#[]⟩:ByteArray)):=(blk_cell BK104.out 0).trans rfl;have hfs39:=blk_frozen BK104.out 0;have hns39_0:=NB103_104.out;have hms39_0:=NB104_103.out;have hs40:w38.cell? ⟨gb104,1,none⟩=some (.int .i64 0):=(blk_cell BK104.out 1).trans rfl;have hfs40:=blk_frozen BK104.out 1;have hns40_0:=NB103_104.out;have hms40_0:=NB104_103.out;refine skip_ (w1:=?_) (by rfl) rfl ?_ ?_;rotate_left
              ·go_simp;rfl
              refine hK.out _ _ ⟨((cell_far (p:=⟨gb104,_,none⟩) NB103_104.out _).trans (((cell_far (p:=⟨gb104,_,none⟩) NB103_104.out _).trans (hHeld.1)))),((cell_far (p:=⟨gb104,_,none⟩) NB103_104.out _).trans (((cell_far (p:=⟨gb104,_,none⟩) NB103_104.out _).trans (hHeld.2))))⟩ (fun hHeld=>?_);clear hK K;refine pz 13 4 ?_;refine done_ (done_of HT_.out (by kernel_rfl)) ?_;(try go_wp2);refine bodyPost_ret (results_list (rs:= [.tmp 2,.cell 3 41,.tmp 4]) rfl (by simp) (.tmp (.cell gb104 41 #[.string a0_0,.int .i64 (wrap64 ((wrap64 (a0_1+t106))+2))] (0,0) _ rfl (by(with_reducible repeat(first|refine blk_drewN ?_ _|refine blk_drew ?_|refine blk_alloc ?_ _));refine blk_put (cs:= #[.string a0_0,.int .i64 0]) ?_ 1 _ rfl;(with_reducible repeat(first|refine blk_drewN ?_ _|refine blk_drew ?_|refine blk_alloc ?_ _));refine blk_put (cs:= #[.string (⟨#[]⟩:ByteArray),.int .i64 0]) ?_ 0 _ rfl;(with_reducible repeat(first|refine blk_drewN ?_ _|refine blk_drew ?_|refine blk_alloc ?_ _));exact BK104.out) Tryz.underlying41 rfl (by kernel_rfl) (.tmp .nil)))) rfl ?_;exact⟨zz158,zz36⟩
             ·rw[if_neg c37]at H;exact absurd H (by simp)
            ·rw[if_neg c35]at H;have c35b0:((bt (a0_0.extract (a0_1:Int).toNat a0_0.size) (ji31))==10)=false:=beq_eq_false_iff_ne.mpr c35;have c35b1:((bt (a0_0.extract (a0_1:Int).toNat a0_0.size) (ji31))!=10)=true:=bne_iff_ne.mpr c35;simp only[Option.some.injEq,Prod.mk.injEq]at H;obtain⟨rfl,rfl,rfl,rfl⟩:=H;have p34:0≤((ji31):Int):=of_decide_eq_true zz16;have q34:(ji31)<((a0_0.extract (a0_1:Int).toNat a0_0.size).size:Int):=of_decide_eq_true zz16;have hx34:=bt_at (a0_0.extract (a0_1:Int).toNat a0_0.size) (ji31);replace p34:=eq_true p34;replace q34:=eq_true q34;have hnb41:=NB104_103.out;have hnc41:=NB103_104.out;obtain⟨_,_,_,_⟩:=cells2_ BK104.out;go_wp2
             refine bodyPost_ret (results_list (rs:= [.tmp 2,.cell 3 41,.tmp 4]) rfl (by simp) (.tmp (.cell gb104 41 #[.string (⟨#[]⟩:ByteArray),.int .i64 0] (0,0) _ rfl zz41 Tryz.underlying41 rfl (by kernel_rfl) (.tmp .nil)))) rfl ?_;exact⟨zz158,zz36⟩
           ·rw[if_neg c33]at H;exact absurd H (by simp)
          ·rw[if_neg c32]at H;exact absurd H (by simp)
         ·rw[if_neg c30]at H;have c30b0:((bt (a0_0.extract (a0_1:Int).toNat a0_0.size) t106)==13)=false:=beq_eq_false_iff_ne.mpr c30;have c30b1:((bt (a0_0.extract (a0_1:Int).toNat a0_0.size) t106)!=13)=true:=bne_iff_ne.mpr c30;(first|rw[c30b0]|(simp only[i64_w,i32_w];rw[c30b0])|rw[c30b1]|(rw[c30b2];simp only[Bool.not_true,Bool.not_false])|skip);simp only[Option.some.injEq,Prod.mk.injEq]at H;obtain⟨rfl,rfl,rfl,rfl⟩:=H;have hnb43:=NB104_103.out;have hnc43:=NB103_104.out;obtain⟨_,_,_,_⟩:=cells2_ BK104.out;go_wp2
          refine bodyPost_ret (results_list (rs:= [.tmp 2,.cell 3 41,.tmp 4]) rfl (by simp) (.tmp (.cell gb104 41 #[.string (⟨#[]⟩:ByteArray),.int .i64 0] (0,0) _ rfl zz41 Tryz.underlying41 rfl (by kernel_rfl) (.tmp .nil)))) rfl ?_;exact⟨zz1,zz36⟩
        ·rw[if_neg c27]at H;exact absurd H (by simp)
       ·rw[if_neg c26]at H;exact absurd H (by simp)
   ·rw[if_neg c11]at H;exact absurd H (by simp)
  ·rw[if_neg c10]at H;exact absurd H (by simp)
 ·replace c9:=Bool.eq_false_iff.mpr c9;subst c9;rw[if_neg Bool.false_ne_true]at H;simp only[Option.some.injEq,Prod.mk.injEq]at H;obtain⟨rfl,rfl,rfl,rfl⟩:=H;have hnb45:=NB104_103.out;have hnc45:=NB103_104.out;obtain⟨_,_,_,_⟩:=cells2_ BK104.out;go_wp2
  refine bodyPost_ret (results_list (rs:= [.tmp 2,.cell 3 41,.tmp 4]) rfl (by simp) (.tmp (.cell gb104 41 #[.string (⟨#[]⟩:ByteArray),.int .i64 0] (0,0) _ rfl zz41 Tryz.underlying41 rfl (by kernel_rfl) (.tmp .nil)))) rfl ?_;exact⟨zz1,zz36⟩
def strings_Cut.f (a0 a1:ByteArray):Option (ByteArray×ByteArray×Bool):=if a0.size<4294967281 then some (⟨(Lib.cut a0.data.toList a1.data.toList).1.toArray⟩,⟨(Lib.cut a0.data.toList a1.data.toList).2.1.toArray⟩,(Lib.cut a0.data.toList a1.data.toList).2.2)else none
theorem strings_Cut.calls (a0 a1 r1 r2:ByteArray) (r3:Bool) (w:World) (hG:Gl w) (h:strings_Cut.f a0 a1=some (r1,r2,r3)):
  Calls Tryz.prog 32 #[.string a0,.string a1] w fun e w'=>e= .returned (.tuple #[.string r1,.string r2,.bool r3])∧Below w.heap.size w w':=by
 unfold strings_Cut.f at h
 by_cases hs:a0.size<4294967281
 ·rw[if_pos hs]at h;obtain⟨rfl,rfl,rfl⟩:_∧_∧_:=by simpa only[Option.some.injEq,Prod.mk.injEq]using h
  obtain⟨m,hm⟩:=hG.maxLen;refine(Tryz.strings_Cut a0 a1 m w hs hm).mono ?_;rintro e w' ⟨he,n,hw⟩;subst hw;exact⟨he,pw_below_drewN (Below.refl _ _) n⟩
 ·rw[if_neg hs]at h;cases h
def impl_isDigit.f (a0:Int):Option (Bool):=if a0≥48 then(some (decide (a0≤57)))else(some false)
theorem impl_isDigit.calls (a0:Int) (r:Bool) (w:World) (h:impl_isDigit.f a0=some r):
  Calls Tryz.prog 104 #[.int .u8 a0] w fun e w'=>e= .returned (.bool r)∧Drawn0 w w':=by
 have H:(if a0≥48 then(some (decide (a0≤57)))else(some false))=some r:=h;clear h
 by_cases c2:a0≥48
 ·rw[if_pos c2]at H;have c2b0:decide (48≤a0)=true:=decide_eq_true c2;clear c2;obtain rfl:=Option.some.inj H;go_enter Tryz.func104,Tryz.ntmps104
  go_wp2
  go_ret;exact⟨zz4,zz7⟩
 ·rw[if_neg c2]at H;have c2b0:decide (48≤a0)=false:=decide_eq_false c2;clear c2;obtain rfl:=Option.some.inj H;go_enter Tryz.func104,Tryz.ntmps104
  go_wp2
  go_ret;exact⟨zz4,zz7⟩
end Go.Proofs.YtnilblnhlpnpgaaGreatDoor.GFnTwice
