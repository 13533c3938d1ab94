-- Printed by gen.py and its programs for this claim.
import Derived.Test.YtnilblnhlpnpgaaGreatDoorGFnExactGrammarx0
import Derived.Test.YtnilblnhlpnpgaaGreatDoorGFnExactGrammarx9
import Derived.Test.YtnilblnhlpnpgaaGreatDoorZFnExactGrammar
namespace Go.Proofs.YtnilblnhlpnpgaaGreatDoor.GFnExactGrammar
open Go.RowKit Go.Proofs.YtnilblnhlpnpgaaGreatDoorW.PrintWords Go.Proofs.YtnilblnhlpnpgaaGreatDoorW.PrintLast Go.Proofs.YtnilblnhlpnpgaaGreatDoorW.PrintMore Go.Proofs.YtnilblnhlpnpgaaGreatDoorW.Zs
set_option maxHeartbeats 40000000
set_option maxRecDepth 100000
attribute [local go_sem] max2_int min2_int max_two min_two max_three min_three max_four min_four
set_option linter.unusedVariables false
set_option linter.unusedSimpArgs false
def spec_Grammar.l0:Nat→ByteArray→Int→ByteArray→Int→Option (Int)
 |0,_,_,_,_=>none
 |k+1,x0,x3,x227000,x227001=>if x227001<(x0.size:Int)then((spec_l8loose.f k x227000 x227001).bind fun bt227=>(if bt227.2.2=true then(spec_Grammar.l0 k x0 (wrap64 (x3+1)) bt227.1 bt227.2.1)else(some (-1))))else(some x3)
def spec_Grammar.f (k:Nat) (a0:ByteArray):Option (Int):=if(a0.size:Int)>60000 then(some (-1))else(spec_Grammar.l0 k a0 0 a0 0)
theorem spec_Grammar.calls (k:Nat) (a0:ByteArray) (r:Int) (w:World) (h:spec_Grammar.f k a0=some r):
  Calls Tryz.prog 7 #[.string a0] w fun e w'=>e= .returned (.int .i64 r)∧Below w.heap.size w w':=by
 have hu41:=Tryz.underlying41;have HB:=Aside0.mk (Below.refl w.heap.size w);have H:(if(a0.size:Int)>60000 then(some (-1))else(spec_Grammar.l0 k a0 0 a0 0))=some r:=h;clear h
 by_cases c2:(a0.size:Int)>60000
 ·rw[if_pos c2]at H;have c2b0:decide (60000<(a0.size:Int))=true:=decide_eq_true c2;have c2b1:decide (60000<a0.size)=true:=decide_eq_true (by omega);clear c2;obtain rfl:=Option.some.inj H;go_enter Tryz.func7,Tryz.ntmps7
  go_wp2
  go_ret;exact⟨zz2,zz0⟩
 ·rw[if_neg c2]at H;have c2b0:decide (60000<(a0.size:Int))=false:=decide_eq_false c2;have c2b1:decide (60000<a0.size)=false:=decide_eq_false (by omega);clear c2;have H':=Aside0.mk H;clear H;go_enter Tryz.func7,Tryz.ntmps7
  go_wp2_with (first|((with_reducible refine gate_dst (N:=4) rfl ?_);refine boxP_ (N:=4) (cs:= #[.string (⟨#[]⟩:ByteArray),.int .i64 0]) (t:=41) ?_;intro gb226 hg w3 hbox hb;have BK226:=Aside0.mk (hbox);have GE226:=geb_ (w:=w) hg zz0;replace HB:=Aside0.mk (below_step zz0 hb);clear hb hbox hg;obtain⟨_,_,_,_⟩:=cells2_ BK226.out))
  go_loopg [3] k (fun kq v3 w'=> ∃(x3_1:Int) (x227000_1:ByteArray) (x227001_1:Int),v3= .int .i64 x3_1∧Aside0 (spec_Grammar.l0 kq a0 x3_1 x227000_1 x227001_1=some r)∧Aside0 (kq≤k)∧Aside0 (w'.heap[gb226]?=some (.cells #[.string x227000_1,.int .i64 x227001_1] 41 (0,0)))∧Aside0 (Below w.heap.size w w'))
  case atStart=>exact⟨(0),(a0),(0),zz3,H',⟨Nat.le_refl _⟩,⟨by(with_reducible repeat(first|refine blk_drewN ?_ _|refine blk_drew ?_|refine blk_alloc ?_ _));refine blk_put (cs:= #[.string a0,.int .i64 0]) ?_ 1 _ rfl;(with_reducible repeat(first|refine blk_drewN ?_ _|refine blk_drew ?_|refine blk_alloc ?_ _));refine blk_put (cs:= #[.string (⟨#[]⟩:ByteArray),.int .i64 0]) ?_ 0 _ rfl;(with_reducible repeat(first|refine blk_drewN ?_ _|refine blk_drew ?_|refine blk_alloc ?_ _));exact BK226.out⟩,⟨zz54⟩⟩
  case round=>
   clear H';(try clear c2);(try clear c2b0);(try clear c2b1);(try clear p2);(try clear hcz4_0);(try clear hcz4_1);(try clear hfz4_0);(try clear hfz4_1);obtain⟨x3_1,x227000_1,x227001_1,rfl,HA,HK1,BK226,HB⟩:=hrel
   cases gk with
   |zero=>exact absurd HA.out (by simp[spec_Grammar.l0])
   |succ k1=>
    have H:=HA.out;clear HA;simp only[spec_Grammar.l0]at H
    by_cases c5:x227001_1<(a0.size:Int)
    ·rw[if_pos c5]at H;have c5b0:decide (x227001_1<(a0.size:Int))=true:=decide_eq_true c5;clear c5;replace H:=Option.bind_eq_some_iff.mp H;obtain⟨⟨t227,t228,t229⟩,A60,H⟩:=H;(try dsimp only at H);have A6:=Aside0.mk A60;clear A60;have HC7:=Aside0.mk H;clear H;obtain⟨_,_,_,_⟩:=cells2_ BK226.out;go_upto_if 23 with(first|((with_reducible refine gate_callee (f:=20) rfl ?_);refine goesR_ 19 Tryz.func20 #[.agg #[.string x227000_1,.int .i64 x227001_1]] (spec_l8loose.calls k1 x227000_1 x227001_1 t227 t228 t229 _ A6.out) ?_;rintro w9 hb;replace BK226:=Aside0.mk (blk_below zz83 hb);replace HB:=Aside0.mk (below_step zz54 hb);(try clear hb))|((with_reducible refine gate_dst (N:=5) rfl ?_);refine boxP_ (N:=5) (cs:= #[.string (⟨#[]⟩:ByteArray),.int .i64 0]) (t:=41) ?_;intro gb230 hg w10 hbox hb;have BK230:=Aside0.mk (hbox);have GE230:=geb_ (w:=w) hg zz54;replace HB:=Aside0.mk (below_step zz54 hb);have NB226_230:=nbL_ (g:=gb226) hg zz83;have NB230_226:=nbG_ (g:=gb226) hg zz83;replace BK226:=Aside0.mk (blk_below zz83 hb);clear hb hbox hg;have hnb11:=NB230_226.out;have hnc11:=NB226_230.out;obtain⟨_,_,_,_⟩:=cells2_ BK230.out))
     (try simp only[Act.put,List.setIfInBounds_toArray,List.set_cons_zero,List.set_cons_succ]);have H:=HC7.out;clear HC7
     by_cases c13:t229=true
     ·subst c13;rw[if_pos rfl]at H;have H':=Aside0.mk H;clear H;have hnb14:=NB230_226.out;have hnc14:=NB226_230.out;obtain⟨_,_,_,_⟩:=cells2_ BK230.out;obtain⟨_,_,_,_⟩:=cells2_ BK226.out;go_wp2
      go_roundg k1
      (case measure=>have:=HK1.out;omega);case rel=>exact⟨(wrap64 (x3_1+1)),(t227),(t228),zz3,H',⟨zz72⟩,⟨by(with_reducible repeat(first|refine blk_drewN ?_ _|refine blk_drew ?_|refine blk_alloc ?_ _));refine blk_put (cs:= #[.string t227,.int .i64 x227001_1]) ?_ 1 _ rfl;(with_reducible repeat(first|refine blk_drewN ?_ _|refine blk_drew ?_|refine blk_alloc ?_ _));refine blk_put (cs:= #[.string x227000_1,.int .i64 x227001_1]) ?_ 0 _ rfl;(iterate 2 ((with_reducible repeat(first|refine blk_drewN ?_ _|refine blk_drew ?_|refine blk_alloc ?_ _));refine blk_far ?_ NB226_230.out _));(with_reducible repeat(first|refine blk_drewN ?_ _|refine blk_drew ?_|refine blk_alloc ?_ _));exact BK226.out⟩,⟨zz99⟩⟩
     ·replace c13:=Bool.eq_false_iff.mpr c13;subst c13;rw[if_neg Bool.false_ne_true]at H;obtain rfl:=Option.some.inj H;go_wp2
      go_ret;exact⟨zz2,zz99⟩
    ·rw[if_neg c5]at H;have c5b0:decide (x227001_1<(a0.size:Int))=false:=decide_eq_false c5;clear c5;obtain rfl:=Option.some.inj H;obtain⟨_,_,_,_⟩:=cells2_ BK226.out;go_wp2
     go_ret;exact⟨zz2,zz54⟩
def impl_within.f (a0 a1 a2:Int):Option (Bool):=if a1≤a0 then(some (decide (a0≤a2)))else(some false)
theorem impl_within.calls (a0 a1 a2:Int) (r:Bool) (w:World) (h:impl_within.f a0 a1 a2=some r):
  Calls Tryz.prog 27 #[.int .i64 a0,.int .i64 a1,.int .i64 a2] w fun e w'=>e= .returned (.bool r)∧Drawn0 w w':=by
 have H:(if a1≤a0 then(some (decide (a0≤a2)))else(some false))=some r:=h;clear h
 by_cases c4:a1≤a0
 ·rw[if_pos c4]at H;have c4b0:decide (a1≤a0)=true:=decide_eq_true c4;clear c4;obtain rfl:=Option.some.inj H;go_enter Tryz.func27,Tryz.ntmps27
  go_wp2
  go_ret;exact⟨zz3,zz5⟩
 ·rw[if_neg c4]at H;have c4b0:decide (a1≤a0)=false:=decide_eq_false c4;clear c4;obtain rfl:=Option.some.inj H;go_enter Tryz.func27,Tryz.ntmps27
  go_wp2
  go_ret;exact⟨zz3,zz5⟩
def impl_CurOk.f (a0_0:ByteArray) (a0_1:Int):Option (Bool):=(impl_within.f a0_1 0 (a0_0.size:Int)).bind fun t232=>(some t232)
theorem impl_CurOk.calls (a0_0:ByteArray) (a0_1:Int) (r:Bool) (w:World) (h:impl_CurOk.f a0_0 a0_1=some r):
  Calls Tryz.prog 71 #[.agg #[.string a0_0,.int .i64 a0_1]] w fun e w'=>e= .returned (.bool r)∧Below w.heap.size w w':=by
 have hu41:=Tryz.underlying41;have HB:=Aside0.mk (Below.refl w.heap.size w);have H:((impl_within.f a0_1 0 (a0_0.size:Int)).bind fun t232=>(some t232))=some r:=h;clear h;replace H:=Option.bind_eq_some_iff.mp H;obtain⟨t232,A20,H⟩:=H;(try dsimp only at H);have A2:=Aside0.mk A20;clear A20;obtain rfl:=Option.some.inj H;go_enter Tryz.func71,Tryz.ntmps71
 go_wp2_with (first|((with_reducible refine gate_dst (N:=1) rfl ?_);refine boxP_ (N:=1) (cs:= #[.string a0_0,.int .i64 a0_1]) (t:=41) ?_;intro gb231 hg w3 hbox hb;have BK231:=Aside0.mk (hbox);have GE231:=geb_ (w:=w) hg zz0;replace HB:=Aside0.mk (below_step zz0 hb);clear hb hbox hg;obtain⟨_,_,_,_⟩:=cells2_ BK231.out)|((with_reducible refine gate_callee (f:=27) rfl ?_);refine goesR_ 8 Tryz.func27 #[.int .i64 a0_1,.int .i64 0,.int .i64 (a0_0.size:Int)] (impl_within.calls a0_1 0 (a0_0.size:Int) t232 _ A2.out) ?_;rintro w' ⟨nd,rfl⟩))
 go_ret;exact⟨zz2,by repeat(first|(with_reducible first|exact HB.out|apply below_alloc|apply pw_below_drewN|apply below_drew1|refine below_set ?_ GE231.out)|exact HB.out)⟩
def strings_IndexByte.f (a0:ByteArray) (a1:Int):Option (Int):=some (Lib.indexByte a0.data.toList a1.toNat.toUInt8)
theorem strings_IndexByte.calls (a0:ByteArray) (a1 r:Int) (w:World) (h:strings_IndexByte.f a0 a1=some r):
  Calls Tryz.prog 132 #[.string a0,.int .u8 a1] w fun e w'=>e= .returned (.int .i64 r)∧Drawn0 w w':=by
 obtain rfl:=Option.some.inj h;exact(Tryz.strings_IndexByte a0 a1 w).mono fun e w' ⟨he,hw⟩=>⟨he,hw ▸ Drawn0.refl w⟩
theorem ia_get_data (s:ByteArray) (i:Nat) (h:i<s.size):s.data.toList[i]?=some (s.get! i):=by
 have:=get_at s i h;rw[Nat.add_zero]at this;rw[this]
 show s.data.toList[i]?=some s.data[i]
 simp
theorem ia_decode_span (s:ByteArray) (pos:Nat) (h:pos<s.size) (ha:128≤(s[pos]'h).toNat): ∀k,k<(Utf8.decode s pos).2→ ∃b,s.data.toList[pos+k]?=some b∧128≤b.toNat:=by
 have h0:128≤(s.get! (pos+0)).toNat:=by rw[get_at s pos h];exact ha
 have key: ∀k,pos+k<s.size→128≤(s.get! (pos+k)).toNat→ ∃b,s.data.toList[pos+k]?=some b∧128≤b.toNat:=fun k hk hb=>⟨_,ia_get_data s _ hk,hb⟩;have hn: ¬(s.get! (pos+0)).toNat<128:=by omega
 intro k;simp only[Utf8.decode,hn,if_false]
 repeat' split
 all_goals intro hk
 all_goals simp only[Bool.and_eq_true,decide_eq_true_eq,beq_iff_eq]at*
 all_goals have hk4:k=0∨k=1∨k=2∨k=3:=by omega
 all_goals rcases hk4 with rfl|rfl|rfl|rfl
 all_goals first
  |(exact key 0 (by omega) h0)
  |(exact key _ (by omega) (by omega))
  |omega
theorem ia_run_next_any_at {P:Program} (W:World) (k:Nat) (s:ByteArray) (pos:Nat) (ty:TypeId) (hk:W.heap[k]?=some (.stringIter s pos)) (h:pos<s.size):
  (Instr.next (.pointer (some ⟨k,0,none⟩)) true ty).run P W=
   .ok (.tuple #[.bool true,.int .i64 pos,.int .i32 (Utf8.decode s pos).1]) {W with heap:=W.heap.setIfInBounds k (.stringIter s (pos+(Utf8.decode s pos).2))}:=by
 simp only[Instr.next,getObj,setObj,Sem.run_bind,Sem.run,hk,Result.andThen,h,if_true]
 simp[goInt]
theorem ia_run_next_end_at {P:Program} (W:World) (k:Nat) (s:ByteArray) (pos:Nat) (ty:TypeId) (hk:W.heap[k]?=some (.stringIter s pos)) (h: ¬pos<s.size):
  (Instr.next (.pointer (some ⟨k,0,none⟩)) true ty).run P W= .ok (.tuple #[.bool false]) W:=by
 simp[Instr.next,getObj,Sem.run,hk,h]
theorem ia_NoAny_span (s:ByteArray) (chars:List UInt8) (pos:Nat) (h:pos<s.size) (ha:128≤(s[pos]'h).toNat) (hc: ∀b∈chars,b.toNat<128) (hn:Lib.NoAny s.data.toList chars pos):Lib.NoAny s.data.toList chars (pos+(Utf8.decode s pos).2):=by
 intro j b hj hb
 by_cases hlt:j<pos
 ·exact hn j b hlt hb
 ·obtain⟨b',hb',hge⟩:=ia_decode_span s pos h ha (j-pos) (by omega);rw[show pos+(j-pos)=j by omega]at hb';rw[hb]at hb';obtain rfl:=Option.some.inj hb'
  cases hq:chars.contains b with
  |false=>rfl
  |true=>have:=hc b (by simpa using hq);omega
theorem ia_decode_in (s:ByteArray) (pos:Nat) (h:pos<s.size):pos+(Utf8.decode s pos).2≤s.size∧1≤(Utf8.decode s pos).2:=by
 simp only[Utf8.decode]
 repeat' split
 all_goals simp only[Bool.and_eq_true,decide_eq_true_eq,beq_iff_eq]at*
 all_goals omega
theorem ia_run_convert_int_string {P:Program} (w:World) (src dst:TypeId) (k:IntKind) (r:Int) (hs:P.underlying src=some (.int k)) (hd:P.underlying dst=some .string):
  (convert src dst (.int k r)).run P w= .ok (.string (Utf8.encode r)) w:=by
 simp[convert,run_underlying hs,run_underlying hd,Conv.intToString,Result.andThen]
theorem ia_enc_high (r:Nat) (h0:128≤r) (hv:Utf8.valid (r:Int)=true): ∃(n:Nat) (b:UInt8),(Utf8.encode (r:Int)).data.toList[n]?=some b∧128≤b.toNat∧(Utf8.encode (r:Int)).size=n+1∧1≤n∧n≤3:=by
 unfold Utf8.encode;simp only[hv,if_true,Int.toNat_natCast];rw[if_neg (by omega)]
 split
 ·exact⟨1,UInt8.ofNat (128+r%64),by simp,by simp;omega,rfl,by omega,by omega⟩
 ·split
  ·exact⟨2,UInt8.ofNat (128+r%64),by simp,by simp;omega,rfl,by omega,by omega⟩
  ·exact⟨3,UInt8.ofNat (128+r%64),by simp,by simp;omega,rfl,by omega,by omega⟩
theorem ia_quiet_add_same {P:Program} {f:FuncId} {args:Array Value} {w:World} {a n:Nat} {v:Value}
  (h:Calls P f args (w.drewN (a+n)) fun e w'=>e= .returned v∧w'=w.drewN (a+n)):
  Calls P f args (w.drewN (a+n)) fun e w''=>e= .returned v∧ ∃m,w''=w.drewN (a+m):=
 h.mono fun _ _ ⟨he,hm⟩=>⟨he,n,hm⟩
theorem ia_irempty (b:UInt8) (W:World):Calls Tryz.prog 132 #[.string ByteArray.empty,.int .u8 (b.toNat:Int)] W fun e w'=>e= .returned (.int .i64 (-1))∧w'=W:=
 (Tryz.strings_IndexByte ByteArray.empty (b.toNat:Int) W).mono fun e w' ⟨h1,h2⟩=>⟨h1,h2⟩
theorem ia_irune (chars:ByteArray) (h2:chars.size=2) (hc: ∀(j:Nat) b,chars.data.toList[j]?=some b→b.toNat<128) (r:Nat) (h0:128≤r) (h1:r≤2147483647) (w:World):
  Calls Tryz.prog 113 #[.string chars,.int .i32 r] w fun e w'=>e= .returned (.int .i64 (-1))∧Below w.heap.size w w':=by
 have p1:decide ((r:Int)<128)=false:=decide_eq_false (by omega);have p2:(0≤(r:Int))=True:=eq_true (by omega);have HC:=Aside0.mk hc;clear hc
 by_cases hE:r=65533
 ·subst hE;go_enter Tryz.func113,Tryz.ntmps113
  go_wp2
  go_loopg [5,6] 2 (fun g _ _ wx=> ∃i:Nat,i+g=2∧wx=w.iter chars i)
  case atStart=>exact⟨0,rfl,rfl⟩
  case round=>
   obtain⟨i,hig,rfl⟩:=hrel
   cases gk with
   |zero=>
    obtain rfl:i=2:=by omega
    have hnx:=fun ty=>run_next_end (P:=Tryz.prog) w chars 2 ty (by omega);go_wp2
    go_ret
    exact⟨rfl,⟨rfl,rfl,rfl,by simp[World.iter],fun k hk=>Below.heap_alloc w _ k hk⟩⟩
   |succ g=>
    have hi:i<chars.size:=by omega
    obtain⟨x,hx⟩: ∃x:UInt8,chars[i]'hi=x:=⟨_,rfl⟩;have hx128:x.toNat<128:=HC.out i x (by rw[←hx];exact Lib.data_getElem? chars i hi);have hnx:=fun ty=>run_next_ascii (P:=Tryz.prog) w chars i ty hi (by rw[hx];exact hx128);rw[hx]at hnx;have hne:((x.toNat:Int)==65533)=false:=beq_eq_false_iff_ne.2 (by omega);go_wp2
    go_roundg g
    (case measure=>omega);case rel=>exact⟨i+1,by omega,rfl⟩
 ·have hE1:((r:Int)==65533)=false:=beq_eq_false_iff_ne.2 (by omega)
  by_cases hv:Lib.validRune r=true
  ·have hval:Utf8.valid (r:Int)=true:=by
    simp[Lib.validRune,Utf8.valid]at hv ⊢
    omega
   obtain⟨n,b,hnb,hb,hsz,hn1,hn3⟩:=ia_enc_high r h0 hval;have kb:=fun W=>ia_run_convert_int_string (P:=Tryz.prog) W 21 9 .i32 (r:Int) Tryz.underlying21 Tryz.underlying9;generalize Utf8.encode (r:Int)=rs at hnb hsz kb;go_enter Tryz.func113,Tryz.ntmps113
   go_wp2_with (go_at_call 143;refine(Tryz.utf8_ValidRune _ _).mono ?_;rintro e w' ⟨rfl,hw⟩;rw[hw,hv])
   go_step3
   go_wp2_with fail
   go_loopg [9] 0 (fun g v9 w'=>v9= .int .i64 (n:Int)∧w=w')
   case atStart=>exact⟨by simp[hsz],rfl⟩
   case round=>
    obtain⟨rfl,rfl⟩:=hrel
    by_cases hn2:n=1
    ·subst hn2;have hi:1<chars.size:=by omega
     have hj:1<rs.size:=by omega
     have hx128:(chars[1]'hi).toNat<128:=HC.out 1 _ (Lib.data_getElem? chars 1 hi);have hrb:rs[1]'hj=b:=by have:=Lib.data_getElem? rs 1 hj;rw[hnb]at this;exact(Option.some.inj this).symm
     have hne:(((chars[1]'hi).toNat:Int)==((rs[1]'hj).toNat:Int))=false:=beq_eq_false_iff_ne.2 (by rw[hrb];omega);have hne2:(((chars[1]'hi).toNat:Int)!=((rs[1]'hj).toNat:Int))=true:=bne_iff_ne.2 (by rw[hrb];omega);have hnb1:(((chars[1]'hi).toNat:Int)==(b.toNat:Int))=false:=beq_eq_false_iff_ne.2 (by omega);have hnb2:(((chars[1]'hi).toNat:Int)!=(b.toNat:Int))=true:=bne_iff_ne.2 (by omega);have hnb3:((chars[1]'hi).toNat==b.toNat)=false:=beq_eq_false_iff_ne.2 (by omega);have hnb4:(chars[1]'hi).toNat≠b.toNat:=by omega
     go_wp2_with fail
     go_step3
     go_wp2_with fail
     go_quiet (fail)
     go_wp2_with fail
     have hw2:IntKind.i64.wrap 2=2:=by decide
     have hz2:(2:Int)≤(chars.size:Int):=by omega
     have HIB:=Aside0.mk (ia_irempty b);clear hnb1 hnb2 hnb3 hnb4 hne hne2 hx128;go_quiet ((go_at_call 132;exact ia_quiet_add_same (HIB.out _)))
     go_wp2_with fail
     go_simp;go_ret;exact⟨rfl,pw_below_drewN (Below.refl _ _) _⟩
    ·have c1:decide ((n:Int)<2)=false:=decide_eq_false (by omega);have c2:((n:Int)<2)=False:=eq_false (by omega);have c3:(n<2)=False:=eq_false (by omega);go_wp2_with fail
     rw[Exit.noGoto_ret];go_ret;exact⟨rfl,Below.refl _ _⟩
  ·have hv2:Lib.validRune r=false:=by simpa using hv
   go_enter Tryz.func113,Tryz.ntmps113
   go_wp2_with (go_at_call 143;refine(Tryz.utf8_ValidRune _ _).mono ?_;rintro e w' ⟨rfl,hw⟩;rw[hw,hv2])
   go_ret;exact⟨rfl,Below.refl _ _⟩
theorem ia_iter_heap_set (W:World) (k:Nat) (o:Obj) (hk:k<W.heap.size):({W with heap:=W.heap.setIfInBounds k o}:World).heap[k]?=some o:=by
 simp[hk]
theorem ia_iter_set_below {w W:World} (h:Below w.heap.size w W) (o:Obj):Below w.heap.size w {W with heap:=W.heap.setIfInBounds w.heap.size o}:=
 ⟨h.os,h.tape,h.output,by simpa using h.size,fun i hi=>by
  rw[←h.block i hi]
  show(W.heap.setIfInBounds w.heap.size o)[i]?=_
  rw[Array.getElem?_setIfInBounds_ne (by omega)]⟩
theorem ia_iany_short (s chars:ByteArray) (w:World) (h2:chars.size=2) (h8:s.size≤8) (hac: ∀(j:Nat) b,chars.data.toList[j]?=some b→b.toNat<128):
  Calls Tryz.prog 72 #[.string s,.string chars] w fun e w'=>e= .returned (.int .i64 (Lib.indexAny s.data.toList chars.data.toList))∧Below w.heap.size w w':=by
 have hemp:chars.toList.isEmpty=false:=by
  rw[Lib.toList_data]
  cases h:chars.data.toList with
  |nil=>have:=Lib.size_eq chars;rw[h,List.length_nil]at this;omega
  |cons _ _=>rfl
 have hn1:((chars.size:Int)==1)=false:=beq_eq_false_iff_ne.2 (by omega);have h8z:decide ((8:Int)<(s.size:Int))=false:=decide_eq_false (by omega);have IR:=Aside0.mk (ia_irune chars h2 hac);have HA:=Aside0.mk hac;have H2:=Aside0.mk h2;clear h2 hac;go_enter Tryz.func72,Tryz.ntmps72
 go_wp2_with (go_at_call 114;refine(Tryz.strings_shouldUseASCIISet _ _).mono ?_;rintro e w' ⟨rfl,hw⟩;rw[hw,h8z])
 go_loopg [9,10] s.size (fun g _ _ wx=> ∃i:Nat,i≤s.size∧s.size≤i+g∧Aside0 (wx.heap[w.heap.size]?=some (.stringIter s i))∧Aside0 (Below w.heap.size w wx)∧Aside0 (Lib.NoAny s.data.toList chars.data.toList i))
 case atStart=>exact⟨0,by omega,by omega,⟨World.iter_heap w s 0⟩,⟨below_alloc (Below.refl _ _) _⟩,⟨Lib.NoAny.zero _ _⟩⟩
 case round=>
  obtain⟨i,hil,hig,HI,HB,HN⟩:=hrel
  by_cases hi:i<s.size
  ·cases gk with
   |zero=>omega
   |succ g=>
    have hnx0:=fun ty=>ia_run_next_any_at (P:=Tryz.prog) wr w.heap.size s i ty HI.out hi;have hlt:w.heap.size<wr.heap.size:=blk_lt HI.out;have hin:=ia_decode_in s i hi;have HS0:=ia_NoAny_span s chars.data.toList i hi;obtain⟨W2,hW2⟩: ∃W2:World,{wr with heap:=wr.heap.setIfInBounds w.heap.size (.stringIter s (i+(Utf8.decode s i).2))}=W2:=⟨_,rfl⟩;have HI2:Aside0 (W2.heap[w.heap.size]?=some (.stringIter s (i+(Utf8.decode s i).2))):=⟨by rw[←hW2];exact ia_iter_heap_set wr _ _ hlt⟩;have HB2:Aside0 (Below w.heap.size w W2):=⟨by rw[←hW2];exact ia_iter_set_below HB.out _⟩;rw[hW2]at hnx0;clear hW2 hlt HB
    by_cases hx128:(s[i]'hi).toNat<128
    ·have hd:=decode_ascii s i hi hx128;obtain⟨x,hx⟩: ∃x:UInt8,s[i]'hi=x:=⟨_,rfl⟩;have hxl:s.data.toList[i]?=some x:=by rw[←hx];exact Lib.data_getElem? s i hi
     rw[hd]at hin HI2;simp only[hd,hx]at hnx0 HI2 hin;rw[hx]at hx128;have hnx:=hnx0;clear hnx0 HI hd HS0;have Hx:=Aside0.mk hxl;clear hxl hx;have hcon:=Lib.contains_iff_indexByte chars.data.toList x;have hback:((x.toNat:Int)).toNat.toUInt8=x:=by simp
     cases hinc:chars.data.toList.contains x
     ·rw[hinc]at hcon;have hltb: ¬((0:Int)≤Lib.indexByte chars.data.toList x):=of_decide_eq_false hcon.symm;clear hcon;go_wp2_with (go_at_call 113;refine(Tryz.strings_IndexRune_ascii _ _ _ (by omega) (by omega)).mono ?_;rintro e w' ⟨rfl,hw⟩;rw[hw,hback])
      go_roundg g
      (case measure=>omega);case rel=>exact⟨i+1,by omega,by omega,HI2,HB2,⟨HN.out.succ Hx.out hinc⟩⟩
     ·rw[hinc]at hcon;have hge:(0:Int)≤Lib.indexByte chars.data.toList x:=of_decide_eq_true hcon.symm;clear hcon;go_wp2_with (go_at_call 113;refine(Tryz.strings_IndexRune_ascii _ _ _ (by omega) (by omega)).mono ?_;rintro e w' ⟨rfl,hw⟩;rw[hw,hback])
      go_ret;exact⟨by rw[Lib.indexAny_hit HN.out Hx.out hinc];rfl,HB2.out⟩
    ·have hd:=decode_high s i hi (by omega);have hle:=decode_le s i;have HS:=Aside0.mk (HS0 (by omega) (fun b hb=>by obtain⟨j,hj⟩:=List.mem_iff_getElem?.1 hb;exact HA.out j b hj) HN.out);clear HS0 hx128 HN;obtain⟨dd,hdd⟩: ∃dd,Utf8.decode s i=dd:=⟨_,rfl⟩;rw[hdd]at HS hd hle HI2 hin;simp only[hdd]at hnx0;have hnx:=hnx0;clear hnx0 HI hdd;obtain⟨rr,nn⟩:=dd;dsimp only at hnx HS hd hle HI2 hin;go_wp2_with (go_at_call 113;(with_reducible refine(IR.out rr (by omega) (by omega) _).mono ?_);rintro e w' ⟨rfl,hb⟩;have hI3:=Aside0.mk (blk_below HI2.out hb);have hB3:=Aside0.mk (below_step HB2.out hb);clear hb)
     go_roundg g
     (case measure=>omega);case rel=>exact⟨i+nn,by omega,by omega,hI3,hB3,HS⟩
  ·obtain rfl:i=s.size:=by omega
   have hnx:=fun ty=>ia_run_next_end_at (P:=Tryz.prog) wr w.heap.size s s.size ty HI.out hi;go_wp2
   go_ret;exact⟨by rw[Lib.indexAny_none (by rw[←Lib.size_eq];exact HN.out)];rfl,HB.out⟩
def strings_IndexAny.f (a0 a1:ByteArray):Option Int:=if a0.size<4294967281∧a1.size=2∧(a1.data.toList.all fun b=>decide (b.toNat<128))=true then some (Lib.indexAny a0.data.toList a1.data.toList)else none
theorem strings_IndexAny.calls (a0 a1:ByteArray) (r:Int) (w:World) (h:strings_IndexAny.f a0 a1=some r):
  Calls Tryz.prog 72 #[.string a0,.string a1] w fun e w'=>e= .returned (.int .i64 r)∧Below w.heap.size w w':=by
 unfold strings_IndexAny.f at h
 by_cases hl:a0.size<4294967281∧a1.size=2∧(a1.data.toList.all fun b=>decide (b.toNat<128))=true
 ·rw[if_pos hl]at h;obtain⟨hs,h2,ha⟩:=hl;have hac: ∀(j:Nat) b,a1.data.toList[j]?=some b→b.toNat<128:=fun j b hj=>of_decide_eq_true (List.all_eq_true.1 ha b (List.mem_iff_getElem?.2 ⟨j,hj⟩));obtain rfl:=Option.some.inj h
  by_cases h8:a0.size≤8
  ·exact ia_iany_short a0 a1 w h2 h8 hac
  ·refine(Any.strings_IndexAny_long Tryz.lays153 (zero_of_info (t:=108) (n:=256) (by kernel_rfl)).1 (by kernel_rfl) a0 a1 w (by omega) (by omega) hs (by omega) hac).mono fun e w' ⟨h1,h2⟩=>⟨h1,?_⟩;rw[h2];exact((Below.refl _ _).alloc (Nat.le_refl _) _).alloc (by simp) _
 ·rw[if_neg hl]at h;cases h
end Go.Proofs.YtnilblnhlpnpgaaGreatDoor.GFnExactGrammar
