-- Printed by gen.py and its programs for this claim.
import Derived.Test.YthmehmehoehlpaaGreatDoorGFnExactRecTextx0
import Derived.Test.YthmehmehoehlpaaGreatDoorGFnExactRecTextx16
import Derived.Test.YthmehmehoehlpaaGreatDoorGFnExactRecTextx19
import Derived.Test.YthmehmehoehlpaaGreatDoorZFnExactRecText
namespace Go.Proofs.YthmehmehoehlpaaGreatDoor.GFnExactRecText
open Go.RowKit Go.Proofs.YthmehmehoehlpaaGreatDoorW.PrintWords Go.Proofs.YthmehmehoehlpaaGreatDoorW.PrintLast Go.Proofs.YthmehmehoehlpaaGreatDoorW.PrintMore Go.Proofs.YthmehmehoehlpaaGreatDoorW.Zs
set_option maxHeartbeats 40000000
set_option maxRecDepth 100000
attribute [local go_sem] max2_int min2_int max_two min_two max_three min_three max_four min_four
set_option linter.unusedVariables false
set_option linter.unusedSimpArgs false
def spec_RecText.f (k:Nat) (a0 a1 a2:Int) (a3:ByteArray) (a4:Int) (a5 a6:ByteArray):Option (ByteArray):=(spec_RecOk.f k a0 a1 a2 a3 a4 a5 a6).bind fun t0=>(if t0=true then((spec_l8text.f k a0 a1 a2 a3 a4 a5 a6).bind fun t1=>(some t1))else(some (⟨#[]⟩:ByteArray)))
theorem spec_RecText.calls (k:Nat) (a0 a1 a2:Int) (a3:ByteArray) (a4:Int) (a5 a6 r:ByteArray) (w:World) (H:spec_RecText.f k a0 a1 a2 a3 a4 a5 a6=some r):
  Calls Tryz.prog 5 #[.agg #[.int .i64 a0,.int .i64 a1,.int .i64 a2,.string a3,.int .i64 a4,.string a5,.string a6]] w fun e w'=>e= .returned (.string r)∧Below w.heap.size w w':=by
 have hu26:=Tryz.underlying26;have HB:=Aside0.mk (Below.refl w.heap.size w);unfold spec_RecText.f at H;replace H:=bS_ H;obtain⟨t0,A0,H⟩:=H;(try dsimp only at H);have C0:=Aside0.mk H;clear H;go_enter Tryz.func5,Tryz.ntmps5
 go_upto_if 5 with(first|((with_reducible refine gate_dst (N:=1) rfl ?_);refine boxP_ (N:=1) (cs:= #[.int .i64 a0,.int .i64 a1,.int .i64 a2,.string a3,.int .i64 a4,.string a5,.string a6]) (t:=26) ?_;intro g0 hg w0 hbox hb;have B0:=Aside0.mk (hbox);have G0:=geb_ (w:=w) hg zb_;replace HB:=Aside0.mk (below_step zb_ hb);clear hb hbox hg;obtain⟨_,_,_,_,_,_,_,_,_,_,_,_,_,_⟩:=cells7_ B0.out)|((with_reducible refine gc_ 8 rfl ?_);refine gR 4 Tryz.func8 (spec_RecOk.calls k a0 a1 a2 a3 a4 a5 a6 t0 _ A0.out) ?_;rintro w1 hb;replace B0:=Aside0.mk (blk_below (bk_ B0) hb);replace HB:=Aside0.mk (below_step zb_ hb);(try clear hb)))
 (try simp only[Act.put,List.setIfInBounds_toArray,List.set_cons_zero,List.set_cons_succ]);have H:=C0.out;clear C0
 by_cases c0:t0=true
 ·subst c0;rw[if_pos rfl]at H;replace H:=bS_ H;obtain⟨t1,A1,H⟩:=H;(try dsimp only at H);obtain rfl:=Option.some.inj H;obtain⟨_,_,_,_,_,_,_,_,_,_,_,_,_,_⟩:=cells7_ B0.out;go_wp2_with (first|((with_reducible refine gc_ 9 rfl ?_);refine gR 7 Tryz.func9 (spec_l8text.calls k a0 a1 a2 a3 a4 a5 a6 t1 _ A1.out) ?_;rintro w2 hb;replace B0:=Aside0.mk (blk_below (bk_ B0) hb);replace HB:=Aside0.mk (below_step zb_ hb);(try clear hb)))
  go_ret;exact⟨ze_,zb_⟩
 ·replace c0:=Bool.eq_false_iff.mpr c0;subst c0;rw[if_neg Bool.false_ne_true]at H;obtain rfl:=Option.some.inj H;go_wp2
  go_ret;exact⟨ze_,zb_⟩
def laws_toRec.f (a0 a1 a2:Int) (a3:ByteArray) (a4:Int) (a5 a6:ByteArray):Option (Int×Int×Int×ByteArray×Int×ByteArray×ByteArray):=some (a0,a1,a2,a3,a4,a5,a6)
theorem laws_toRec.calls (a0 a1 a2:Int) (a3:ByteArray) (a4:Int) (a5 a6:ByteArray) (r1 r2 r3:Int) (r4:ByteArray) (r5:Int) (r6 r7:ByteArray) (w:World) (H:laws_toRec.f a0 a1 a2 a3 a4 a5 a6=some (r1,r2,r3,r4,r5,r6,r7)):
  Calls Tryz.prog 6 #[.agg #[.int .i64 a0,.int .i64 a1,.int .i64 a2,.string a3,.int .i64 a4,.string a5,.string a6]] w fun e w'=>e= .returned (.agg #[.int .i64 r1,.int .i64 r2,.int .i64 r3,.string r4,.int .i64 r5,.string r6,.string r7])∧Below w.heap.size w w':=by
 have hu23:=Tryz.underlying23;have hu26:=Tryz.underlying26;have HB:=Aside0.mk (Below.refl w.heap.size w);unfold laws_toRec.f at H;simp only[Option.some.injEq,Prod.mk.injEq]at H;obtain⟨rfl,rfl,rfl,rfl,rfl,rfl,rfl⟩:=H;go_enter Tryz.func6,Tryz.ntmps6
 go_wp2_with (first|((with_reducible refine gate_dst (N:=1) rfl ?_);refine boxP_ (N:=1) (cs:= #[.int .i64 a0,.int .i64 a1,.int .i64 a2,.string a3,.int .i64 a4,.string a5,.string a6]) (t:=23) ?_;intro g0 hg w0 hbox hb;have B0:=Aside0.mk (hbox);have G0:=geb_ (w:=w) hg zb_;replace HB:=Aside0.mk (below_step zb_ hb);clear hb hbox hg)|((with_reducible refine gate_dst (N:=2) rfl ?_);refine boxP_ (N:=2) (cs:= #[.int .i64 0,.int .i64 0,.int .i64 0,.string (⟨#[]⟩:ByteArray),.int .i64 0,.string (⟨#[]⟩:ByteArray),.string (⟨#[]⟩:ByteArray)]) (t:=26) ?_;intro g1 hg w1 hbox hb;have B1:=Aside0.mk (hbox);have G1:=geb_ (w:=w) hg zb_;replace HB:=Aside0.mk (below_step zb_ hb);have N0:=nbL_ (g:=g0) hg (bk_ B0);have N1:=nbG_ (g:=g0) hg (bk_ B0);replace B0:=Aside0.mk (blk_below (bk_ B0) hb);clear hb hbox hg)|((with_reducible refine gate_dst (N:=3) rfl ?_);refine boxP_ (N:=3) (cs:= #[.int .i64 0,.int .i64 0,.int .i64 0,.string (⟨#[]⟩:ByteArray),.int .i64 0,.string (⟨#[]⟩:ByteArray),.string (⟨#[]⟩:ByteArray)]) (t:=26) ?_;intro g2 hg w2 hbox hb;have B2:=Aside0.mk (hbox);have G2:=geb_ (w:=w) hg zb_;replace HB:=Aside0.mk (below_step zb_ hb);have N2:=nbL_ (g:=g0) hg (bk_ B0);have N3:=nbG_ (g:=g0) hg (bk_ B0);replace B0:=Aside0.mk (blk_below (bk_ B0) hb);have N4:=nbL_ (g:=g1) hg (bk_ B1);have N5:=nbG_ (g:=g1) hg (bk_ B1);replace B1:=Aside0.mk (blk_below (bk_ B1) hb);clear hb hbox hg;have n0:=N0.out;have n1:=N1.out;have n2:=N2.out;have n3:=N3.out;obtain⟨_,_,_,_,_,_,_,_,_,_,_,_,_,_⟩:=cells7_ B0.out;have n4:=N5.out;have n5:=N4.out;obtain⟨_,_,_,_,_,_,_,_,_,_,_,_,_,_⟩:=cells7_ B2.out;obtain⟨_,_,_,_,_,_,_,_,_,_,_,_,_,_⟩:=cells7_ B1.out))
 refine bodyPost_ret (results_cell_row rfl _ _ g1 26 #[.int .i64 a0,.int .i64 a1,.int .i64 a2,.string a3,.int .i64 a4,.string a5,.string a6] (0,0) _ rfl (bk_ B1) Tryz.underlying26 rfl zz0) rfl ?_;exact⟨ze_,by repeat(first|(with_reducible first|exact HB.out|apply below_alloc|apply pw_below_drewN|apply below_drew1|refine below_set ?_ G0.out|refine below_set ?_ G1.out|refine below_set ?_ G2.out)|exact HB.out)⟩
def impl_within.f (a0 a1 a2:Int):Option (Bool):=if a1≤a0 then(some (decide (a0≤a2)))else(some false)
theorem impl_within.calls (a0 a1 a2:Int) (r:Bool) (w:World) (H:impl_within.f a0 a1 a2=some r):
  Calls Tryz.prog 21 #[.int .i64 a0,.int .i64 a1,.int .i64 a2] w fun e w'=>e= .returned (.bool r)∧Drawn0 w w':=by
 unfold impl_within.f at H
 by_cases c0:a1≤a0
 ·rw[if_pos c0]at H;have f0:=decide_eq_true c0;clear c0;obtain rfl:=Option.some.inj H;go_enter Tryz.func21,Tryz.ntmps21
  go_wp2
  go_ret;exact⟨zr_,zd_⟩
 ·rw[if_neg c0]at H;have f0:=decide_eq_false c0;clear c0;obtain rfl:=Option.some.inj H;go_enter Tryz.func21,Tryz.ntmps21
  go_wp2
  go_ret;exact⟨zr_,zd_⟩
def impl_isId.f (a0:Int):Option (Bool):=(impl_within.f a0 0 999999).bind fun t0=>(some t0)
theorem impl_isId.calls (a0:Int) (r:Bool) (w:World) (H:impl_isId.f a0=some r):
  Calls Tryz.prog 22 #[.int .i64 a0] w fun e w'=>e= .returned (.bool r)∧Drawn0 w w':=by
 unfold impl_isId.f at H;replace H:=bS_ H;obtain⟨t0,A0,H⟩:=H;(try dsimp only at H);obtain rfl:=Option.some.inj H;go_enter Tryz.func22,Tryz.ntmps22
 go_wp2_with (first|((with_reducible refine gc_ 21 rfl ?_);refine gR 4 Tryz.func21 (impl_within.calls a0 0 999999 t0 _ A0.out) ?_;rintro w' ⟨nd,rfl⟩))
 go_ret;exact⟨zr_,zd_⟩
def impl_isTime.f (a0:Int):Option (Bool):=(impl_within.f a0 0 253402300799).bind fun t0=>(some t0)
theorem impl_isTime.calls (a0:Int) (r:Bool) (w:World) (H:impl_isTime.f a0=some r):
  Calls Tryz.prog 23 #[.int .i64 a0] w fun e w'=>e= .returned (.bool r)∧Drawn0 w w':=by
 unfold impl_isTime.f at H;replace H:=bS_ H;obtain⟨t0,A0,H⟩:=H;(try dsimp only at H);obtain rfl:=Option.some.inj H;go_enter Tryz.func23,Tryz.ntmps23
 go_wp2_with (first|((with_reducible refine gc_ 21 rfl ?_);refine gR 4 Tryz.func21 (impl_within.calls a0 0 253402300799 t0 _ A0.out) ?_;rintro w' ⟨nd,rfl⟩))
 go_ret;exact⟨zr_,zd_⟩
def impl_isVisible.f (a0:Int):Option (Bool):=if a0≥33 then(some (decide (a0≤126)))else(some false)
theorem impl_isVisible.calls (a0:Int) (r:Bool) (w:World) (H:impl_isVisible.f a0=some r):
  Calls Tryz.prog 84 #[.int .u8 a0] w fun e w'=>e= .returned (.bool r)∧Drawn0 w w':=by
 unfold impl_isVisible.f at H
 by_cases c0:a0≥33
 ·rw[if_pos c0]at H;have f0:=decide_eq_true c0;clear c0;obtain rfl:=Option.some.inj H;go_enter Tryz.func84,Tryz.ntmps84
  go_wp2
  go_ret;exact⟨zr_,zd_⟩
 ·rw[if_neg c0]at H;have f0:=decide_eq_false c0;clear c0;obtain rfl:=Option.some.inj H;go_enter Tryz.func84,Tryz.ntmps84
  go_wp2
  go_ret;exact⟨zr_,zd_⟩
def strings_Index.f (a0 a1:ByteArray):Option (Int):=if a0.size<4294967281 then some (Lib.index a0.data.toList a1.data.toList)else none
theorem strings_Index.calls (a0 a1:ByteArray) (r:Int) (w:World) (hG:Gl w) (h:strings_Index.f a0 a1=some r):
  Calls Tryz.prog 44 #[.string a0,.string a1] w fun e w'=>e= .returned (.int .i64 r)∧Below w.heap.size w w':=by
 unfold strings_Index.f at h
 by_cases hs:a0.size<4294967281
 ·rw[if_pos hs]at h;obtain rfl:=Option.some.inj h;obtain⟨m,hm⟩:=hG.maxLen;refine(Tryz.strings_Index a0 a1 m w hs hm).mono ?_;rintro e w' ⟨he,hw⟩;subst hw;exact⟨he,Below.refl _ _⟩
 ·rw[if_neg hs]at h;cases h
def strings_Contains.f (a0 a1:ByteArray):Option (Bool):=(strings_Index.f a0 a1).bind fun t0=>(some (decide (t0≥0)))
theorem strings_Contains.calls (a0 a1:ByteArray) (r:Bool) (w:World) (hG:Gl w) (H:strings_Contains.f a0 a1=some r):
  Calls Tryz.prog 85 #[.string a0,.string a1] w fun e w'=>e= .returned (.bool r)∧Below w.heap.size w w':=by
 have HG:=Aside0.mk hG;clear hG;have HB:=Aside0.mk (Below.refl w.heap.size w);unfold strings_Contains.f at H;replace H:=bS_ H;obtain⟨t0,A0,H⟩:=H;(try dsimp only at H);obtain rfl:=Option.some.inj H;go_enter Tryz.func85,Tryz.ntmps85
 go_wp2_with (first|((with_reducible refine gc_ 44 rfl ?_);refine gR 7 Tryz.func44 (strings_Index.calls a0 a1 t0 _ (Gl.below HG.out zb_) A0.out) ?_;rintro w0 hb;replace HB:=Aside0.mk (below_step zb_ hb);(try clear hb)))
 go_ret;exact⟨ze_,zb_⟩
def impl_isUpper.f (a0:Int):Option (Bool):=if a0≥65 then(some (decide (a0≤90)))else(some false)
theorem impl_isUpper.calls (a0:Int) (r:Bool) (w:World) (H:impl_isUpper.f a0=some r):
  Calls Tryz.prog 121 #[.int .u8 a0] w fun e w'=>e= .returned (.bool r)∧Drawn0 w w':=by
 unfold impl_isUpper.f at H
 by_cases c0:a0≥65
 ·rw[if_pos c0]at H;have f0:=decide_eq_true c0;clear c0;obtain rfl:=Option.some.inj H;go_enter Tryz.func121,Tryz.ntmps121
  go_wp2
  go_ret;exact⟨zr_,zd_⟩
 ·rw[if_neg c0]at H;have f0:=decide_eq_false c0;clear c0;obtain rfl:=Option.some.inj H;go_enter Tryz.func121,Tryz.ntmps121
  go_wp2
  go_ret;exact⟨zr_,zd_⟩
theorem impl_Fold_up (x:Int):impl_isUpper.f x=some (decide (65≤x∧x≤90)):=by unfold impl_isUpper.f;split<;>simp<;>omega
def impl_Fold.f (a0:ByteArray):Option (ByteArray):=if a0.size≤1099511627776 then some (strOfNums ((bytesOf a0).map lowI))else none
theorem impl_Fold.calls (a0 r:ByteArray) (w:World) (h:impl_Fold.f a0=some r):
  Calls Tryz.prog 86 #[.string a0] w fun e w'=>e= .returned (.string r)∧Below w.heap.size w w':=by
 have hu40:=Tryz.underlying40;unfold impl_Fold.f at h
 by_cases hlim:a0.size≤1099511627776
 ·rw[if_pos hlim]at h;obtain rfl:=Option.some.inj h;clear h;have HL:=Aside0.mk hlim;clear hlim;have kb:=fun W=>print_bytes (P:=Tryz.prog) 9 40 5 Tryz.underlying9 Tryz.underlying40 Tryz.underlying5 a0 W;go_enter Tryz.func86,Tryz.ntmps86
  go_wp2
  go_loopg [10] (a0.size+1) (fun kq v0 w'=> ∃(x0:Int),v0= .int .i64 x0∧Aside0 (∃j:Nat,x0=(j:Int)∧j≤a0.size∧kq+j=a0.size+1∧BRow w' w.heap.size (lowTo a0 j))∧Aside0 (w.heap.size<w'.heap.size∧Below w.heap.size w w'))
  case atStart=>
   exact⟨0,rfl,⟨0,rfl,by omega,by omega,by rw[lowTo_zero];exact BRow.new _ _ _⟩,⟨by rw[Lib.bytesWorld_size];omega,bytes_below (Below.refl _ _) (Nat.le_refl _) _ _⟩⟩
  case round=>
   obtain⟨x0,rfl,HJ,HB⟩:=hrel;obtain⟨j,hxj,hjl,hkj,hbr⟩:=HJ.out;clear HJ;have HX:=Aside0.mk hxj;have HJL:=Aside0.mk hjl;have HK:=Aside0.mk hkj;have HR:=Aside0.mk hbr;clear hxj hjl hkj hbr
   cases gk with
   |zero=>have:=HK.out;have:=HJL.out;omega
   |succ k0=>
   by_cases hlt:j<a0.size
   ·have c0:decide (x0<(a0.size:Int))=true:=decide_eq_true (by have:=HX.out;omega);have p0:0≤(x0:Int):=by have:=HX.out;omega
    have q0:x0<(a0.size:Int):=of_decide_eq_true c0;have HLT:=Aside0.mk hlt;have h0:=HR.out.cell x0.toNat zz3;have hfz:=HR.out.frozen x0.toNat zz3;have hbj:(lowTo a0 j).getD x0.toNat 0=(bytesOf a0).getD j 0:=by rw[HX.out,Int.toNat_natCast];exact lowTo_get _ _ hlt
    have hset:=lowTo_set a0 j hlt
    have hsame:(lowTo a0 j).set j ((bytesOf a0).getD j 0)=lowTo a0 j:=by
     rw[←lowTo_get _ _ hlt,List.getD_eq_getElem?_getD,List.getElem?_eq_getElem (by rw[lowTo_length _ _ zz5];exact hlt)];exact List.set_getElem_self _
    rw[hbj]at h0;generalize (bytesOf a0).getD j 0=b at h0 hset hsame;have HS:=Aside0.mk hset;have HE:=Aside0.mk hsame;clear hlt hset hbj hsame;replace p0:=eq_true p0;replace q0:=eq_true q0;go_wp2_with fail
    refine(impl_isUpper.calls b (decide (65≤b∧b≤90)) _ (impl_Fold_up b)).mono ?_;rintro e w0 ⟨rfl,⟨nd,rfl⟩⟩
    by_cases hup:65≤b∧b≤90
    ·have c1:decide (65≤b∧b≤90)=true:=decide_eq_true hup;have HU:=Aside0.mk hup;rw[c1];clear hup;go_wp2
     go_roundg k0
     case measure=>omega
     case rel=>
      have hx:=HX.out;have hk:=HK.out;have hlt:=HLT.out;have hl:=HL.out;have hu:=HU.out;have hxn:x0.toNat=j:=by omega
      have hlow:lowI b=(b+32)%256:=by unfold lowI;rw[if_pos zz5,if_pos zz5]
      refine⟨_,rfl,⟨j+1,by rw[hx];unfold wrap64;omega,by omega,by omega,?_⟩,⟨?_,?_⟩⟩
      ·rw[←HS.out,hxn,hlow];exact HR.out.set j _
      ·have:=HB.out.1;simpa using this
      ·exact(HB.out.2.trans (pw_below_drewN (Below.refl _ _) nd)).setCell (Nat.le_refl _) _
    ·have c1:decide (65≤b∧b≤90)=false:=decide_eq_false hup;have HU:=Aside0.mk hup;rw[c1];clear hup;go_wp2
     go_roundg k0
     case measure=>omega
     case rel=>
      have hx:=HX.out;have hk:=HK.out;have hlt:=HLT.out;have hl:=HL.out;have hu:=HU.out;have hlow:lowI b=b:=by unfold lowI;split<;>(try split)<;>omega
      refine⟨_,rfl,⟨j+1,by rw[hx];unfold wrap64;omega,by omega,by omega,?_⟩,⟨?_,?_⟩⟩
      ·rw[←HS.out,hlow,HE.out];exact HR.out
      ·have:=HB.out.1;simpa using this
      ·exact HB.out.2.trans (pw_below_drewN (Below.refl _ _) nd)
   ·have c0:decide (x0<(a0.size:Int))=false:=decide_eq_false (by have:=HX.out;omega);have hj2:j=a0.size:=by have:=HJL.out;omega
    have hst:=HR.out.string (P:=Tryz.prog) (c:=grownCap w a0.size 0 5) (src:=40) (dst:=9) Tryz.underlying40 Tryz.underlying5 Tryz.underlying9 (lowTo_length a0 j HJL.out);rw[hj2,lowTo_all]at hst;go_wp2_with fail
    go_ret;exact⟨rfl,HB.out.2⟩
 ·rw[if_neg hlim]at h;cases h
def strings_IndexByte.f (a0:ByteArray) (a1:Int):Option (Int):=some (Lib.indexByte a0.data.toList a1.toNat.toUInt8)
theorem strings_IndexByte.calls (a0:ByteArray) (a1 r:Int) (w:World) (h:strings_IndexByte.f a0 a1=some r):
  Calls Tryz.prog 68 #[.string a0,.int .u8 a1] w fun e w'=>e= .returned (.int .i64 r)∧Drawn0 w w':=by
 obtain rfl:=Option.some.inj h;exact(Tryz.strings_IndexByte a0 a1 w).mono fun e w' ⟨he,hw⟩=>⟨he,hw ▸ Drawn0.refl w⟩
theorem ia_get_data (s:ByteArray) (i:Nat) (h:i<s.size):s.data.toList[i]?=some (s.get! i):=by
 have:=get_at s i h;rw[Nat.add_zero]at this;rw[this]
 show s.data.toList[i]?=some s.data[i]
 simp
theorem ia_decode_span (s:ByteArray) (pos:Nat) (h:pos<s.size) (ha:128≤(s[pos]'h).toNat): ∀k,k<(Utf8.decode s pos).2→ ∃b,s.data.toList[pos+k]?=some b∧128≤b.toNat:=by
 have h0:128≤(s.get! (pos+0)).toNat:=by rw[get_at s pos h];exact ha
 have key: ∀k,pos+k<s.size→128≤(s.get! (pos+k)).toNat→ ∃b,s.data.toList[pos+k]?=some b∧128≤b.toNat:=fun k hk hb=>⟨_,ia_get_data s _ hk,hb⟩;have hn: ¬(s.get! (pos+0)).toNat<128:=by omega
 intro k;simp only[Utf8.decode,hn,if_false]
 repeat' split
 all_goals intro hk
 all_goals simp only[Bool.and_eq_true,decide_eq_true_eq,beq_iff_eq]at*
 all_goals have hk4:k=0∨k=1∨k=2∨k=3:=by omega
 all_goals rcases hk4 with rfl|rfl|rfl|rfl
 all_goals first
  |(exact key 0 zz5 h0)
  |(exact key _ zz5 zz5)
  |omega
theorem ia_run_next_any_at {P:Program} (W:World) (k:Nat) (s:ByteArray) (pos:Nat) (ty:TypeId) (hk:W.heap[k]?=some (.stringIter s pos)) (h:pos<s.size):
  (Instr.next (.pointer (some ⟨k,0,none⟩)) true ty).run P W=
   .ok (.tuple #[.bool true,.int .i64 pos,.int .i32 (Utf8.decode s pos).1]) {W with heap:=W.heap.setIfInBounds k (.stringIter s (pos+(Utf8.decode s pos).2))}:=by
 simp only[Instr.next,getObj,setObj,Sem.run_bind,Sem.run,hk,Result.andThen,h,if_true]
 simp[goInt]
theorem ia_run_next_end_at {P:Program} (W:World) (k:Nat) (s:ByteArray) (pos:Nat) (ty:TypeId) (hk:W.heap[k]?=some (.stringIter s pos)) (h: ¬pos<s.size):
  (Instr.next (.pointer (some ⟨k,0,none⟩)) true ty).run P W= .ok (.tuple #[.bool false]) W:=by
 simp[Instr.next,getObj,Sem.run,hk,h]
theorem ia_NoAny_span (s:ByteArray) (chars:List UInt8) (pos:Nat) (h:pos<s.size) (ha:128≤(s[pos]'h).toNat) (hc: ∀b∈chars,b.toNat<128) (hn:Lib.NoAny s.data.toList chars pos):Lib.NoAny s.data.toList chars (pos+(Utf8.decode s pos).2):=by
 intro j b hj hb
 by_cases hlt:j<pos
 ·exact hn j b hlt hb
 ·obtain⟨b',hb',hge⟩:=ia_decode_span s pos h ha (j-pos) zz5;rw[show pos+(j-pos)=j by omega]at hb';rw[hb]at hb';obtain rfl:=Option.some.inj hb'
  cases hq:chars.contains b with
  |false=>rfl
  |true=>have:=hc b (by simpa using hq);omega
theorem ia_decode_in (s:ByteArray) (pos:Nat) (h:pos<s.size):pos+(Utf8.decode s pos).2≤s.size∧1≤(Utf8.decode s pos).2:=by
 simp only[Utf8.decode]
 repeat' split
 all_goals simp only[Bool.and_eq_true,decide_eq_true_eq,beq_iff_eq]at*
 all_goals omega
theorem ia_run_convert_int_string {P:Program} (w:World) (src dst:TypeId) (k:IntKind) (r:Int) (hs:P.underlying src=some (.int k)) (hd:P.underlying dst=some .string):
  (convert src dst (.int k r)).run P w= .ok (.string (Utf8.encode r)) w:=by
 simp[convert,run_underlying hs,run_underlying hd,Conv.intToString,Result.andThen]
theorem ia_enc_high (r:Nat) (h0:128≤r) (hv:Utf8.valid (r:Int)=true): ∃(n:Nat) (b:UInt8),(Utf8.encode (r:Int)).data.toList[n]?=some b∧128≤b.toNat∧(Utf8.encode (r:Int)).size=n+1∧1≤n∧n≤3:=by
 unfold Utf8.encode;simp only[hv,if_true,Int.toNat_natCast];rw[if_neg zz5]
 split
 ·exact⟨1,UInt8.ofNat (128+r%64),by simp,by simp;omega,rfl,by omega,by omega⟩
 ·split
  ·exact⟨2,UInt8.ofNat (128+r%64),by simp,by simp;omega,rfl,by omega,by omega⟩
  ·exact⟨3,UInt8.ofNat (128+r%64),by simp,by simp;omega,rfl,by omega,by omega⟩
theorem ia_quiet_add_same {P:Program} {f:FuncId} {args:Array Value} {w:World} {a n:Nat} {v:Value}
  (h:Calls P f args (w.drewN (a+n)) fun e w'=>e= .returned v∧w'=w.drewN (a+n)):
  Calls P f args (w.drewN (a+n)) fun e w''=>e= .returned v∧ ∃m,w''=w.drewN (a+m):=
 h.mono fun _ _ ⟨he,hm⟩=>⟨he,n,hm⟩
theorem ia_irempty (b:UInt8) (W:World):Calls Tryz.prog 68 #[.string ByteArray.empty,.int .u8 (b.toNat:Int)] W fun e w'=>e= .returned (.int .i64 (-1))∧w'=W:=
 (Tryz.strings_IndexByte ByteArray.empty (b.toNat:Int) W).mono fun e w' ⟨h1,h2⟩=>⟨h1,h2⟩
theorem ia_irune (chars:ByteArray) (h2:chars.size=2) (hc: ∀(j:Nat) b,chars.data.toList[j]?=some b→b.toNat<128) (r:Nat) (h0:128≤r) (h1:r≤2147483647) (w:World):
  Calls Tryz.prog 122 #[.string chars,.int .i32 r] w fun e w'=>e= .returned (.int .i64 (-1))∧Below w.heap.size w w':=by
 have p0:decide ((r:Int)<128)=false:=decide_eq_false zz5;have p1:(0≤(r:Int))=True:=eq_true zz5;have HC:=Aside0.mk hc;clear hc
 by_cases hE:r=65533
 ·subst hE;go_enter Tryz.func122,Tryz.ntmps122
  go_wp2
  go_loopg [5,6] 2 (fun g _ _ wx=> ∃i:Nat,i+g=2∧wx=w.iter chars i)
  case atStart=>exact⟨0,rfl,rfl⟩
  case round=>
   obtain⟨i,hig,rfl⟩:=hrel
   cases gk with
   |zero=>
    obtain rfl:i=2:=by omega
    have hnx:=fun ty=>run_next_end (P:=Tryz.prog) w chars 2 ty zz5;go_wp2
    go_ret
    exact⟨rfl,⟨rfl,rfl,rfl,by simp[World.iter],fun k hk=>Below.heap_alloc w _ k hk⟩⟩
   |succ g=>
    have hi:i<chars.size:=by omega
    obtain⟨x,hx⟩: ∃x:UInt8,chars[i]'hi=x:=⟨_,rfl⟩;have h3:x.toNat<128:=HC.out i x (by rw[←hx];exact Lib.data_getElem? chars i hi);have hnx:=fun ty=>run_next_ascii (P:=Tryz.prog) w chars i ty hi (by rw[hx];exact h3);rw[hx]at hnx;have hne:((x.toNat:Int)==65533)=false:=beq_eq_false_iff_ne.2 zz5;go_wp2
    go_roundg g
    (case measure=>omega);case rel=>exact⟨i+1,by omega,rfl⟩
 ·have hE1:((r:Int)==65533)=false:=beq_eq_false_iff_ne.2 zz5
  by_cases hv:Lib.validRune r=true
  ·have hval:Utf8.valid (r:Int)=true:=by
    simp[Lib.validRune,Utf8.valid]at hv ⊢
    omega
   obtain⟨n,b,hnb,hb,hsz,hn1,hn3⟩:=ia_enc_high r h0 hval;have kb:=fun W=>ia_run_convert_int_string (P:=Tryz.prog) W 21 9 .i32 (r:Int) Tryz.underlying21 Tryz.underlying9;generalize Utf8.encode (r:Int)=rs at hnb hsz kb;go_enter Tryz.func122,Tryz.ntmps122
   go_wp2_with (go_at_call 149;refine(Tryz.utf8_ValidRune _ _).mono ?_;rintro e w' ⟨rfl,hw⟩;rw[hw,hv])
   go_step3
   go_wp2_with fail
   go_loopg [9] 0 (fun g v0 w'=>v0= .int .i64 (n:Int)∧w=w')
   case atStart=>exact⟨by simp[hsz],rfl⟩
   case round=>
    obtain⟨rfl,rfl⟩:=hrel
    by_cases hn2:n=1
    ·subst hn2;have hi:1<chars.size:=by omega
     have hj:1<rs.size:=by omega
     have h3:(chars[1]'hi).toNat<128:=HC.out 1 _ (Lib.data_getElem? chars 1 hi);have hrb:rs[1]'hj=b:=by have:=Lib.data_getElem? rs 1 hj;rw[hnb]at this;exact(Option.some.inj this).symm
     have hne:(((chars[1]'hi).toNat:Int)==((rs[1]'hj).toNat:Int))=false:=beq_eq_false_iff_ne.2 (by rw[hrb];omega);have hne2:(((chars[1]'hi).toNat:Int)!=((rs[1]'hj).toNat:Int))=true:=bne_iff_ne.2 (by rw[hrb];omega);have n0:(((chars[1]'hi).toNat:Int)==(b.toNat:Int))=false:=beq_eq_false_iff_ne.2 zz5;have n1:(((chars[1]'hi).toNat:Int)!=(b.toNat:Int))=true:=bne_iff_ne.2 zz5;have n2:((chars[1]'hi).toNat==b.toNat)=false:=beq_eq_false_iff_ne.2 zz5;have n3:(chars[1]'hi).toNat≠b.toNat:=by omega
     go_wp2_with fail
     go_step3
     go_wp2_with fail
     go_quiet (fail)
     go_wp2_with fail
     have h4:IntKind.i64.wrap 2=2:=by decide
     have hz2:(2:Int)≤(chars.size:Int):=by omega
     have HIB:=Aside0.mk (ia_irempty b);clear n0 n1 n2 n3 hne hne2 h3;go_quiet ((go_at_call 68;exact ia_quiet_add_same (HIB.out _)))
     go_wp2_with fail
     go_simp;go_ret;exact⟨rfl,pw_below_drewN (Below.refl _ _) _⟩
    ·have c0:decide ((n:Int)<2)=false:=decide_eq_false zz5;have c1:((n:Int)<2)=False:=eq_false zz5;have c2:(n<2)=False:=eq_false zz5;go_wp2_with fail
     rw[Exit.noGoto_ret];go_ret;exact⟨rfl,Below.refl _ _⟩
  ·have hv2:Lib.validRune r=false:=by simpa using hv
   go_enter Tryz.func122,Tryz.ntmps122
   go_wp2_with (go_at_call 149;refine(Tryz.utf8_ValidRune _ _).mono ?_;rintro e w' ⟨rfl,hw⟩;rw[hw,hv2])
   go_ret;exact⟨rfl,Below.refl _ _⟩
theorem ia_iter_heap_set (W:World) (k:Nat) (o:Obj) (hk:k<W.heap.size):({W with heap:=W.heap.setIfInBounds k o}:World).heap[k]?=some o:=by
 simp[hk]
theorem ia_iter_set_below {w W:World} (h:Below w.heap.size w W) (o:Obj):Below w.heap.size w {W with heap:=W.heap.setIfInBounds w.heap.size o}:=
 ⟨h.os,h.tape,h.output,by simpa using h.size,fun i hi=>by
  rw[←h.block i hi]
  show(W.heap.setIfInBounds w.heap.size o)[i]?=_
  rw[Array.getElem?_setIfInBounds_ne zz5]⟩
theorem ia_iany_short (s chars:ByteArray) (w:World) (h2:chars.size=2) (h8:s.size≤8) (hac: ∀(j:Nat) b,chars.data.toList[j]?=some b→b.toNat<128):
  Calls Tryz.prog 87 #[.string s,.string chars] w fun e w'=>e= .returned (.int .i64 (Lib.indexAny s.data.toList chars.data.toList))∧Below w.heap.size w w':=by
 have hemp:chars.toList.isEmpty=false:=by
  rw[Lib.toList_data]
  cases h:chars.data.toList with
  |nil=>have:=Lib.size_eq chars;rw[h,List.length_nil]at this;omega
  |cons _ _=>rfl
 have hn1:((chars.size:Int)==1)=false:=beq_eq_false_iff_ne.2 zz5;have h8z:decide ((8:Int)<(s.size:Int))=false:=decide_eq_false zz5;have IR:=Aside0.mk (ia_irune chars h2 hac);have HA:=Aside0.mk hac;have H2:=Aside0.mk h2;clear h2 hac;go_enter Tryz.func87,Tryz.ntmps87
 go_wp2_with (go_at_call 123;refine(Tryz.strings_shouldUseASCIISet _ _).mono ?_;rintro e w' ⟨rfl,hw⟩;rw[hw,h8z])
 go_loopg [9,10] s.size (fun g _ _ wx=> ∃i:Nat,i≤s.size∧s.size≤i+g∧Aside0 (wx.heap[w.heap.size]?=some (.stringIter s i))∧Aside0 (Below w.heap.size w wx)∧Aside0 (Lib.NoAny s.data.toList chars.data.toList i))
 case atStart=>exact⟨0,by omega,by omega,⟨World.iter_heap w s 0⟩,⟨below_alloc (Below.refl _ _) _⟩,⟨Lib.NoAny.zero _ _⟩⟩
 case round=>
  obtain⟨i,hil,hig,HI,HB,HN⟩:=hrel
  by_cases hi:i<s.size
  ·cases gk with
   |zero=>omega
   |succ g=>
    have hnx0:=fun ty=>ia_run_next_any_at (P:=Tryz.prog) wr w.heap.size s i ty HI.out hi;have hlt:w.heap.size<wr.heap.size:=blk_lt HI.out;have hin:=ia_decode_in s i hi;have HS0:=ia_NoAny_span s chars.data.toList i hi;obtain⟨W2,hW2⟩: ∃W2:World,{wr with heap:=wr.heap.setIfInBounds w.heap.size (.stringIter s (i+(Utf8.decode s i).2))}=W2:=⟨_,rfl⟩;have HI2:Aside0 (W2.heap[w.heap.size]?=some (.stringIter s (i+(Utf8.decode s i).2))):=⟨by rw[←hW2];exact ia_iter_heap_set wr _ _ hlt⟩;have HB2:Aside0 (Below w.heap.size w W2):=⟨by rw[←hW2];exact ia_iter_set_below HB.out _⟩;rw[hW2]at hnx0;clear hW2 hlt HB
    by_cases h0:(s[i]'hi).toNat<128
    ·have hd:=decode_ascii s i hi h0;obtain⟨x,hx⟩: ∃x:UInt8,s[i]'hi=x:=⟨_,rfl⟩;have hxl:s.data.toList[i]?=some x:=by rw[←hx];exact Lib.data_getElem? s i hi
     rw[hd]at hin HI2;simp only[hd,hx]at hnx0 HI2 hin;rw[hx]at h0;have hnx:=hnx0;clear hnx0 HI hd HS0;have Hx:=Aside0.mk hxl;clear hxl hx;have hcon:=Lib.contains_iff_indexByte chars.data.toList x;have hback:((x.toNat:Int)).toNat.toUInt8=x:=by simp
     cases hinc:chars.data.toList.contains x
     ·rw[hinc]at hcon;have hltb: ¬((0:Int)≤Lib.indexByte chars.data.toList x):=of_decide_eq_false hcon.symm;clear hcon;go_wp2_with (go_at_call 122;refine(Tryz.strings_IndexRune_ascii _ _ _ zz5 zz5).mono ?_;rintro e w' ⟨rfl,hw⟩;rw[hw,hback])
      go_roundg g
      (case measure=>omega);case rel=>exact⟨i+1,by omega,by omega,HI2,HB2,⟨HN.out.succ Hx.out hinc⟩⟩
     ·rw[hinc]at hcon;have hge:(0:Int)≤Lib.indexByte chars.data.toList x:=of_decide_eq_true hcon.symm;clear hcon;go_wp2_with (go_at_call 122;refine(Tryz.strings_IndexRune_ascii _ _ _ zz5 zz5).mono ?_;rintro e w' ⟨rfl,hw⟩;rw[hw,hback])
      go_ret;exact⟨by rw[Lib.indexAny_hit HN.out Hx.out hinc];rfl,HB2.out⟩
    ·have hd:=decode_high s i hi zz5;have hle:=decode_le s i;have HS:=Aside0.mk (HS0 zz5 (fun b hb=>by obtain⟨j,hj⟩:=List.mem_iff_getElem?.1 hb;exact HA.out j b hj) HN.out);clear HS0 h0 HN;obtain⟨dd,hdd⟩: ∃dd,Utf8.decode s i=dd:=⟨_,rfl⟩;rw[hdd]at HS hd hle HI2 hin;simp only[hdd]at hnx0;have hnx:=hnx0;clear hnx0 HI hdd;obtain⟨rr,nn⟩:=dd;dsimp only at hnx HS hd hle HI2 hin;go_wp2_with (go_at_call 122;(with_reducible refine(IR.out rr zz5 zz5 _).mono ?_);rintro e w' ⟨rfl,hb⟩;have hI3:=Aside0.mk (blk_below HI2.out hb);have hB3:=Aside0.mk (below_step HB2.out hb);clear hb)
     go_roundg g
     (case measure=>omega);case rel=>exact⟨i+nn,by omega,by omega,hI3,hB3,HS⟩
  ·obtain rfl:i=s.size:=by omega
   have hnx:=fun ty=>ia_run_next_end_at (P:=Tryz.prog) wr w.heap.size s s.size ty HI.out hi;go_wp2
   go_ret;exact⟨by rw[Lib.indexAny_none (by rw[←Lib.size_eq];exact HN.out)];rfl,HB.out⟩
def strings_IndexAny.f (a0 a1:ByteArray):Option Int:=if a0.size<4294967281∧a1.size=2∧(a1.data.toList.all fun b=>decide (b.toNat<128))=true then some (Lib.indexAny a0.data.toList a1.data.toList)else none
theorem strings_IndexAny.calls (a0 a1:ByteArray) (r:Int) (w:World) (h:strings_IndexAny.f a0 a1=some r):
  Calls Tryz.prog 87 #[.string a0,.string a1] w fun e w'=>e= .returned (.int .i64 r)∧Below w.heap.size w w':=by
 unfold strings_IndexAny.f at h
 by_cases hl:a0.size<4294967281∧a1.size=2∧(a1.data.toList.all fun b=>decide (b.toNat<128))=true
 ·rw[if_pos hl]at h;obtain⟨hs,h2,ha⟩:=hl;have hac: ∀(j:Nat) b,a1.data.toList[j]?=some b→b.toNat<128:=fun j b hj=>of_decide_eq_true (List.all_eq_true.1 ha b (List.mem_iff_getElem?.2 ⟨j,hj⟩));obtain rfl:=Option.some.inj h
  by_cases h8:a0.size≤8
  ·exact ia_iany_short a0 a1 w h2 h8 hac
  ·refine(Any.strings_IndexAny_long Tryz.lays153 (zero_of_info (t:=107) (n:=256) zz0).1 zz0 a0 a1 w zz5 zz5 hs zz5 hac).mono fun e w' ⟨h1,h2⟩=>⟨h1,?_⟩;rw[h2];exact((Below.refl _ _).alloc (Nat.le_refl _) _).alloc (by simp) _
 ·rw[if_neg hl]at h;cases h
def strings_Cut.f (a0 a1:ByteArray):Option (ByteArray×ByteArray×Bool):=if a0.size<4294967281 then some (⟨(Lib.cut a0.data.toList a1.data.toList).1.toArray⟩,⟨(Lib.cut a0.data.toList a1.data.toList).2.1.toArray⟩,(Lib.cut a0.data.toList a1.data.toList).2.2)else none
theorem strings_Cut.calls (a0 a1 r1 r2:ByteArray) (r3:Bool) (w:World) (hG:Gl w) (h:strings_Cut.f a0 a1=some (r1,r2,r3)):
  Calls Tryz.prog 88 #[.string a0,.string a1] w fun e w'=>e= .returned (.tuple #[.string r1,.string r2,.bool r3])∧Below w.heap.size w w':=by
 unfold strings_Cut.f at h
 by_cases hs:a0.size<4294967281
 ·rw[if_pos hs]at h;obtain⟨rfl,rfl,rfl⟩:_∧_∧_:=by simpa only[Option.some.injEq,Prod.mk.injEq]using h
  obtain⟨m,hm⟩:=hG.maxLen;refine(Tryz.strings_Cut a0 a1 m w hs hm).mono ?_;rintro e w' ⟨he,n,hw⟩;subst hw;exact⟨he,pw_below_drewN (Below.refl _ _) n⟩
 ·rw[if_neg hs]at h;cases h
def impl_readPath.f (a0:ByteArray):Option (ByteArray×Int×ByteArray×ByteArray×Bool):=(strings_Cut.f a0 (⟨#[63]⟩:ByteArray)).bind fun b0=>(some ((⟨#[]⟩:ByteArray),0,b0.1,b0.2.1,b0.2.2))
theorem impl_readPath.calls (a0 r1:ByteArray) (r2:Int) (r3 r4:ByteArray) (r5:Bool) (w:World) (hG:Gl w) (H:impl_readPath.f a0=some (r1,r2,r3,r4,r5)):
  Calls Tryz.prog 89 #[.string a0] w fun e w'=>e= .returned (.agg #[.string r1,.int .i64 r2,.string r3,.string r4,.bool r5])∧Below w.heap.size w w':=by
 have hu63:=Tryz.underlying63;have HG:=Aside0.mk hG;clear hG;have HB:=Aside0.mk (Below.refl w.heap.size w);unfold impl_readPath.f at H;replace H:=bS_ H;obtain⟨⟨t0,t1,t2⟩,A0,H⟩:=H;(try dsimp only at H);simp only[Option.some.injEq,Prod.mk.injEq]at H;obtain⟨rfl,rfl,rfl,rfl,rfl⟩:=H;go_enter Tryz.func89,Tryz.ntmps89
 go_wp2_with (first|((with_reducible refine gate_dst (N:=2) rfl ?_);refine boxP_ (N:=2) (cs:= #[.string (⟨#[]⟩:ByteArray),.int .i64 0,.string (⟨#[]⟩:ByteArray),.string (⟨#[]⟩:ByteArray),.bool false]) (t:=63) ?_;intro g0 hg w0 hbox hb;have B0:=Aside0.mk (hbox);have G0:=geb_ (w:=w) hg zb_;replace HB:=Aside0.mk (below_step zb_ hb);clear hb hbox hg)|((with_reducible refine gate_dst (N:=3) rfl ?_);refine boxP_ (N:=3) (cs:= #[.string (⟨#[]⟩:ByteArray),.int .i64 0,.string (⟨#[]⟩:ByteArray),.string (⟨#[]⟩:ByteArray),.bool false]) (t:=63) ?_;intro g1 hg w1 hbox hb;have B1:=Aside0.mk (hbox);have G1:=geb_ (w:=w) hg zb_;replace HB:=Aside0.mk (below_step zb_ hb);have N0:=nbL_ (g:=g0) hg (bk_ B0);have N1:=nbG_ (g:=g0) hg (bk_ B0);replace B0:=Aside0.mk (blk_below (bk_ B0) hb);clear hb hbox hg)|((with_reducible refine gc_ 88 rfl ?_);refine gR 6 Tryz.func88 (strings_Cut.calls a0 (⟨#[63]⟩:ByteArray) t0 t1 t2 _ (Gl.below HG.out zb_) A0.out) ?_;rintro w2 hb;replace B0:=Aside0.mk (blk_below (bk_ B0) hb);replace B1:=Aside0.mk (blk_below (bk_ B1) hb);replace HB:=Aside0.mk (below_step zb_ hb);(try clear hb);have n0:=N1.out;have n1:=N0.out;obtain⟨_,_,_,_,_,_,_,_,_,_⟩:=cells5_ B1.out;obtain⟨_,_,_,_,_,_,_,_,_,_⟩:=cells5_ B0.out))
 refine bodyPost_ret (results_cell_row rfl _ _ g0 63 #[.string (⟨#[]⟩:ByteArray),.int .i64 0,.string t0,.string t1,.bool t2] (0,0) _ rfl (bk_ B0) Tryz.underlying63 rfl zz0) rfl ?_;exact⟨ze_,zb_⟩
def strconv_Itoa.f (a0:Int):Option (ByteArray):=if-9223372036854775808≤a0∧a0≤9223372036854775807 then some ⟨(Lib.itoa a0).toArray⟩else none
theorem strconv_Itoa.calls (a0:Int) (r:ByteArray) (w:World) (hG:Gl w) (h:strconv_Itoa.f a0=some r):
  Calls Tryz.prog 33 #[.int .i64 a0] w fun e w'=>e= .returned (.string r)∧Below w.heap.size w w':=by
 unfold strconv_Itoa.f at h
 by_cases hs: -9223372036854775808≤a0∧a0≤9223372036854775807
 ·rw[if_pos hs]at h;obtain rfl:=Option.some.inj h;refine(Tryz.strconv_Itoa a0 hs.1 hs.2 w hG.tab).mono ?_;rintro e w' ⟨he,k,os,hw⟩;subst hw;exact⟨he,⟨rfl,rfl,rfl,by show w.heap.size≤(w.heap++os).size;rw[Array.size_append];omega,fun j hj=>by show(w.heap++os)[j]?=w.heap[j]?;rw[Array.getElem?_append_left hj]⟩⟩
 ·rw[if_neg hs]at h;cases h
def impl_DecText.f (a0:Int):Option (ByteArray):=(impl_within.f a0 0 999999999999999).bind fun t0=>(if t0=true then((strconv_Itoa.f a0).bind fun t1=>(some t1))else(some (⟨#[]⟩:ByteArray)))
theorem impl_DecText.calls (a0:Int) (r:ByteArray) (w:World) (hG:Gl w) (H:impl_DecText.f a0=some r):
  Calls Tryz.prog 128 #[.int .i64 a0] w fun e w'=>e= .returned (.string r)∧Below w.heap.size w w':=by
 have HG:=Aside0.mk hG;clear hG;have HB:=Aside0.mk (Below.refl w.heap.size w);unfold impl_DecText.f at H;replace H:=bS_ H;obtain⟨t0,A0,H⟩:=H;(try dsimp only at H)
 by_cases c0:t0=true
 ·subst c0;rw[if_pos rfl]at H;replace H:=bS_ H;obtain⟨t1,A1,H⟩:=H;(try dsimp only at H);obtain rfl:=Option.some.inj H;go_enter Tryz.func128,Tryz.ntmps128
  go_wp2_with (first|((with_reducible refine gc_ 21 rfl ?_);refine gR 4 Tryz.func21 (impl_within.calls a0 0 999999999999999 true _ A0.out) ?_;rintro w' ⟨nd,rfl⟩)|((with_reducible refine gc_ 33 rfl ?_);refine gR 7 Tryz.func33 (strconv_Itoa.calls a0 t1 _ (Gl.below HG.out zb_) A1.out) ?_;rintro w0 hb;replace HB:=Aside0.mk (below_step zb_ hb);(try clear hb)))
  go_ret;exact⟨ze_,zb_⟩
 ·replace c0:=Bool.eq_false_iff.mpr c0;subst c0;rw[if_neg Bool.false_ne_true]at H;obtain rfl:=Option.some.inj H;go_enter Tryz.func128,Tryz.ntmps128
  go_wp2_with (first|((with_reducible refine gc_ 21 rfl ?_);refine gR 4 Tryz.func21 (impl_within.calls a0 0 999999999999999 false _ A0.out) ?_;rintro w' ⟨nd,rfl⟩))
  go_ret;exact⟨ze_,zb_⟩
def impl_ReadDec.ok (l:List UInt8):Int×Bool:=match Lib.atoiAll l with
 | .ok v=>if 0≤v∧v≤999999999999999∧Lib.itoa v=l then(v,true)else(0,false)
 |_=>(0,false)
def impl_ReadDec.f (a0:ByteArray):Option (Int×Bool):=if a0.size≤1099511627776 then some (impl_ReadDec.ok a0.data.toList)else none
theorem impl_ReadDec_text (v:Int) (h0:0≤v) (h1:v≤999999999999999):impl_DecText.f v=some ⟨(Lib.itoa v).toArray⟩:=by
 unfold impl_DecText.f impl_within.f strconv_Itoa.f
 simp[h0,h1,show-9223372036854775808≤v by omega,show v≤9223372036854775807 by omega]
theorem impl_ReadDec.calls (a0:ByteArray) (r1:Int) (r2:Bool) (w:World) (hG:Gl w) (h:impl_ReadDec.f a0=some (r1,r2)):
  Calls Tryz.prog 90 #[.string a0] w fun e w'=>e= .returned (.tuple #[.int .i64 r1,.bool r2])∧Below w.heap.size w w':=by
 unfold impl_ReadDec.f at h
 by_cases hlim:a0.size≤1099511627776
 ·rw[if_pos hlim]at h;have H:=Option.some.inj h;clear h;have HG:=Aside0.mk hG;clear hG;unfold impl_ReadDec.ok at H
  cases hA:Lib.atoiAll a0.data.toList with
  | «syntax» =>
   rw[hA]at H;obtain⟨rfl,rfl⟩:_∧_:=by simpa only[Prod.mk.injEq]using H
   obtain⟨tp,p,hv⟩:=HG.out.errS;go_enter Tryz.func90,Tryz.ntmps90
   go_wp2_with (go_at_call 127;refine(Tryz.strconv_Atoi_syntax_var a0 zz5 hA tp p w hv).mono ?_;rintro e w' ⟨N,rfl,_,_,hb⟩)
   go_ret2
   exact⟨rfl,hb⟩
  |range=>
   rw[hA]at H;obtain⟨rfl,rfl⟩:_∧_:=by simpa only[Prod.mk.injEq]using H
   obtain⟨tp,p,hv⟩:=HG.out.errR;go_enter Tryz.func90,Tryz.ntmps90
   go_wp2_with (go_at_call 127;refine(Tryz.strconv_Atoi_range_var a0 zz5 hA tp p w hv).mono ?_;rintro e w' ⟨N,rfl,_,_,hb⟩)
   go_ret2
   exact⟨rfl,hb⟩
  |ok v=>
   rw[hA]at H
   have hat:=(Tryz.strconv_Atoi_ok a0 zz5 v hA w).mono (R':=fun e w'=>e= .returned (.tuple #[.int .i64 v,.nilIface])∧Below w.heap.size w w') (by
    rintro e w' ⟨he,hw|⟨t,hw⟩⟩
    ·subst hw;exact⟨he,Below.refl _ _⟩
    ·subst hw;exact⟨he,bytes_below (Below.refl _ _) (Nat.le_refl _) _ _⟩)
   by_cases hv:0≤v∧v≤999999999999999
   ·have hw:impl_within.f v 0 999999999999999=some true:=by unfold impl_within.f;rw[if_pos hv.1,decide_eq_true hv.2]
    have hd:=impl_ReadDec_text v hv.1 hv.2;have HV:=Aside0.mk hv;clear hv
    by_cases he:Lib.itoa v=a0.data.toList
    ·have hr:(v,true)=(r1,r2):=by rw[←H];exact(if_pos ⟨HV.out.1,HV.out.2,he⟩).symm
     obtain⟨rfl,rfl⟩:_∧_:=by simpa only[Prod.mk.injEq]using hr
     have he2:(⟨(Lib.itoa v).toArray⟩:ByteArray)=a0:=by rw[he]
     rw[he2]at hd;clear H hr he he2;go_enter Tryz.func90,Tryz.ntmps90
     go_wp2_with (first|(go_at_call 127;refine hat.mono ?_;rintro e w0 ⟨rfl,hb1⟩;have HB1:=Aside0.mk hb1;clear hb1)|(go_at_call 21;refine(impl_within.calls v 0 999999999999999 true _ hw).mono ?_;rintro e w1 ⟨rfl,⟨nd,rfl⟩⟩)|(go_at_call 128;refine(impl_DecText.calls v a0 _ (HG.out.below (pw_below_drewN HB1.out nd)) hd).mono ?_;rintro e w2 ⟨rfl,hb3⟩;have HB3:=Aside0.mk hb3;clear hb3))
     go_ret2
     exact⟨rfl,(pw_below_drewN HB1.out nd).trans (HB3.out.mono (by have:=HB1.out.size;simpa using this))⟩
    ·have hr:(0,false)=(r1,r2):=by rw[←H];exact(if_neg (fun hh=>he hh.2.2)).symm
     obtain⟨rfl,rfl⟩:_∧_:=by simpa only[Prod.mk.injEq]using hr
     obtain⟨d,hdd⟩: ∃d:ByteArray,(⟨(Lib.itoa v).toArray⟩:ByteArray)=d:=⟨_,rfl⟩
     have hne: ¬d.toList=a0.toList:=by
      rw[←hdd,ByteArray.toList_eq,ByteArray.toList_eq];exact fun hh=>he (by simpa using hh)
     have hnf:=eq_false hne;have hnb:(d.toList==a0.toList)=false:=beq_eq_false_iff_ne.2 hne;rw[hdd]at hd;clear H hr he hdd;go_enter Tryz.func90,Tryz.ntmps90
     go_wp2_with (first|(go_at_call 127;refine hat.mono ?_;rintro e w0 ⟨rfl,hb1⟩;have HB1:=Aside0.mk hb1;clear hb1)|(go_at_call 21;refine(impl_within.calls v 0 999999999999999 true _ hw).mono ?_;rintro e w1 ⟨rfl,⟨nd,rfl⟩⟩)|(go_at_call 128;refine(impl_DecText.calls v d _ (HG.out.below (pw_below_drewN HB1.out nd)) hd).mono ?_;rintro e w2 ⟨rfl,hb3⟩;have HB3:=Aside0.mk hb3;clear hb3))
     go_ret2
     exact⟨rfl,(pw_below_drewN HB1.out nd).trans (HB3.out.mono (by have:=HB1.out.size;simpa using this))⟩
   ·have hw:impl_within.f v 0 999999999999999=some false:=by
     unfold impl_within.f
     split
     ·rw[decide_eq_false zz5]
     ·rfl
    have hr:(0,false)=(r1,r2):=by rw[←H];exact(if_neg (fun hh=>hv ⟨hh.1,hh.2.1⟩)).symm
    obtain⟨rfl,rfl⟩:_∧_:=by simpa only[Prod.mk.injEq]using hr
    clear H hr hv;go_enter Tryz.func90,Tryz.ntmps90
    go_wp2_with (first|(go_at_call 127;refine hat.mono ?_;rintro e w0 ⟨rfl,hb1⟩;have HB1:=Aside0.mk hb1;clear hb1)|(go_at_call 21;refine(impl_within.calls v 0 999999999999999 false _ hw).mono ?_;rintro e w1 ⟨rfl,⟨nd,rfl⟩⟩))
    go_ret2
    exact⟨rfl,pw_below_drewN HB1.out nd⟩
 ·rw[if_neg hlim]at h;cases h
def stringslite_HasPrefix.f (a0 a1:ByteArray):Option (Bool):=if(a0.size:Int)≥(a1.size:Int)then(if 0≤(a1.size:Int)then(if(a1.size:Int)≤(a0.size:Int)then(some ((a0.extract 0 ((a1.size:Int):Int).toNat).toList==a1.toList))else(none))else(none))else(some false)
theorem stringslite_HasPrefix.calls (a0 a1:ByteArray) (r:Bool) (w:World) (H:stringslite_HasPrefix.f a0 a1=some r):
  Calls Tryz.prog 102 #[.string a0,.string a1] w fun e w'=>e= .returned (.bool r)∧Drawn0 w w':=by
 unfold stringslite_HasPrefix.f at H
 by_cases c0:(a0.size:Int)≥(a1.size:Int)
 ·rw[if_pos c0]at H;have f0:=decide_eq_true c0;have f1:decide (a1.size≤a0.size)=true:=decide_eq_true (Int.ofNat_le.mp c0);clear c0
  replace H:=ifS_ H;obtain⟨c1,H⟩:=H;obtain⟨f2,f3⟩:=dT_ c1;clear c1
  replace H:=ifS_ H;obtain⟨c2,H⟩:=H;obtain⟨f4,f5⟩:=dT_ c2;clear c2;obtain rfl:=Option.some.inj H;go_enter Tryz.func102,Tryz.ntmps102
  go_wp2
  go_ret;exact⟨zr_,zd_⟩
 ·rw[if_neg c0]at H;have f0:=decide_eq_false c0;have f1:decide (a1.size≤a0.size)=false:=decide_eq_false (fun h=>c0 (Int.ofNat_le.mpr h));clear c0;obtain rfl:=Option.some.inj H;go_enter Tryz.func102,Tryz.ntmps102
  go_wp2
  go_ret;exact⟨zr_,zd_⟩
def strings_HasPrefix.f (a0 a1:ByteArray):Option (Bool):=(stringslite_HasPrefix.f a0 a1).bind fun t0=>(some t0)
theorem strings_HasPrefix.calls (a0 a1:ByteArray) (r:Bool) (w:World) (H:strings_HasPrefix.f a0 a1=some r):
  Calls Tryz.prog 129 #[.string a0,.string a1] w fun e w'=>e= .returned (.bool r)∧Drawn0 w w':=by
 unfold strings_HasPrefix.f at H;replace H:=bS_ H;obtain⟨t0,A0,H⟩:=H;(try dsimp only at H);obtain rfl:=Option.some.inj H;go_enter Tryz.func129,Tryz.ntmps129
 go_wp2_with (first|((with_reducible refine gc_ 102 rfl ?_);refine gR 7 Tryz.func102 (stringslite_HasPrefix.calls a0 a1 t0 _ A0.out) ?_;rintro w' ⟨nd,rfl⟩))
 go_ret;exact⟨zr_,zd_⟩
def strings_ContainsAny.f (a0 a1:ByteArray):Option (Bool):=(strings_IndexAny.f a0 a1).bind fun t0=>(some (decide (t0≥0)))
theorem strings_ContainsAny.calls (a0 a1:ByteArray) (r:Bool) (w:World) (H:strings_ContainsAny.f a0 a1=some r):
  Calls Tryz.prog 130 #[.string a0,.string a1] w fun e w'=>e= .returned (.bool r)∧Below w.heap.size w w':=by
 have HB:=Aside0.mk (Below.refl w.heap.size w);unfold strings_ContainsAny.f at H;replace H:=bS_ H;obtain⟨t0,A0,H⟩:=H;(try dsimp only at H);obtain rfl:=Option.some.inj H;go_enter Tryz.func130,Tryz.ntmps130
 go_wp2_with (first|((with_reducible refine gc_ 87 rfl ?_);refine gR 7 Tryz.func87 (strings_IndexAny.calls a0 a1 t0 _ A0.out) ?_;rintro w0 hb;replace HB:=Aside0.mk (below_step zb_ hb);(try clear hb)))
 go_ret;exact⟨ze_,zb_⟩
def strings_Split.f (a0 a1:ByteArray):Option (List ByteArray):=if a0.size<4294967281∧1≤a1.size then some (Lib.splitB a1 0 (Lib.countB a0 a1) a0)else none
theorem strings_Split.calls (a0 a1:ByteArray) (r:List ByteArray) (w:World) (hG:Gl w) (h:strings_Split.f a0 a1=some r):
  Calls Tryz.prog 131 #[.string a0,.string a1] w fun e w'=> ∃v0:Value,e= .returned (v0)∧Kd.R Kd.string 9 w' w.heap.size (fun _=>True) v0 r∧Below w.heap.size w w':=by
 unfold strings_Split.f at h
 by_cases hl:a0.size<4294967281∧1≤a1.size
 ·rw[if_pos hl]at h;obtain⟨hs,h1⟩:=hl;obtain⟨m,hm⟩:=hG.maxLen;have hr:=Option.some.inj h;have hlen:r.length=Lib.countB a0 a1+1:=by rw[←hr];exact Lib.splitB_all a1 h1 0 _ a0 rfl
  have hle:=Lib.countB_le a1 h1 a0.size a0 (Nat.le_refl _);refine(Tryz.strings_Split a0 a1 m w hs hm h1).mono ?_;rintro e w' ⟨he,hw⟩;rw[hr]at hw;subst hw;refine⟨_,he,?_,below_alloc (Below.refl _ _) _⟩;have ho:=World.ownsRow_lit (base:=w.heap.size) (e:=9) (size:=1) w (r.map Value.string).toArray (Lib.countB a0 a1+1) (Nat.le_refl _) (by unfold maxLen;omega) (by simp[hlen]);refine Kd.R_of_own ?_ (fun _ _=>trivial);rw[hlen]
  simpa [encs]using ho
 ·rw[if_neg hl]at h;cases h
end Go.Proofs.YthmehmehoehlpaaGreatDoor.GFnExactRecText
