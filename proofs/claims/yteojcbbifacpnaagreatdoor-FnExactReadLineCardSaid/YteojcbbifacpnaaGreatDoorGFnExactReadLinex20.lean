-- Printed by gen.py and its programs for this claim.
import Derived.Test.YteojcbbifacpnaaGreatDoorGFnExactReadLinex0
import Derived.Test.YteojcbbifacpnaaGreatDoorGFnExactReadLinex19
import Derived.Test.YteojcbbifacpnaaGreatDoorZFnExactReadLine
namespace Go.Proofs.YteojcbbifacpnaaGreatDoor.GFnExactReadLine
open Go.RowKit Go.Proofs.YteojcbbifacpnaaGreatDoorW.PrintWords Go.Proofs.YteojcbbifacpnaaGreatDoorW.PrintLast Go.Proofs.YteojcbbifacpnaaGreatDoorW.PrintMore Go.Proofs.YteojcbbifacpnaaGreatDoorW.Zs
set_option maxHeartbeats 40000000
set_option maxRecDepth 100000
attribute [local go_sem] zL qL xN zN qK xK xL jL
set_option linter.unusedVariables false
set_option linter.unusedSimpArgs false
def kZ.f (a0:Int):Option (ByteArray):=(vC.f a0 0 999999999999999).bind fun t313=>(if t313=true then((strconv_Itoa.f a0).bind fun t314=>(some t314))else(some (⟨#[]⟩:ByteArray)))
theorem kZ.calls (a0:Int) (r:ByteArray) (w:World) (hG:Gl w) (h:kZ.f a0=some r):
  Calls Tryz.prog 86 #[.int .i64 a0] w fun e w'=>e= .returned (.string r)∧Below w.heap.size w w':=by
 have HG:=am_ hG;clear hG;have HB:=am_ (Below.refl w.heap.size w);have H:((vC.f a0 0 999999999999999).bind fun t313=>(if t313=true then((strconv_Itoa.f a0).bind fun t314=>(some t314))else(some (⟨#[]⟩:ByteArray))))=some r:=h;clear h;replace H:=be_ H;obtain⟨t313,A20,H⟩:=H;(try dsimp only at H);have A2:=am_ A20;clear A20
 by_cases c3:t313=true
 ·subst c3;rw[if_pos rfl]at H;replace H:=be_ H;obtain⟨t314,A40,H⟩:=H;(try dsimp only at H);have A4:=am_ A40;clear A40;obtain rfl:=si_ H;go_enter Tryz.func86,Tryz.ntmps86
  go_wp2_with (first|((with_reducible refine zB (f:=40) rfl ?_);refine jG 4 Tryz.func40 #[.int .i64 a0,.int .i64 0,.int .i64 999999999999999] (vC.calls a0 0 999999999999999 true _ A2.out) ?_;rintro w' ⟨nd,rfl⟩)|((with_reducible refine zB (f:=72) rfl ?_);refine vQ 7 Tryz.func72 #[.int .i64 a0] ?_;(with_reducible refine(strconv_Itoa.calls a0 t314 _ ?side1 A4.out).mono ?_);(case side1=>exact Gl.below HG.out zz0);rintro e w5 ⟨rfl,hb⟩;refine⟨_,rfl,?_⟩;replace HB:=am_ (kA zz0 hb);(try clear hb)))
  go_ret;exact⟨zz1,zz0⟩
 ·replace c3:=bf_ c3;subst c3;rw[if_neg ft_]at H;obtain rfl:=si_ H;go_enter Tryz.func86,Tryz.ntmps86
  go_wp2_with (first|((with_reducible refine zB (f:=40) rfl ?_);refine jG 4 Tryz.func40 #[.int .i64 a0,.int .i64 0,.int .i64 999999999999999] (vC.calls a0 0 999999999999999 false _ A2.out) ?_;rintro w' ⟨nd,rfl⟩))
  go_ret;exact⟨zz1,zz0⟩
def kJ.ok (l:List UInt8):Int×Bool:=match Lib.atoiAll l with
 | .ok v=>if 0≤v∧v≤999999999999999∧Lib.itoa v=l then(v,true)else(0,false)
 |_=>(0,false)
def kJ.f (a0:ByteArray):Option (Int×Bool):=if a0.size≤1099511627776 then some (kJ.ok a0.data.toList)else none
theorem cZ1 (v:Int) (h0:0≤v) (h1:v≤999999999999999):kZ.f v=some ⟨(Lib.itoa v).toArray⟩:=by
 unfold kZ.f vC.f strconv_Itoa.f
 simp[h0,h1,show-9223372036854775808≤v by omega,show v≤9223372036854775807 by omega]
theorem kJ.calls (a0:ByteArray) (r1:Int) (r2:Bool) (w:World) (hG:Gl w) (h:kJ.f a0=some (r1,r2)):
  Calls Tryz.prog 52 #[.string a0] w fun e w'=>e= .returned (.tuple #[.int .i64 r1,.bool r2])∧Below w.heap.size w w':=by
 unfold kJ.f at h
 by_cases hlim:a0.size≤1099511627776
 ·rw[if_pos hlim]at h;have H:=si_ h;clear h;have HG:=am_ hG;clear hG;unfold kJ.ok at H
  cases hA:Lib.atoiAll a0.data.toList with
  | «syntax» =>
   rw[hA]at H;obtain⟨rfl,rfl⟩:_∧_:=by simpa only[Prod.mk.injEq]using H
   obtain⟨tp,p,hv⟩:=HG.out.errS;go_enter Tryz.func52,Tryz.ntmps52
   go_wp2_with (go_at_call 84;refine(Tryz.strconv_Atoi_syntax_var a0 (by omega) hA tp p w hv).mono ?_;rintro e w' ⟨N,rfl,_,_,hb⟩)
   go_ret2
   exact⟨rfl,hb⟩
  |range=>
   rw[hA]at H;obtain⟨rfl,rfl⟩:_∧_:=by simpa only[Prod.mk.injEq]using H
   obtain⟨tp,p,hv⟩:=HG.out.errR;go_enter Tryz.func52,Tryz.ntmps52
   go_wp2_with (go_at_call 84;refine(Tryz.strconv_Atoi_range_var a0 (by omega) hA tp p w hv).mono ?_;rintro e w' ⟨N,rfl,_,_,hb⟩)
   go_ret2
   exact⟨rfl,hb⟩
  |ok v=>
   rw[hA]at H
   have hat:=(Tryz.strconv_Atoi_ok a0 (by omega) v hA w).mono (R':=fun e w'=>e= .returned (.tuple #[.int .i64 v,.nilIface])∧Below w.heap.size w w') (by
    rintro e w' ⟨he,hw|⟨t,hw⟩⟩
    ·subst hw;exact⟨he,Below.refl _ _⟩
    ·subst hw;exact⟨he,cJ5 (Below.refl _ _) (Nat.le_refl _) _ _⟩)
   by_cases hv:0≤v∧v≤999999999999999
   ·have hw:vC.f v 0 999999999999999=some true:=by unfold vC.f;rw[if_pos hv.1,dt_ hv.2]
    have hd:=cZ1 v hv.1 hv.2;have HV:=am_ hv;clear hv
    by_cases he:Lib.itoa v=a0.data.toList
    ·have hr:(v,true)=(r1,r2):=by rw[←H];exact(if_pos ⟨HV.out.1,HV.out.2,he⟩).symm
     obtain⟨rfl,rfl⟩:_∧_:=by simpa only[Prod.mk.injEq]using hr
     have he2:(⟨(Lib.itoa v).toArray⟩:ByteArray)=a0:=by rw[he]
     rw[he2]at hd;clear H hr he he2;go_enter Tryz.func52,Tryz.ntmps52
     go_wp2_with (first|(go_at_call 84;refine hat.mono ?_;rintro e w1 ⟨rfl,hb1⟩;have HB1:=am_ hb1;clear hb1)|(go_at_call 40;refine(vC.calls v 0 999999999999999 true _ hw).mono ?_;rintro e w2 ⟨rfl,⟨nd,rfl⟩⟩)|(go_at_call 86;refine(kZ.calls v a0 _ (HG.out.below (wC HB1.out nd)) hd).mono ?_;rintro e w3 ⟨rfl,hb3⟩;have HB3:=am_ hb3;clear hb3))
     go_ret2
     exact⟨rfl,(wC HB1.out nd).trans (HB3.out.mono (by have:=HB1.out.size;simpa using this))⟩
    ·have hr:(0,false)=(r1,r2):=by rw[←H];exact(if_neg (fun hh=>he hh.2.2)).symm
     obtain⟨rfl,rfl⟩:_∧_:=by simpa only[Prod.mk.injEq]using hr
     obtain⟨d,hdd⟩: ∃d:ByteArray,(⟨(Lib.itoa v).toArray⟩:ByteArray)=d:=⟨_,rfl⟩
     have hne: ¬d.toList=a0.toList:=by
      rw[←hdd,ByteArray.toList_eq,ByteArray.toList_eq];exact fun hh=>he (by simpa using hh)
     have hnf:=eq_false hne;have hnb:(d.toList==a0.toList)=false:=beq_eq_false_iff_ne.2 hne;rw[hdd]at hd;clear H hr he hdd;go_enter Tryz.func52,Tryz.ntmps52
     go_wp2_with (first|(go_at_call 84;refine hat.mono ?_;rintro e w1 ⟨rfl,hb1⟩;have HB1:=am_ hb1;clear hb1)|(go_at_call 40;refine(vC.calls v 0 999999999999999 true _ hw).mono ?_;rintro e w2 ⟨rfl,⟨nd,rfl⟩⟩)|(go_at_call 86;refine(kZ.calls v d _ (HG.out.below (wC HB1.out nd)) hd).mono ?_;rintro e w3 ⟨rfl,hb3⟩;have HB3:=am_ hb3;clear hb3))
     go_ret2
     exact⟨rfl,(wC HB1.out nd).trans (HB3.out.mono (by have:=HB1.out.size;simpa using this))⟩
   ·have hw:vC.f v 0 999999999999999=some false:=by
     unfold vC.f
     split
     ·rw[df_ (by omega)]
     ·rfl
    have hr:(0,false)=(r1,r2):=by rw[←H];exact(if_neg (fun hh=>hv ⟨hh.1,hh.2.1⟩)).symm
    obtain⟨rfl,rfl⟩:_∧_:=by simpa only[Prod.mk.injEq]using hr
    clear H hr hv;go_enter Tryz.func52,Tryz.ntmps52
    go_wp2_with (first|(go_at_call 84;refine hat.mono ?_;rintro e w1 ⟨rfl,hb1⟩;have HB1:=am_ hb1;clear hb1)|(go_at_call 40;refine(vC.calls v 0 999999999999999 false _ hw).mono ?_;rintro e w2 ⟨rfl,⟨nd,rfl⟩⟩))
    go_ret2
    exact⟨rfl,wC HB1.out nd⟩
 ·rw[if_neg hlim]at h;cases h
def strings_Cut.f (a0 a1:ByteArray):Option (ByteArray×ByteArray×Bool):=if a0.size<4294967281 then some (⟨(Lib.cut a0.data.toList a1.data.toList).1.toArray⟩,⟨(Lib.cut a0.data.toList a1.data.toList).2.1.toArray⟩,(Lib.cut a0.data.toList a1.data.toList).2.2)else none
theorem strings_Cut.calls (a0 a1 r1 r2:ByteArray) (r3:Bool) (w:World) (hG:Gl w) (h:strings_Cut.f a0 a1=some (r1,r2,r3)):
  Calls Tryz.prog 60 #[.string a0,.string a1] w fun e w'=>e= .returned (.tuple #[.string r1,.string r2,.bool r3])∧Below w.heap.size w w':=by
 unfold strings_Cut.f at h
 by_cases hs:a0.size<4294967281
 ·rw[if_pos hs]at h;obtain⟨rfl,rfl,rfl⟩:_∧_∧_:=by simpa only[Option.some.injEq,Prod.mk.injEq]using h
  obtain⟨m,hm⟩:=hG.maxLen;refine(Tryz.strings_Cut a0 a1 m w hs hm).mono ?_;rintro e w' ⟨he,n,hw⟩;subst hw;exact⟨he,wC (Below.refl _ _) n⟩
 ·rw[if_neg hs]at h;cases h
def zV.f (a0:ByteArray):Option (ByteArray×Int×ByteArray×ByteArray×Bool):=(strings_Cut.f a0 (⟨#[63]⟩:ByteArray)).bind fun bt317=>(some ((⟨#[]⟩:ByteArray),0,bt317.1,bt317.2.1,bt317.2.2))
theorem zV.calls (a0 r1:ByteArray) (r2:Int) (r3 r4:ByteArray) (r5:Bool) (w:World) (hG:Gl w) (h:zV.f a0=some (r1,r2,r3,r4,r5)):
  Calls Tryz.prog 61 #[.string a0] w fun e w'=>e= .returned (.agg #[.string r1,.int .i64 r2,.string r3,.string r4,.bool r5])∧Below w.heap.size w w':=by
 have hu48:=Tryz.underlying48;have HG:=am_ hG;clear hG;have HB:=am_ (Below.refl w.heap.size w);have H:((strings_Cut.f a0 (⟨#[63]⟩:ByteArray)).bind fun bt317=>(some ((⟨#[]⟩:ByteArray),0,bt317.1,bt317.2.1,bt317.2.2)))=some (r1,r2,r3,r4,r5):=h;clear h;replace H:=be_ H;obtain⟨⟨t317,t318,t319⟩,A20,H⟩:=H;(try dsimp only at H);have A2:=am_ A20;clear A20;simp only[Option.some.injEq,Prod.mk.injEq]at H;obtain⟨rfl,rfl,rfl,rfl,rfl⟩:=H;go_enter Tryz.func61,Tryz.ntmps61
 go_wp2_with (first|((with_reducible refine xF (N:=2) rfl ?_);refine jN (N:=2) (cs:= #[.string (⟨#[]⟩:ByteArray),.int .i64 0,.string (⟨#[]⟩:ByteArray),.string (⟨#[]⟩:ByteArray),.bool false]) (t:=48) ?_;intro gb315 hg w3 hbox hb;have BK315:=am_ (hbox);have GE315:=wQ (w:=w) hg zz0;replace HB:=am_ (kA zz0 hb);clear hb hbox hg)|((with_reducible refine xF (N:=3) rfl ?_);refine jN (N:=3) (cs:= #[.string (⟨#[]⟩:ByteArray),.int .i64 0,.string (⟨#[]⟩:ByteArray),.string (⟨#[]⟩:ByteArray),.bool false]) (t:=48) ?_;intro gb316 hg w4 hbox hb;have BK316:=am_ (hbox);have GE316:=wQ (w:=w) hg zz113;replace HB:=am_ (kA zz113 hb);have NB315_316:=cK6 (g:=gb315) hg zz89;have NB316_315:=cW6 (g:=gb315) hg zz89;replace BK315:=am_ (qB zz89 hb);clear hb hbox hg)|((with_reducible refine zB (f:=60) rfl ?_);refine vQ 6 Tryz.func60 #[.string a0,.string (⟨#[63]⟩:ByteArray)] ?_;(with_reducible refine(strings_Cut.calls a0 (⟨#[63]⟩:ByteArray) t317 t318 t319 _ ?side1 A2.out).mono ?_);(case side1=>exact Gl.below HG.out zz83);rintro e w5 ⟨rfl,hb⟩;refine⟨_,rfl,?_⟩;replace BK315:=am_ (qB zz89 hb);replace BK316:=am_ (qB (by(with_reducible repeat(first|refine zA ?_ _|refine vA ?_|refine jA ?_ _));exact BK316.out) hb);replace HB:=am_ (kA zz83 hb);(try clear hb);have hnb6:=NB316_315.out;have hnc6:=NB315_316.out;obtain⟨_,_,_,_,_,_,_,_,_,_⟩:=wK BK316.out;obtain⟨_,_,_,_,_,_,_,_,_,_⟩:=wK BK315.out))
 refine bodyPost_ret (results_cell_row rfl _ _ gb315 48 #[.string (⟨#[]⟩:ByteArray),.int .i64 0,.string t317,.string t318,.bool t319] (0,0) _ rfl (by(with_reducible repeat(first|refine zA ?_ _|refine vA ?_|refine jA ?_ _));refine xB (cs:= #[.string (⟨#[]⟩:ByteArray),.int .i64 0,.string t317,.string t318,.bool false]) ?_ 4 _ rfl;(with_reducible repeat(first|refine zA ?_ _|refine vA ?_|refine jA ?_ _));refine xB (cs:= #[.string (⟨#[]⟩:ByteArray),.int .i64 0,.string t317,.string (⟨#[]⟩:ByteArray),.bool false]) ?_ 3 _ rfl;(with_reducible repeat(first|refine zA ?_ _|refine vA ?_|refine jA ?_ _));refine xB (cs:= #[.string (⟨#[]⟩:ByteArray),.int .i64 0,.string (⟨#[]⟩:ByteArray),.string (⟨#[]⟩:ByteArray),.bool false]) ?_ 2 _ rfl;(with_reducible repeat(first|refine zA ?_ _|refine vA ?_|refine jA ?_ _));refine xB (cs:= #[.string (⟨#[]⟩:ByteArray),.int .i64 0,.string (⟨#[]⟩:ByteArray),.string (⟨#[]⟩:ByteArray),.bool false]) ?_ 1 _ rfl;(with_reducible repeat(first|refine zA ?_ _|refine vA ?_|refine jA ?_ _));refine xB (cs:= #[.string (⟨#[]⟩:ByteArray),.int .i64 0,.string (⟨#[]⟩:ByteArray),.string (⟨#[]⟩:ByteArray),.bool false]) ?_ 0 _ rfl;(iterate 3 ((with_reducible repeat(first|refine zA ?_ _|refine vA ?_|refine jA ?_ _));refine yK ?_ NB315_316.out _));(with_reducible repeat(first|refine zA ?_ _|refine vA ?_|refine jA ?_ _));exact BK315.out) Tryz.underlying48 rfl (by kernel_rfl)) rfl ?_;exact⟨zz1,zz83⟩
def strings_Join.f (l0:List ByteArray) (a1:ByteArray):Option (ByteArray):=if l0.length≤1099511627776∧(Lib.join (l0.map (·.data.toList)) a1.data.toList).length≤1099511627776 then some ⟨(Lib.join (l0.map (·.data.toList)) a1.data.toList).toArray⟩else none
theorem strings_Join.calls (A0:Option Addr) (c0:Nat) (l0:List ByteArray) (a1 r:ByteArray) (w:World) (hr0:Kd.C Kd.string w A0 l0.length l0) (hc0:l0.length≤c0) (h:strings_Join.f l0 a1=some r):
  Calls Tryz.prog 62 #[.slice A0 l0.length c0,.string a1] w fun e w'=>e= .returned (.string r)∧Below w.heap.size w w':=by
 unfold strings_Join.f at h
 by_cases hs:l0.length≤1099511627776∧(Lib.join (l0.map (·.data.toList)) a1.data.toList).length≤1099511627776
 ·rw[if_pos hs]at h;obtain rfl:=si_ h
  rcases Nat.eq_zero_or_pos l0.length with h0|h0
  ·obtain rfl:=List.eq_nil_of_length_eq_zero h0;exact(Tryz.strings_Join_none A0 c0 a1 w).mono fun e w' ⟨he,hw⟩=>⟨he,hw ▸ Below.refl _ _⟩
  ·obtain⟨ad,rfl,hcell⟩:=Kd.at_string hr0 0 (by omega) (by omega);have hsp:=World.cell?_spot hcell;have hlt:=World.block_lt_of_cell? w _ hcell;obtain⟨bk,o,sp⟩:=ad;obtain rfl:sp=none:=by simpa [Addr.add]using hsp
   refine Tryz.strings_Join bk o c0 l0 a1 w (fun j x hj=>?_) (by simpa [Addr.add]using hlt) (by omega) hc0 (by omega);have hjl:j<l0.length:=(List.getElem?_eq_some_iff.1 hj).1;obtain⟨ad,had,hc⟩:=Kd.at_string hr0 (j:Int) (by omega) (by omega);obtain rfl:=si_ had
   rcases Nat.eq_zero_or_pos j with rfl|hj0
   ·simpa [Addr.add,jB,List.getD_eq_getElem?_getD,hj]using hc
   ·have hne:j≠0:=by omega
    simpa [Addr.add,jB,List.getD_eq_getElem?_getD,hj,hne]using hc
 ·rw[if_neg hs]at h;cases h
def xC.l0:Nat→List ByteArray→Int→Int→Option (List ByteArray)
 |0,_,_,_=>none
 |k+1,x0,x2,x3=>if x2<x3 then(if 0≤x3 then(if x3<(x0.length:Int)then(if 0≤x2 then(if x2<(x0.length:Int)then(xC.l0 k ((x0.set (x2:Int).toNat (jB ByteArray.empty x0 x3)).set (x3:Int).toNat (jB ByteArray.empty x0 x2)) (wrap64 (x2+1)) (wrap64 (x3-1)))else(none))else(none))else(none))else(none))else(some x0)
def xC.f (k:Nat) (l0:List ByteArray):Option (List ByteArray):=xC.l0 k l0 0 (wrap64 ((l0.length:Int)-1))
def xC.T3:Bool×List (List Nat×List Nat):=(true,[([],[]),([],[]),([],[]),([],[]),([],[]),([],[]),([4,5],[4,5]),([6],[6]),([],[]),([],[]),([8,9],[8,9]),([10],[10]),([0,1,0,1,4,5,6,7,11],[0,1]),([12,7,0,1,4,5,6,7,11],[7,12]),([2,3,0,1,2,3,4,5,6,7,8,9,10,11,12,13],[2,3]),([14,11,13,0,1,2,3,4,5,6,7,8,9,10,11,12,13],[11,14])])
def xC.B3:List Nat:= [0,0,0,0,0,0,48,112,0,0,768,1792,4083,8179,16383,32767]
theorem xC.tab3:kU .any (kX Tryz.f96 3)=xC.T3:=by kernel_rfl
theorem xC.bits3:kP xC.T3.2 xC.B3=true:=by kernel_rfl
theorem xC.calls (k:Nat) (P0_:Nat→Prop) (u9000_:Value) (l0:List ByteArray) (r:List ByteArray) (w0 w:World) (hB:Below w0.heap.size w0 w) (ho0:Kd.R Kd.string 9 w w0.heap.size P0_ u9000_ l0) (h:xC.f k l0=some r):
  Calls Tryz.prog 96 #[u9000_] w fun e w'=>e= .returned (.tuple #[])∧Kd.R Kd.string 9 w' w0.heap.size (fun k_=>(P0_ k_∨w.heap.size≤k_)) u9000_ r∧Below w0.heap.size w0 w'∧qX w w' (fun k_=>P0_ k_):=by
 have HO0:=am_ (show Kd.R Kd.string 9 w w0.heap.size (fun k_=>(P0_ k_∨w.heap.size≤k_)) u9000_ l0 from Kd.R_mono ho0 (fun k_ hk=>(.inl hk)));have HK:=am_ (qX.refl w (fun k_=>P0_ k_));have HW0:=am_ hB.size;have HB:=am_ hB;clear hB;have H:(xC.l0 k l0 0 (wrap64 ((l0.length:Int)-1)))=some r:=h;clear h;have H':=am_ H;clear H;obtain⟨Ao2,co2,eo2⟩:=Kd.R_slice HO0.out;subst eo2;go_enter Tryz.func96,Tryz.ntmps96
 go_wp2
 go_loopg [2,3] k (fun kq v2 v3 w'=> ∃(x0_1:List ByteArray) (x2_1 x3_1:Int),v2= .int .i64 x2_1∧v3= .int .i64 x3_1∧wA (xC.l0 kq x0_1 x2_1 x3_1=some r)∧wA (kq≤k)∧wA (Kd.R Kd.string 9 w' w0.heap.size (fun k_=>(P0_ k_∨w.heap.size≤k_)) (.slice Ao2 l0.length co2) x0_1)∧wA (qX w w' (fun k_=>P0_ k_))∧wA (Below w0.heap.size w0 w'))
 case atStart=>exact⟨(l0),(0),(wrap64 ((l0.length:Int)-1)),vB,vB,H',⟨Nat.le_refl _⟩,⟨by(with_reducible repeat(first|apply Kd.R_alloc|apply Kd.R_drewN|apply Kd.R_drew));exact HO0.out⟩,⟨zz118⟩,⟨zz0⟩⟩
 case round=>
  clear H';(try clear p2);obtain⟨x0_1,x2_1,x3_1,rfl,rfl,HA,HK1,HO_0,HK,HB⟩:=hrel;have hl0_1:=(Kd.R_reads' HO_0.out).1;rw[hl0_1]at HO_0;(try simp only[hl0_1])
  cases gk with
  |zero=>exact absurd HA.out (by simp[xC.l0])
  |succ k1=>
   have H:=HA.out;clear HA;simp only[xC.l0]at H
   by_cases c3:x2_1<x3_1
   ·rw[if_pos c3]at H;have c3b0:=dt_ c3;clear c3
    by_cases c4:0≤x3_1
    ·rw[if_pos c4]at H;have c4b0:=dt_ c4;clear c4
     by_cases c5:x3_1<(x0_1.length:Int)
     ·rw[if_pos c5]at H;have c5b0:=dt_ c5;clear c5
      by_cases c6:0≤x2_1
      ·rw[if_pos c6]at H;have c6b0:=dt_ c6;clear c6
       by_cases c7:x2_1<(x0_1.length:Int)
       ·rw[if_pos c7]at H;have c7b0:=dt_ c7;clear c7;obtain⟨y322,hy322⟩: ∃y_:List ByteArray,y_=(x0_1.set (x2_1:Int).toNat (jB ByteArray.empty x0_1 x3_1)):=⟨_,rfl⟩;replace H:(xC.l0 k1 (y322.set (x3_1:Int).toNat (jB ByteArray.empty x0_1 x2_1)) (wrap64 (x2_1+1)) (wrap64 (x3_1-1)))=some r:=by first|(rw[hy322];with_reducible exact H)|(have H2_:=(Option.bind_some _ _).symm.trans H;rw[hy322];with_reducible exact H2_)|(have H2_:=(Option.bind_some _ _).symm.trans H;with_reducible exact H2_)|with_reducible exact H|(rw[hy322];exact H)|exact H
        have Ny322:=am_ hy322;clear hy322;obtain⟨y323,hy323⟩: ∃y_:List ByteArray,y_=(y322.set (x3_1:Int).toNat (jB ByteArray.empty x0_1 x2_1)):=⟨_,rfl⟩;replace H:(xC.l0 k1 y323 (wrap64 (x2_1+1)) (wrap64 (x3_1-1)))=some r:=by first|(rw[hy323];with_reducible exact H)|(have H2_:=(Option.bind_some _ _).symm.trans H;rw[hy323];with_reducible exact H2_)|(have H2_:=(Option.bind_some _ _).symm.trans H;with_reducible exact H2_)|with_reducible exact H|(rw[hy323];exact H)|exact H
        have Ny323:=am_ hy323;clear hy323;have H':=am_ H;clear H;(try go_wp2);replace HO_0:=am_ (Kd.R_drew HO_0.out);replace HK:=am_ (qX.drew HK.out);replace HB:=am_ (wB HB.out);have p320:0≤(x3_1:Int):=od_ zz5;have q320:x3_1<(x0_1.length:Int):=od_ zz5;obtain⟨ad320,e320,hx320_0⟩:=Kd.at_string (Kd.R_reads' HO_0.out).2.2 x3_1 p320 q320;cases e320;replace p320:=eq_true p320;replace q320:=eq_true q320;have p321:0≤(x2_1:Int):=od_ zz5;have q321:x2_1<(x0_1.length:Int):=od_ zz5;obtain⟨ad321,e321,hx321_0⟩:=Kd.at_string (Kd.R_reads' HO_0.out).2.2 x2_1 p321 q321;obtain rfl:ad320=ad321:=(by injection e321);replace p321:=eq_true p321;replace q321:=eq_true q321;have p8:0≤(x2_1:Int):=od_ zz5;have q8:(x2_1:Int)<((x0_1.length:Int):Int):=od_ zz5;obtain⟨go8,co8,eo8,gb8,gl8,cl8,HG8⟩:=Kd.R_form HO_0.out (by omega);(first|cases eo8|(injection eo8 with ea_ en_ ec_;(first|subst ea_|(injection ea_ with ea_;subst ea_));subst ec_;clear en_));have GB8:=am_ gb8;have GG8:=am_ HG8;clear gb8 gl8 HG8;have HMgo8:=am_ (show(P0_ go8∨w.heap.size≤go8)from(HO_0.out.1 _ rfl));(first|simp only[bX5]at hx320_0|skip);(first|simp only[bX5]at hx321_0|skip);obtain⟨hx8_0,hf8_0⟩:=Kd.R_celln (⟨#[]⟩:ByteArray) HO_0.out (x2_1:Int) p8 q8;replace p8:=eq_true p8;replace q8:=eq_true q8;have HP11:=Kd.R_putn HO_0.out (x2_1:Int) (jB ByteArray.empty x0_1 x3_1);rw[←Ny322.out]at HP11;have HQ11:=am_ HP11;clear HP11;have p9:0≤(x3_1:Int):=od_ zz5;have q9:(x3_1:Int)<((x0_1.length:Int):Int):=od_ zz5;obtain⟨hx9_0,hf9_0⟩:=Kd.R_celln (⟨#[]⟩:ByteArray) HQ11.out (x3_1:Int) p9 q9;replace p9:=eq_true p9;replace q9:=eq_true q9;have HP12:=Kd.R_putn HQ11.out (x3_1:Int) (jB ByteArray.empty x0_1 x2_1);rw[←Ny323.out]at HP12;have HQ12:=am_ HP12;clear HP12;refine st_ (n:=16) (S:=fun w'=>w'.cell? ⟨go8,(x3_1).toNat,none⟩=some (.string (jB ByteArray.empty x0_1 x3_1))∧w'.cell? ⟨go8,(x2_1).toNat,none⟩=some (.string (jB ByteArray.empty x0_1 x2_1))) (ds:= [13,15]) ⟨hx320_0,hx321_0⟩ (fun hHeld=>?_);refine vF xC.tab3 xC.bits3 (fun HT_ HW_=>?_);generalize wr.drew=w10 at HO_0 HK HB GG8 HQ11 HQ12 hf8_0 hf9_0 hx320_0 hx321_0 hx8_0 hx9_0 hHeld ⊢;refine pz 0 14 ?_;refine pz 1 15 ?_;refine pz 2 16 ?_;refine pz 3 17 ?_;refine pz 4 18 ?_;refine pz 5 19 ?_;refine pz 6 20 ?_;refine pz 8 22 ?_;refine pz 9 23 ?_;refine pz 10 24 ?_;refine tk4_ 7 21 hHeld ?_;refine tk4_ 11 25 hHeld ?_;refine pz 12 26 ?_;refine last_ (i:=13) (N:=none) #[true,true,true,true,true,true,true,true,true,true,true,true,true,true,false,false] rfl rfl (aW4 HT_.out (by kernel_rfl)) (by decide) (fun K hK=>?_);refine cJ1 (w1:=?_) (by rfl) rfl ?_ ?_;rotate_left
        ·go_simp;rfl
        refine hK.out _ _ ?_;clear hK K;refine pz 14 27 ?_;refine last_ (i:=15) (N:=none) #[true,true,true,true,true,true,true,true,true,true,true,true,true,true,true,true] rfl rfl (aW4 HT_.out (by kernel_rfl)) (by decide) (fun K hK=>?_);refine cJ1 (w1:=?_) (by rfl) rfl ?_ ?_;rotate_left
        ·go_simp;rfl
        refine hK.out _ _ ?_;clear hK K;refine qP (wJ HT_.out (by kernel_rfl)) ?_;(try go_wp2);(try simp only[←hl0_1]);go_roundg k1
        (case measure=>have:=HK1.out;omega);case rel=>exact⟨(y323),(wrap64 (x2_1+1)),(wrap64 (x3_1-1)),vB,vB,H',⟨aJ5⟩,⟨by(try simp only[hl0_1]);(with_reducible repeat(first|apply Kd.R_alloc|apply Kd.R_drewN|apply Kd.R_drew));exact HQ12.out⟩,⟨by repeat(first|(with_reducible first|exact HK.out|apply qX.alloc|apply qX.drewN|apply qX.drew|refine qX.setCell ?_ HMgo8.out _|refine qX.setCell ?_ HMgo8.out _)|exact HK.out)⟩,⟨by repeat(first|(with_reducible first|exact HB.out|apply zD|apply wC|apply wB|refine wD ?_ GB8.out|refine wD ?_ GB8.out)|exact HB.out)⟩⟩
       ·rw[if_neg c7]at H;exact absurd H (by simp)
      ·rw[if_neg c6]at H;exact absurd H (by simp)
     ·rw[if_neg c5]at H;exact absurd H (by simp)
    ·rw[if_neg c4]at H;exact absurd H (by simp)
   ·rw[if_neg c3]at H;have c3b0:=df_ c3;clear c3;obtain rfl:=si_ H;go_wp2
    (first|go_end0|((try simp only[Exit.inBlock,Exit.then]);refine bodyPost_ret (results_none rfl _ _ _) rfl ?_));exact⟨zz1,(by first|exact(by(with_reducible repeat(first|apply Kd.R_alloc|apply Kd.R_drewN|apply Kd.R_drew));exact HO_0.out)|(simp only[hl0_1];exact(by(with_reducible repeat(first|apply Kd.R_alloc|apply Kd.R_drewN|apply Kd.R_drew));exact HO_0.out))),zz0,zz118⟩
def xU.f (k:Nat) (l0:List ByteArray):Option (List ByteArray):=(some (([]:List ByteArray):List ByteArray)).bind fun y324=>(if y324.length+l0.length<8796093022208 then((xC.f k (y324++l0)).bind fun t330=>(some t330))else(none))
theorem xU.calls (k:Nat) (A0:Option Addr) (c0:Nat) (l0:List ByteArray) (r:List ByteArray) (w:World) (hr0:Kd.C Kd.string w A0 l0.length l0) (hc0:l0.length≤c0) (h:xU.f k l0=some r):
  Calls Tryz.prog 63 #[.slice A0 l0.length c0] w fun e w'=> ∃v0_:Value,e= .returned (v0_)∧Kd.R Kd.string 9 w' w.heap.size (fun _=>True) v0_ r∧Below w.heap.size w w':=by
 have HR0:=am_ hr0;have HC0:=am_ hc0;clear hr0 hc0;have HB:=am_ (Below.refl w.heap.size w);have H:((some (([]:List ByteArray):List ByteArray)).bind fun y324=>(if y324.length+l0.length<8796093022208 then((xC.f k (y324++l0)).bind fun t330=>(some t330))else(none)))=some r:=h;clear h;obtain⟨y324,hy324⟩: ∃y_:List ByteArray,y_=(([]:List ByteArray)):=⟨_,rfl⟩;replace H:(if y324.length+l0.length<8796093022208 then((xC.f k (y324++l0)).bind fun t330=>(some t330))else(none))=some r:=by first|(rw[hy324];with_reducible exact H)|(have H2_:=(Option.bind_some _ _).symm.trans H;rw[hy324];with_reducible exact H2_)|(have H2_:=(Option.bind_some _ _).symm.trans H;with_reducible exact H2_)|with_reducible exact H|(rw[hy324];exact H)|exact H
 have Ny324:=am_ hy324;clear hy324
 by_cases c2:y324.length+l0.length<8796093022208
 ·rw[if_pos c2]at H;have LMc2:=am_ c2;clear c2;obtain⟨y327,hy327⟩: ∃y_:List ByteArray,y_=(y324++l0):=⟨_,rfl⟩;replace H:((xC.f k y327).bind fun t330=>(some t330))=some r:=by first|(rw[hy327];with_reducible exact H)|(have H2_:=(Option.bind_some _ _).symm.trans H;rw[hy327];with_reducible exact H2_)|(have H2_:=(Option.bind_some _ _).symm.trans H;with_reducible exact H2_)|with_reducible exact H|(rw[hy327];exact H)|exact H
  have Ny327:=am_ hy327;clear hy327;replace H:=be_ H;obtain⟨t330,A30,H⟩:=H;(try dsimp only at H);have A3:=am_ A30;clear A30;obtain rfl:=si_ H;go_enter Tryz.func63,Tryz.ntmps63
  go_wp2_with (first|((with_reducible refine xF (N:=4) rfl ?_);refine Kd.R_lit Kd.string _ 9 ?hg (N:=4) ?hd (xs:=([]:List ByteArray)) (inner:= []) (ok:=fun _=>True) (okp:=fun _=>True) ?hr ?hp (fun _ hk=>hk) trivial (Below.refl _ _) (Nat.le_refl _) (by simp) ?_;(case hd=>rfl);(case hg=>rfl);(case hr=>first|(go_simp;done)|(go_simp;rfl));(case hp=>exact(qM.none _ _));intro v325 w4 ho5 hb hg_ hnew_;clear hg_ hnew_;(first|rw[←Ny324.out]at ho5|(simp only[Int.reduceToNat]at ho5;rw[←Ny324.out]at ho5));have HO326:=am_ (Kd.R_lower ho5 (zH zz0));replace HB:=am_ (kA zz0 hb);clear hb ho5)|((with_reducible refine zO (b:= .append) (xs:= #[.tmp 4,.tmp 5]) rfl ?_);at_builtin;refine Kd.R_append_rows Kd.string (w0:=w) w.heap.size rfl (.tmp 4) (.tmp 5) 57 9 (.string ⟨#[]⟩) 16 rfl Tryz.underlying57 info9 rfl (by decide) (by omega) v325 y324 l0 _ _ _ (fun _=>True) (fun _=>False) rfl rfl ?aO ?aR (fun _ _ h=>h) (fun _ h=>h.elim) ?aF ?aB ?aS ?aL ?_;(case aR=>repeat(first|exact(Kd.C_below HR0.out HB.out)|(with_reducible refine Kd.C_alloc ?_ _)|(with_reducible refine Kd.C_drewN ?_ _)|(with_reducible refine Kd.C_drew ?_)));(case aB=>exact zz0);(case aF=>exact(fun _ _=>trivial));(case aO=>exact(by(with_reducible repeat(first|apply Kd.R_alloc|apply Kd.R_drewN|apply Kd.R_drew));exact HO326.out));(case aS=>exact(zH zz0));(case aL=>have:=LMc2.out;omega);intro v328 w6 ho hb hg hat;rw[←Ny327.out]at ho;replace HB:=am_ (hb);have HO329:=am_ (ho);clear HO326;clear ho hb hg hat;obtain⟨Ao7,co7,eo7⟩:=Kd.R_slice HO329.out;subst eo7)|((with_reducible refine zB (f:=96) rfl ?_);refine vQ 8 Tryz.func96 #[.slice Ao7 y327.length co7] ?_;(with_reducible refine(xC.calls k (fun k_=>some k_=(.slice Ao7 y327.length co7:Value).ownBlock) (.slice Ao7 y327.length co7) y327 t330 w _ ?side1 ?side2 A3.out).mono ?_);(case side1=>repeat(first|(with_reducible first|exact HB.out|apply zD|apply wC|apply wB)|exact HB.out));(case side2=>exact Kd.R_tight rfl HO329.out);rintro e w8 ⟨rfl,hy0,hb,hkp⟩;refine⟨_,rfl,?_⟩;replace HO329:=am_ (Kd.R_reok rfl hy0 (fun k_ e_=>HO329.out.1 k_ e_));replace HB:=am_ (hb);(try clear hb);(try clear hkp);(try clear hy0)))
  go_ret;exact⟨_,zz1,by(with_reducible repeat(first|apply Kd.R_alloc|apply Kd.R_drewN|apply Kd.R_drew));exact HO329.out,zz0⟩
 ·rw[if_neg c2]at H;exact absurd H (by simp)
def kL.f (a0:Int):Option (Bool):=if a0≥48 then(some (decide (a0≤57)))else(some false)
theorem kL.calls (a0:Int) (r:Bool) (w:World) (h:kL.f a0=some r):
  Calls Tryz.prog 82 #[.int .u8 a0] w fun e w'=>e= .returned (.bool r)∧wI w w':=by
 have H:(if a0≥48 then(some (decide (a0≤57)))else(some false))=some r:=h;clear h
 by_cases c2:a0≥48
 ·rw[if_pos c2]at H;have c2b0:decide (48≤a0)=true:=dt_ c2;clear c2;obtain rfl:=si_ H;go_enter Tryz.func82,Tryz.ntmps82
  go_wp2
  go_ret;exact⟨vB,zz4⟩
 ·rw[if_neg c2]at H;have c2b0:decide (48≤a0)=false:=df_ c2;clear c2;obtain rfl:=si_ H;go_enter Tryz.func82,Tryz.ntmps82
  go_wp2
  go_ret;exact⟨vB,zz4⟩
def xQ.f (a0:Int):Option (Bool):=if a0≥97 then(some (decide (a0≤122)))else(some false)
theorem xQ.calls (a0:Int) (r:Bool) (w:World) (h:xQ.f a0=some r):
  Calls Tryz.prog 134 #[.int .u8 a0] w fun e w'=>e= .returned (.bool r)∧wI w w':=by
 have H:(if a0≥97 then(some (decide (a0≤122)))else(some false))=some r:=h;clear h
 by_cases c2:a0≥97
 ·rw[if_pos c2]at H;have c2b0:decide (97≤a0)=true:=dt_ c2;clear c2;obtain rfl:=si_ H;go_enter Tryz.func134,Tryz.ntmps134
  go_wp2
  go_ret;exact⟨vB,zz4⟩
 ·rw[if_neg c2]at H;have c2b0:decide (97≤a0)=false:=df_ c2;clear c2;obtain rfl:=si_ H;go_enter Tryz.func134,Tryz.ntmps134
  go_wp2
  go_ret;exact⟨vB,zz4⟩
def jV.f (a0:Int):Option (Bool):=(xQ.f a0).bind fun t331=>(if t331=true then(some true)else((kL.f a0).bind fun t332=>(if t332=true then(some true)else(if a0=45 then(some true)else(some (a0==46))))))
theorem jV.calls (a0:Int) (r:Bool) (w:World) (h:jV.f a0=some r):
  Calls Tryz.prog 133 #[.int .u8 a0] w fun e w'=>e= .returned (.bool r)∧wI w w':=by
 have H:((xQ.f a0).bind fun t331=>(if t331=true then(some true)else((kL.f a0).bind fun t332=>(if t332=true then(some true)else(if a0=45 then(some true)else(some (a0==46)))))))=some r:=h;clear h;replace H:=be_ H;obtain⟨t331,A20,H⟩:=H;(try dsimp only at H);have A2:=am_ A20;clear A20;have HC3:=am_ H;clear H;go_enter Tryz.func133,Tryz.ntmps133
 repeat' (first|(go_big_may;(first|((with_reducible refine zB (f:=134) rfl ?_);refine jG 4 Tryz.func134 #[.int .u8 a0] (xQ.calls a0 t331 _ A2.out) ?_;rintro w' ⟨nd,rfl⟩)))|go_values|go_skip|go_big_skip|go_big_want|((first|(with_reducible refine wE rfl ?_)|(fail_if_success with_reducible refine yE ?_));go_step)|go_upon|simp only[Bool.not_true,Bool.not_false,Bool.true_and,Bool.false_and,Bool.true_or,Bool.false_or]|dsimp only)
 (try simp only[Act.put,List.setIfInBounds_toArray,List.set_cons_zero,List.set_cons_succ]);have H:=HC3.out;clear HC3
 by_cases c4:t331=true
 ·subst c4;rw[if_pos rfl]at H;obtain rfl:=si_ H;go_wp2
  go_ret;exact⟨vB,zz4⟩
 ·replace c4:=bf_ c4;subst c4;rw[if_neg ft_]at H;replace H:=be_ H;obtain⟨t332,A50,H⟩:=H;(try dsimp only at H);have A5:=am_ A50;clear A50;have HC6:=am_ H;clear H
  repeat' (first|(go_big_may;(first|(go_at_call 82;(with_reducible refine(kL.calls a0 t332 _ A5.out).mono ?_);rintro e w' ⟨rfl,⟨nd,rfl⟩⟩)))|go_values|go_skip|go_big_skip|go_big_want|((first|(with_reducible refine wE rfl ?_)|(fail_if_success with_reducible refine yE ?_));go_step)|go_upon|simp only[Bool.not_true,Bool.not_false,Bool.true_and,Bool.false_and,Bool.true_or,Bool.false_or]|dsimp only)
  (try simp only[Act.put,List.setIfInBounds_toArray,List.set_cons_zero,List.set_cons_succ]);have H:=HC6.out;clear HC6
  by_cases c7:t332=true
  ·subst c7;rw[if_pos rfl]at H;obtain rfl:=si_ H;go_wp2
   go_ret;exact⟨vB,zz4⟩
  ·replace c7:=bf_ c7;subst c7;rw[if_neg ft_]at H
   by_cases c8:a0=45
   ·rw[if_pos c8]at H;have c8b0:(a0==45)=true:=beq_iff_eq.mpr c8;have c8b1:(a0 !=45)=false:=bne_eq_false_iff_eq.mpr c8;clear c8;(first|rw[c8b0]|(simp only[yC,qD];rw[c8b0])|rw[c8b1]|(rw[c8b2];simp only[Bool.not_true,Bool.not_false])|skip);obtain rfl:=si_ H;go_wp2
    go_ret;exact⟨vB,zz4⟩
   ·rw[if_neg c8]at H;have c8b0:(a0==45)=false:=beq_eq_false_iff_ne.mpr c8;have c8b1:(a0 !=45)=true:=bne_iff_ne.mpr c8;(first|rw[c8b0]|(simp only[yC,qD];rw[c8b0])|rw[c8b1]|(rw[c8b2];simp only[Bool.not_true,Bool.not_false])|skip);obtain rfl:=si_ H;go_wp2
    go_ret;exact⟨vB,zz4⟩
def zE.l0:Nat→List ByteArray→ByteArray→Int→Int→Option (Int)
 |0,_,_,_,_=>none
 |k+1,x0,x1,x7,x8=>if x8<x7 then(if 0≤x8 then(if x8<(x0.length:Int)then(if x1.toList=(jB ByteArray.empty x0 x8).toList then(some x8)else(zE.l0 k x0 x1 x7 (wrap64 (x8+1))))else(none))else(none))else(some (-1))
def zE.f (k:Nat) (l0:List ByteArray) (a1:ByteArray):Option (Int):=zE.l0 k l0 a1 (l0.length:Int) 0
theorem zE.calls (k:Nat) (A0:Option Addr) (c0:Nat) (l0:List ByteArray) (a1:ByteArray) (r:Int) (w:World) (hr0:Kd.C Kd.string w A0 l0.length l0) (hc0:l0.length≤c0) (h:zE.f k l0 a1=some r):
  Calls Tryz.prog 161 #[.slice A0 l0.length c0,.string a1] w fun e w'=>e= .returned (.int .i64 r)∧wI w w':=by
 have HR0:=am_ hr0;have HC0:=am_ hc0;clear hr0 hc0;have H:(zE.l0 k l0 a1 (l0.length:Int) 0)=some r:=h;clear h;have H':=am_ H;clear H;go_enter Tryz.func161,Tryz.ntmps161
 go_wp2
 go_loopg [8] k (fun kq v8 w'=> ∃(x8_1:Int),v8= .int .i64 x8_1∧wA (zE.l0 kq l0 a1 (l0.length:Int) x8_1=some r)∧wA (kq≤k)∧wI w w')
 case atStart=>exact⟨(0),vB,H',⟨Nat.le_refl _⟩,zz4⟩
 case round=>
  clear H';(try clear c1);(try clear p2);obtain⟨x8_1,rfl,HA,HK1,⟨m1,rfl⟩⟩:=hrel
  cases gk with
  |zero=>exact absurd HA.out (by simp[zE.l0])
  |succ k1=>
   have H:=HA.out;clear HA;simp only[zE.l0]at H
   by_cases c3:x8_1<(l0.length:Int)
   ·rw[if_pos c3]at H;have c3b0:=dt_ c3;clear c3
    by_cases c4:0≤x8_1
    ·rw[if_pos c4]at H;have c4b0:=dt_ c4;clear c4
     by_cases c5:x8_1<(l0.length:Int)
     ·rw[if_pos c5]at H;have c5b0:=dt_ c5;clear c5
      by_cases c6:a1.toList=(jB ByteArray.empty l0 x8_1).toList
      ·rw[if_pos c6]at H;have c6b0:(a1.toList==(jB ByteArray.empty l0 x8_1).toList)=true:=beq_iff_eq.mpr c6;have c6b1:(a1.toList !=(jB ByteArray.empty l0 x8_1).toList)=false:=bne_eq_false_iff_eq.mpr c6;clear c6;obtain rfl:=si_ H;have p333:0≤(x8_1:Int):=od_ zz5;have q333:x8_1<(l0.length:Int):=od_ zz5;obtain⟨ad333,e333,hx333_0⟩:=Kd.at_string HR0.out x8_1 p333 q333;cases e333;replace p333:=eq_true p333;replace q333:=eq_true q333;go_wp2
       go_ret;exact⟨vB,zz4⟩
      ·rw[if_neg c6]at H;have c6b0:(a1.toList==(jB ByteArray.empty l0 x8_1).toList)=false:=beq_eq_false_iff_ne.mpr c6;have c6b1:(a1.toList !=(jB ByteArray.empty l0 x8_1).toList)=true:=bne_iff_ne.mpr c6;have H':=am_ H;clear H;have p333:0≤(x8_1:Int):=od_ zz5;have q333:x8_1<(l0.length:Int):=od_ zz5;obtain⟨ad333,e333,hx333_0⟩:=Kd.at_string HR0.out x8_1 p333 q333;cases e333;replace p333:=eq_true p333;replace q333:=eq_true q333;go_wp2
       go_roundg k1
       (case measure=>have:=HK1.out;omega);case rel=>exact⟨(wrap64 (x8_1+1)),vB,H',⟨aJ5⟩,zz4⟩
     ·rw[if_neg c5]at H;exact absurd H (by simp)
    ·rw[if_neg c4]at H;exact absurd H (by simp)
   ·rw[if_neg c3]at H;have c3b0:=df_ c3;clear c3;obtain rfl:=si_ H;go_wp2
    go_ret;exact⟨vB,zz4⟩
def wL.f (k:Nat) (l0:List ByteArray) (a1:ByteArray):Option (Bool):=(zE.f k l0 a1).bind fun t334=>(some (decide (t334≥0)))
theorem wL.calls (k:Nat) (A0:Option Addr) (c0:Nat) (l0:List ByteArray) (a1:ByteArray) (r:Bool) (w:World) (hr0:Kd.C Kd.string w A0 l0.length l0) (hc0:l0.length≤c0) (h:wL.f k l0 a1=some r):
  Calls Tryz.prog 135 #[.slice A0 l0.length c0,.string a1] w fun e w'=>e= .returned (.bool r)∧wI w w':=by
 have HR0:=am_ hr0;have HC0:=am_ hc0;clear hr0 hc0;have H:((zE.f k l0 a1).bind fun t334=>(some (decide (t334≥0))))=some r:=h;clear h;replace H:=be_ H;obtain⟨t334,A30,H⟩:=H;(try dsimp only at H);have A3:=am_ A30;clear A30;obtain rfl:=si_ H;go_enter Tryz.func135,Tryz.ntmps135
 go_wp2_with (first|((with_reducible refine zB (f:=161) rfl ?_);refine vQ 7 Tryz.func161 #[.slice A0 l0.length c0,.string a1] ?_;(with_reducible refine(zE.calls k _ _ l0 a1 t334 _ ?side1 ?side2 A3.out).mono ?_);(case side1=>repeat(first|exact HR0.out|(with_reducible refine Kd.C_alloc ?_ _)|(with_reducible refine Kd.C_drewN ?_ _)|(with_reducible refine Kd.C_drew ?_)));(case side2=>exact HC0.out);rintro e w' ⟨rfl,⟨nd,rfl⟩⟩;refine⟨_,rfl,?_⟩))
 go_ret;exact⟨vB,zz4⟩
end Go.Proofs.YteojcbbifacpnaaGreatDoor.GFnExactReadLine
