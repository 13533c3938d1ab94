/- A request with a length beside chunks, or with two unlike lengths, is never taken; the call returns true for every code of a draw. No condition. -/
import Derived.Test.YtnilblnhlpnpgaaGreatDoorGFnTwicex24
import Derived.Laws.BitsLemmas
import Derived.Laws.Strings
import Derived.Lib.AtoiAll
import Derived.Lib.Index
import Derived.Lib.IndexAny
import Derived.Lib.IndexMore
import Derived.Lib.ItoaLen
import Derived.Lib.ItoaNum
import Derived.Lib.SplitLaws
import Derived.OpenShut
namespace Go.Proofs.YtnilblnhlpnpgaaGreatDoor.Pure
open Go.RowKit Go.Proofs.YtnilblnhlpnpgaaGreatDoor.GFnTwice Go.Proofs.YtnilblnhlpnpgaaGreatDoorW.PrintWords Go.Proofs.YtnilblnhlpnpgaaGreatDoorW.PrintLast Go.Proofs.YtnilblnhlpnpgaaGreatDoorW.PrintMore
set_option linter.unusedVariables false
set_option linter.unusedSimpArgs false
theorem toList_inj {a b:ByteArray} (h:a.toList=b.toList):a=b:=by
 rw[ByteArray.toList_eq,ByteArray.toList_eq]at h
 cases a;cases b;simp_all
theorem getD_mid {α:Type} (pre:List α) (x:α) (r:List α) (z:α):(pre++x::r).getD ((pre.length:Int).toNat) z=x:=by simp[List.getD]
theorem wrap_id {a:Int} (h1: -9223372036854775808≤a) (h2:a≤9223372036854775807):wrap64 a=a:=by unfold wrap64;omega
theorem len_mid {α:Type} (pre:List α) (x:α) (r:List α):(pre.length:Int)<((pre++x::r).length:Int):=by simp;omega
theorem app_mid {α:Type} (pre:List α) (x:α) (r:List α):pre++x::r=(pre++ [x])++r:=by simp
theorem len_snoc {α:Type} (pre:List α) (x:α):((pre++ [x]).length:Int)=(pre.length:Int)+1:=by simp
theorem size_strOf (xs:List Int):(strOfNums xs).size=xs.length:=by
 show(strOfNums xs).data.size=_
 simp[strOfNums]
def mkB (l:List UInt8):ByteArray:=⟨l.toArray⟩
def bl (s:ByteArray):List UInt8:=s.data.toList
theorem mk_bl (s:ByteArray):mkB (bl s)=s:=by cases s;simp[mkB,bl]
theorem bl_mk (l:List UInt8):bl (mkB l)=l:=by simp[mkB,bl]
theorem size_mk (l:List UInt8):(mkB l).size=l.length:=by show(mkB l).data.size=_;simp[mkB]
theorem size_bl (s:ByteArray):(bl s).length=s.size:=by rw[bl,Array.length_toList];rfl
theorem toList_bl (s:ByteArray):s.toList=bl s:=ByteArray.toList_eq s
theorem toList_mk (l:List UInt8):(mkB l).toList=l:=by rw[toList_bl,bl_mk]
theorem getB (l:List UInt8) (i:Nat) (h:i<(mkB l).size):(mkB l)[i]'h=l[i]'(by rwa [size_mk]at h):=by
 show(mkB l).data[i]'h=_
 simp[mkB]
theorem bt_at_ (l:List UInt8) (i:Nat) (h:i<l.length):bt (mkB l) (i:Int)=((l[i]'h).toNat:Int):=by
 unfold bt
 rw[dif_pos (by rw[size_mk];simpa using h),getB]
 simp
theorem bt_mid (pre:List UInt8) (b:UInt8) (r:List UInt8):bt (mkB (pre++b::r)) (pre.length:Int)=(b.toNat:Int):=by
 rw[bt_at_ _ _ (by simp)]
 simp
theorem extract_mk (l:List UInt8) (i j:Nat):(mkB l).extract i j=mkB ((l.drop i).take (j-i)):=by
 apply toList_inj
 rw[toList_mk,toList_bl,bl,ByteArray.data_extract,Array.toList_extract]
 simp[mkB,List.extract]
theorem drop_mid (pre:List UInt8) (b:UInt8) (r:List UInt8):(pre++b::r).drop (pre.length+1)=r:=by
 rw[app_mid,List.drop_left' (by simp)]
theorem size_lt_mid (pre:List UInt8) (b:UInt8) (r:List UInt8):(pre.length:Int)<((mkB (pre++b::r)).size:Int):=by rw[size_mk];exact len_mid ..
theorem u8_lt (b:UInt8):(b.toNat:Int)<256:=by have:=b.toNat_lt;omega
theorem toUInt8_toNat (b:UInt8):((b.toNat:Int)).toNat.toUInt8=b:=by simp
theorem all_loop (F:Nat→ByteArray→Int→Option Bool) (G:Nat→Int→Option Bool) (p:UInt8→Bool) (hG: ∀b:UInt8,Ev (fun k=>G k b.toNat) (p b))
  (hF: ∀k s i,F (k+1) s i=if i<(s.size:Int)then(if 0≤i then(G k (bt s i)).bind fun t=>(if t=true then F k s (wrap64 (i+1))else some false)else none)else some true):
  ∀(r pre:List UInt8),(pre++r).length≤9223372036854775806→Ev (fun k=>F k (mkB (pre++r)) pre.length) (r.all p)
 | [],pre,_=>Ev.step (f:=fun _=>some true) (fun k=>by rw[hF,size_mk];simp) (Ev.now _)
 |b::r,pre,hl=>by
  have ih:=all_loop F G p hG hF r (pre++ [b]) (by rw[←app_mid];exact hl)
  rw[←app_mid,len_snoc]at ih
  simp at hl
  refine Ev.step (f:=fun k=>(G k b.toNat).bind fun t=>(if t=true then F k (mkB (pre++b::r)) (pre.length+1)else some false)) (fun k=>?_) ?_
  ·rw[hF,if_pos (size_lt_mid ..),if_pos (by omega),bt_mid,wrap_id (by omega) (by omega)]
  refine(hG b).bind ?_
  cases hp:p b
  ·simpa [List.all_cons,hp]using Ev.now false
  ·simpa [List.all_cons,hp]using ih
theorem all_ev (F:Nat→ByteArray→Int→Option Bool) (G:Nat→Int→Option Bool) (p:UInt8→Bool) (hG: ∀b:UInt8,Ev (fun k=>G k b.toNat) (p b))
  (hF: ∀k s i,F (k+1) s i=if i<(s.size:Int)then(if 0≤i then(G k (bt s i)).bind fun t=>(if t=true then F k s (wrap64 (i+1))else some false)else none)else some true)
  (s:ByteArray) (hs:s.size≤9223372036854775806):Ev (fun k=>F k s 0) ((bl s).all p):=by
 have:=all_loop F G p hG hF (bl s) [] (by simpa [size_bl]using hs)
 simpa [mk_bl]using this
theorem Ev.const {α:Type} {x:Option α} {r:α} (h:x=some r):Ev (fun _=>x) r:=⟨0,fun _ _=>h⟩
theorem take_mid (pre m suf:List UInt8):((pre++(m++suf)).drop pre.length).take (pre.length+m.length-pre.length)=m:=by simp
theorem bt_mid2 (pre m:List UInt8) (b:UInt8) (suf:List UInt8) (i:Int) (hi:i=(pre.length:Int)+(m.length:Int)):bt (mkB (pre++(m++b::suf))) i=(b.toNat:Int):=by
 have:=bt_mid (pre++m) b suf
 rw[List.append_assoc]at this
 rw[hi,←this];simp
def wh (b:UInt8):Bool:=decide (b.toNat=32)||decide (b.toNat=9)
def trimB (l:List UInt8):List UInt8:=((l.dropWhile wh).reverse.dropWhile wh).reverse
theorem l1white_is (b:UInt8):spec_l1white.f (b.toNat:Int)=some (wh b):=by
 unfold spec_l1white.f wh
 by_cases h:b.toNat=32
 ·rw[if_pos (by omega)];simp[h]
 ·rw[if_neg (by omega)]
  by_cases h':b.toNat=9
  ·simp[h']
  ·simp[h,h'];omega
theorem isSpace_is (b:UInt8):impl_isSpace.f (b.toNat:Int)=some (wh b):=by
 unfold impl_isSpace.f wh
 by_cases h:b.toNat=32
 ·rw[if_pos (by omega)];simp[h]
 ·rw[if_neg (by omega)]
  by_cases h':b.toNat=9
  ·simp[h']
  ·simp[h,h'];omega
theorem specTrim_end: ∀(m pre suf:List UInt8),(pre++(m.reverse++suf)).length≤9223372036854775806→
  Ev (fun k=>spec_Trim.l1 k (mkB (pre++(m.reverse++suf))) pre.length ((pre.length:Int)+m.length)) (mkB (m.dropWhile wh).reverse)
 | [],pre,suf,hl=>by
  refine Ev.step (f:=fun _=>some (mkB [])) (fun k=>?_) (by simpa using Ev.now (mkB []))
  simp only[spec_Trim.l1]
  simp at hl
  rw[if_neg (by simp),if_pos (by omega),if_pos (by simp),if_pos (by rw[size_mk];simp<;>omega),extract_mk]
  simp
 |b::m,pre,suf,hl=>by
  have e:pre++((b::m).reverse++suf)=pre++(m.reverse++b::suf):=by simp
  rw[e]at hl ⊢
  have hl2:=hl
  simp at hl2
  have hb:bt (mkB (pre++(m.reverse++b::suf))) ((pre.length:Int)+m.length)=(b.toNat:Int):=bt_mid2 pre m.reverse b suf _ (by simp)
  have hw:wrap64 ((pre.length:Int)+((b::m).length:Int)-1)=(pre.length:Int)+m.length:=by rw[wrap_id (by simp<;>omega) (by simp<;>omega)];simp<;>omega
  by_cases hwb:wh b=true
  ·have ih:=specTrim_end m pre (b::suf) hl
   rw[List.dropWhile_cons,if_pos hwb]
   refine Ev.step (fun k=>?_) ih
   simp only[spec_Trim.l1]
   rw[if_pos (by simp<;>omega),hw,if_pos (by omega),if_pos (by rw[size_mk];simp<;>omega),hb,l1white_is,hwb]
   simp
  ·rw[List.dropWhile_cons,if_neg hwb]
   have hwb':wh b=false:=by simpa using hwb
   refine Ev.step (f:=fun _=>some (mkB (b::m).reverse)) (fun k=>?_) (Ev.now _)
   simp only[spec_Trim.l1]
   rw[if_pos (by simp<;>omega),hw,if_pos (by omega),if_pos (by rw[size_mk];simp<;>omega),hb,l1white_is,hwb']
   simp only[Option.bind_some,Bool.false_eq_true,if_false]
   rw[if_pos (by omega),if_pos (by simp<;>omega),if_pos (by rw[size_mk];simp<;>omega),extract_mk]
   have hn:((pre.length:Int)+((b::m).length:Int)).toNat=pre.length+(b::m).reverse.length:=by simp;omega
   rw[hn,Int.toNat_natCast,←e,take_mid]
theorem specTrim_go: ∀(r pre:List UInt8),(pre++r).length≤9223372036854775806→
  Ev (fun k=>spec_Trim.l0 k (mkB (pre++r)) pre.length) (mkB (trimB r))
 | [],pre,hl=>by
  have:=specTrim_end [] pre [] (by simpa using hl)
  refine Ev.step (f:=fun k=>spec_Trim.j1 k (mkB (pre++ [])) pre.length) (fun k=>by simp only[spec_Trim.l0];rw[if_neg (by rw[size_mk];simp)]) ?_
  refine Ev.step (f:=fun k=>spec_Trim.l1 k (mkB (pre++ [])) pre.length ((mkB (pre++ [])).size:Int)) (fun k=>by simp only[spec_Trim.j1]) ?_
  rw[size_mk]
  simpa [trimB]using this
 |b::r,pre,hl=>by
  have hl2:=hl
  simp at hl2
  by_cases hwb:wh b=true
  ·have ih:=specTrim_go r (pre++ [b]) (by rw[←app_mid];exact hl)
   rw[←app_mid,len_snoc]at ih
   have et:trimB (b::r)=trimB r:=by simp[trimB,List.dropWhile_cons,hwb]
   rw[et]
   refine Ev.step (fun k=>?_) ih
   simp only[spec_Trim.l0]
   rw[if_pos (size_lt_mid ..),if_pos (by omega),bt_mid,l1white_is,hwb,wrap_id (by omega) (by omega)]
   simp
  ·have hwb':wh b=false:=by simpa using hwb
   have:=specTrim_end (b::r).reverse pre [] (by simpa using hl)
   refine Ev.step (f:=fun k=>spec_Trim.j1 k (mkB (pre++b::r)) pre.length) (fun k=>?_) ?_
   ·simp only[spec_Trim.l0]
    rw[if_pos (size_lt_mid ..),if_pos (by omega),bt_mid,l1white_is,hwb']
    simp
   refine Ev.step (f:=fun k=>spec_Trim.l1 k (mkB (pre++b::r)) pre.length ((mkB (pre++b::r)).size:Int)) (fun k=>by simp only[spec_Trim.j1]) ?_
   have e2:((mkB (pre++b::r)).size:Int)=(pre.length:Int)+((b::r).reverse.length:Int):=by rw[size_mk];simp
   rw[e2]
   have et:trimB (b::r)=((b::r).reverse.dropWhile wh).reverse:=by simp only[trimB,List.dropWhile_cons,hwb',Bool.false_eq_true,if_false]
   rw[et]
   simpa using this
theorem specTrim_is (s:ByteArray) (hs:s.size≤9223372036854775806):Ev (fun k=>spec_Trim.f k s) (mkB (trimB (bl s))):=by
 have:=specTrim_go (bl s) [] (by simpa [size_bl]using hs)
 simpa [mk_bl,spec_Trim.f]using this
theorem implTrim_end: ∀(m:List UInt8),m.length≤9223372036854775806→Ev (fun k=>impl_Trim.l1 k (mkB m.reverse)) (mkB (m.dropWhile wh).reverse)
 | [],_=>Ev.step (f:=fun _=>some (mkB [])) (fun k=>by simp[impl_Trim.l1,toList_mk]) (by simpa using Ev.now (mkB []))
 |b::m,hl=>by
  simp at hl
  have hw:wrap64 (((mkB (b::m).reverse).size:Int)-1)=(m.length:Int):=by rw[size_mk,wrap_id (by simp<;>omega) (by simp<;>omega)];simp
  have hb:bt (mkB (b::m).reverse) (m.length:Int)=(b.toNat:Int):=by
   have:=bt_mid m.reverse b []
   simpa using this
  have hcell: ∀k,impl_Trim.l1 (k+1) (mkB (b::m).reverse)=if wh b=true then impl_Trim.l1 k (mkB m.reverse)else some (mkB (b::m).reverse):=by
   intro k
   simp only[impl_Trim.l1]
   rw[if_neg (by rw[toList_mk];simp),hw,if_pos (by omega),if_pos (by rw[size_mk];simp<;>omega),hb,isSpace_is]
   simp only[Option.bind_some]
   split
   ·rw[if_pos (by rw[size_mk];simp<;>omega),extract_mk]
    congr 2
    simp
   ·rfl
  by_cases hwb:wh b=true
  ·rw[List.dropWhile_cons,if_pos hwb]
   exact Ev.step (fun k=>by rw[hcell,if_pos hwb]) (implTrim_end m (by omega))
  ·rw[List.dropWhile_cons,if_neg hwb]
   exact Ev.step (f:=fun _=>some (mkB (b::m).reverse)) (fun k=>by rw[hcell,if_neg hwb]) (Ev.now _)
theorem implTrim_go: ∀(r:List UInt8),r.length≤9223372036854775806→Ev (fun k=>impl_Trim.l0 k (mkB r)) (mkB (trimB r))
 | [],_=>by
  have:=implTrim_end [] (by simp)
  refine Ev.step (f:=fun k=>impl_Trim.j1 k (mkB [])) (fun k=>by simp[impl_Trim.l0,toList_mk]) ?_
  exact Ev.step (f:=fun k=>impl_Trim.l1 k (mkB [])) (fun k=>by simp only[impl_Trim.j1]) (by simpa [trimB]using this)
 |b::r,hl=>by
  simp at hl
  have hb:bt (mkB (b::r)) 0=(b.toNat:Int):=by simpa using bt_mid [] b r
  by_cases hwb:wh b=true
  ·have ih:=implTrim_go r (by omega)
   have et:trimB (b::r)=trimB r:=by simp[trimB,List.dropWhile_cons,hwb]
   rw[et]
   refine Ev.step (fun k=>?_) ih
   simp only[impl_Trim.l0]
   rw[if_neg (by rw[toList_mk];simp),if_pos (by rw[size_mk];simp<;>omega),hb,isSpace_is,hwb]
   simp only[Option.bind_some,if_true]
   rw[if_pos (by rw[size_mk];simp<;>omega),extract_mk]
   simp[size_mk]
  ·have hwb':wh b=false:=by simpa using hwb
   have:=implTrim_end (b::r).reverse (by simpa using hl)
   refine Ev.step (f:=fun k=>impl_Trim.j1 k (mkB (b::r))) (fun k=>?_) ?_
   ·simp only[impl_Trim.l0]
    rw[if_neg (by rw[toList_mk];simp),if_pos (by rw[size_mk];simp<;>omega),hb,isSpace_is,hwb']
    simp
   refine Ev.step (f:=fun k=>impl_Trim.l1 k (mkB (b::r))) (fun k=>by simp only[impl_Trim.j1]) ?_
   have et:trimB (b::r)=((b::r).reverse.dropWhile wh).reverse:=by simp only[trimB,List.dropWhile_cons,hwb',Bool.false_eq_true,if_false]
   rw[et]
   simpa using this
theorem implTrim_is (s:ByteArray) (hs:s.size≤9223372036854775806):Ev (fun k=>impl_Trim.f k s) (mkB (trimB (bl s))):=by
 have:=implTrim_go (bl s) (by simpa [size_bl]using hs)
 simpa [mk_bl,impl_Trim.f]using this
def plB (b:UInt8):Bool:=decide (b.toNat=9)||(decide (32≤b.toNat)&&decide (b.toNat≠127))
theorem specPlain_is (b:UInt8):spec_l1plain.f (b.toNat:Int)=some (plB b):=by
 unfold spec_l1plain.f plB
 by_cases h:b.toNat=9
 ·rw[if_pos (by omega)];simp[h]
 ·rw[if_neg (by omega)]
  by_cases h':32≤b.toNat
  ·rw[if_pos (by omega)];congr 1;rw[Bool.eq_iff_iff];simp[h,h'];omega
  ·rw[if_neg (by omega)];simp[h,h']
theorem implPlain_is (b:UInt8):impl_isPlain.f (b.toNat:Int)=some (plB b):=by
 unfold impl_isPlain.f plB
 by_cases h:b.toNat=9
 ·rw[if_pos (by omega)];simp[h]
 ·rw[if_neg (by omega)]
  by_cases h':32≤b.toNat
  ·rw[if_pos (by omega)];congr 1;rw[Bool.eq_iff_iff];simp[h,h'];omega
  ·rw[if_neg (by omega)];simp[h,h']
def lowB (b:UInt8):Bool:=decide (97≤b.toNat)&&decide (b.toNat≤122)
def uppB (b:UInt8):Bool:=decide (65≤b.toNat)&&decide (b.toNat≤90)
def digB (b:UInt8):Bool:=decide (48≤b.toNat)&&decide (b.toNat≤57)
theorem isLower_is (b:UInt8):impl_isLower.f (b.toNat:Int)=some (lowB b):=by
 unfold impl_isLower.f lowB
 by_cases h:97≤b.toNat
 ·rw[if_pos (by omega)];congr 1;rw[Bool.eq_iff_iff];simp[h];omega
 ·rw[if_neg (by omega)];simp[h]
theorem isUpper_is (b:UInt8):impl_isUpper.f (b.toNat:Int)=some (uppB b):=by
 unfold impl_isUpper.f uppB
 by_cases h:65≤b.toNat
 ·rw[if_pos (by omega)];congr 1;rw[Bool.eq_iff_iff];simp[h];omega
 ·rw[if_neg (by omega)];simp[h]
theorem isDigit_is (b:UInt8):impl_isDigit.f (b.toNat:Int)=some (digB b):=by
 unfold impl_isDigit.f digB
 by_cases h:48≤b.toNat
 ·rw[if_pos (by omega)];congr 1;rw[Bool.eq_iff_iff];simp[h];omega
 ·rw[if_neg (by omega)];simp[h]
theorem l1digit_is (b:UInt8):spec_l1digit.f (b.toNat:Int)=some (digB b):=isDigit_is b
theorem has_go (c:Int): ∀(r pre:List UInt8),(pre++r).length≤9223372036854775806→Ev (fun k=>spec_l1has.l0 k (mkB (pre++r)) c pre.length) (r.any fun x=>decide ((x.toNat:Int)=c))
 | [],pre,hl=>Ev.step (f:=fun _=>some false) (fun k=>by simp only[spec_l1has.l0];rw[if_neg (by rw[size_mk];simp)]) (Ev.now _)
 |b::r,pre,hl=>by
  have ih:=has_go c r (pre++ [b]) (by rw[←app_mid];exact hl)
  rw[←app_mid,len_snoc]at ih
  simp at hl
  by_cases h:(b.toNat:Int)=c
  ·refine Ev.step (f:=fun _=>some true) (fun k=>?_) (by simpa [h]using Ev.now true)
   simp only[spec_l1has.l0]
   rw[if_pos (size_lt_mid ..),if_pos (by omega),bt_mid,if_pos h]
  ·refine Ev.step (fun k=>?_) (by simpa [h]using ih)
   simp only[spec_l1has.l0]
   rw[if_pos (size_lt_mid ..),if_pos (by omega),bt_mid,if_neg h,wrap_id (by omega) (by omega)]
theorem has_is (set:List UInt8) (b:UInt8) (h:set.length≤9223372036854775806):Ev (fun k=>spec_l1has.f k (mkB set) (b.toNat:Int)) (set.contains b):=by
 have:=has_go (b.toNat:Int) set [] (by simpa using h)
 have e:(set.any fun x=>decide ((x.toNat:Int)=(b.toNat:Int)))=set.contains b:=by
  rw[←List.any_beq]
  congr 1
  funext x
  rw[Bool.eq_iff_iff]
  simp only[decide_eq_true_eq,beq_iff_eq]
  constructor
  ·intro h;exact(UInt8.toNat_inj.1 (by omega)).symm
  ·intro h;rw[h]
 rw[e]at this
 simpa [spec_l1has.f]using this
def tokOdd:List UInt8:= [33,35,36,37,38,39,42,43,45,46,94,95,124,126]
def tokB (b:UInt8):Bool:=lowB b||uppB b||digB b||decide (b.toNat=96)||tokOdd.contains b
theorem indexByte_pos: ∀(l:List UInt8) (c:UInt8),Lib.indexByte l c≥0↔l.contains c=true
 | [],c=>by simp[Lib.indexByte]
 |b::l,c=>by
  have ih:=indexByte_pos l c
  have lo: -1≤Lib.indexByte l c:=Lib.indexByte_ge l c
  unfold Lib.indexByte
  by_cases h:b=c
  ·subst h;simp
  ·have hb:(b==c)=false:=by simpa using h
   have hc:(c==b)=false:=by simpa using fun x=>h x.symm
   rw[hb]
   simp only[Bool.false_eq_true,if_false,List.contains_cons,hc,Bool.false_or]
   rw[←ih]
   by_cases h2:Lib.indexByte l c= -1
   ·simp[h2]
   ·have:(Lib.indexByte l c== -1)=false:=by simpa using h2
    rw[this];simp;omega
theorem isTokenByte_is (b:UInt8):impl_isTokenByte.f (b.toNat:Int)=some (tokB b):=by
 have hi:(decide (Lib.indexByte tokOdd b≥0))=tokOdd.contains b:=by
  rw[Bool.eq_iff_iff,decide_eq_true_iff];exact indexByte_pos _ _
 have hx:strings_IndexByte.f (⟨#[33,35,36,37,38,39,42,43,45,46,94,95,124,126]⟩:ByteArray) (b.toNat:Int)=some (Lib.indexByte tokOdd b):=by
  unfold strings_IndexByte.f;rw[toUInt8_toNat];rfl
 unfold impl_isTokenByte.f
 simp only[isLower_is,isUpper_is,isDigit_is,hx,Option.bind_some,hi]
 unfold tokB
 cases lowB b<;>cases uppB b<;>cases digB b<;>simp
 all_goals (by_cases h:b.toNat=96<;>simp[h])
 all_goals (try omega)
theorem tchar_is (b:UInt8):Ev (fun k=>spec_l1tchar.f k (b.toNat:Int)) (tokB b):=by
 have hb:=u8_lt b
 have hh:Ev (fun k=>spec_l1has.f k (⟨#[33,35,36,37,38,39,42,43,45,46,94,95,124,126]⟩:ByteArray) (b.toNat:Int)) (tokOdd.contains b):=has_is tokOdd b (by decide)
 have rest:Ev (fun k=>if digB b=true then some true else if(b.toNat:Int)=96 then some true else(spec_l1has.f k (⟨#[33,35,36,37,38,39,42,43,45,46,94,95,124,126]⟩:ByteArray) (b.toNat:Int)).bind fun t=>some t) (digB b||decide (b.toNat=96)||tokOdd.contains b):=by
  cases hd:digB b
  ·by_cases h9:b.toNat=96
   ·simpa [h9]using Ev.now true
   ·have: ¬(b.toNat:Int)=96:=by omega
    simpa [h9,this]using hh.bind (f:=fun _ (t:Bool)=>some t) (Ev.now _)
  ·simpa using Ev.now true
 unfold spec_l1tchar.f spec_l1lower.f
 simp only[l1digit_is]
 unfold tokB
 by_cases hU:65≤b.toNat∧b.toNat≤90
 ·have e1:uppB b=true:=by simp[uppB,hU]
  simp only[if_pos (show(b.toNat:Int)≥65 by omega),if_pos (show(b.toNat:Int)≤90 by omega),Option.bind_some,if_pos (show((b.toNat:Int)+32)%256≥97 by omega),if_pos (show((b.toNat:Int)+32)%256≤122 by omega)]
  simpa [e1]using Ev.now true
 ·have e1:uppB b=false:=by simp[uppB];omega
  have hlow:(if(b.toNat:Int)≥65 then(if(b.toNat:Int)≤90 then some (((b.toNat:Int)+32)%256)else some (b.toNat:Int))else some (b.toNat:Int))=some (b.toNat:Int):=by
   split
   ·rw[if_neg (by omega)]
   ·rfl
  rw[hlow]
  simp only[Option.bind_some]
  by_cases hL:97≤b.toNat
  ·by_cases hL2:b.toNat≤122
   ·have e2:lowB b=true:=by simp[lowB,hL,hL2]
    simp only[if_pos (show(b.toNat:Int)≥97 by omega),if_pos (show(b.toNat:Int)≤122 by omega)]
    simpa [e2]using Ev.now true
   ·have e2:lowB b=false:=by simp[lowB,hL2]
    simp only[if_pos (show(b.toNat:Int)≥97 by omega),if_neg (show ¬(b.toNat:Int)≤122 by omega)]
    simpa [e1,e2]using rest
  ·have e2:lowB b=false:=by simp[lowB,hL]
   simp only[if_neg (show ¬(b.toNat:Int)≥97 by omega)]
   simpa [e1,e2]using rest
def tokenL (l:List UInt8):Bool:=decide (1≤l.length)&&decide (l.length≤4000)&&l.all tokB
theorem specToken_is (s:ByteArray):Ev (fun k=>spec_Token.f k s) (tokenL (bl s)):=by
 unfold spec_Token.f tokenL
 rw[size_bl]
 by_cases h0:(s.size:Int)=0
 ·simp only[if_pos h0]
  refine Ev.step (f:=fun _=>some false) (fun k=>by simp[spec_Token.j0]) ?_
  simpa [show ¬1≤s.size by omega]using Ev.now false
 ·simp only[if_neg h0]
  by_cases h4:(s.size:Int)>4000
  ·refine Ev.step (f:=fun _=>some false) (fun k=>by simp[spec_Token.j0,h4]) ?_
   simpa [show ¬s.size≤4000 by omega]using Ev.now false
  ·refine Ev.step (f:=fun k=>spec_Token.l0 k s 0) (fun k=>by simp[spec_Token.j0,h4]) ?_
   have:=all_ev spec_Token.l0 spec_l1tchar.f tokB tchar_is (fun k s i=>by simp only[spec_Token.l0]) s (by omega)
   simpa [show 1≤s.size by omega,show s.size≤4000 by omega]using this
theorem within_is (n a b:Int):impl_within.f n a b=some (decide (a≤n)&&decide (n≤b)):=by
 unfold impl_within.f
 by_cases h:a≤n<;>simp[h]
theorem implToken_is (s:ByteArray):Ev (fun k=>impl_Token.f k s) (tokenL (bl s)):=by
 unfold impl_Token.f tokenL
 rw[size_bl]
 simp only[within_is,Option.bind_some]
 have e:(decide ((1:Int)≤(s.size:Int))&&decide ((s.size:Int)≤4000))=(decide (1≤s.size)&&decide (s.size≤4000)):=by rw[Bool.eq_iff_iff];simp;omega
 rw[e]
 cases h:(decide (1≤s.size)&&decide (s.size≤4000))
 ·simpa using Ev.now false
 ·have hs:s.size≤9223372036854775806:=by simp at h;omega
  have:=all_ev impl_all__impl_isTokenByte.l0 (fun _ c=>impl_isTokenByte.f c) tokB (fun b=>Ev.const (isTokenByte_is b)) (fun k s i=>by simp only[impl_all__impl_isTokenByte.l0]) s hs
  simpa [impl_all__impl_isTokenByte.f]using this.bind (f:=fun _ (t:Bool)=>some t) (Ev.now _)
def fieldL (n v:List UInt8):Bool:=tokenL n&&decide (n.length≤40)&&decide (v.length≤190)&&v.all plB&&decide (trimB v=v)
theorem specL5plain_is (s:ByteArray) (hs:s.size≤9223372036854775806):Ev (fun k=>spec_l5plain.f k s) ((bl s).all plB):=by
 have:=all_ev spec_l5plain.l0 (fun _ c=>spec_l1plain.f c) plB (fun b=>Ev.const (specPlain_is b)) (fun k s i=>by simp only[spec_l5plain.l0]) s hs
 simpa [spec_l5plain.f]using this
theorem implAllPlain_is (s:ByteArray) (hs:s.size≤9223372036854775806):Ev (fun k=>impl_all__impl_isPlain.f k s) ((bl s).all plB):=by
 have:=all_ev impl_all__impl_isPlain.l0 (fun _ c=>impl_isPlain.f c) plB (fun b=>Ev.const (implPlain_is b)) (fun k s i=>by simp only[impl_all__impl_isPlain.l0]) s hs
 simpa [impl_all__impl_isPlain.f]using this
theorem trim_eq (v:ByteArray):((mkB (trimB (bl v))).toList==v.toList)=decide (trimB (bl v)=bl v):=by
 rw[toList_mk,toList_bl,Bool.eq_iff_iff];simp
theorem specFieldOk_is (n v:ByteArray):Ev (fun k=>spec_FieldOk.f k n v) (fieldL (bl n) (bl v)):=by
 unfold spec_FieldOk.f fieldL
 rw[size_bl,size_bl]
 by_cases h1:(n.size:Int)≤40
 ·simp only[if_pos h1]
  refine(specToken_is n).bind ?_
  cases ht:tokenL (bl n)
  ·simpa using Ev.now false
  ·by_cases h2:(v.size:Int)≤190
   ·simp only[if_pos h2,if_true]
    refine(specL5plain_is v (by omega)).bind ?_
    cases hp:(bl v).all plB
    ·simpa using Ev.now false
    ·simp only[if_true]
     have:=(specTrim_is v (by omega)).bind (f:=fun _ (t:ByteArray)=>some (t.toList==v.toList)) (Ev.now _)
     rw[trim_eq]at this
     simpa [show n.size≤40 by omega,show v.size≤190 by omega]using this
   ·simp only[if_neg h2,if_true]
    simpa [show ¬v.size≤190 by omega]using Ev.now false
 ·simp only[if_neg h1]
  simpa [show ¬n.size≤40 by omega]using Ev.now false
theorem implFieldOk_is (n v:ByteArray):Ev (fun k=>impl_FieldOk.f k n v) (fieldL (bl n) (bl v)):=by
 unfold impl_FieldOk.f fieldL
 rw[size_bl,size_bl]
 refine(implToken_is n).bind ?_
 cases ht:tokenL (bl n)
 ·simpa using Ev.now false
 ·by_cases h1:(n.size:Int)≤40
  ·by_cases h2:(v.size:Int)≤190
   ·simp only[if_pos h1,if_pos h2,if_true]
    refine(implAllPlain_is v (by omega)).bind ?_
    cases hp:(bl v).all plB
    ·simpa using Ev.now false
    ·simp only[if_true]
     have:=(implTrim_is v (by omega)).bind (f:=fun _ (t:ByteArray)=>some (t.toList==v.toList)) (Ev.now _)
     rw[trim_eq]at this
     simpa [show n.size≤40 by omega,show v.size≤190 by omega]using this
   ·simp only[if_pos h1,if_neg h2,if_true]
    simpa [show ¬v.size≤190 by omega]using Ev.now false
  ·simp only[if_neg h1,if_true]
   simpa [show ¬n.size≤40 by omega]using Ev.now false
theorem allS_loop {α:Type} (F:Nat→List α→Int→Option Bool) (G:Nat→α→Option Bool) (p:α→Bool) (z:α) (hG: ∀x,Ev (fun k=>G k x) (p x))
  (hF: ∀k l (i:Int),0≤i→i<(l.length:Int)→F (k+1) l i=(G k (l.getD i.toNat z)).bind fun t=>if t=true then F k l (wrap64 (i+1))else some false)
  (hE: ∀k l,F (k+1) l (l.length:Int)=some true): ∀(r pre:List α),(pre++r).length≤1048576→Ev (fun k=>F k (pre++r) pre.length) (r.all p)
 | [],pre,_=>Ev.step (f:=fun _=>some true) (fun k=>by simpa using hE k pre) (Ev.now _)
 |x::r,pre,hl=>by
  have ih:=allS_loop F G p z hG hF hE r (pre++ [x]) (by rw[←app_mid];exact hl)
  rw[←app_mid,len_snoc]at ih
  simp at hl
  refine Ev.step (f:=fun k=>(G k x).bind fun t=>if t=true then F k (pre++x::r) (pre.length+1)else some false) (fun k=>?_) ?_
  ·rw[hF k _ _ (by omega) (len_mid ..),getD_mid,wrap_id (by omega) (by omega)]
  refine(hG x).bind ?_
  cases hp:p x
  ·simpa [hp]using Ev.now false
  ·simpa [hp]using ih
theorem allS_ev {α:Type} (F:Nat→List α→Int→Option Bool) (G:Nat→α→Option Bool) (p:α→Bool) (z:α) (hG: ∀x,Ev (fun k=>G k x) (p x))
  (hF: ∀k l (i:Int),0≤i→i<(l.length:Int)→F (k+1) l i=(G k (l.getD i.toNat z)).bind fun t=>if t=true then F k l (wrap64 (i+1))else some false)
  (hE: ∀k l,F (k+1) l (l.length:Int)=some true) (l:List α) (hl:l.length≤1048576):Ev (fun k=>F k l 0) (l.all p):=by
 simpa using allS_loop F G p z hG hF hE l [] (by simpa using hl)
abbrev IFld:=S82
def fldOk (x:IFld):Bool:=fieldL (bl x.f0) (bl x.f1)
def fldsOk (l:List IFld):Bool:=decide (l.length≤20)&&l.all fldOk
theorem specFieldsOk_is (l:List IFld):Ev (fun k=>spec_FieldsOk.f k l) (fldsOk l):=by
 unfold spec_FieldsOk.f fldsOk
 by_cases h:(l.length:Int)>20
 ·simp only[if_pos h]
  simpa [show ¬l.length≤20 by omega]using Ev.now false
 ·simp only[if_neg h]
  have:=allS_ev spec_FieldsOk.l0 (fun k x=>spec_FieldOk.f k x.f0 x.f1) fldOk z82 (fun x=>specFieldOk_is x.f0 x.f1)
   (fun k l i h0 h1=>by simp only[spec_FieldsOk.l0];rw[if_pos h1,if_pos h0];rfl) (fun k l=>by simp only[spec_FieldsOk.l0];rw[if_neg (by omega)]) l (by omega)
  simpa [show l.length≤20 by omega]using this
theorem implFieldsOk_is (l:List IFld):Ev (fun k=>impl_FieldsOk.f k l) (fldsOk l):=by
 unfold impl_FieldsOk.f fldsOk
 by_cases h:(l.length:Int)>20
 ·simp only[if_pos h]
  simpa [show ¬l.length≤20 by omega]using Ev.now false
 ·simp only[if_neg h]
  have:=allS_ev (fun k l i=>impl_FieldsOk.l0 k l (l.length:Int) i) (fun k x=>impl_FieldOk.f k x.f0 x.f1) fldOk z82 (fun x=>implFieldOk_is x.f0 x.f1)
   (fun k l i h0 h1=>by simp only[impl_FieldsOk.l0];rw[if_pos h1,if_pos h0,if_pos h1];rfl) (fun k l=>by simp only[impl_FieldsOk.l0];rw[if_neg (by omega)]) l (by omega)
  simpa [show l.length≤20 by omega]using this
def lowS (s:ByteArray):ByteArray:=strOfNums ((bytesOf s).map lowI)
theorem specFold_is (s:ByteArray) (h:s.size≤1099511627776):spec_Fold.f s=some (lowS s):=by unfold spec_Fold.f;rw[if_pos h];rfl
theorem implFold_is (s:ByteArray) (h:s.size≤1099511627776):impl_Fold.f s=some (lowS s):=by unfold impl_Fold.f;rw[if_pos h];rfl
theorem filtS_go {α β:Type} (L:Nat→List α→List β→Int→Option (List β)) (p:α→Bool) (g:α→β) (ok:α→Prop) (z:α)
  (hstep: ∀k l acc (i:Int),0≤i→i<(l.length:Int)→acc.length<8796093022208→ok (l.getD i.toNat z)→L (k+1) l acc i=if p (l.getD i.toNat z)=true then L k l (acc++ [g (l.getD i.toNat z)]) (wrap64 (i+1))else L k l acc (wrap64 (i+1)))
  (hend: ∀k l acc,L (k+1) l acc (l.length:Int)=some acc):
  ∀(r pre:List α) (acc:List β),(∀x∈r,ok x)→acc.length+r.length≤1048576→(pre++r).length≤1048576→Ev (fun k=>L k (pre++r) acc pre.length) (acc++(r.filter p).map g)
 | [],pre,acc,_,_,_=>Ev.step (f:=fun _=>some acc) (fun k=>by simpa using hend k pre acc) (by simpa using Ev.now acc)
 |x::r,pre,acc,ho,ha,hl=>by
  have hx:=ho x (by simp)
  simp only[List.length_cons]at ha
  have hw:wrap64 ((pre.length:Int)+1)=(pre.length:Int)+1:=by simp at hl;exact wrap_id (by omega) (by omega)
  have hs:=fun k=>hstep k (pre++x::r) acc pre.length (by omega) (len_mid ..) (by omega) (by rw[getD_mid];exact hx)
  simp only[getD_mid,hw]at hs
  by_cases hp:p x=true
  ·have ih:=filtS_go L p g ok z hstep hend r (pre++ [x]) (acc++ [g x]) (fun y hy=>ho y (List.mem_cons_of_mem _ hy)) (by simp;omega) (by rw[←app_mid];exact hl)
   rw[←app_mid,len_snoc]at ih
   rw[List.filter_cons_of_pos hp,List.map_cons,show acc++g x::(r.filter p).map g=acc++ [g x]++(r.filter p).map g by simp]
   exact Ev.step (fun k=>by rw[hs,if_pos hp]) ih
  ·have ih:=filtS_go L p g ok z hstep hend r (pre++ [x]) acc (fun y hy=>ho y (List.mem_cons_of_mem _ hy)) (by omega) (by rw[←app_mid];exact hl)
   rw[←app_mid,len_snoc]at ih
   rw[List.filter_cons_of_neg hp]
   exact Ev.step (fun k=>by rw[hs,if_neg hp]) ih
def sameB (a b:ByteArray):Bool:=(lowS a).toList==(lowS b).toList
theorem implSame_is (a b:ByteArray) (ha:a.size≤1099511627776) (hb:b.size≤1099511627776):impl_SameFold.f a b=some (sameB a b):=by
 unfold impl_SameFold.f;rw[implFold_is a ha,implFold_is b hb];rfl
def valsF (l:List IFld) (n:ByteArray):List ByteArray:=(l.filter fun x=>sameB x.f0 n).map (·.f1)
def vals (l:List IFld) (n:ByteArray):List ByteArray:=if fldsOk l=true then valsF l n else []
def smallF (x:IFld):Prop:=x.f0.size≤1048576∧x.f1.size≤1048576
theorem implValues_is (l:List IFld) (n:ByteArray) (hl:l.length≤1048576) (ho: ∀x∈l,smallF x) (hn:n.size≤1048576):Ev (fun k=>impl_Values.f k l n) (vals l n):=by
 unfold impl_Values.f vals
 refine(implFieldsOk_is l).bind ?_
 by_cases h:fldsOk l=true
 ·simp only[if_pos h]
  have:=filtS_go (fun k l acc i=>impl_Values.l0 k n acc l (l.length:Int) i) (fun x=>sameB x.f0 n) (·.f1) smallF z82
   (fun k l acc i h0 h1 h2 h3=>by simp only[impl_Values.l0];rw[if_pos h1,if_pos h0,if_pos h1];simp only[rd_T82];rw[implSame_is _ _ (by have:=h3.1;omega) (by omega)];simp only[Option.bind_some,if_pos h2])
   (fun k l acc=>by simp only[impl_Values.l0];rw[if_neg (by omega)]) l [] [] ho (by simpa using hl) (by simpa using hl)
  simpa [valsF]using this
 ·simp only[if_neg h];exact Ev.now _
theorem le_sum_mem: ∀(l:List Nat) (x:Nat),x∈l→x≤l.sum
 |a::l,x,h=>by
  simp only[List.sum_cons]
  rcases List.mem_cons.1 h with rfl|h
  ·omega
  ·have:=le_sum_mem l x h;omega
def totF (l:List IFld):Nat:=(l.map fun x=>x.f0.size+x.f1.size).sum
theorem smallF_tot (l:List IFld) (h:totF l≤1048576): ∀x∈l,smallF x:=by
 intro x hx
 have:x.f0.size+x.f1.size≤totF l:=le_sum_mem _ _ (List.mem_map_of_mem (f:=fun x:IFld=>x.f0.size+x.f1.size) hx)
 exact⟨by omega,by omega⟩
def totS (l:List ByteArray):Nat:=(l.map (·.size)).sum
theorem totS_vals (l:List IFld) (n:ByteArray):totS (vals l n)≤totF l:=by
 have: ∀l:List IFld,totS (valsF l n)≤totF l:=by
  intro l
  induction l with
  |nil=>simp[totS,totF,valsF]
  |cons x r ih=>
   by_cases hp:sameB x.f0 n=true
   ·simp[totS,totF,valsF,List.filter_cons,hp]at ih ⊢;omega
   ·simp[totS,totF,valsF,List.filter_cons,hp]at ih ⊢;omega
 unfold vals
 split
 ·exact this l
 ·simp[totS]
theorem len_vals (l:List IFld) (n:ByteArray):(vals l n).length≤20:=by
 unfold vals
 split
 ·rename_i h
  simp[fldsOk]at h
  have:(valsF l n).length≤l.length:=by simpa [valsF]using List.length_filter_le _ l
  omega
 ·simp
def commaB:List UInt8:= [44,32]
def joined (v:List ByteArray):ByteArray:=mkB (Lib.join (v.map bl) commaB)
theorem bl_length (a:ByteArray):(bl a).length=a.size:=by simp[bl]
theorem joinTail_len (v:List ByteArray):(Lib.joinTail commaB (v.map bl)).length=totS v+2*v.length:=by
 induction v with
 |nil=>rfl
 |cons x r ih=>
  have h1:Lib.joinTail commaB ((x::r).map bl)=commaB++bl x++Lib.joinTail commaB (r.map bl):=by simp[Lib.joinTail]
  have h2:totS (x::r)=x.size+totS r:=by simp[totS]
  rw[h1,h2,List.length_append,List.length_append,ih,bl_length,List.length_cons]
  simp[commaB];omega
theorem join_len (v:List ByteArray):(Lib.join (v.map bl) commaB).length≤totS v+2*v.length:=by
 cases v with
 |nil=>simp[Lib.join_nil]
 |cons x r=>
  have h2:totS (x::r)=x.size+totS r:=by simp[totS]
  rw[List.map_cons,Lib.join_cons,List.length_append,joinTail_len,bl_length,h2,List.length_cons];omega
theorem implJoined_is (l:List IFld) (n:ByteArray) (hl:l.length≤1048576) (ht:totF l≤1048576) (hn:n.size≤1048576):Ev (fun k=>impl_Joined.f k l n) (joined (vals l n)):=by
 have h1:=totS_vals l n
 have h2:=len_vals l n
 have h3:=join_len (vals l n)
 unfold impl_Joined.f
 refine(implValues_is l n hl (smallF_tot l ht) hn).bind ?_
 have hx:strings_Join.f (vals l n) (⟨#[44,32]⟩:ByteArray)=some (joined (vals l n)):=by
  unfold strings_Join.f
  exact if_pos ⟨by omega,by show(Lib.join ((vals l n).map bl) commaB).length≤_;omega⟩
 rw[hx]
 exact Ev.now _
def elL:Nat→Bool→List UInt8→List UInt8→List (List UInt8)
 |0,_,mid,_=> [mid]
 |_+1,_,mid,[]=> [mid]
 |n+1,q,mid,b::r=>if b=34 then elL n (!q) (mid++ [b]) r else if q=true then(if b=92 then(match r with| []=> [mid++ [b]]|c::r'=>elL n true (mid++ [b,c]) r')else elL n true (mid++ [b]) r)else if b=44 then mid::elL n false [] r else elL n false (mid++ [b]) r
theorem elL_cons (n:Nat) (q:Bool) (mid:List UInt8) (b:UInt8) (r:List UInt8):elL (n+1) q mid (b::r)=if b=34 then elL n (!q) (mid++ [b]) r else if q=true then(if b=92 then(match r with| []=> [mid++ [b]]|c::r'=>elL n true (mid++ [b,c]) r')else elL n true (mid++ [b]) r)else if b=44 then mid::elL n false [] r else elL n false (mid++ [b]) r:=by cases r<;>rfl
def keepT (l:List (List UInt8)):List (List UInt8):=(l.map trimB).filter (fun x=>!x.isEmpty)
theorem keepT_cons (x:List UInt8) (l:List (List UInt8)):keepT (x::l)=keepT [x]++keepT l:=by
 unfold keepT
 simp only[List.map_cons,List.map_nil]
 rw[List.filter_cons,List.filter_cons]
 split<;>simp
theorem keepT_one (x:List UInt8):keepT [x]=if trimB x= []then []else [trimB x]:=by
 unfold keepT
 by_cases h:trimB x= []
 ·simp[h]
 ·simp[h]
theorem u8_34 (b:UInt8):(b.toNat:Int)=34↔b=34:=by rw[←UInt8.toNat_inj];show _↔b.toNat=34;omega
theorem u8_92 (b:UInt8):(b.toNat:Int)=92↔b=92:=by rw[←UInt8.toNat_inj];show _↔b.toNat=92;omega
theorem u8_44 (b:UInt8):(b.toNat:Int)=44↔b=44:=by rw[←UInt8.toNat_inj];show _↔b.toNat=44;omega
theorem implAdd_is (out:List ByteArray) (x:List UInt8) (hx:x.length≤1000000) (ho:out.length≤1000000):Ev (fun k=>impl_Elements.add k out (mkB x)) (out++(keepT [x]).map mkB):=by
 unfold impl_Elements.add
 refine(implTrim_is (mkB x) (by rw[size_mk];omega)).bind ?_
 rw[bl_mk,toList_mk,keepT_one]
 by_cases h:trimB x= []
 ·simp only[if_pos h];simpa using Ev.now out
 ·simp only[if_neg h,if_pos (show out.length<8796093022208 by omega)];exact Ev.now _
theorem implElems_last (mid done:List UInt8) (out:List ByteArray) (q:Bool) (hl:(done++mid).length≤100000) (ho:out.length≤done.length):
  Ev (fun k=>impl_Elements.l0 k (mkB (done++mid)) out (done.length:Int) q ((done.length:Int)+(mid.length:Int))) (out++(keepT [mid]).map mkB):=by
 rw[List.length_append]at hl
 have hs:(mkB (done++mid)).size=done.length+mid.length:=by rw[size_mk,List.length_append]
 have hx:(mkB (done++mid)).extract (done.length:Int).toNat (mkB (done++mid)).size=mkB mid:=by
  have:=take_mid done mid []
  rw[List.append_nil]at this
  rw[extract_mk,Int.toNat_natCast,hs,this]
 refine Ev.step (fun k=>?_) (implAdd_is out mid (by omega) (by omega))
 rw[impl_Elements.l0,if_neg (by rw[hs];omega),if_pos (by omega),if_pos (by rw[hs];omega),hx]
theorem implElems_cell (k:Nat) (s:ByteArray) (out:List ByteArray) (fr:Int) (q:Bool) (i:Int) (b:UInt8) (hlt:i<(s.size:Int)) (h0:0≤i) (hb:bt s i=(b.toNat:Int)) (hs:s.size≤1000000):
  impl_Elements.l0 (k+1) s out fr q i=if b=34 then impl_Elements.l0 k s out fr (!q) (i+1)else if q=true then(if b=92 then impl_Elements.l0 k s out fr true (i+1+1)else impl_Elements.l0 k s out fr true (i+1))else if b=44 then(if 0≤fr then(if fr≤i then(impl_Elements.add k out (s.extract fr.toNat i.toNat)).bind fun o=>impl_Elements.l0 k s o (i+1) false (i+1)else none)else none)else impl_Elements.l0 k s out fr false (i+1):=by
 have hw:wrap64 (i+1)=i+1:=wrap_id (by omega) (by omega)
 have hw2:wrap64 (i+1+1)=i+1+1:=wrap_id (by omega) (by omega)
 rw[impl_Elements.l0,if_pos hlt,if_pos h0,hb,hw,hw2]
 by_cases h34:b=34
 ·rw[if_pos h34,if_pos ((u8_34 b).2 h34)]
 rw[if_neg h34,if_neg (fun h=>h34 ((u8_34 b).1 h))]
 cases q
 ·rw[if_neg Bool.false_ne_true,if_neg Bool.false_ne_true]
  by_cases h44:b=44
  ·rw[if_pos h44,if_pos ((u8_44 b).2 h44)]
  ·rw[if_neg h44,if_neg (fun h=>h44 ((u8_44 b).1 h))]
 ·rw[if_pos rfl,if_pos rfl]
  by_cases h92:b=92
  ·rw[if_pos h92,if_pos ((u8_92 b).2 h92)]
  ·rw[if_neg h92,if_neg (fun h=>h92 ((u8_92 b).1 h))]
theorem implElems_go: ∀(n:Nat) (r mid done:List UInt8) (out:List ByteArray) (q:Bool),r.length≤n→(done++(mid++r)).length≤100000→out.length≤done.length→
  Ev (fun k=>impl_Elements.l0 k (mkB (done++(mid++r))) out (done.length:Int) q ((done.length:Int)+(mid.length:Int))) (out++(keepT (elL n q mid r)).map mkB):=by
 intro n
 induction n with
 |zero=>
  intro r mid done out q hr hl ho
  obtain rfl:r= []:=List.length_eq_zero_iff.1 (by omega)
  have:=implElems_last mid done out q (by simpa using hl) ho
  simpa [elL]using this
 |succ n ih=>
  intro r mid done out q hr hl ho
  cases r with
  |nil=>
   have:=implElems_last mid done out q (by simpa using hl) ho
   simpa [elL]using this
  |cons b r=>
   have hl2:=hl
   simp at hl2 hr
   have hlt:(done.length:Int)+(mid.length:Int)<((mkB (done++(mid++b::r))).size:Int):=by rw[size_mk];simp;omega
   have hb:=bt_mid2 done mid b r _ rfl
   have hz:(mkB (done++(mid++b::r))).size≤1000000:=by rw[size_mk];omega
   have h0i:(0:Int)≤(done.length:Int)+(mid.length:Int):=by omega
   have ih1:=fun q'=>ih r (mid++ [b]) done out q' (by omega) (by simp;omega) ho
   have e1:done++(mid++ [b]++r)=done++(mid++b::r):=by simp
   have e2:(done.length:Int)+((mid++ [b]).length:Int)=(done.length:Int)+(mid.length:Int)+1:=by simp;omega
   simp only[e1,e2]at ih1
   by_cases h34:b=34
   ·have e:elL (n+1) q mid (b::r)=elL n (!q) (mid++ [b]) r:=by rw[elL_cons,if_pos h34]
    rw[e]
    refine Ev.step (fun k=>?_) (ih1 (!q))
    rw[implElems_cell k _ out _ _ _ b hlt h0i hb hz,if_pos h34]
   ·cases q with
    |true=>
     by_cases h92:b=92
     ·cases r with
      |nil=>
       have e:elL (n+1) true mid [b]= [mid++ [b]]:=by simp[elL,h34,h92]
       rw[e]
       have hx:(mkB (done++(mid++ [b]))).extract (done.length:Int).toNat (mkB (done++(mid++ [b]))).size=mkB (mid++ [b]):=by
        have:=take_mid done (mid++ [b]) []
        rw[List.append_nil]at this
        rw[extract_mk,Int.toNat_natCast,size_mk,show(done++(mid++ [b])).length=done.length+(mid++ [b]).length by simp,this]
       refine Ev.step (f:=fun k=>impl_Elements.l0 k (mkB (done++(mid++ [b]))) out (done.length:Int) true ((done.length:Int)+(mid.length:Int)+1+1)) (fun k=>?_) ?_
       ·rw[implElems_cell k _ out _ _ _ b hlt h0i hb hz,if_neg h34,if_pos rfl,if_pos h92]
       ·refine Ev.step (fun k=>?_) (implAdd_is out (mid++ [b]) (by simp;omega) (by omega))
        rw[impl_Elements.l0,if_neg (by rw[size_mk];simp;omega),if_pos (by omega),if_pos (by rw[size_mk];simp;omega),hx]
      |cons c r'=>
       simp at hl2 hr
       have e:elL (n+1) true mid (b::c::r')=elL n true (mid++ [b,c]) r':=by rw[elL_cons,if_neg h34,if_pos rfl,if_pos h92]
       rw[e]
       have ih2:=ih r' (mid++ [b,c]) done out true (by omega) (by simp;omega) ho
       have e3:done++(mid++ [b,c]++r')=done++(mid++b::c::r'):=by simp
       have e4:(done.length:Int)+((mid++ [b,c]).length:Int)=(done.length:Int)+(mid.length:Int)+1+1:=by simp;omega
       rw[e3,e4]at ih2
       refine Ev.step (fun k=>?_) ih2
       rw[implElems_cell k _ out _ _ _ b hlt h0i hb hz,if_neg h34,if_pos rfl,if_pos h92]
     ·have e:elL (n+1) true mid (b::r)=elL n true (mid++ [b]) r:=by rw[elL_cons,if_neg h34,if_pos rfl,if_neg h92]
      rw[e]
      refine Ev.step (fun k=>?_) (ih1 true)
      rw[implElems_cell k _ out _ _ _ b hlt h0i hb hz,if_neg h34,if_pos rfl,if_neg h92]
    |false=>
     by_cases h44:b=44
     ·have e:elL (n+1) false mid (b::r)=mid::elL n false [] r:=by rw[elL_cons,if_neg h34,if_neg Bool.false_ne_true,if_pos h44]
      have er:out++(keepT (mid::elL n false [] r)).map mkB=(out++(keepT [mid]).map mkB)++(keepT (elL n false [] r)).map mkB:=by rw[keepT_cons,List.map_append,List.append_assoc]
      rw[e,er]
      have hx:(mkB (done++(mid++b::r))).extract (done.length:Int).toNat ((done.length:Int)+(mid.length:Int)).toNat=mkB mid:=by
       rw[extract_mk,Int.toNat_natCast,show((done.length:Int)+(mid.length:Int)).toNat=done.length+mid.length by omega,take_mid]
      have hk1:(keepT [mid]).length≤1:=by rw[keepT_one];split<;>simp
      have ih2:=ih r [] (done++mid++ [b]) (out++(keepT [mid]).map mkB) false (by omega) (by simp;omega) (by simp;omega)
      have e3:(done++mid++ [b])++([]++r)=done++(mid++b::r):=by simp
      have e4:((done++mid++ [b]).length:Int)=(done.length:Int)+(mid.length:Int)+1:=by simp;omega
      rw[e3,e4]at ih2
      simp only[List.length_nil,Int.natCast_zero,Int.add_zero]at ih2
      refine Ev.step (f:=fun k=>(impl_Elements.add k out (mkB mid)).bind fun o=>impl_Elements.l0 k (mkB (done++(mid++b::r))) o ((done.length:Int)+(mid.length:Int)+1) false ((done.length:Int)+(mid.length:Int)+1)) (fun k=>?_) ?_
      ·rw[implElems_cell k _ out _ _ _ b hlt h0i hb hz,if_neg h34,if_neg Bool.false_ne_true,if_pos h44,if_pos (by omega),if_pos (by omega),hx]
      ·exact(implAdd_is out mid (by omega) (by omega)).bind ih2
     ·have e:elL (n+1) false mid (b::r)=elL n false (mid++ [b]) r:=by rw[elL_cons,if_neg h34,if_neg Bool.false_ne_true,if_neg h44]
      rw[e]
      refine Ev.step (fun k=>?_) (ih1 false)
      rw[implElems_cell k _ out _ _ _ b hlt h0i hb hz,if_neg h34,if_neg Bool.false_ne_true,if_neg h44]
def elementsL (l:List UInt8):List ByteArray:=if l.length>4000 then []else(keepT (elL l.length false [] l)).map mkB
theorem implElements_is (s:ByteArray):Ev (fun k=>impl_Elements.f k s) (elementsL (bl s)):=by
 unfold impl_Elements.f elementsL
 rw[size_bl]
 by_cases h:s.size>4000
 ·simp only[if_pos (show(s.size:Int)>4000 by omega),if_pos h];exact Ev.now _
 ·simp only[if_neg (show ¬(s.size:Int)>4000 by omega),if_neg h]
  have:=implElems_go s.size (bl s) [] [] [] false (by rw[size_bl];omega) (by simp[size_bl];omega) (by simp)
  simpa [mk_bl]using this
def wordsL (l:List IFld) (n:ByteArray):List ByteArray:=elementsL (bl (joined (vals l n)))
theorem implWords_is (l:List IFld) (n:ByteArray) (hl:l.length≤1048576) (ht:totF l≤1048576) (hn:n.size≤1048576):Ev (fun k=>impl_Words.f k l n) (wordsL l n):=by
 unfold impl_Words.f
 refine(implJoined_is l n hl ht hn).bind ?_
 refine(implElements_is _).bind ?_
 exact Ev.now _
theorem trimB_len (x:List UInt8):(trimB x).length≤x.length:=by
 have h1: ∀l:List UInt8,(l.dropWhile wh).length≤l.length:=fun l=>(List.dropWhile_sublist _).length_le
 unfold trimB
 rw[List.length_reverse]
 refine Nat.le_trans (h1 _) ?_
 rw[List.length_reverse]
 exact h1 x
theorem elL_len: ∀(n:Nat) (q:Bool) (mid r:List UInt8),(elL n q mid r).length≤r.length+1∧ ∀x∈elL n q mid r,x.length≤mid.length+r.length
 |0,q,mid,r=>by simp[elL]
 |n+1,q,mid,[]=>by simp[elL]
 |n+1,q,mid,b::r=>by
  have ih:=fun q'=>elL_len n q' (mid++ [b]) r
  simp only[List.length_append,List.length_singleton]at ih
  have same: ∀q',(elL n q' (mid++ [b]) r).length≤(b::r).length+1∧ ∀x∈elL n q' (mid++ [b]) r,x.length≤mid.length+(b::r).length:=fun q'=>by
   have:=ih q'
   refine⟨by simp;omega,fun x hx=>?_⟩
   have:=this.2 x hx
   simp;omega
  unfold elL
  by_cases h34:b=34
  ·rw[if_pos h34];exact same _
  rw[if_neg h34]
  by_cases hq:q=true
  ·rw[if_pos hq]
   by_cases h92:b=92
   ·rw[if_pos h92]
    cases r with
    |nil=>simp
    |cons c r'=>
     have:=elL_len n true (mid++ [b,c]) r'
     simp only[List.length_append,List.length_cons,List.length_nil]at this
     refine⟨by simp;omega,fun x hx=>?_⟩
     have:=this.2 x hx
     simp;omega
   ·rw[if_neg h92];exact same _
  ·rw[if_neg hq]
   by_cases h44:b=44
   ·rw[if_pos h44]
    have:=elL_len n false [] r
    refine⟨by simp;omega,fun x hx=>?_⟩
    rcases List.mem_cons.1 hx with rfl|hx
    ·simp
    ·have:=this.2 x hx;simp at this ⊢;omega
   ·rw[if_neg h44];exact same _
theorem elementsL_bnd (l:List UInt8):(elementsL l).length≤4001∧ ∀x∈elementsL l,x.size≤4000:=by
 unfold elementsL
 by_cases h:l.length>4000
 ·rw[if_pos h];simp
 ·rw[if_neg h]
  have hb:=elL_len l.length false [] l
  refine⟨?_,fun x hx=>?_⟩
  ·rw[List.length_map]
   refine Nat.le_trans (List.length_filter_le _ _) ?_
   rw[List.length_map];omega
  ·obtain⟨y,hy,rfl⟩:=List.mem_map.1 hx
   obtain⟨z,hz,rfl⟩:=List.mem_map.1 (List.mem_filter.1 hy).1
   rw[size_mk]
   have:=hb.2 z hz
   have:=trimB_len z
   simp at*;omega
theorem strOf_digit (n:Nat) (h:n<10):strOfNums [(wrap64 (48+(n:Int)))%256]=mkB [UInt8.ofNat (48+n)]:=by
 have e:(wrap64 (48+(n:Int)))%256=((48+n:Nat):Int):=by rw[wrap_id (by omega) (by omega)];omega
 rw[e]
 show(⟨(([((48+n:Nat):Int)]:List Int).map fun n=>UInt8.ofNat n.toNat).toArray⟩:ByteArray)=_
 rw[List.map_cons,List.map_nil,Int.toNat_natCast]
 rfl
theorem mk_append (a b:List UInt8):mkB a++mkB b=mkB (a++b):=by
 cases h:mkB a++mkB b with|mk d=>
 have h3:(mkB a++mkB b).data.toList=a++b:=by simp[mkB]
 rw[h]at h3
 simp only[mkB,ByteArray.mk.injEq]
 apply Array.toList_inj.1
 rw[h3]
theorem nDigits_le15 (n:Nat) (h:n≤999999999999999):Lib.nDigits n≤15:=by
 by_cases h1:Lib.nDigits n≤15
 ·exact h1
 ·have hk: ∀k u:Nat,u<10^(k+1)→Lib.nDigits u≤k+1:=by
   intro k
   induction k with
   |zero=>intro u hu;rw[Lib.nDigits_small (by simpa using hu)];omega
   |succ k ih=>
    intro u hu
    by_cases h10:u<10
    ·rw[Lib.nDigits_small h10];omega
    ·rw[Lib.nDigits_big h10]
     have:=ih (u/10) (by rw[Nat.pow_succ]at hu;omega)
     omega
  exact hk 14 n (by omega)
theorem specDec_is (n:Nat) (h:n≤999999999999999):Ev (fun k=>spec_DecText.f k (n:Int)) (mkB (Lib.decDigits n)):=by
 induction n using Nat.strongRecOn with
 |_ n ih=>
  have hd:decide ((n:Int)>999999999999999)=false:=decide_eq_false (by omega)
  refine Ev.step (f:=fun k=>spec_DecText.j0 k (n:Int) false) (fun k=>by simp only[spec_DecText.f];rw[if_neg (by omega),hd]) ?_
  by_cases h10:n<10
  ·refine Ev.step (f:=fun _=>some (mkB (Lib.decDigits n))) (fun k=>?_) (Ev.now _)
   simp only[spec_DecText.j0,Bool.false_eq_true,if_false]
   rw[if_pos (by omega),strOf_digit n h10,Lib.decDigits,dif_pos h10]
  ·have ih':=ih (n/10) (by omega) (by omega)
   have hlen:(mkB (Lib.decDigits (n/10))).size≤15:=by rw[size_mk,Lib.decDigits_length];exact nDigits_le15 _ (by omega)
   have e1:wrap64 (Int.tdiv (n:Int) 10)=((n/10:Nat):Int):=by
    rw[Int.tdiv_eq_ediv_of_nonneg (by omega),wrap_id (by omega) (by omega)];rfl
   have e2:Int.tmod (n:Int) 10=((n%10:Nat):Int):=by rw[Int.tmod_eq_emod_of_nonneg (by omega)];rfl
   refine Ev.step (f:=fun k=>(spec_DecText.f k ((n/10:Nat):Int)).bind fun t=>if t.size+(mkB [UInt8.ofNat (48+n%10)]).size≤9223372036854775807 then some (t++mkB [UInt8.ofNat (48+n%10)])else none) (fun k=>?_) ?_
   ·simp only[spec_DecText.j0,Bool.false_eq_true,if_false]
    rw[if_neg (by omega),e1,e2]
    simp only[Option.bind_some,strOf_digit (n%10) (show n%10<10 by omega)]
   ·refine ih'.bind ?_
    have hs:(mkB [UInt8.ofNat (48+n%10)]).size=1:=by rw[size_mk];rfl
    have hdd:Lib.decDigits n=Lib.decDigits (n/10)++ [UInt8.ofNat (48+n%10)]:=by rw[Lib.decDigits,dif_neg h10]
    rw[if_pos (by omega),mk_append,hdd]
    exact Ev.now _
def isDig (c:UInt8):Bool:=decide (48≤c.toNat)&&decide (c.toNat≤57)
def dvalF (acc:Nat) (l:List UInt8):Nat:=l.foldl (fun a c=>a*10+(c.toNat-48)) acc
def dval (l:List UInt8):Nat:=dvalF 0 l
theorem dvalF_append (acc:Nat) (l m:List UInt8):dvalF acc (l++m)=dvalF (dvalF acc l) m:=by simp[dvalF]
theorem digit_toNat (d:Nat) (h:d<10):(UInt8.ofNat (48+d)).toNat=48+d:=by simp;omega
theorem dval_dec (n:Nat):dval (Lib.decDigits n)=n∧(Lib.decDigits n).all isDig=true∧Lib.decDigits n≠ []:=by
 induction n using Nat.strongRecOn with
 |_ n ih=>
  by_cases h:n<10
  ·rw[Lib.decDigits,dif_pos h]
   refine⟨?_,?_,by simp⟩
   ·simp only[dval,dvalF,List.foldl_cons,List.foldl_nil,digit_toNat n h];omega
   ·simp only[List.all_cons,List.all_nil,isDig,digit_toNat n h];simp;omega
  ·obtain⟨h1,h2,h3⟩:=ih (n/10) (by omega)
   rw[Lib.decDigits,dif_neg h]
   refine⟨?_,?_,by simp⟩
   ·rw[dval,dvalF_append,←dval,h1]
    simp only[dvalF,List.foldl_cons,List.foldl_nil,digit_toNat (n%10) (by omega)];omega
   ·rw[List.all_append,h2]
    simp only[List.all_cons,List.all_nil,isDig,digit_toNat (n%10) (show n%10<10 by omega)];simp;omega
theorem dvalF_lt: ∀(l:List UInt8) (acc m:Nat),l.all isDig=true→acc<10^m→dvalF acc l<10^(m+l.length)
 | [],acc,m,_,h=>by simpa [dvalF]using h
 |c::r,acc,m,ha,h=>by
  simp only[List.all_cons,Bool.and_eq_true,isDig,decide_eq_true_eq]at ha
  have:=dvalF_lt r (acc*10+(c.toNat-48)) (m+1) ha.2 (by rw[Nat.pow_succ];omega)
  rw[List.length_cons,show m+(r.length+1)=m+1+r.length by omega]
  exact this
theorem dval_lt15 (l:List UInt8) (hd:l.all isDig=true) (hl:l.length≤15):dval l≤999999999999999:=by
 have h1:=dvalF_lt l 0 0 hd (by decide)
 have h2:10^(0+l.length)≤10^15:=Nat.pow_le_pow_right (by decide) (by omega)
 have h3:(10:Nat)^15=1000000000000000:=by decide
 unfold dval
 omega
def rdec (l:List UInt8):Int×Bool:=if Lib.decDigits (dval l)=l∧l.length≤15 then((dval l:Int),true)else(0,false)
theorem parse_digits: ∀(l:List UInt8) (acc m:Nat),l.all isDig=true→acc<10^m→m+l.length≤15→Lib.parseUint10 acc l= .ok (dvalF acc l)
 | [],acc,m,_,_,_=>rfl
 |c::r,acc,m,hd,ha,hm=>by
  simp only[List.all_cons,Bool.and_eq_true]at hd
  have hc:48≤c.toNat∧c.toNat≤57:=by have:=hd.1;simpa [isDig]using this
  simp only[List.length_cons]at hm
  have h15:(10:Nat)^m≤10^14:=Nat.pow_le_pow_right (by decide) (by omega)
  have h3:(10:Nat)^14=100000000000000:=by decide
  rw[Lib.parseUint10,if_pos hc,if_neg (by omega),if_neg (by omega),parse_digits r _ (m+1) hd.2 (by rw[Nat.pow_succ];omega) (by omega)]
  rfl
theorem implReadDec_ok (l:List UInt8):impl_ReadDec.ok l=rdec l:=by
 unfold impl_ReadDec.ok
 by_cases h:Lib.decDigits (dval l)=l∧l.length≤15
 ·obtain⟨h1,h2⟩:=h
  have hall:l.all isDig=true:=by have:=(dval_dec (dval l)).2.1;rwa [h1]at this
  have hne:l≠ []:=by have:=(dval_dec (dval l)).2.2;rwa [h1]at this
  have hlt:=dval_lt15 l hall h2
  have hp:Lib.parseMag l= .ok (dval l):=by
   unfold Lib.parseMag
   rw[if_neg hne,parse_digits l 0 0 hall (by decide) (by omega)];rfl
  have hat:Lib.atoiAll l= .ok (dval l:Int):=by
   cases l with
   |nil=>exact absurd rfl hne
   |cons c r=>
    have hc:48≤c.toNat∧c.toNat≤57:=by
     simp only[List.all_cons,Bool.and_eq_true]at hall
     have:=hall.1;simpa [isDig]using this
    unfold Lib.atoiAll
    simp only[if_neg (show ¬(c.toNat=43∨c.toNat=45)by omega),hp]
    rw[if_neg (by omega),if_neg (by omega),if_neg (by omega)]
  rw[hat,rdec,if_pos ⟨h1,h2⟩]
  simp only[]
  rw[if_pos ⟨by omega,by omega,by unfold Lib.itoa;rw[if_neg (by omega),Int.toNat_natCast];exact h1⟩]
 ·have hr:rdec l=(0,false):=by unfold rdec;rw[if_neg h]
  rw[hr]
  cases hA:Lib.atoiAll l with
  | «syntax» =>rfl
  |range=>rfl
  |ok v=>
   simp only[]
   rw[if_neg]
   rintro⟨h0,h1,h2⟩
   obtain⟨n,rfl⟩: ∃n:Nat,v=n:=⟨v.toNat,by omega⟩
   have h3:Lib.decDigits n=l:=by rw[←h2];unfold Lib.itoa;rw[if_neg (by omega),Int.toNat_natCast]
   have h4:dval l=n:=by rw[←h3];exact(dval_dec n).1
   exact h ⟨by rw[h4,h3],by rw[←h3,Lib.decDigits_length];exact nDigits_le15 n (by omega)⟩
theorem implReadDec_is (l:List UInt8) (hl:l.length≤1099511627776):impl_ReadDec.f (mkB l)=some (rdec l):=by
 unfold impl_ReadDec.f
 rw[if_pos (by rw[size_mk];exact hl),←implReadDec_ok]
 rfl
def nCL:ByteArray:=⟨#[99,111,110,116,101,110,116,45,108,101,110,103,116,104]⟩
def nTE:ByteArray:=⟨#[116,114,97,110,115,102,101,114,45,101,110,99,111,100,105,110,103]⟩
def hasL (l:List IFld) (n:ByteArray):Bool:=decide ((vals l n).length>0)
def lensL:List ByteArray→Option Int→Option Int
 | [],n=>n
 |w::r,none=>if(rdec (bl w)).2=true then lensL r (some (rdec (bl w)).1)else none
 |w::r,some n=>if(rdec (bl w)).2=true∧(rdec (bl w)).1=n then lensL r (some n)else none
def lenL (w:List ByteArray):Option Int:=lensL w none
def kindL (te cl answer bare:Bool) (n:Int):Int×Int:=if bare=true then(0,0)else if te=true then(2,0)else if cl=true then(1,n)else if answer=true then(3,0)else(0,0)
def framingL (l:List IFld) (answer bare:Bool):Int×Int:=
 if fldsOk l=true then
  (if hasL l nTE=true∧(hasL l nCL=true∨ ¬(wordsL l nTE).length=1∨ ¬(lowS (rdOf ByteArray.empty (wordsL l nTE) 0)).toList= [99,104,117,110,107,101,100])then(4,0)
   else if hasL l nCL=true then(match lenL (wordsL l nCL)with|some n=>kindL (hasL l nTE) true answer bare n|none=>(4,0))else kindL (hasL l nTE) false answer bare 0)
 else(4,0)
theorem rdec_pos (l:List UInt8):0≤(rdec l).1:=by unfold rdec;split<;>simp
theorem implLen_go (W:List ByteArray) (hW:W.length≤100000) (hs: ∀x∈W,x.size≤100000): ∀(r pre:List ByteArray) (m:Option Int),W=pre++r→(∀n,m=some n→0≤n)→
  Ev (fun k=>impl_lengthOf.l0 k (m.getD (-1)) W (W.length:Int) (pre.length:Int)) (match lensL r m with|some n=>(n,true)|none=>if r= []then((-1:Int),false)else((0:Int),false))
 | [],pre,m,hp,hn=>by
  refine Ev.step (f:=fun _=>some (m.getD (-1),decide (m.getD (-1)≥0))) (fun k=>by simp only[impl_lengthOf.l0];rw[if_neg (by rw[hp];simp)]) ?_
  cases m with
  |none=>simpa [lensL]using Ev.now ((-1:Int),false)
  |some n=>have:=hn n rfl;simpa [lensL,this]using Ev.now (n,true)
 |w::r,pre,m,hp,hn=>by
  have hlen:W.length=pre.length+(r.length+1):=by rw[hp];simp
  have hrd:rdOf ByteArray.empty W (pre.length:Int)=w:=by rw[rdOf,hp,getD_mid]
  have hws:w.size≤100000:=hs w (by rw[hp];simp)
  have hrp:=rdec_pos (bl w)
  have hrec:=implReadDec_is (bl w) (by rw[size_bl];omega)
  rw[mk_bl]at hrec
  have hcell: ∀k,impl_lengthOf.l0 (k+1) (m.getD (-1)) W (W.length:Int) (pre.length:Int)=if(rdec (bl w)).2=true then(if m.getD (-1)≥0 then(if(rdec (bl w)).1=m.getD (-1)then impl_lengthOf.l0 k (rdec (bl w)).1 W (W.length:Int) ((pre.length:Int)+1)else some (0,false))else impl_lengthOf.l0 k (rdec (bl w)).1 W (W.length:Int) ((pre.length:Int)+1))else some (0,false):=by
   intro k
   simp only[impl_lengthOf.l0]
   rw[if_pos (by omega),if_pos (by omega),if_pos (by omega),hrd,hrec,Option.bind_some,wrap_id (by omega) (by omega)]
  have ih:=implLen_go W hW hs r (pre++ [w]) (some (rdec (bl w)).1) (by rw[hp];simp) (by intro n h;injection h with h;omega)
  rw[len_snoc]at ih
  simp only[Option.getD_some]at ih
  have hsome: ∀(r:List ByteArray) (n:Int),(match lensL r (some n)with|some n=>(n,true)|none=>if r= []then((-1:Int),false)else((0:Int),false))=(match lensL r (some n)with|some n=>(n,true)|none=>((0:Int),false)):=by
   intro r n
   cases r with
   |nil=>rfl
   |cons _ _=>rfl
  rw[hsome]at ih
  rw[if_neg (by simp)]
  cases ho:(rdec (bl w)).2
  ·have e:lensL (w::r) m=none:=by cases m<;>simp[lensL,ho]
   rw[e]
   exact Ev.step (f:=fun _=>some (0,false)) (fun k=>by rw[hcell,ho,if_neg Bool.false_ne_true]) (Ev.now _)
  ·cases m with
   |none=>
    have e:lensL (w::r) none=lensL r (some (rdec (bl w)).1):=by simp[lensL,ho]
    rw[e]
    exact Ev.step (fun k=>by rw[hcell,ho,if_pos rfl,if_neg (by decide)]) ih
   |some n=>
    have hn0:=hn n rfl
    by_cases he:(rdec (bl w)).1=n
    ·have e:lensL (w::r) (some n)=lensL r (some n):=by simp[lensL,ho,he]
     rw[e]
     rw[he]at ih
     exact Ev.step (fun k=>by rw[hcell,ho,if_pos rfl,if_pos (by simpa using hn0),if_pos (by simpa using he),he]) ih
    ·have e:lensL (w::r) (some n)=none:=by simp[lensL,he]
     rw[e]
     exact Ev.step (f:=fun _=>some (0,false)) (fun k=>by rw[hcell,ho,if_pos rfl,if_pos (by simpa using hn0),if_neg (by simpa using he)]) (Ev.now _)
theorem implHas_is (l:List IFld) (n:ByteArray) (hl:l.length≤1048576) (ho: ∀x∈l,smallF x) (hn:n.size≤1048576):Ev (fun k=>impl_hasField.f k l n) (hasL l n):=by
 unfold impl_hasField.f
 refine(implValues_is l n hl ho hn).bind ?_
 have e:decide (((vals l n).length:Int)>0)=hasL l n:=by unfold hasL;exact decide_eq_decide.2 (by omega)
 rw[e];exact Ev.now _
theorem nTE_is:(⟨#[116,114,97,110,115,102,101,114,45,101,110,99,111,100,105,110,103]⟩:ByteArray)=nTE:=rfl
theorem nCL_is:(⟨#[99,111,110,116,101,110,116,45,108,101,110,103,116,104]⟩:ByteArray)=nCL:=rfl
theorem nTE_sz:nTE.size≤1048576:=by decide
theorem nCL_sz:nCL.size≤1048576:=by decide
theorem wordsL_bnd (l:List IFld) (n:ByteArray):(wordsL l n).length≤4001∧ ∀x∈wordsL l n,x.size≤4000:=elementsL_bnd _
theorem implFraming_is (l:List IFld) (a1 a2:Bool) (hl:l.length≤1048576) (ht:totF l≤1048576):Ev (fun k=>impl_Framing.f k l a1 a2) (framingL l a1 a2):=by
 have ho:=smallF_tot l ht
 unfold impl_Framing.f framingL
 refine(implFieldsOk_is l).bind ?_
 by_cases hok:fldsOk l=true
 ·simp only[if_pos hok,nTE_is,nCL_is]
  refine(implHas_is l nTE hl ho nTE_sz).bind ?_
  refine(implHas_is l nCL hl ho nCL_sz).bind ?_
  have hb1:=wordsL_bnd l nTE
  have hb2:=wordsL_bnd l nCL
  have jk: ∀x8 x9:Bool,∀n:Int,Ev (fun k=>impl_Framing.j1 k a1 a2 x8 x9 n) (kindL x8 x9 a1 a2 n):=by
   intro x8 x9 n
   refine Ev.step (f:=fun _=>some (kindL x8 x9 a1 a2 n)) (fun k=>?_) (Ev.now _)
   simp only[impl_Framing.j1,kindL]
   cases a2<;>cases x8<;>cases x9<;>cases a1<;>rfl
  have tail:Ev (fun k=>impl_Framing.j0 k l a1 a2 (hasL l nTE) (hasL l nCL)) (if hasL l nCL=true then(match lenL (wordsL l nCL)with|some n=>kindL (hasL l nTE) true a1 a2 n|none=>(4,0))else kindL (hasL l nTE) false a1 a2 0):=by
   cases hc:hasL l nCL
   ·refine Ev.step (f:=fun k=>impl_Framing.j1 k a1 a2 (hasL l nTE) false 0) (fun k=>by simp only[impl_Framing.j0,Bool.false_eq_true,if_false]) ?_
    simpa using jk _ _ _
   ·refine Ev.step (f:=fun k=>(impl_lengthOf.f k l).bind fun b=>(if b.2=true then(impl_Framing.j1 k a1 a2 (hasL l nTE) true b.1)else(some (4,0)))) (fun k=>by simp only[impl_Framing.j0,if_true]) ?_
    have hlen:Ev (fun k=>impl_lengthOf.f k l) (match lensL (wordsL l nCL) none with|some n=>(n,true)|none=>if wordsL l nCL= []then((-1:Int),false)else((0:Int),false)):=by
     unfold impl_lengthOf.f
     rw[nCL_is]
     refine(implWords_is l nCL hl ht nCL_sz).bind ?_
     simpa using implLen_go (wordsL l nCL) (by omega) (fun x hx=>by have:=hb2.2 x hx;omega) (wordsL l nCL) [] none rfl (by simp)
    refine hlen.bind ?_
    unfold lenL
    cases hll:lensL (wordsL l nCL) none with
    |none=>
     by_cases h0:wordsL l nCL= []
     ·simpa [h0]using Ev.now ((4:Int),(0:Int))
     ·simpa [h0]using Ev.now ((4:Int),(0:Int))
    |some n=>simpa using jk (hasL l nTE) true n
  cases hte:hasL l nTE
  ·simp only[Bool.false_eq_true,if_false,false_and]
   rw[hte]at tail
   exact tail
  ·simp only[if_true,true_and]
   refine(implWords_is l nTE hl ht nTE_sz).bind ?_
   rw[hte]at tail
   cases hcl:hasL l nCL
   ·rw[hcl]at tail
    simp only[Bool.false_eq_true,if_false,false_or]
    by_cases h1w:(wordsL l nTE).length=1
    ·simp only[if_pos (show((wordsL l nTE).length:Int)=1 by omega),if_pos (show(0:Int)<((wordsL l nTE).length:Int)by omega)]
     have hsz:(rdOf ByteArray.empty (wordsL l nTE) 0).size≤1099511627776:=by
      obtain⟨w,hw⟩:=List.length_eq_one_iff.1 h1w
      rw[hw];have:=hb1.2 w (by rw[hw];simp);show w.size≤_;omega
     simp only[implFold_is _ hsz,Option.bind_some]
     by_cases hch:(lowS (rdOf ByteArray.empty (wordsL l nTE) 0)).toList= [99,104,117,110,107,101,100]
     ·simp only[if_pos hch]
      rw[if_neg (by simp[h1w,hch])]
      simpa using tail
     ·simp only[if_neg hch]
      rw[if_pos (Or.inr hch)];exact Ev.now _
    ·simp only[if_neg (show ¬((wordsL l nTE).length:Int)=1 by omega)]
     rw[if_pos (Or.inl h1w)];exact Ev.now _
   ·simp only[if_true,true_or];exact Ev.now _
 ·simp only[if_neg hok];exact Ev.now _
def visB (b:UInt8):Bool:=decide (33≤b.toNat)&&decide (b.toNat≤126)
theorem implVis_is (b:UInt8):impl_isVisible.f (b.toNat:Int)=some (visB b):=by
 unfold impl_isVisible.f visB
 by_cases h:33≤b.toNat
 ·rw[if_pos (by omega),decide_eq_true h,Bool.true_and];congr 1;exact decide_eq_decide.2 (by omega)
 ·rw[if_neg (by omega),decide_eq_false h,Bool.false_and]
theorem implAllVis_is (s:ByteArray) (hs:s.size≤9223372036854775806):Ev (fun k=>impl_all__impl_isVisible.f k s) ((bl s).all visB):=
 all_ev impl_all__impl_isVisible.l0 (fun _ x=>impl_isVisible.f x) visB (fun b=>Ev.const (implVis_is b))
  (fun k s i=>by simp only[impl_all__impl_isVisible.l0]) s hs
theorem specVisible_go: ∀(r pre:List UInt8),(pre++r).length≤9223372036854775806→Ev (fun k=>spec_l6visible.l0 k (mkB (pre++r)) pre.length) (r.all visB&&decide (1≤(pre++r).length))
 | [], pre, _ => Ev.step (f := fun _ => some (decide (1 ≤ (pre ++ []).length))) (fun k => by
   simp only[spec_l6visible.l0]
   rw[if_neg (by rw[size_mk];simp),size_mk]
   congr 1;exact decide_eq_decide.2 (by omega)) (by simpa using Ev.now _)
 |b::r,pre,hl=>by
  have ih:=specVisible_go r (pre++ [b]) (by rw[←app_mid];exact hl)
  rw[←app_mid,len_snoc]at ih
  have hw:wrap64 ((pre.length:Int)+1)=(pre.length:Int)+1:=by simp at hl;exact wrap_id (by omega) (by omega)
  have hcell: ∀k,spec_l6visible.l0 (k+1) (mkB (pre++b::r)) pre.length=if visB b=true then spec_l6visible.l0 k (mkB (pre++b::r)) (pre.length+1)else some false:=by
   intro k
   simp only[spec_l6visible.l0]
   rw[if_pos (size_lt_mid ..),if_pos (by omega),bt_mid,hw]
   by_cases h1:(b.toNat:Int)<33
   ·rw[if_pos h1,if_neg];simp[visB];omega
   ·by_cases h2:(b.toNat:Int)>126
    ·rw[if_neg h1,if_pos h2,if_neg];simp[visB];omega
    ·rw[if_neg h1,if_neg h2,if_pos];simp[visB];omega
  by_cases hv:visB b=true
  ·refine Ev.step (fun k=>by rw[hcell,if_pos hv]) ?_
   simpa [hv]using ih
  ·refine Ev.step (f:=fun _=>some false) (fun k=>by rw[hcell,if_neg hv]) ?_
   simpa [hv]using Ev.now false
theorem specVisible_is (s:ByteArray) (hs:s.size≤9223372036854775806):Ev (fun k=>spec_l6visible.f k s) ((bl s).all visB&&decide (1≤s.size)):=by
 have:=specVisible_go (bl s) [] (by simpa [size_bl]using hs)
 simpa [spec_l6visible.f,mk_bl,size_bl]using this
def lCL:List UInt8:= [99,111,110,116,101,110,116,45,108,101,110,103,116,104]
def lTE:List UInt8:= [116,114,97,110,115,102,101,114,45,101,110,99,111,100,105,110,103]
def lTR:List UInt8:= [116,114,97,105,108,101,114]
def isN (n:List UInt8) (x:IFld):Bool:=decide (bl (lowS x.f0)=n)
def framedB (l:List IFld):Bool:=l.any (isN lCL)||l.any (isN lTE)||l.any (isN lTR)
theorem specFramed_go: ∀(r pre:List IFld),(∀x∈r,smallF x)→(pre++r).length≤1048576→Ev (fun k=>spec_l6framed.l0 k (pre++r) pre.length) (r.any fun x=>isN lCL x||isN lTE x||isN lTR x)
 | [],pre,_,_=>Ev.step (f:=fun _=>some false) (fun k=>by simp[spec_l6framed.l0]) (Ev.now _)
 |x::r,pre,ho,hl=>by
  have hx:=(ho x (by simp)).1
  have ih:=specFramed_go r (pre++ [x]) (fun y hy=>ho y (List.mem_cons_of_mem _ hy)) (by rw[←app_mid];exact hl)
  rw[←app_mid,len_snoc]at ih
  have hcell: ∀k,spec_l6framed.l0 (k+1) (pre++x::r) pre.length=if bl (lowS x.f0)=lCL then some true else if bl (lowS x.f0)=lTE then some true else if bl (lowS x.f0)=lTR then some true else spec_l6framed.l0 k (pre++x::r) (pre.length+1):=by
   intro k
   simp only[spec_l6framed.l0]
   rw[if_pos (len_mid ..),if_pos (by omega)]
   simp only[rd_T82,getD_mid]
   rw[specFold_is x.f0 (by omega),wrap_id (by omega) (by simp at hl;omega)]
   simp only[Option.bind_some,toList_bl]
   rfl
  by_cases h1:bl (lowS x.f0)=lCL
  ·refine Ev.step (f:=fun _=>some true) (fun k=>by rw[hcell,if_pos h1]) ?_
   simpa [isN,h1]using Ev.now true
  by_cases h2:bl (lowS x.f0)=lTE
  ·refine Ev.step (f:=fun _=>some true) (fun k=>by rw[hcell,if_neg h1,if_pos h2]) ?_
   simpa [isN,h2]using Ev.now true
  by_cases h3:bl (lowS x.f0)=lTR
  ·refine Ev.step (f:=fun _=>some true) (fun k=>by rw[hcell,if_neg h1,if_neg h2,if_pos h3]) ?_
   simpa [isN,h3]using Ev.now true
  refine Ev.step (fun k=>by rw[hcell,if_neg h1,if_neg h2,if_neg h3]) ?_
  simpa [isN,h1,h2,h3]using ih
theorem any_or3 (l:List IFld):(l.any fun x=>isN lCL x||isN lTE x||isN lTR x)=framedB l:=by
 unfold framedB
 induction l with
 |nil=>rfl
 |cons x r ih=>
  simp only[List.any_cons,ih]
  cases isN lCL x<;>cases isN lTE x<;>cases isN lTR x<;>simp<;>cases r.any (isN lCL)<;>cases r.any (isN lTE)<;>simp
theorem specFramed_is (l:List IFld) (ho: ∀x∈l,smallF x) (hl:l.length≤1048576):Ev (fun k=>spec_l6framed.f k l) (framedB l):=by
 rw[←any_or3]
 simpa [spec_l6framed.f]using specFramed_go l [] ho (by simpa using hl)
theorem hasField_is (l:List IFld) (n:List UInt8) (hn:lowS (mkB n)=mkB n) (hn2:n.length≤1048576) (hl:l.length≤1048576) (ho: ∀x∈l,smallF x) (hk:fldsOk l=true):Ev (fun k=>impl_hasField.f k l (mkB n)) (l.any (isN n)):=by
 unfold impl_hasField.f
 refine(implValues_is l (mkB n) hl ho (by rw[size_mk];exact hn2)).bind ?_
 have e:decide (((vals l (mkB n)).length:Int)>0)=l.any (isN n):=by
  unfold vals
  rw[if_pos hk]
  have hs: ∀x:IFld,sameB x.f0 (mkB n)=isN n x:=by
   intro x
   unfold sameB isN
   rw[hn,toList_mk,toList_bl]
   by_cases h:bl (lowS x.f0)=n<;>simp[h]
  clear hl ho hk
  induction l with
  |nil=>rfl
  |cons x r ih=>
   simp only[valsF,List.filter_cons,hs,List.any_cons]at ih ⊢
   cases hx:isN n x
   ·simpa using ih
   ·simp
 rw[e];exact Ev.now _
theorem low_CL:lowS (mkB lCL)=mkB lCL:=by decide+kernel
theorem low_TE:lowS (mkB lTE)=mkB lTE:=by decide+kernel
theorem low_TR:lowS (mkB lTR)=mkB lTR:=by decide+kernel
def bareS (n:Int):Bool:=decide (n=204)||decide (n=304)
def reqL (a0 a1:ByteArray) (a2:Int) (a3:ByteArray) (a4:Bool):Bool:=decide (a0.size≤20)&&tokenL (bl a0)&&(decide (1≤a1.size)&&decide (a1.size≤200)&&(bl a1).all visB)&&decide (a2=0)&&decide (bl a3= [])&&!a4
def ansL (a1:ByteArray) (a2:Int) (a3:ByteArray) (a4:Bool) (a6:ByteArray):Bool:=decide (bl a1= [])&&(decide (200≤a2)&&decide (a2≤599))&&(decide (a3.size≤40)&&(bl a3).all plB)&&(if a4=true then decide (bl a6= [])else !bareS a2)
theorem specRequest_is (a0 a1:ByteArray) (a2:Int) (a3:ByteArray) (a4:Bool) (l:List IFld) (a6:ByteArray) (h0:a0.size≤1048576) (h1:a1.size≤1048576):Ev (fun k=>spec_l6request.f k a0 a1 a2 a3 a4 l a6) (reqL a0 a1 a2 a3 a4):=by
 unfold spec_l6request.f reqL
 by_cases c0:a0.size≤20
 ·simp only[if_pos (show(a0.size:Int)≤20 by omega),decide_eq_true c0,Bool.true_and]
  refine(specToken_is a0).bind ?_
  cases hT:tokenL (bl a0)
  ·simpa using Ev.now false
  simp only[if_true,Bool.true_and]
  by_cases c1:a1.size≤200
  ·simp only[if_pos (show(a1.size:Int)≤200 by omega),decide_eq_true c1,Bool.and_true]
   refine(specVisible_is a1 (by omega)).bind ?_
   rw[Bool.and_comm (decide (1≤a1.size))]
   cases hV:((bl a1).all visB&&decide (1≤a1.size))
   ·simpa using Ev.now false
   simp only[if_true,Bool.true_and]
   by_cases c2:a2=0
   ·simp only[if_pos c2,decide_eq_true c2,Bool.true_and,toList_bl]
    by_cases c3:bl a3= []
    ·simp only[if_pos c3,decide_eq_true c3,Bool.true_and];exact Ev.now _
    ·simp only[if_neg c3,decide_eq_false c3,Bool.false_and];exact Ev.now _
   ·simp only[if_neg c2,decide_eq_false c2,Bool.false_and];exact Ev.now _
  ·simp only[if_neg (show ¬(a1.size:Int)≤200 by omega),decide_eq_false c1,Bool.and_false,Bool.false_and];exact Ev.now _
 ·simp only[if_neg (show ¬(a0.size:Int)≤20 by omega),decide_eq_false c0,Bool.false_and];exact Ev.now _
theorem specAnswer_is (a0 a1:ByteArray) (a2:Int) (a3:ByteArray) (a4:Bool) (l:List IFld) (a6:ByteArray) (h3:a3.size≤1048576):Ev (fun k=>spec_l6answer.f k a0 a1 a2 a3 a4 l a6) (ansL a1 a2 a3 a4 a6):=by
 unfold spec_l6answer.f ansL
 simp only[toList_bl]
 by_cases c1:bl a1= []
 ·simp only[if_pos c1,decide_eq_true c1,Bool.true_and]
  by_cases c2:a2<200
  ·simp only[if_pos c2,decide_eq_false (show ¬200≤a2 by omega),Bool.false_and];exact Ev.now _
  simp only[if_neg c2,decide_eq_true (show 200≤a2 by omega),Bool.true_and]
  by_cases c22:a2>599
  ·simp only[if_pos c22,decide_eq_false (show ¬a2≤599 by omega),Bool.false_and];exact Ev.now _
  simp only[if_neg c22,decide_eq_true (show a2≤599 by omega),Bool.true_and]
  by_cases c3:(a3.size:Int)>40
  ·simp only[if_pos c3,decide_eq_false (show ¬a3.size≤40 by omega),Bool.false_and];exact Ev.now _
  simp only[if_neg c3,decide_eq_true (show a3.size≤40 by omega),Bool.true_and]
  refine(specL5plain_is a3 (by omega)).bind ?_
  cases hP:(bl a3).all plB
  ·simpa using Ev.now false
  simp only[if_true,Bool.true_and]
  cases a4
  ·simp only[Bool.false_eq_true,if_false,spec_l6bare.f,bareS]
   by_cases cb:a2=204
   ·simp only[if_pos cb,Option.bind_some,decide_eq_true cb,Bool.true_or];exact Ev.now _
   ·simp only[if_neg cb,Option.bind_some,decide_eq_false cb,Bool.false_or]
    have:(a2==304)=decide (a2=304):=by by_cases h:a2=304<;>simp[h]
    rw[this];exact Ev.now _
  ·simp only[if_true]
   by_cases c6:bl a6= []
   ·simp only[if_pos c6,decide_eq_true c6];exact Ev.now _
   ·simp only[if_neg c6,decide_eq_false c6];exact Ev.now _
 ·simp only[if_neg c1,decide_eq_false c1,Bool.false_and];exact Ev.now _
def totG (l:List IFld):Nat:=(l.map fun x=>x.f0.size+x.f1.size).sum
theorem smallF_totG (l:List IFld) (h:totG l≤1048576): ∀x∈l,smallF x:=by
 intro x hx
 have:x.f0.size+x.f1.size≤totG l:=le_sum_mem _ _ (List.mem_map_of_mem (f:=fun x:IFld=>x.f0.size+x.f1.size) hx)
 exact⟨by omega,by omega⟩
def crB:List UInt8:= [13,10]
def fldT (x:IFld):List UInt8:=bl x.f0++ [58,32]++bl x.f1
def fldsT (l:List IFld):List UInt8:=l.flatMap fun x=>fldT x++crB
def firstT (a0 a1:ByteArray) (a2:Int) (a3:ByteArray):List UInt8:=if bl a0= []then [72,84,84,80,47,49,46,49,32]++Lib.itoa a2++ [32]++bl a3++crB else bl a0++ [32]++bl a1++ [32,72,84,84,80,47,49,46,49,13,10]
def lenT (a0 a6:ByteArray) (a4:Bool):List UInt8:=if(if bl a0= []then !a4 else !decide (bl a6= []))=true then [67,111,110,116,101,110,116,45,76,101,110,103,116,104,58,32]++Lib.itoa (a6.size:Int)++crB else []
def headT (a0 a1:ByteArray) (a2:Int) (a3:ByteArray) (a4:Bool) (l:List IFld) (a6:ByteArray):List UInt8:=firstT a0 a1 a2 a3++fldsT l++lenT a0 a6 a4++crB
theorem bl_app (a b:ByteArray):bl (a++b)=bl a++bl b:=by simp[bl]
theorem fldsT_len (l:List IFld):(fldsT l).length=totG l+4*l.length:=by
 induction l with
 |nil=>rfl
 |cons x r ih=>
  have h1:fldsT (x::r)=fldT x++crB++fldsT r:=by simp[fldsT]
  have h2:totG (x::r)=x.f0.size+x.f1.size+totG r:=by simp[totG]
  rw[h1,h2,List.length_append,List.length_append,ih,List.length_cons]
  simp[fldT,crB,size_bl]
  omega
theorem wflds_is (l:List IFld):impl_writeHead_flds l=fldsT l:=by
 unfold impl_writeHead_flds fldsT
 congr 1
theorem itoa_len (n:Int) (h0: -9223372036854775808≤n) (h1:n≤9223372036854775807):(Lib.itoa n).length≤21:=Lib.itoa_length_le n h0 h1
theorem writeHead_is (a0 a1:ByteArray) (a2:Int) (a3:ByteArray) (a4:Bool) (l:List IFld) (a6:ByteArray) (h0:a0.size≤1048576) (h1:a1.size≤1048576) (h3:a3.size≤1048576) (h6:a6.size≤1048576)
  (hi0: -9223372036854775808≤a2) (hi1:a2≤9223372036854775807) (hl:l.length≤1048576) (ht:totG l≤1048576):impl_writeHead.f a0 a1 a2 a3 a4 l a6=some (mkB (headT a0 a1 a2 a3 a4 l a6)):=by
 have hf:=fldsT_len l
 have hsm:impl_writeHead.small a0 a1 a2 a3 l a6:=by
  unfold impl_writeHead.small
  rw[wflds_is]
  exact⟨by omega,by omega,by omega,by omega,hi0,hi1,by omega,by omega,by have:=itoa_len a2 hi0 hi1;omega,by have:=itoa_len (a6.size:Int) (by omega) (by omega);omega⟩
 unfold impl_writeHead.f
 rw[if_pos hsm,wflds_is]
 congr 1
 have hfirst:(impl_writeHead_first a0 a1 a2 a3).data.toList=firstT a0 a1 a2 a3:=by
  show bl (impl_writeHead_first a0 a1 a2 a3)=_
  unfold impl_writeHead_first firstT
  rw[toList_bl]
  split
  ·rw[bl_app,bl_app,bl_app,bl_app];rfl
  ·rw[bl_app,bl_app,bl_app,bl_app]
   show bl a0++ [32]++bl a1++ [32,72,84,84,80,47,49,46,49]++ [13,10]=_
   simp
 have hcl:impl_writeHead_cl a0 a6 a4=lenT a0 a6 a4:=by
  unfold impl_writeHead_cl impl_writeHead_says lenT
  rw[toList_bl,toList_bl]
  by_cases hh:(if bl a0= []then !a4 else !decide (bl a6= []))=true
  ·rw[if_pos hh,if_pos hh]
   show bl (_++_++_)=_
   rw[bl_app,bl_app];rfl
  ·rw[if_neg hh,if_neg hh]
 rw[hfirst,hcl]
 show mkB _++mkB crB=_
 rw[mk_append];rfl
theorem specFieldText_is (x:IFld) (hk:fldOk x=true) (hs:smallF x):Ev (fun k=>spec_FieldText.f k x.f0 x.f1) (mkB (fldT x)):=by
 unfold spec_FieldText.f
 refine(specFieldOk_is x.f0 x.f1).bind ?_
 have hk2:fieldL (bl x.f0) (bl x.f1)=true:=hk
 have e1:(x.f0++(⟨#[58,32]⟩:ByteArray)).size=x.f0.size+2:=by rw[ByteArray.size_append];rfl
 have hs1:=hs.1
 have hs2:=hs.2
 simp only[hk2,if_true,if_pos (show x.f0.size+2≤9223372036854775807 by omega),if_pos (show(x.f0++(⟨#[58,32]⟩:ByteArray)).size+x.f1.size≤9223372036854775807 by rw[e1];omega)]
 have e:x.f0++(⟨#[58,32]⟩:ByteArray)++x.f1=mkB (fldT x):=by
  rw[←mk_bl (x.f0++(⟨#[58,32]⟩:ByteArray)++x.f1),bl_app,bl_app];rfl
 rw[e];exact Ev.now _
theorem dec_itoa (n:Nat):Lib.itoa (n:Int)=Lib.decDigits n:=by unfold Lib.itoa;rw[if_neg (by omega),Int.toNat_natCast]
theorem specHead_go (a0 a1:ByteArray) (a2:Int) (a3:ByteArray) (a4:Bool) (a6:ByteArray) (h6:a6.size≤1048576): ∀(r pre:List IFld) (al:List UInt8),(∀x∈r,fldOk x=true)→(∀x∈r,smallF x)→(pre++r).length≤1048576→al.length+(fldsT r).length≤1099511627776→
  Ev (fun k=>spec_l6head.l0 k (mkB al) pre.length a0 a1 a2 a3 a4 (pre++r) a6) (mkB (al++fldsT r++lenT a0 a6 a4++crB))
 | [],pre,al,_,_,hl,ha=>by
  have ha':al.length≤1099511627776:=by simpa [fldsT]using ha
  have cr:(⟨#[13,10]⟩:ByteArray)=mkB crB:=rfl
  have cl:(⟨#[67,111,110,116,101,110,116,45,76,101,110,103,116,104,58,32]⟩:ByteArray)=mkB [67,111,110,116,101,110,116,45,76,101,110,103,116,104,58,32]:=rfl
  have hcr:crB.length=2:=rfl
  have hends: ∀(m:List UInt8),m.length≤1099511627876→((mkB m).size+2≤9223372036854775807):=by intro m hm;rw[size_mk];omega
  obtain⟨G,hG⟩: ∃G:Nat→Option ByteArray,G=(fun k=>(if(mkB al).size+16≤9223372036854775807 then((spec_DecText.f k (a6.size:Int)).bind fun t166=>(if((mkB al)++(⟨#[67,111,110,116,101,110,116,45,76,101,110,103,116,104,58,32]⟩:ByteArray)).size+t166.size≤9223372036854775807 then(if(((mkB al)++(⟨#[67,111,110,116,101,110,116,45,76,101,110,103,116,104,58,32]⟩:ByteArray))++t166).size+2≤9223372036854775807 then(if((((mkB al)++(⟨#[67,111,110,116,101,110,116,45,76,101,110,103,116,104,58,32]⟩:ByteArray))++t166)++(⟨#[13,10]⟩:ByteArray)).size+2≤9223372036854775807 then(some (((((mkB al)++(⟨#[67,111,110,116,101,110,116,45,76,101,110,103,116,104,58,32]⟩:ByteArray))++t166)++(⟨#[13,10]⟩:ByteArray))++(⟨#[13,10]⟩:ByteArray)))else(none))else(none))else(none)))else(none))):=⟨_,rfl⟩
  have hlen : 
    Ev G (mkB (al++([67,111,110,116,101,110,116,45,76,101,110,103,116,104,58,32]++Lib.itoa (a6.size:Int)++crB)++crB)):=by
   rw[hG]
   have hd:(Lib.decDigits a6.size).length≤15:=by rw[Lib.decDigits_length];exact nDigits_le15 _ (by omega)
   simp only[if_pos (show(mkB al).size+16≤9223372036854775807 by rw[size_mk];omega)]
   refine(specDec_is a6.size (by omega)).bind ?_
   simp only[cl,cr,mk_append,size_mk]
   rw[if_pos (by simp;omega),if_pos (by simp;omega),if_pos (by simp[crB];omega),dec_itoa]
   have e:al++ [67,111,110,116,101,110,116,45,76,101,110,103,116,104,58,32]++Lib.decDigits a6.size++crB++crB=al++([67,111,110,116,101,110,116,45,76,101,110,103,116,104,58,32]++Lib.decDigits a6.size++crB)++crB:=by simp
   rw[e];exact Ev.now _
  have hnot:((mkB al).size+2≤9223372036854775807):=hends al (by omega)
  have ecr:mkB al++(⟨#[13,10]⟩:ByteArray)=mkB (al++crB):=by rw[cr,mk_append]
  have hz:fldsT ([]:List IFld)= []:=rfl
  have hn: ¬((pre.length:Int)<(pre.length:Int)):=by omega
  rw[hz,List.append_nil,List.append_nil]
  unfold lenT
  by_cases c0:bl a0= []
  ·by_cases c4:a4=true
   ·refine Ev.step (f:=fun _=>some (mkB (al++crB))) (fun k=>?_) (by rw[if_pos c0,c4];simpa using Ev.now (mkB (al++crB)))
    simp only[spec_l6head.l0]
    rw[if_neg hn,toList_bl,if_pos c0,if_pos c4,if_pos hnot,ecr]
   ·refine Ev.step (f:=G) (fun k=>?_) (by rw[if_pos c0,if_pos (by simpa using c4)];exact hlen)
    simp only[spec_l6head.l0]
    rw[if_neg hn,toList_bl,if_pos c0,if_neg c4,hG]
  ·by_cases c6:bl a6= []
   ·refine Ev.step (f:=fun _=>some (mkB (al++crB))) (fun k=>?_) (by rw[if_neg c0,if_neg (by simp[c6])];simpa using Ev.now (mkB (al++crB)))
    simp only[spec_l6head.l0]
    rw[if_neg hn,toList_bl,if_neg c0,toList_bl,if_pos c6]
    rw[if_pos hnot,ecr]
   ·refine Ev.step (f:=G) (fun k=>?_) (by rw[if_neg c0,if_pos (by simp[c6])];exact hlen)
    simp only[spec_l6head.l0]
    rw[if_neg hn,toList_bl,if_neg c0,toList_bl,if_neg c6,hG]
 |x::r,pre,al,hk,ho,hl,ha=>by
  have hx:=ho x (by simp)
  have hkx:=hk x (by simp)
  have h1:fldsT (x::r)=fldT x++crB++fldsT r:=by simp[fldsT]
  have cr:(⟨#[13,10]⟩:ByteArray)=mkB crB:=rfl
  have hcr:crB.length=2:=rfl
  rw[h1,List.length_append,List.length_append,hcr]at ha
  have ih:=specHead_go a0 a1 a2 a3 a4 a6 h6 r (pre++ [x]) (al++fldT x++crB) (fun y hy=>hk y (List.mem_cons_of_mem _ hy)) (fun y hy=>ho y (List.mem_cons_of_mem _ hy)) (by rw[←app_mid];exact hl) (by simp[hcr];omega)
  rw[←app_mid,len_snoc]at ih
  have e:al++fldsT (x::r)++lenT a0 a6 a4++crB=al++fldT x++crB++fldsT r++lenT a0 a6 a4++crB:=by rw[h1];simp
  rw[e]
  have hw:wrap64 ((pre.length:Int)+1)=(pre.length:Int)+1:=by simp at hl;exact wrap_id (by omega) (by omega)
  have hb:=(specFieldText_is x hkx hx).bind (f:=fun k (t:ByteArray)=>if(mkB al).size+t.size≤9223372036854775807 then(if((mkB al)++t).size+2≤9223372036854775807 then(spec_l6head.l0 k (((mkB al)++t)++(⟨#[13,10]⟩:ByteArray)) ((pre.length:Int)+1) a0 a1 a2 a3 a4 (pre++x::r) a6)else none)else none) (by
   simp only[cr,mk_append,size_mk]
   simp only[if_pos (show al.length+(fldT x).length≤9223372036854775807 by omega),if_pos (show(al++fldT x).length+2≤9223372036854775807 by rw[List.length_append];omega)]
   exact ih)
  refine Ev.step (fun k=>?_) hb
  simp only[spec_l6head.l0]
  rw[if_pos (len_mid ..),if_pos (by omega)]
  simp only[rd_T82,getD_mid,hw]
theorem specHead_is (a0 a1:ByteArray) (a2:Int) (a3:ByteArray) (a4:Bool) (l:List IFld) (a6:ByteArray) (h0:a0.size≤1048576) (h1:a1.size≤1048576) (h3:a3.size≤1048576) (h6:a6.size≤1048576)
  (hs:bl a0= []→0≤a2∧a2≤999999) (hl:l.length≤1048576) (ht:totG l≤1048576) (hk: ∀x∈l,fldOk x=true) (ho: ∀x∈l,smallF x):Ev (fun k=>spec_l6head.f k a0 a1 a2 a3 a4 l a6) (mkB (headT a0 a1 a2 a3 a4 l a6)):=by
 have hf:=fldsT_len l
 have go: ∀al:List UInt8,al.length≤99511627776→Ev (fun k=>spec_l6head.j0 k (mkB al) a0 a1 a2 a3 a4 l a6) (mkB (al++fldsT l++lenT a0 a6 a4++crB)):=by
  intro al ha
  refine Ev.step (f:=fun k=>spec_l6head.l0 k (mkB al) 0 a0 a1 a2 a3 a4 l a6) (fun k=>by simp only[spec_l6head.j0]) ?_
  exact specHead_go a0 a1 a2 a3 a4 a6 h6 l [] al hk ho (by simpa using hl) (by omega)
 unfold spec_l6head.f headT firstT
 have b0:(a0++(⟨#[32]⟩:ByteArray)).size=a0.size+1:=by rw[ByteArray.size_append];rfl
 have b1:(a0++(⟨#[32]⟩:ByteArray)++a1).size=a0.size+1+a1.size:=by rw[ByteArray.size_append,b0]
 simp only[if_pos (show a0.size+1≤9223372036854775807 by omega),if_pos (show(a0++(⟨#[32]⟩:ByteArray)).size+a1.size≤9223372036854775807 by rw[b0];omega),if_pos (show(a0++(⟨#[32]⟩:ByteArray)++a1).size+11≤9223372036854775807 by rw[b1];omega),toList_bl]
 by_cases c0:bl a0= []
 ·simp only[if_pos c0]
  obtain⟨n,rfl⟩: ∃n:Nat,a2=n:=⟨a2.toNat,by have:=hs c0;omega⟩
  have hn:n≤999999:=by have:=hs c0;omega
  have hd:(Lib.decDigits n).length≤15:=by rw[Lib.decDigits_length];exact nDigits_le15 _ (by omega)
  refine(specDec_is n (by omega)).bind ?_
  have k1:(⟨#[72,84,84,80,47,49,46,49,32]⟩:ByteArray)=mkB [72,84,84,80,47,49,46,49,32]:=rfl
  have k2:(⟨#[32]⟩:ByteArray)=mkB [32]:=rfl
  have k3:(⟨#[13,10]⟩:ByteArray)=mkB crB:=rfl
  have k4:a3=mkB (bl a3):=(mk_bl a3).symm
  have hb3:(bl a3).length=a3.size:=size_bl a3
  rw[k4,k1,k2,k3]
  simp only[mk_append,size_mk,bl_mk]
  simp only[if_pos (show 9+(Lib.decDigits n).length≤9223372036854775807 by omega),if_pos (show([72,84,84,80,47,49,46,49,32]++Lib.decDigits n).length+1≤9223372036854775807 by simp;omega),
   if_pos (show([72,84,84,80,47,49,46,49,32]++Lib.decDigits n++ [32]).length+(bl a3).length≤9223372036854775807 by simp;omega),if_pos (show([72,84,84,80,47,49,46,49,32]++Lib.decDigits n++ [32]++bl a3).length+2≤9223372036854775807 by simp;omega),dec_itoa]
  have:=go ([72,84,84,80,47,49,46,49,32]++Lib.decDigits n++ [32]++bl a3++crB) (by simp[crB];omega)
  rw[k4]at this
  simpa only[bl_mk]using this
 ·simp only[if_neg c0]
  have k2:a0++(⟨#[32]⟩:ByteArray)++a1++(⟨#[32,72,84,84,80,47,49,46,49,13,10]⟩:ByteArray)=mkB (bl a0++ [32]++bl a1++ [32,72,84,84,80,47,49,46,49,13,10]):=by
   rw[←mk_bl (a0++(⟨#[32]⟩:ByteArray)++a1++(⟨#[32,72,84,84,80,47,49,46,49,13,10]⟩:ByteArray)),bl_app,bl_app,bl_app];rfl
  rw[k2]
  exact go (bl a0++ [32]++bl a1++ [32,72,84,84,80,47,49,46,49,13,10]) (by simp[size_bl];omega)
structure SmallM (a0 a1:ByteArray) (a2:Int) (a3:ByteArray) (l:List IFld) (a6:ByteArray):Prop where
 h0:a0.size≤1048576
 h1:a1.size≤1048576
 h3:a3.size≤1048576
 h6:a6.size≤1048576
 i0: -9223372036854775808≤a2
 i1:a2≤9223372036854775807
 hl:l.length≤1048576
 ht:totG l≤1048576
def lineL (a0 a1:ByteArray) (a2:Int) (a3:ByteArray) (a4:Bool) (a6:ByteArray):Bool:=if bl a0= []then ansL a1 a2 a3 a4 a6 else reqL a0 a1 a2 a3 a4
def msgOk (a0 a1:ByteArray) (a2:Int) (a3:ByteArray) (a4:Bool) (l:List IFld) (a6:ByteArray):Bool:=
 fldsOk l&&!decide (l.length=20)&&!framedB l&&decide (a6.size≤600)&&(lineL a0 a1 a2 a3 a4 a6&&decide ((headT a0 a1 a2 a3 a4 l a6).length≤1500))
theorem ansL_status {a1:ByteArray} {a2:Int} {a3:ByteArray} {a4:Bool} {a6:ByteArray} (h:ansL a1 a2 a3 a4 a6=true):200≤a2∧a2≤599:=by
 unfold ansL at h
 simp only[Bool.and_eq_true,decide_eq_true_eq]at h
 exact h.1.1.2
theorem lineL_status {a0 a1:ByteArray} {a2:Int} {a3:ByteArray} {a4:Bool} {a6:ByteArray} (h:lineL a0 a1 a2 a3 a4 a6=true):bl a0= []→0≤a2∧a2≤999999:=by
 intro h0
 unfold lineL at h
 rw[if_pos h0]at h
 have:=ansL_status h
 omega
theorem fldsOk_all {l:List IFld} (h:fldsOk l=true): ∀x∈l,fldOk x=true:=by
 unfold fldsOk at h
 simp only[Bool.and_eq_true,List.all_eq_true]at h
 exact h.2
theorem specMsgOk_is (a0 a1:ByteArray) (a2:Int) (a3:ByteArray) (a4:Bool) (l:List IFld) (a6:ByteArray) (S:SmallM a0 a1 a2 a3 l a6):Ev (fun k=>spec_MsgOk.f k a0 a1 a2 a3 a4 l a6) (msgOk a0 a1 a2 a3 a4 l a6):=by
 have ho:=smallF_totG l S.ht
 have hj:Ev (fun k=>spec_MsgOk.j0 k true a0 a1 a2 a3 a4 l a6) false:=Ev.step (f:=fun _=>some false) (fun k=>by simp only[spec_MsgOk.j0,if_true]) (Ev.now _)
 unfold spec_MsgOk.f msgOk
 refine(specFieldsOk_is l).bind ?_
 cases hk:fldsOk l
 ·simpa using hj
 simp only[if_true,Bool.true_and]
 by_cases h20:l.length=20
 ·simp only[if_pos (show(l.length:Int)=20 by omega),decide_eq_true h20,Bool.not_true,Bool.false_and];exact hj
 simp only[if_neg (show ¬(l.length:Int)=20 by omega),decide_eq_false h20,Bool.not_false,Bool.true_and]
 refine(specFramed_is l ho S.hl).bind ?_
 cases hfr:framedB l
 ·simp only[Bool.false_eq_true,if_false,Bool.not_false,Bool.true_and]
  by_cases h6:a6.size≤600
  ·simp only[decide_eq_true h6,Bool.true_and,decide_eq_false (show ¬(a6.size:Int)>600 by omega)]
   have hhead:lineL a0 a1 a2 a3 a4 a6=true→Ev (fun k=>(spec_l6head.f k a0 a1 a2 a3 a4 l a6).bind fun t=>some (decide ((t.size:Int)≤1500))) (decide ((headT a0 a1 a2 a3 a4 l a6).length≤1500)):=by
    intro hL
    refine(specHead_is a0 a1 a2 a3 a4 l a6 S.h0 S.h1 S.h3 S.h6 (lineL_status hL) S.hl S.ht (fldsOk_all hk) ho).bind ?_
    rw[size_mk]
    have:decide (((headT a0 a1 a2 a3 a4 l a6).length:Int)≤1500)=decide ((headT a0 a1 a2 a3 a4 l a6).length≤1500):=decide_eq_decide.2 (by omega)
    rw[this];exact Ev.now _
   have hlineE:Ev (fun k=>if bl a0= []then spec_l6answer.f k a0 a1 a2 a3 a4 l a6 else spec_l6request.f k a0 a1 a2 a3 a4 l a6) (lineL a0 a1 a2 a3 a4 a6):=by
    unfold lineL
    by_cases c0:bl a0= []
    ·simp only[if_pos c0];exact specAnswer_is a0 a1 a2 a3 a4 l a6 S.h3
    ·simp only[if_neg c0];exact specRequest_is a0 a1 a2 a3 a4 l a6 S.h0 S.h1
   have hbody:=hlineE.bind (f:=fun k (t:Bool)=>if t=true then((spec_l6head.f k a0 a1 a2 a3 a4 l a6).bind fun t=>some (decide ((t.size:Int)≤1500)))else some false) (r:=lineL a0 a1 a2 a3 a4 a6&&decide ((headT a0 a1 a2 a3 a4 l a6).length≤1500)) (by
    cases hL:lineL a0 a1 a2 a3 a4 a6
    ·simpa using Ev.now false
    ·simpa using hhead hL)
   refine Ev.step (fun k=>?_) hbody
   simp only[spec_MsgOk.j0,Bool.false_eq_true,if_false,toList_bl]
   by_cases c0:bl a0= []
   ·simp only[if_pos c0]
   ·simp only[if_neg c0]
  ·simp only[decide_eq_false h6,Bool.false_and,decide_eq_true (show(a6.size:Int)>600 by omega)];exact hj
 ·simpa using hj
theorem within_and (n a b:Int):impl_within.f n a b=some (decide (a≤n)&&decide (n≤b)):=by
 unfold impl_within.f
 by_cases h:a≤n
 ·rw[if_pos h,decide_eq_true h,Bool.true_and]
 ·rw[if_neg h,decide_eq_false h,Bool.false_and]
theorem implLine_is (a0 a1:ByteArray) (a2:Int) (a3:ByteArray) (a4:Bool) (l:List IFld) (a6:ByteArray) (S:SmallM a0 a1 a2 a3 l a6) (ns:List ByteArray):
  Ev (fun k=>impl_MsgOk.l0 k ns 3 3 a0 a1 a2 a3 a4 l a6) (lineL a0 a1 a2 a3 a4 a6&&decide ((headT a0 a1 a2 a3 a4 l a6).length≤1500)):=by
 have hw:=writeHead_is a0 a1 a2 a3 a4 l a6 S.h0 S.h1 S.h3 S.h6 S.i0 S.i1 S.hl S.ht
 have hd:decide (((mkB (headT a0 a1 a2 a3 a4 l a6)).size:Int)≤1500)=decide ((headT a0 a1 a2 a3 a4 l a6).length≤1500):=by rw[size_mk];exact decide_eq_decide.2 (by omega)
 unfold lineL
 by_cases c0:bl a0= []
 ·rw[if_pos c0]
  unfold ansL
  by_cases c1:bl a1= []
  ·rw[decide_eq_true c1,Bool.true_and]
   cases hS:(decide (200≤a2)&&decide (a2≤599))
   ·refine Ev.step (f:=fun _=>some false) (fun k=>?_) (by simpa using Ev.now false)
    simp only[impl_MsgOk.l0,toList_bl,if_pos c0,if_pos c1,impl_isStatus.f,within_and,hS,Option.bind_some]
    simp
   ·rw[Bool.true_and]
    by_cases c3:a3.size≤40
    ·rw[decide_eq_true c3,Bool.true_and]
     refine Ev.step (f:=fun k=>(impl_all__impl_isPlain.f k a3).bind fun t=>if t=true then(if a4=true then(if bl a6= []then some (decide ((headT a0 a1 a2 a3 a4 l a6).length≤1500))else some false)else(if bareS a2=true then some false else some (decide ((headT a0 a1 a2 a3 a4 l a6).length≤1500))))else some false) (fun k=>?_) ?_
     ·simp only[impl_MsgOk.l0,toList_bl,if_pos c0,if_pos c1,impl_isStatus.f,within_and,hS,Option.bind_some,if_true,impl_isReason.f,if_pos (show(a3.size:Int)≤40 by omega),hw,hd]
      rw[if_neg (by omega)]
      have hb:impl_isBareStatus.f a2=some (bareS a2):=by
       unfold impl_isBareStatus.f bareS
       by_cases h:a2=204
       ·rw[if_pos h,decide_eq_true h,Bool.true_or]
       ·rw[if_neg h,decide_eq_false h,Bool.false_or]
        have:(a2==304)=decide (a2=304):=by by_cases h:a2=304<;>simp[h]
        rw[this]
      simp only[hb,Option.bind_some,ite_self]
      cases impl_all__impl_isPlain.f k a3<;>rfl
     ·refine(implAllPlain_is a3 (by have:=S.h3;omega)).bind ?_
      cases(bl a3).all plB
      ·simpa using Ev.now false
      ·simp only[if_true,Bool.true_and]
       cases a4
       ·simp only[Bool.false_eq_true,if_false]
        cases bareS a2
        ·simpa using Ev.now _
        ·simpa using Ev.now false
       ·simp only[if_true]
        by_cases c6:bl a6= []
        ·simp only[if_pos c6,decide_eq_true c6,Bool.true_and];exact Ev.now _
        ·simp only[if_neg c6,decide_eq_false c6,Bool.false_and];exact Ev.now _
    ·rw[decide_eq_false c3]
     refine Ev.step (f:=fun _=>some false) (fun k=>?_) (by simpa using Ev.now false)
     simp only[impl_MsgOk.l0,toList_bl,if_pos c0,if_pos c1,impl_isStatus.f,within_and,hS,Option.bind_some,if_true,impl_isReason.f,if_neg (show ¬(a3.size:Int)≤40 by omega)]
     simp
  ·rw[decide_eq_false c1]
   refine Ev.step (f:=fun _=>some false) (fun k=>?_) (by simpa using Ev.now false)
   simp only[impl_MsgOk.l0,toList_bl,if_pos c0,if_neg c1]
   simp
 ·rw[if_neg c0]
  unfold reqL
  have hm:Ev (fun k=>impl_isMethod.f k a0) (decide (a0.size≤20)&&tokenL (bl a0)):=by
   unfold impl_isMethod.f
   refine(implToken_is a0).bind ?_
   cases tokenL (bl a0)
   ·simpa using Ev.now false
   ·simp only[if_true,Bool.and_true]
    have:decide ((a0.size:Int)≤20)=decide (a0.size≤20):=decide_eq_decide.2 (by omega)
    rw[this];exact Ev.now _
  have ht:Ev (fun k=>impl_isTarget.f k a1) (decide (1≤a1.size)&&decide (a1.size≤200)&&(bl a1).all visB):=by
   unfold impl_isTarget.f
   have e:(decide ((1:Int)≤(a1.size:Int))&&decide ((a1.size:Int)≤200))=(decide (1≤a1.size)&&decide (a1.size≤200)):=by
    congr 1
    ·exact decide_eq_decide.2 (by omega)
    ·exact decide_eq_decide.2 (by omega)
   simp only[within_and,e,Option.bind_some]
   cases(decide (1≤a1.size)&&decide (a1.size≤200))
   ·simpa using Ev.now false
   ·simp only[if_true,Bool.true_and]
    exact(implAllVis_is a1 (by have:=S.h1;omega)).bind (Ev.now _)
  refine Ev.step (f:=fun k=>(impl_isMethod.f k a0).bind fun t=>if t=true then((impl_isTarget.f k a1).bind fun t2=>if t2=true then(if a2=0 then(if bl a3= []then(if a4=true then some false else some (decide ((headT a0 a1 a2 a3 a4 l a6).length≤1500)))else some false)else some false)else some false)else some false) (fun k=>?_) ?_
  ·simp only[impl_MsgOk.l0,toList_bl,if_neg c0,hw,hd,Option.bind_some]
   rw[if_neg (by omega)]
  ·refine hm.bind ?_
   cases(decide (a0.size≤20)&&tokenL (bl a0))
   ·simpa using Ev.now false
   simp only[if_true,Bool.true_and]
   refine ht.bind ?_
   cases(decide (1≤a1.size)&&decide (a1.size≤200)&&(bl a1).all visB)
   ·simpa using Ev.now false
   simp only[if_true,Bool.true_and]
   by_cases c2:a2=0
   ·simp only[if_pos c2,decide_eq_true c2,Bool.true_and]
    by_cases c3:bl a3= []
    ·simp only[if_pos c3,decide_eq_true c3,Bool.true_and]
     cases a4
     ·simpa using Ev.now _
     ·simpa using Ev.now false
    ·simp only[if_neg c3,decide_eq_false c3,Bool.false_and];exact Ev.now _
   ·simp only[if_neg c2,decide_eq_false c2,Bool.false_and];exact Ev.now _
theorem implMsgOk_is (a0 a1:ByteArray) (a2:Int) (a3:ByteArray) (a4:Bool) (l:List IFld) (a6:ByteArray) (S:SmallM a0 a1 a2 a3 l a6):Ev (fun k=>impl_MsgOk.f k a0 a1 a2 a3 a4 l a6) (msgOk a0 a1 a2 a3 a4 l a6):=by
 have ho:=smallF_totG l S.ht
 have hj:Ev (fun k=>impl_MsgOk.j0 k true a0 a1 a2 a3 a4 l a6) false:=Ev.step (f:=fun _=>some false) (fun k=>by simp only[impl_MsgOk.j0,if_true]) (Ev.now _)
 unfold impl_MsgOk.f msgOk
 refine(implFieldsOk_is l).bind ?_
 cases hk:fldsOk l
 ·simpa using hj
 have hl20:l.length≤20:=by
  unfold fldsOk at hk
  simp only[Bool.and_eq_true,decide_eq_true_eq]at hk
  exact hk.1
 simp only[if_true,Bool.true_and]
 by_cases h20:l.length=20
 ·simp only[if_pos (show(l.length:Int)≥20 by omega),decide_eq_true h20,Bool.not_true,Bool.false_and];exact hj
 simp only[if_neg (show ¬(l.length:Int)≥20 by omega),decide_eq_false h20,Bool.not_false,Bool.true_and]
 by_cases h6:a6.size≤600
 ·simp only[decide_eq_true h6,Bool.and_true,decide_eq_false (show ¬(a6.size:Int)>600 by omega)]
  have hnames:impl_framed.f=some [mkB lCL,mkB lTE,mkB lTR]:=rfl
  have hstep : ∀ (i : Nat) (n : List UInt8) (v : Bool), i < 3 → rdOf ByteArray.empty [mkB lCL, mkB lTE, mkB lTR] (i : Int) = mkB n → lowS (mkB n) = mkB n → n.length ≤ 1048576 → Ev (fun k => impl_MsgOk.l0 k [mkB lCL, mkB lTE, mkB lTR] 3 ((i : Int) + 1) a0 a1 a2 a3 a4 l a6) v →
    Ev (fun k=>impl_MsgOk.l0 k [mkB lCL,mkB lTE,mkB lTR] 3 (i:Int) a0 a1 a2 a3 a4 l a6) (!l.any (isN n)&&v):=by
   intro i n v hi hr hn hn2 hv
   have hb:=(hasField_is l n hn hn2 S.hl ho hk).bind (f:=fun k (t:Bool)=>if t=true then some false else impl_MsgOk.l0 k [mkB lCL,mkB lTE,mkB lTR] 3 ((i:Int)+1) a0 a1 a2 a3 a4 l a6) (r:=!l.any (isN n)&&v) (by
    cases l.any (isN n)
    ·simpa using hv
    ·simpa using Ev.now false)
   refine Ev.step (fun k=>?_) hb
   simp only[impl_MsgOk.l0]
   rw[if_pos (by omega),if_pos (by omega),if_pos (by simp;omega),hr,wrap_id (by omega) (by omega)]
  have h3:=implLine_is a0 a1 a2 a3 a4 l a6 S [mkB lCL,mkB lTE,mkB lTR]
  have h2:=hstep 2 lTR _ (by omega) rfl low_TR (by decide) h3
  have h1:=hstep 1 lTE _ (by omega) rfl low_TE (by decide) h2
  have h0:=hstep 0 lCL _ (by omega) rfl low_CL (by decide) h1
  refine Ev.step (f:=fun k=>impl_MsgOk.l0 k [mkB lCL,mkB lTE,mkB lTR] 3 0 a0 a1 a2 a3 a4 l a6) (fun k=>by simp only[impl_MsgOk.j0,Bool.false_eq_true,if_false,hnames,Option.bind_some];rfl) ?_
  have e:(!framedB l&&(lineL a0 a1 a2 a3 a4 a6&&decide ((headT a0 a1 a2 a3 a4 l a6).length≤1500)))=(!l.any (isN lCL)&&(!l.any (isN lTE)&&(!l.any (isN lTR)&&(lineL a0 a1 a2 a3 a4 a6&&decide ((headT a0 a1 a2 a3 a4 l a6).length≤1500))))):=by
   unfold framedB
   cases l.any (isN lCL)<;>cases l.any (isN lTE)<;>cases l.any (isN lTR)<;>simp
  rw[e]
  exact h0
 ·simp only[decide_eq_false h6,Bool.and_false,Bool.false_and,decide_eq_true (show(a6.size:Int)>600 by omega)];exact hj
theorem index_bound: ∀(l sub:List UInt8),Lib.index l sub= -1∨(0≤Lib.index l sub∧Lib.index l sub+sub.length≤l.length)
 | [],sub=>by cases sub<;>simp[Lib.index]
 |b::l,sub=>by
  unfold Lib.index
  by_cases hp:sub.isPrefixOf (b::l)=true
  ·have:=(List.isPrefixOf_iff_prefix.1 hp).length_le
   rw[if_pos hp];right;simp at this ⊢;omega
  ·rw[if_neg hp]
   rcases index_bound l sub with h|h
   ·left;simp[h]
   ·right
    have:(Lib.index l sub== -1)=false:=by simp;omega
    rw[this];simp;omega
def cutB (c:UInt8):List UInt8→List UInt8×List UInt8×Bool
 | []=>([],[],false)
 |b::l=>if b=c then([],l,true)else(b::(cutB c l).1,(cutB c l).2)
theorem cut_is (c:UInt8): ∀l:List UInt8,Lib.cut l [c]=cutB c l
 | []=>by simp[Lib.cut,Lib.index,cutB]
 |b::l=>by
  have ih:=cut_is c l
  have hb:=index_bound l [c]
  unfold Lib.cut at ih ⊢
  by_cases h:b=c
  ·subst h
   have hi:Lib.index (b::l) [b]=0:=by simp[Lib.index]
   rw[hi];simp[cutB]
  ·have hi:Lib.index (b::l) [c]=if Lib.index l [c]= -1 then-1 else Lib.index l [c]+1:=by
    have hc:(c==b)=false:=by simpa using fun x=>h x.symm
    simp only[Lib.index,List.isPrefixOf,hc,Bool.false_and,Bool.false_eq_true,if_false]
    by_cases hm:Lib.index l [c]= -1<;>simp[hm]
   rw[hi,cutB,if_neg h]
   by_cases hm:Lib.index l [c]= -1
   ·rw[hm]at ih
    rw[if_pos hm]
    rw[if_neg (by omega)]at ih ⊢
    rw[←ih]
   ·rw[if_neg hm]
    rw[if_pos (by omega)]at ih
    rw[if_pos (by omega),←ih]
    have e:(Lib.index l [c]+1).toNat=(Lib.index l [c]).toNat+1:=by omega
    rw[e]
    simp[Nat.add_right_comm]
theorem cutB_app (c:UInt8): ∀(pre r:List UInt8),(∀b∈pre,b≠c)→cutB c (pre++r)=(pre++(cutB c r).1,(cutB c r).2)
 | [],r,_=>rfl
 |b::pre,r,h=>by
  have ih:=cutB_app c pre r (fun x hx=>h x (List.mem_cons_of_mem _ hx))
  rw[List.cons_append,cutB,if_neg (h b (by simp)),ih];rfl
theorem cutB_len (c:UInt8): ∀l:List UInt8,(cutB c l).1.length+(cutB c l).2.1.length≤l.length
 | []=>by simp[cutB]
 |b::l=>by
  have ih:=cutB_len c l
  unfold cutB;split
  ·simp
  ·simp;omega
def readFieldL (l:List UInt8):ByteArray×ByteArray×Bool:=
 if(cutB 58 l).2.2=true∧fieldL (cutB 58 l).1 (trimB (cutB 58 l).2.1)=true then(mkB (cutB 58 l).1,mkB (trimB (cutB 58 l).2.1),true)else((⟨#[]⟩:ByteArray),(⟨#[]⟩:ByteArray),false)
theorem stringsCut_is (s:ByteArray) (c:UInt8) (hs:s.size≤1048576):strings_Cut.f s (⟨#[c]⟩:ByteArray)=some (mkB (cutB c (bl s)).1,mkB (cutB c (bl s)).2.1,(cutB c (bl s)).2.2):=by
 unfold strings_Cut.f
 rw[if_pos (by omega)]
 have:Lib.cut s.data.toList (⟨#[c]⟩:ByteArray).data.toList=cutB c (bl s):=cut_is c (bl s)
 rw[this];rfl
theorem implReadField_is (s:ByteArray) (hs:s.size≤1048576):Ev (fun k=>impl_ReadField.f k s) (readFieldL (bl s)):=by
 have hlen:=cutB_len 58 (bl s)
 rw[size_bl]at hlen
 unfold impl_ReadField.f
 rw[stringsCut_is s 58 hs]
 simp only[Option.bind_some]
 refine(implTrim_is _ (by rw[size_mk];omega)).bind ?_
 unfold readFieldL
 rw[bl_mk]
 cases hc:(cutB 58 (bl s)).2.2
 ·simpa using Ev.now ((⟨#[]⟩:ByteArray),(⟨#[]⟩:ByteArray),false)
 ·simp only[if_true]
  refine(implFieldOk_is _ _).bind ?_
  rw[bl_mk,bl_mk]
  cases hf:fieldL (cutB 58 (bl s)).1 (trimB (cutB 58 (bl s)).2.1)
  ·simpa using Ev.now _
  ·simpa using Ev.now _
theorem trimB_cons (c:UInt8) (l:List UInt8) (hc:wh c=true):trimB (c::l)=trimB l:=by
 simp[trimB,List.dropWhile_cons,hc]
theorem fieldL_parts {n v:List UInt8} (h:fieldL n v=true):(∀b∈n,b≠58)∧n.length≤40∧v.length≤190∧trimB v=v:=by
 simp only[fieldL,Bool.and_eq_true,decide_eq_true_eq]at h
 obtain⟨⟨⟨⟨h1,h2⟩,h3⟩,h4⟩,h5⟩:=h
 refine⟨fun b hb e=>?_,h2,h3,h5⟩
 subst e
 simp only[tokenL,Bool.and_eq_true,List.all_eq_true]at h1
 exact absurd (h1.2 58 hb) (by decide)
theorem readFieldL_back {n v m:List UInt8} (h:fieldL n v=true) (hm:trimB m=v):readFieldL (n++58::m)=(mkB n,mkB v,true):=by
 unfold readFieldL
 rw[cutB_app 58 n _ (fieldL_parts h).1]
 have e:cutB 58 (58::m)=([],m,true):=by simp[cutB]
 rw[e]
 simp only[List.append_nil,hm,true_and]
 rw[if_pos h]
def splitL (c:UInt8):List UInt8→List (List UInt8)
 | []=> [[]]
 |b::r=>if b=c then []::splitL c r else((splitL c r).headD []|>(b:: ·))::(splitL c r).tail
theorem splitL_ne (c:UInt8): ∀l,splitL c l≠ []
 | []=>by simp[splitL]
 |b::r=>by unfold splitL;split<;>simp
theorem splitL_none (c:UInt8): ∀l:List UInt8,(∀b∈l,b≠c)→splitL c l= [l]
 | [],_=>rfl
 |b::r,h=>by
  have ih:=splitL_none c r (fun x hx=>h x (List.mem_cons_of_mem _ hx))
  rw[splitL,if_neg (h b (by simp)),ih];rfl
theorem splitL_hit (c:UInt8): ∀(mid r:List UInt8),(∀b∈mid,b≠c)→splitL c (mid++c::r)=mid::splitL c r
 | [],r,_=>by simp[splitL]
 |b::mid,r,h=>by
  have ih:=splitL_hit c mid r (fun x hx=>h x (List.mem_cons_of_mem _ hx))
  rw[List.cons_append,splitL,if_neg (h b (by simp)),ih];rfl
theorem split_dec (c:UInt8): ∀l:List UInt8,(∀b∈l,b≠c)∨ ∃mid r,l=mid++c::r∧ ∀b∈mid,b≠c
 | []=> .inl (by simp)
 |b::r=>by
  by_cases h:b=c
  ·subst h;exact .inr ⟨[],r,rfl,by simp⟩
  ·rcases split_dec c r with h1|⟨mid,r',rfl,h1⟩
   ·exact .inl (by intro x hx;rcases List.mem_cons.1 hx with rfl|hx;exact h;exact h1 x hx)
   ·exact .inr ⟨b::mid,r',rfl,by intro x hx;rcases List.mem_cons.1 hx with rfl|hx;exact h;exact h1 x hx⟩
theorem index_mid (c:UInt8): ∀(mid r:List UInt8),(∀b∈mid,b≠c)→Lib.index (mid++c::r) [c]=(mid.length:Int)
 | [],r,_=>by simp[Lib.index]
 |b::mid,r,h=>by
  have ih:=index_mid c mid r (fun x hx=>h x (List.mem_cons_of_mem _ hx))
  have hc:(c==b)=false:=by simpa using fun x=>h b (by simp) x.symm
  simp only[List.cons_append,Lib.index,List.isPrefixOf,hc,Bool.false_and,Bool.false_eq_true,if_false,ih]
  rw[if_neg (by simp<;>omega)];simp
theorem splitK_is (c:UInt8): ∀(n:Nat) (l:List UInt8),l.count c=n→Lib.splitK [c] 0 n l=splitL c l
 |0,l,h=>by
  have: ∀b∈l,b≠c:=fun b hb e=>by subst e;exact(List.count_eq_zero.1 h) hb
  rw[splitL_none c l this];rfl
 |n+1,l,h=>by
  rcases split_dec c l with h1|⟨mid,r,rfl,h1⟩
  ·have:l.count c=0:=List.count_eq_zero.2 (fun hm=>h1 c hm rfl)
   omega
  ·have hm:mid.count c=0:=List.count_eq_zero.2 (fun hm=>h1 c hm rfl)
   have hr:r.count c=n:=by simp[List.count_append,hm]at h;exact h
   rw[Lib.splitK,index_mid c mid r h1,if_neg (by simp<;>omega),splitL_hit c mid r h1]
   simp only[Int.toNat_natCast,Nat.add_zero,List.length_singleton]
   rw[List.take_left' rfl,show(mid++c::r).drop (mid.length+1)=r from drop_mid mid c r,splitK_is c n r hr]
theorem map_bl_mk (X:List ByteArray) (Y:List (List UInt8)) (h:X.map (·.data.toList)=Y):X=Y.map mkB:=by
 rw[←h,List.map_map]
 have:(mkB ∘ fun x:ByteArray=>x.data.toList)=id:=by funext x;exact mk_bl x
 rw[this,List.map_id]
theorem stringsSplit_is (l:List UInt8) (c:UInt8) (h:l.length≤1048576):strings_Split.f (mkB l) (⟨#[c]⟩:ByteArray)=some ((splitL c l).map mkB):=by
 unfold strings_Split.f
 rw[if_pos ⟨by rw[size_mk];omega,Nat.le_refl _⟩]
 congr 1
 apply map_bl_mk
 rw[Lib.splitB_data]
 have e1:(⟨#[c]⟩:ByteArray).data.toList= [c]:=rfl
 have e2:(mkB l).data.toList=l:=bl_mk l
 show Lib.splitK _ 0 (Lib.count (mkB l).data.toList (⟨#[c]⟩:ByteArray).data.toList) _=_
 rw[e1,e2,Lib.count_one]
 exact splitK_is c _ l rfl
def scanL:List UInt8→List UInt8×Nat
 | []=>([],1)
 |b::r=>if b=10 then([],2)else if b=13 then(match r with| []=>([],1)|c::_=>if c=10 then([],0)else([],2))else if(scanL r).2=0 then(b::(scanL r).1,0)else([],(scanL r).2)
theorem u8_10 (b:UInt8):(b.toNat:Int)=10↔b=10:=by rw[←UInt8.toNat_inj];show _↔b.toNat=10;omega
theorem scanL_other {b:UInt8} (r:List UInt8) (h1: ¬b=10) (h2: ¬b=13):scanL (b::r)=if(scanL r).2=0 then(b::(scanL r).1,0)else([],(scanL r).2):=by
 cases r<;>simp[scanL,h1,h2]
theorem scanL_len: ∀r:List UInt8,(scanL r).2=0→(scanL r).1.length+2≤r.length
 | [],h=>by simp[scanL]at h
 |b::r,h=>by
  have ih:=scanL_len r
  unfold scanL at h ⊢
  by_cases h1:b=10
  ·simp[h1]at h
  by_cases h2:b=13
  ·rw[if_neg h1,if_pos h2]at h ⊢
   cases r with
   |nil=>simp at h
   |cons c r=>
    by_cases h3:c=10
    ·simp[h3]
    ·simp[h3]at h
  ·rw[if_neg h1,if_neg h2]at h ⊢
   by_cases h3:(scanL r).2=0
   ·rw[if_pos h3];have:=ih h3;simp;omega
   ·rw[if_neg h3]at h;exact absurd h h3
def takeLineL (t:List UInt8) (at_:Nat):ByteArray×ByteArray×Int×Int:=
 if(scanL (t.drop at_)).2=0 then(mkB (scanL (t.drop at_)).1,mkB t,((at_+(scanL (t.drop at_)).1.length+2:Nat):Int),0)else((⟨#[]⟩:ByteArray),(⟨#[]⟩:ByteArray),0,((scanL (t.drop at_)).2:Int))
theorem implCurOk_is (t:List UInt8) (at_:Nat) (h:at_≤t.length):impl_CurOk.f (mkB t) (at_:Int)=some true:=by
 unfold impl_CurOk.f
 rw[within_is,size_mk,decide_eq_true (by omega),decide_eq_true (by omega)];rfl
theorem scan_index: ∀r:List UInt8,(Lib.indexAny r [13,10]= -1∧scanL r=([],1))∨(∃(mid:List UInt8) (b:UInt8) (r':List UInt8),r=mid++b::r'∧Lib.indexAny r [13,10]=(mid.length:Int)∧(b=13∨b=10)∧scanL r=(if b=10 then([],2)else match r' with| []=>([],1)|c::_=>if c=10 then(mid,0)else([],2)))
 | []=> .inl ⟨rfl,rfl⟩
 |b::r=>by
  by_cases h1:b=10
  ·subst h1;exact .inr ⟨[],10,r,rfl,by simp[Lib.indexAny],.inr rfl,by simp[scanL]⟩
  by_cases h2:b=13
  ·subst h2;exact .inr ⟨[],13,r,rfl,by simp[Lib.indexAny],.inl rfl,by simp[scanL]⟩
  have hs:scanL (b::r)=if(scanL r).2=0 then(b::(scanL r).1,0)else([],(scanL r).2):=scanL_other r h1 h2
  have hi:Lib.indexAny (b::r) [13,10]=if Lib.indexAny r [13,10]== -1 then-1 else Lib.indexAny r [13,10]+1:=by
   rw[Lib.indexAny,if_neg (by simp[h1,h2])]
  rcases scan_index r with⟨a1,a2⟩|⟨mid,c,r',a1,a2,a3,a4⟩
  ·exact .inl ⟨by rw[hi,a1];rfl,by rw[hs,a2];rfl⟩
  ·refine .inr ⟨b::mid,c,r',by rw[a1];rfl,?_,a3,?_⟩
   ·rw[hi,a2,if_neg (by simp<;>omega)];simp
   ·rw[hs,a4]
    rcases a3 with rfl|rfl
    ·cases r' with
     |nil=>simp
     |cons d r'=>by_cases hd:d=10<;>simp[hd]
    ·simp
theorem implTakeLine_is (t:List UInt8) (at_:Nat) (h:at_≤t.length) (hl:t.length≤4294967280):Ev (fun k=>impl_TakeLine.f k (mkB t) (at_:Int)) (takeLineL t at_):=by
 have hx:(mkB t).extract (at_:Int).toNat (mkB t).size=mkB (t.drop at_):=by
  rw[extract_mk,Int.toNat_natCast,size_mk,List.take_of_length_le (by simp)]
 have hia:strings_IndexAny.f (mkB (t.drop at_)) (⟨#[13,10]⟩:ByteArray)=some (Lib.indexAny (t.drop at_) [13,10]):=by
  unfold strings_IndexAny.f
  rw[if_pos ⟨by rw[size_mk];simp;omega,rfl,by decide⟩]
  simp[mkB]
 unfold impl_TakeLine.f
 rw[implCurOk_is t at_ h]
 have hat:(at_:Int)≤((mkB t).size:Int):=by rw[size_mk];omega
 simp only[Option.bind_some,if_true,hx,hia,if_pos (show(0:Int)≤(at_:Int)by omega),if_pos hat]
 have hdl:(t.drop at_).length=t.length-at_:=by simp
 generalize hr:t.drop at_=r at hdl ⊢
 rcases scan_index r with⟨a1,a2⟩|⟨mid,b,r',rfl,a2,a3,a4⟩
 ·simp only[a1,if_pos (show(-1:Int)<0 by decide)]
  have er:takeLineL t at_=((⟨#[]⟩:ByteArray),(⟨#[]⟩:ByteArray),0,1):=by unfold takeLineL;rw[hr,a2];rfl
  rw[er]
  exact Ev.step (f:=fun _=>some ((⟨#[]⟩:ByteArray),(⟨#[]⟩:ByteArray),0,1)) (fun k=>by simp only[impl_TakeLine.j0,if_true]) (Ev.now _)
 ·simp only[a2,if_neg (show ¬(mid.length:Int)<0 by omega),if_pos (show(0:Int)≤(mid.length:Int)by omega),if_pos (size_lt_mid mid b r'),bt_mid]
  have hlen:=hdl
  simp at hlen
  have hw:wrap64 ((mid.length:Int)+1)=(mid.length:Int)+1:=wrap_id (by omega) (by omega)
  rcases a3 with rfl|rfl
  ·simp only[if_pos (show(((13:UInt8).toNat:Nat):Int)=13 from rfl)]
   rw[if_neg (by decide)]at a4
   cases r' with
   |nil=>
    have hd:((mid.length:Int)==wrap64 (((mkB (mid++ [13])).size:Int)-1))=true:=by
     rw[beq_iff_eq,size_mk,wrap_id (by simp<;>omega) (by simp<;>omega)];simp
    rw[hd]
    have er:takeLineL t at_=((⟨#[]⟩:ByteArray),(⟨#[]⟩:ByteArray),0,1):=by unfold takeLineL;rw[hr,a4];rfl
    rw[er]
    exact Ev.step (f:=fun _=>some ((⟨#[]⟩:ByteArray),(⟨#[]⟩:ByteArray),0,1)) (fun k=>by simp only[impl_TakeLine.j0,if_true]) (Ev.now _)
   |cons c r'=>
    simp only[List.length_cons]at hlen
    have hd:((mid.length:Int)==wrap64 (((mkB (mid++13::c::r')).size:Int)-1))=false:=by
     rw[beq_eq_false_iff_ne,size_mk,wrap_id (by simp<;>omega) (by simp<;>omega)];simp;omega
    have hc:=bt_mid (mid++ [13]) c r'
    rw[len_snoc,←app_mid]at hc
    rw[hd]
    have hlt2:(mid.length:Int)+1<((mkB (mid++13::c::r')).size:Int):=by rw[size_mk];simp;omega
    by_cases h3:c=10
    ·subst h3
     have hx2:(mkB (mid++13::10::r')).extract 0 (mid.length:Int).toNat=mkB mid:=by rw[extract_mk];simp
     have er:takeLineL t at_=(mkB mid,mkB t,((at_+mid.length+2:Nat):Int),0):=by unfold takeLineL;rw[hr,a4];rfl
     rw[er]
     refine Ev.step (f:=fun _=>some (mkB mid,mkB t,((at_+mid.length+2:Nat):Int),0)) (fun k=>?_) (Ev.now _)
     simp only[impl_TakeLine.j0,Bool.false_eq_true,if_false]
     rw[if_pos (by omega),if_pos (size_lt_mid ..),bt_mid,if_pos (by rfl),hw,if_pos (by omega),if_pos hlt2,hc,if_pos (by rfl),if_pos (by have:=size_lt_mid mid 13 (10::r');omega),hx2,wrap_id (a:=(at_:Int)+(mid.length:Int)) (by omega) (by omega),wrap_id (by omega) (by omega)]
     congr 4
    ·have er:takeLineL t at_=((⟨#[]⟩:ByteArray),(⟨#[]⟩:ByteArray),0,2):=by unfold takeLineL;rw[hr,a4];simp[h3]
     rw[er]
     refine Ev.step (f:=fun _=>some ((⟨#[]⟩:ByteArray),(⟨#[]⟩:ByteArray),0,2)) (fun k=>?_) (Ev.now _)
     simp only[impl_TakeLine.j0,Bool.false_eq_true,if_false]
     rw[if_pos (by omega),if_pos (size_lt_mid ..),bt_mid,if_pos (by rfl),hw,if_pos (by omega),if_pos hlt2,hc,if_neg (fun h=>h3 ((u8_10 c).1 h))]
  ·simp only[if_neg (show ¬(((10:UInt8).toNat:Nat):Int)=13 by decide)]
   have er:takeLineL t at_=((⟨#[]⟩:ByteArray),(⟨#[]⟩:ByteArray),0,2):=by unfold takeLineL;rw[hr,a4];rfl
   rw[er]
   refine Ev.step (f:=fun _=>some ((⟨#[]⟩:ByteArray),(⟨#[]⟩:ByteArray),0,2)) (fun k=>?_) (Ev.now _)
   simp only[impl_TakeLine.j0,Bool.false_eq_true,if_false]
   rw[if_pos (by omega),if_pos (size_lt_mid ..),bt_mid,if_neg (by decide)]
def hexV (b:UInt8):Int:=if digB b=true then(b.toNat:Int)-48 else if 97≤b.toNat∧b.toNat≤102 then(b.toNat:Int)-87 else if 65≤b.toNat∧b.toNat≤70 then(b.toNat:Int)-55 else-1
def readHexL:List UInt8→Int→Int×Bool
 | [],n=>(n,true)
 |b::r,n=>if hexV b<0 then(0,false)else readHexL r (16*n+hexV b)
def hexBnd:Nat→Int
 |0=>268435456
 |m+1=>hexBnd m/16
theorem hexBnd_le: ∀m,0≤hexBnd m∧hexBnd m≤268435456
 |0=>by simp[hexBnd]
 |m+1=>by have:=hexBnd_le m;unfold hexBnd;omega
theorem hexV_lt (b:UInt8):hexV b<16:=by
 unfold hexV digB
 by_cases h:48≤b.toNat∧b.toNat≤57
 ·simp[h];omega
 ·rw[if_neg (by simp;omega)];split
  ·omega
  ·split<;>omega
def readHexT (l:List UInt8):Int×Bool:=if l.length=0∨7<l.length then(0,false)else readHexL l 0
theorem hexBnd_pos (m:Nat) (h:m≤7):0<hexBnd m:=by
 have:m=0∨m=1∨m=2∨m=3∨m=4∨m=5∨m=6∨m=7:=by omega
 rcases this with rfl|rfl|rfl|rfl|rfl|rfl|rfl|rfl<;>decide
theorem hexOf_is (b:UInt8):Ev (fun k=>impl_hexOf.f k (b.toNat:Int)) (hexV b):=by
 have hlt:=u8_lt b
 unfold impl_hexOf.f
 rw[isDigit_is]
 simp only[Option.bind_some]
 unfold hexV
 cases hd:digB b
 ·have hnd: ¬(48≤b.toNat∧b.toNat≤57):=by intro h;rw[digB]at hd;simp[h]at hd
  simp only[Bool.false_eq_true,if_false]
  have hf:Ev (fun k=>impl_hexOf.j0 k (b.toNat:Int) false) (if 65≤b.toNat∧b.toNat≤70 then(b.toNat:Int)-55 else-1):=by
   refine Ev.step (f:=fun _=>some (if 65≤b.toNat∧b.toNat≤70 then(b.toNat:Int)-55 else-1)) (fun k=>?_) (Ev.now _)
   simp only[impl_hexOf.j0,Bool.false_eq_true,if_false]
   by_cases h1:65≤b.toNat
   ·rw[if_pos (by omega)]
    by_cases h2:b.toNat≤70
    ·rw[if_pos (by omega),if_pos ⟨h1,h2⟩];congr 1;omega
    ·rw[if_neg (by omega),if_neg (by omega)]
   ·rw[if_neg (by omega),if_neg (by omega)]
  by_cases h1:97≤b.toNat
  ·simp only[if_pos (show(b.toNat:Int)≥97 by omega)]
   by_cases h2:b.toNat≤102
   ·simp only[decide_eq_true (show(b.toNat:Int)≤102 by omega),if_pos (show 97≤b.toNat∧b.toNat≤102 from⟨h1,h2⟩)]
    refine Ev.step (f:=fun _=>some ((b.toNat:Int)-87)) (fun k=>?_) (Ev.now _)
    simp only[impl_hexOf.j0,if_true];congr 1;omega
   ·simp only[decide_eq_false (show ¬(b.toNat:Int)≤102 by omega),if_neg (show ¬(97≤b.toNat∧b.toNat≤102)by omega)]
    exact hf
  ·simp only[if_neg (show ¬(b.toNat:Int)≥97 by omega),if_neg (show ¬(97≤b.toNat∧b.toNat≤102)by omega)]
   exact hf
 ·have hdd:48≤b.toNat∧b.toNat≤57:=by simpa [digB]using hd
  simp only[if_true]
  rw[show((b.toNat:Int)-48)%256=(b.toNat:Int)-48 by omega]
  exact Ev.now _
theorem readHexL_bnd: ∀(r:List UInt8) (n:Int),0≤n→n<hexBnd r.length→0≤(readHexL r n).1∧(readHexL r n).1≤268435455
 | [],n,h0,h1=>by simp[readHexL,hexBnd]at h1 ⊢;omega
 |b::r,n,h0,h1=>by
  have hv:=hexV_lt b
  have h1':n<hexBnd r.length/16:=h1
  unfold readHexL
  by_cases hneg:hexV b<0
  ·rw[if_pos hneg];simp
  ·rw[if_neg hneg];exact readHexL_bnd r _ (by omega) (by omega)
theorem readHexT_bnd (l:List UInt8):0≤(readHexT l).1∧(readHexT l).1≤268435455:=by
 unfold readHexT
 by_cases h:l.length=0∨7<l.length
 ·rw[if_pos h];simp
 ·rw[if_neg h];exact readHexL_bnd l 0 (by omega) (hexBnd_pos _ (by omega))
theorem mk_app (a b:List UInt8):mkB a++mkB b=mkB (a++b):=by
 cases h:mkB a++mkB b with|mk d=>
 have h3:(mkB a++mkB b).data.toList=a++b:=by simp[mkB]
 rw[h]at h3
 simp only[mkB,ByteArray.mk.injEq]
 apply Array.toList_inj.1
 rw[h3]
def trailL (t:List UInt8):Nat→Nat→Bool
 |0,_=>false
 | c + 1, at_ => if (scanL (t.drop at_)).2 = 0 ∧ (scanL (t.drop at_)).1.length ≤ 300 then
   (if(scanL (t.drop at_)).1= []then decide (at_+2=t.length)else if(readFieldL (scanL (t.drop at_)).1).2.2=true then trailL t c (at_+(scanL (t.drop at_)).1.length+2)else false)else false
def chL (t:List UInt8):Nat→Nat→List UInt8→List UInt8×Int
 |0,_,_=>([],400)
 |c+1,at_,body=>
  if(scanL (t.drop at_)).2=0∧(scanL (t.drop at_)).1.length≤300 then
   (if(readHexT (cutB 59 (scanL (t.drop at_)).1).1).2=true then
    (if body.length+(readHexT (cutB 59 (scanL (t.drop at_)).1).1).1.toNat>600 then([],413)
     else if(readHexT (cutB 59 (scanL (t.drop at_)).1).1).1.toNat=0 then(if trailL t 21 (at_+(scanL (t.drop at_)).1.length+2)=true then(body,0)else([],400))
     else if at_+(scanL (t.drop at_)).1.length+2+(readHexT (cutB 59 (scanL (t.drop at_)).1).1).1.toNat+2≤t.length∧(t.drop (at_+(scanL (t.drop at_)).1.length+2+(readHexT (cutB 59 (scanL (t.drop at_)).1).1).1.toNat)).take 2= [13,10]then
      chL t c (at_+(scanL (t.drop at_)).1.length+2+(readHexT (cutB 59 (scanL (t.drop at_)).1).1).1.toNat+2) (body++(t.drop (at_+(scanL (t.drop at_)).1.length+2)).take (readHexT (cutB 59 (scanL (t.drop at_)).1).1).1.toNat)
     else([],400))
    else([],400))
  else([],400)
theorem scan_end {t:List UInt8} {at_:Nat} (h:at_≤t.length) (h0:(scanL (t.drop at_)).2=0):at_+(scanL (t.drop at_)).1.length+2≤t.length:=by
 have:=scanL_len _ h0;rw[List.length_drop]at this;omega
theorem scanL_line: ∀(l r:List UInt8),(∀b∈l,b≠10∧b≠13)→scanL (l++13::10::r)=(l,0)
 | [],r,_=>by simp[scanL]
 |b::l,r,h=>by
  have ih:=scanL_line l r (fun x hx=>h x (List.mem_cons_of_mem _ hx))
  have hb:=h b (by simp)
  rw[List.cons_append,scanL_other _ hb.1 hb.2,ih];rfl
def chunksL (t:List UInt8):List UInt8×Int:=chL t (t.length+1) 0 []
def firstL (l:List UInt8):Option (List UInt8×List UInt8):=
 match splitL 32 l with
 | [a,b,c]=>if c= [72,84,84,80,47,49,46,49]∧(tokenL a&&decide (a.length≤20)&&(decide (1≤b.length)&&decide (b.length≤200)&&b.all visB))=true then some (a,b)else none
 |_=>none
def hdL (t:List UInt8):Nat→Nat→List IFld→Int×Nat×List IFld
 |0,_,_=>(431,0,[])
 |c+1,at_,fs=>
  if(scanL (t.drop at_)).2=0 then
   (if(scanL (t.drop at_)).1.length>300∨at_+(scanL (t.drop at_)).1.length+2>1500 then(431,0,[])
    else if(scanL (t.drop at_)).1= []then(0,at_+2,fs)
    else if c=0 then(431,0,[])
    else if(readFieldL (scanL (t.drop at_)).1).2.2=true then hdL t c (at_+(scanL (t.drop at_)).1.length+2) (fs++ [⟨(readFieldL (scanL (t.drop at_)).1).1,(readFieldL (scanL (t.drop at_)).1).2.1⟩])
    else(400,0,[]))
  else(400,0,[])
def rqHead (t:List UInt8):Int×Nat×List UInt8×List UInt8×List IFld:=
 if t.length>4000 then(413,0,[],[],[])else
 if(scanL t).2=0 then
  (if(scanL t).1.length>300∨(scanL t).1.length+2>1500 then(431,0,[],[],[])
   else match firstL (scanL t).1 with
    |none=>(400,0,[],[],[])
    |some (a,b)=>if(hdL t 21 ((scanL t).1.length+2) []).1=0 then(0,(hdL t 21 ((scanL t).1.length+2) []).2.1,a,b,(hdL t 21 ((scanL t).1.length+2) []).2.2)else((hdL t 21 ((scanL t).1.length+2) []).1,0,[],[],[]))
 else(400,0,[],[],[])
def keepF (l:List IFld):List IFld:=if fldsOk l=true then l.filter (fun x=>!(isN lCL x||isN lTE x||isN lTR x))else []
def bodyL (k n:Int) (r:List UInt8):List UInt8×Int:=
 if k=4 then([],400)else if k=0 then(if r= []then([],0)else([],400))else if k=1 then(if n>600 then([],413)else if(r.length:Int)=n then(r,0)else([],400))else if(chunksL r).2=0 then chunksL r else([],(chunksL r).2)
abbrev RqR:=List UInt8×List UInt8×List IFld×List UInt8×Int
def rqL (t:List UInt8):RqR:=
 if(rqHead t).1=0 then
  (if(bodyL (framingL (rqHead t).2.2.2.2 false false).1 (framingL (rqHead t).2.2.2.2 false false).2 (t.drop (rqHead t).2.1)).2=0 then
   (if msgOk (mkB (rqHead t).2.2.1) (mkB (rqHead t).2.2.2.1) 0 (⟨#[]⟩:ByteArray) false (keepF (rqHead t).2.2.2.2) (mkB (bodyL (framingL (rqHead t).2.2.2.2 false false).1 (framingL (rqHead t).2.2.2.2 false false).2 (t.drop (rqHead t).2.1)).1)=true then((rqHead t).2.2.1,(rqHead t).2.2.2.1,keepF (rqHead t).2.2.2.2,(bodyL (framingL (rqHead t).2.2.2.2 false false).1 (framingL (rqHead t).2.2.2.2 false false).2 (t.drop (rqHead t).2.1)).1,0)else([],[],[],[],431))
   else([],[],[],[],(bodyL (framingL (rqHead t).2.2.2.2 false false).1 (framingL (rqHead t).2.2.2.2 false false).2 (t.drop (rqHead t).2.1)).2))
 else([],[],[],[],(rqHead t).1)
theorem rq_code (t:List UInt8) (h:(rqL t).2.2.2.2=0):(rqHead t).1=0∧(bodyL (framingL (rqHead t).2.2.2.2 false false).1 (framingL (rqHead t).2.2.2.2 false false).2 (t.drop (rqHead t).2.1)).2=0:=by
 unfold rqL at h
 by_cases h0:(rqHead t).1=0
 ·rw[if_pos h0]at h
  refine⟨h0,?_⟩
  by_cases h1:(bodyL (framingL (rqHead t).2.2.2.2 false false).1 (framingL (rqHead t).2.2.2.2 false false).2 (t.drop (rqHead t).2.1)).2=0
  ·exact h1
  ·rw[if_neg h1]at h;exact h
 ·rw[if_neg h0]at h;exact absurd h h0
theorem hd_line {t:List UInt8} {c at_:Nat} {fs:List IFld} {line:List UInt8} {x:IFld} (hs:scanL (t.drop at_)=(line,0)) (hne:line≠ []) (hx:readFieldL line=(x.f0,x.f1,true)) (h:(hdL t c at_ fs).1=0):
  ∃c',c=c'+1∧hdL t c' (at_+line.length+2) (fs++ [x])=hdL t c at_ fs:=by
 cases c with
 |zero=>simp[hdL]at h
 |succ c=>
  refine⟨c,rfl,?_⟩
  rw[hdL,hs]at h
  rw[hdL.eq_2,hs]
  simp only[if_true]at h ⊢
  by_cases h1:line.length>300∨at_+line.length+2>1500
  ·rw[if_pos h1]at h;exact absurd h (by decide)
  rw[if_neg h1]at h ⊢
  rw[if_neg hne]at h ⊢
  by_cases h3:c=0
  ·rw[if_pos h3]at h;exact absurd h (by decide)
  rw[if_neg h3]at h ⊢
  rw[hx]
  simp only[if_true]
theorem hd_bad {t:List UInt8} {c at_:Nat} {fs:List IFld} {line:List UInt8} (hs:scanL (t.drop at_)=(line,0)) (hne:line≠ []) (hx:(readFieldL line).2.2=false):(hdL t c at_ fs).1≠0:=by
 cases c with
 |zero=>simp[hdL]
 |succ c=>
  rw[hdL,hs]
  simp only[if_true]
  by_cases h1:line.length>300∨at_+line.length+2>1500
  ·rw[if_pos h1];simp
  rw[if_neg h1,if_neg hne]
  by_cases h3:c=0
  ·rw[if_pos h3];simp
  rw[if_neg h3,hx];simp
theorem hd_end {t:List UInt8} {c at_:Nat} {fs:List IFld} (hs:scanL (t.drop at_)=([],0)) (h:(hdL t c at_ fs).1=0):hdL t c at_ fs=(0,at_+2,fs):=by
 cases c with
 |zero=>simp[hdL]at h
 |succ c=>
  rw[hdL,hs]at h ⊢
  simp only[if_true]at h ⊢
  by_cases h1:([]:List UInt8).length>300∨at_+([]:List UInt8).length+2>1500
  ·rw[if_pos h1]at h;exact absurd h (by decide)
  ·rw[if_neg h1]
def noEnd (l:List UInt8):Prop:= ∀b∈l,b≠10∧b≠13
theorem fld_noEnd {x:IFld} (h:fldOk x=true):noEnd (fldT x):=by
 unfold fldOk at h
 simp only[fieldL,Bool.and_eq_true,decide_eq_true_eq,List.all_eq_true,tokenL]at h
 obtain⟨⟨⟨⟨⟨⟨h0,h0'⟩,h1⟩,h2⟩,h3⟩,h4⟩,h5⟩:=h
 intro b hb
 unfold fldT at hb
 rcases List.mem_append.1 hb with hb|hb
 ·rcases List.mem_append.1 hb with hb|hb
  ·have:=h1 b hb
   constructor<;>(rintro rfl;exact absurd this (by decide))
  ·simp at hb;rcases hb with rfl|rfl<;>decide
 ·have:=h4 b hb
  constructor<;>(rintro rfl;exact absurd this (by decide))
theorem fld_back {x:IFld} (h:fldOk x=true):readFieldL (fldT x)=(x.f0,x.f1,true):=by
 have hp:=fieldL_parts h
 have e:fldT x=bl x.f0++58::(32::bl x.f1):=by simp[fldT]
 rw[e,readFieldL_back h (by rw[trimB_cons 32 _ (by decide)];exact hp.2.2.2),mk_bl,mk_bl]
theorem fldT_ne (x:IFld):fldT x≠ []:=by simp[fldT]
theorem hd_fields: ∀(l:List IFld) (pre rest:List UInt8) (c:Nat) (fs:List IFld),(∀x∈l,fldOk x=true)→(hdL (pre++(fldsT l++rest)) c pre.length fs).1=0→
  ∃c',hdL (pre++(fldsT l++rest)) c' (pre++fldsT l).length (fs++l)=hdL (pre++(fldsT l++rest)) c pre.length fs
 | [],pre,rest,c,fs,_,h=>⟨c,by simp[fldsT]⟩
 |x::l,pre,rest,c,fs,ho,h=>by
  have hx:=ho x (by simp)
  have ef:fldsT (x::l)=fldT x++ [13,10]++fldsT l:=by simp[fldsT,crB]
  have ep:pre++(fldsT (x::l)++rest)=(pre++fldT x++ [13,10])++(fldsT l++rest):=by rw[ef];simp
  have hs:scanL ((pre++(fldsT (x::l)++rest)).drop pre.length)=(fldT x,0):=by
   rw[List.drop_left,ef,show fldT x++ [13,10]++fldsT l++rest=fldT x++13::10::(fldsT l++rest)by simp]
   exact scanL_line _ _ (fld_noEnd hx)
  obtain⟨c',rfl,e1⟩:=hd_line hs (fldT_ne x) (fld_back hx) h
  have el:pre.length+(fldT x).length+2=(pre++fldT x++ [13,10]).length:=by simp;omega
  rw[el]at e1
  have ih:=hd_fields l (pre++fldT x++ [13,10]) rest c' (fs++ [x]) (fun y hy=>ho y (List.mem_cons_of_mem _ hy)) (by rw[←ep,e1];exact h)
  rw[←ep]at ih
  obtain⟨c2,e2⟩:=ih
  refine⟨c2,?_⟩
  rw[←e1,←e2]
  congr 1
  ·rw[ef];simp
  ·simp
theorem firstL_back {a b:List UInt8} (h:(tokenL a&&decide (a.length≤20)&&(decide (1≤b.length)&&decide (b.length≤200)&&b.all visB))=true):firstL (a++32::(b++32:: [72,84,84,80,47,49,46,49]))=some (a,b)∧noEnd (a++32::(b++32:: [72,84,84,80,47,49,46,49])):=by
 have h':=h
 simp only[Bool.and_eq_true,decide_eq_true_eq,List.all_eq_true,tokenL]at h'
 obtain⟨⟨⟨⟨_,_⟩,ht⟩,_⟩,⟨_,_⟩,hv⟩:=h'
 have ha: ∀x∈a,x≠32:=by rintro x hx rfl;exact absurd (ht 32 hx) (by decide)
 have hb: ∀x∈b,x≠32:=by rintro x hx rfl;exact absurd (hv 32 hx) (by decide)
 constructor
 ·unfold firstL
  rw[splitL_hit 32 a _ ha,splitL_hit 32 b _ hb,splitL_none 32 _ (by decide)]
  simp only
  rw[if_pos ⟨trivial,h⟩]
 ·intro x hx
  rcases List.mem_append.1 hx with hx|hx
  ·have:=ht x hx
   constructor<;>(rintro rfl;exact absurd this (by decide))
  rcases List.mem_cons.1 hx with rfl|hx
  ·decide
  rcases List.mem_append.1 hx with hx|hx
  ·have:=hv x hx
   constructor<;>(rintro rfl;exact absurd this (by decide))
  ·have hd: ∀y∈([32,72,84,84,80,47,49,46,49]:List UInt8),y≠10∧y≠13:=by decide
   exact hd x hx
def lineT (a b:List UInt8):List UInt8:=a++32::(b++32:: [72,84,84,80,47,49,46,49])
theorem rqHead_first {a b R:List UInt8} (hf:(tokenL a&&decide (a.length≤20)&&(decide (1≤b.length)&&decide (b.length≤200)&&b.all visB))=true) (h:(rqHead (lineT a b++13::10::R)).1=0):
  (hdL (lineT a b++13::10::R) 21 (lineT a b++ [13,10]).length []).1=0∧rqHead (lineT a b++13::10::R)=(0,(hdL (lineT a b++13::10::R) 21 (lineT a b++ [13,10]).length []).2.1,a,b,(hdL (lineT a b++13::10::R) 21 (lineT a b++ [13,10]).length []).2.2):=by
 obtain⟨h1,h2⟩:=firstL_back hf
 have hs:scanL (lineT a b++13::10::R)=(lineT a b,0):=scanL_line _ _ h2
 have el:(lineT a b++ [13,10]).length=(lineT a b).length+2:=by simp
 rw[el]
 unfold rqHead at h ⊢
 by_cases hl:(lineT a b++13::10::R).length>4000
 ·rw[if_pos hl]at h;exact absurd h (by decide)
 rw[if_neg hl,hs]at h
 rw[if_neg hl,hs]
 simp only[if_true]at h ⊢
 by_cases h3:(lineT a b).length>300∨(lineT a b).length+2>1500
 ·rw[if_pos h3]at h;exact absurd h (by decide)
 rw[if_neg h3,show firstL (lineT a b)=some (a,b)from h1]at h
 rw[if_neg h3,show firstL (lineT a b)=some (a,b)from h1]
 simp only at h ⊢
 by_cases h4:(hdL (lineT a b++13::10::R) 21 ((lineT a b).length+2) []).1=0
 ·rw[if_pos h4];exact⟨h4,rfl⟩
 ·rw[if_neg h4]at h;exact absurd h h4
theorem rqHead_flds {a b R:List UInt8} {l:List IFld} (hf:(tokenL a&&decide (a.length≤20)&&(decide (1≤b.length)&&decide (b.length≤200)&&b.all visB))=true) (ho: ∀x∈l,fldOk x=true) (h:(rqHead (lineT a b++13::10::(fldsT l++R))).1=0):
  ∃c,(hdL (lineT a b++13::10::(fldsT l++R)) c (lineT a b++13::10::fldsT l).length l).1=0∧rqHead (lineT a b++13::10::(fldsT l++R))=(0,(hdL (lineT a b++13::10::(fldsT l++R)) c (lineT a b++13::10::fldsT l).length l).2.1,a,b,(hdL (lineT a b++13::10::(fldsT l++R)) c (lineT a b++13::10::fldsT l).length l).2.2):=by
 obtain⟨h1,h2⟩:=rqHead_first hf h
 have ep:lineT a b++13::10::(fldsT l++R)=(lineT a b++ [13,10])++(fldsT l++R):=by simp
 have eq:lineT a b++13::10::fldsT l=(lineT a b++ [13,10])++fldsT l:=by simp
 rw[ep]at h1 h2 ⊢
 rw[eq]
 obtain⟨c,e⟩:=hd_fields l (lineT a b++ [13,10]) R 21 [] ho h1
 rw[List.nil_append]at e
 exact⟨c,by rw[e];exact h1,by rw[e];exact h2⟩
theorem drop_at (p q:List UInt8) (n:Nat) (h:n=p.length):(p++q).drop n=q:=by subst h;exact List.drop_left
theorem rqHead_all {a b R:List UInt8} {l:List IFld} (hf:(tokenL a&&decide (a.length≤20)&&(decide (1≤b.length)&&decide (b.length≤200)&&b.all visB))=true) (ho: ∀x∈l,fldOk x=true) (h:(rqHead (lineT a b++13::10::(fldsT l++13::10::R))).1=0):
  rqHead (lineT a b++13::10::(fldsT l++13::10::R))=(0,(lineT a b++13::10::fldsT l).length+2,a,b,l):=by
 obtain⟨c,h1,h2⟩:=rqHead_flds hf ho h
 have hs:scanL ((lineT a b++13::10::(fldsT l++13::10::R)).drop (lineT a b++13::10::fldsT l).length)=([],0):=by
  rw[show lineT a b++13::10::(fldsT l++13::10::R)=(lineT a b++13::10::fldsT l)++([]++13::10::R)by simp,List.drop_left]
  exact scanL_line [] R (by simp)
 rw[h2,hd_end hs h1]
theorem implReadHex_go: ∀(r pre:List UInt8) (n:Int),0≤n→n<hexBnd r.length→(pre++r).length≤1000→Ev (fun k=>impl_ReadHex.l0 k (mkB (pre++r)) n pre.length) (readHexL r n)
 | [],pre,n,_,_,_=>Ev.step (f:=fun _=>some (n,true)) (fun k=>by simp only[impl_ReadHex.l0];rw[if_neg (by rw[size_mk];simp)]) (Ev.now _)
 |b::r,pre,n,h0,h1,hl=>by
  have hb:=hexBnd_le r.length
  have hv:=hexV_lt b
  have h1':n<hexBnd r.length/16:=h1
  simp at hl
  have ih:=implReadHex_go r (pre++ [b]) (16*n+hexV b)
  rw[←app_mid,len_snoc]at ih
  have hw:wrap64 ((pre.length:Int)+1)=(pre.length:Int)+1:=wrap_id (by omega) (by omega)
  have hw0:wrap64 (16*n)=16*n:=wrap_id (by omega) (by omega)
  refine Ev.step (f:=fun k=>(impl_hexOf.f k (b.toNat:Int)).bind fun t=>if t<0 then some (0,false)else impl_ReadHex.l0 k (mkB (pre++b::r)) (wrap64 (16*n+t)) ((pre.length:Int)+1)) (fun k=>?_) ?_
  ·simp only[impl_ReadHex.l0]
   rw[if_pos (size_lt_mid ..),if_pos (by omega),bt_mid,hw,hw0]
  refine(hexOf_is b).bind ?_
  by_cases hneg:hexV b<0
  ·simp only[if_pos hneg];simpa [readHexL,hneg]using Ev.now _
  ·have er:readHexL (b::r) n=readHexL r (16*n+hexV b):=by simp[readHexL,hneg]
   rw[er]
   simp only[if_neg hneg]
   rw[wrap_id (by omega) (by omega)]
   exact ih (by omega) (by omega) (by simp;omega)
theorem implReadHex_is (l:List UInt8):Ev (fun k=>impl_ReadHex.f k (mkB l)) (readHexT l):=by
 unfold impl_ReadHex.f readHexT
 rw[within_is,size_mk]
 simp only[Option.bind_some]
 by_cases h:l.length=0∨7<l.length
 ·have hf:(decide ((1:Int)≤(l.length:Int))&&decide ((l.length:Int)≤7))=false:=by
   rcases h with h|h
   ·rw[decide_eq_false (show ¬(1:Int)≤(l.length:Int)by omega)];rfl
   ·rw[decide_eq_false (show ¬(l.length:Int)≤7 by omega),Bool.and_false]
  simp only[hf,if_pos h,Bool.false_eq_true,if_false]
  exact Ev.now _
 ·have hg:=implReadHex_go l [] 0 (by omega) (hexBnd_pos _ (by omega)) (by simp;omega)
  simp only[decide_eq_true (show(1:Int)≤(l.length:Int)by omega),decide_eq_true (show(l.length:Int)≤7 by omega),if_neg h,Bool.and_self,if_true]
  simpa using hg
def takeNL (t:List UInt8) (at_ n:Nat):ByteArray×ByteArray×Int×Bool:=
 if n≤t.length-at_ then(mkB ((t.drop at_).take n),mkB t,((at_+n:Nat):Int),true)else((⟨#[]⟩:ByteArray),(⟨#[]⟩:ByteArray),0,false)
theorem implTakeN_gen (s:ByteArray) (a n:Int) (h:impl_CurOk.f s a=some true):impl_TakeN.f s a n=(impl_within.f n 0 (wrap64 ((s.size:Int)-a))).bind fun t=>if t=true then(if 0≤a then(if a≤(wrap64 (a+n))then(if(wrap64 (a+n))≤(s.size:Int)then(some (s.extract (a:Int).toNat ((wrap64 (a+n)):Int).toNat,s,wrap64 (a+n),true))else(none))else(none))else(none))else(some ((⟨#[]⟩:ByteArray),(⟨#[]⟩:ByteArray),0,false)):=by
 unfold impl_TakeN.f
 rw[h,Option.bind_some,if_pos rfl]
theorem implTakeN_is (t:List UInt8) (at_ n:Nat) (h:at_≤t.length) (hl:t.length≤9223372036854775000) (hn:n≤1000000000):impl_TakeN.f (mkB t) (at_:Int) (n:Int)=some (takeNL t at_ n):=by
 have hw:wrap64 (((mkB t).size:Int)-(at_:Int))=((t.length-at_:Nat):Int):=by rw[size_mk,wrap_id (by omega) (by omega)];omega
 rw[implTakeN_gen _ _ _ (implCurOk_is t at_ h),hw,within_is,Option.bind_some]
 unfold takeNL
 by_cases hle:n≤t.length-at_
 ·have d:(decide ((0:Int)≤(n:Int))&&decide ((n:Int)≤((t.length-at_:Nat):Int)))=true:=by rw[decide_eq_true (show(0:Int)≤(n:Int)by omega),decide_eq_true (show(n:Int)≤((t.length-at_:Nat):Int)by omega)];rfl
  rw[d,if_pos rfl,if_pos hle,if_pos (by omega),wrap_id (by omega) (by omega),if_pos (by omega),if_pos (by rw[size_mk];omega),extract_mk,Int.toNat_natCast,show((at_:Int)+(n:Int)).toNat=at_+n by omega,Nat.add_sub_cancel_left,show((at_+n:Nat):Int)=(at_:Int)+(n:Int)by omega]
 ·have d:(decide ((0:Int)≤(n:Int))&&decide ((n:Int)≤((t.length-at_:Nat):Int)))=false:=by rw[decide_eq_false (show ¬(n:Int)≤((t.length-at_:Nat):Int)by omega),Bool.and_false]
  rw[d,if_neg Bool.false_ne_true,if_neg hle]
theorem takeLineL_ok {t:List UInt8} {at_:Nat} (h:(scanL (t.drop at_)).2=0):takeLineL t at_=(mkB (scanL (t.drop at_)).1,mkB t,((at_+(scanL (t.drop at_)).1.length+2:Nat):Int),0):=by unfold takeLineL;rw[if_pos h]
theorem takeLineL_no {t:List UInt8} {at_:Nat} (h: ¬(scanL (t.drop at_)).2=0):takeLineL t at_=((⟨#[]⟩:ByteArray),(⟨#[]⟩:ByteArray),0,((scanL (t.drop at_)).2:Int)):=by unfold takeLineL;rw[if_neg h]
theorem scan_next {t:List UInt8} {at_:Nat} (h:at_≤t.length) (h0:(scanL (t.drop at_)).2=0):at_+(scanL (t.drop at_)).1.length+2≤t.length:=by
 have:=scanL_len _ h0;rw[List.length_drop]at this;omega
theorem implTrail_go (t:List UInt8) (hl:t.length≤1048576): ∀(c at_:Nat) (x:Int),x=20-(c:Int)→c≤20→at_≤t.length→Ev (fun k=>impl_trailed.l0 k x (mkB t) (at_:Int)) (trailL t (c+1) at_):=by
 intro c
 induction c with
 |zero=>exact fun at_ x hx hc ha=>go 0 at_ x hx hc ha (fun h=>absurd rfl h)
 |succ c ih=>exact fun at_ x hx hc ha=>go (c+1) at_ x hx hc ha (fun _ at' ha'=>ih at' (x+1) (by omega) (by omega) ha')
where
 go (c at_:Nat) (x:Int) (hx:x=20-(c:Int)) (hc:c≤20) (ha:at_≤t.length) (ih:c≠0→ ∀at',at'≤t.length→Ev (fun k=>impl_trailed.l0 k (x+1) (mkB t) (at':Int)) (trailL t c at')):Ev (fun k=>impl_trailed.l0 k x (mkB t) (at_:Int)) (trailL t (c+1) at_):=by
  refine Ev.step (f:=fun k=>(impl_TakeLine.f k (mkB t) (at_:Int)).bind fun b=>(if b.2.2.2=0 then(impl_trailed.j1 k x b.1 (decide ((b.1.size:Int)>300)) b.2.1 b.2.2.1)else(impl_trailed.j1 k x b.1 true b.2.1 b.2.2.1))) (fun k=>by simp only[impl_trailed.l0]) ?_
  refine(implTakeLine_is t at_ ha (by omega)).bind ?_
  have hbad: ∀(q t:ByteArray) (a:Int),Ev (fun k=>impl_trailed.j1 k x q true t a) false:=fun q t a=>Ev.step (f:=fun _=>some false) (fun k=>by simp only[impl_trailed.j1,if_true]) (Ev.now _)
  by_cases h0:(scanL (t.drop at_)).2=0
  ·rw[takeLineL_ok h0]
   have hn:=scan_next ha h0
   rw[trailL]
   simp only[if_true,size_mk,h0,true_and]
   by_cases h3:(scanL (t.drop at_)).1.length≤300
   ·simp only[decide_eq_false (show ¬((scanL (t.drop at_)).1.length:Int)>300 by omega),if_pos h3]
    by_cases he:(scanL (t.drop at_)).1= []
    ·rw[if_pos he]
     refine Ev.step (f:=fun _=>some (decide (at_+2=t.length))) (fun k=>?_) (Ev.now _)
     simp only[impl_trailed.j1,Bool.false_eq_true,if_false,toList_mk]
     rw[if_pos he,he,size_mk]
     congr 1
     rw[Bool.eq_iff_iff,beq_iff_eq,decide_eq_true_eq];simp;omega
    ·rw[if_neg he]
     refine Ev.step (f:=fun k=>(impl_ReadField.f k (mkB (scanL (t.drop at_)).1)).bind fun b=>(if b.2.2=true then(if x=20 then some false else(impl_trailed.l0 k (x+1) (mkB t) ((at_+(scanL (t.drop at_)).1.length+2:Nat):Int)))else some false)) (fun k=>?_) ?_
     ·simp only[impl_trailed.j1,Bool.false_eq_true,if_false,toList_mk]
      rw[if_neg he,wrap_id (by omega) (by omega)]
     refine(implReadField_is _ (by rw[size_mk];omega)).bind ?_
     rw[bl_mk]
     cases hr:(readFieldL (scanL (t.drop at_)).1).2.2
     ·simpa using Ev.now false
     ·simp only[if_true]
      by_cases hc0:c=0
      ·subst hc0
       simp only[if_pos (show x=20 by omega),trailL];exact Ev.now _
      ·simp only[if_neg (show ¬x=20 by omega)]
       exact ih hc0 _ hn
   ·simp only[decide_eq_true (show((scanL (t.drop at_)).1.length:Int)>300 by omega),if_neg h3]
    exact hbad _ _ _
  ·rw[takeLineL_no h0]
   rw[trailL,if_neg (fun h=>h0 h.1)]
   simp only[if_neg (show ¬((scanL (t.drop at_)).2:Int)=0 by omega)]
   exact hbad _ _ _
theorem crlf_iff (l:List UInt8):((mkB l).toList=([13,10]:List UInt8))↔l= [13,10]:=by rw[toList_mk]
theorem takeN_empty:impl_TakeN.f (⟨#[]⟩:ByteArray) 0 2=some ((⟨#[]⟩:ByteArray),(⟨#[]⟩:ByteArray),0,false):=by
 have:=implTakeN_is [] 0 2 (Nat.le_refl _) (by simp) (by omega)
 simpa [takeNL,mkB]using this
theorem implChunks_go (t:List UInt8) (hl:t.length≤1048576): ∀(c at_:Nat) (body:List UInt8),t.length-at_<c→at_≤t.length→body.length≤600→
  Ev (fun k=>impl_Chunks.l0 k (mkB body) (mkB t) (at_:Int)) (mkB (chL t c at_ body).1,(chL t c at_ body).2)
 |0,at_,body,hm,ha,hb=>absurd hm (by omega)
 |c+1,at_,body,hm,ha,hb=>by
  have ih:=implChunks_go t hl c
  have ez:mkB []=(⟨#[]⟩:ByteArray):=rfl
  have ibad: ∀(x q t:ByteArray) (a:Int),Ev (fun k=>impl_Chunks.j1 k x q true t a) ((⟨#[]⟩:ByteArray),(400:Int)):=fun x q t a=>Ev.step (f:=fun _=>some ((⟨#[]⟩:ByteArray),(400:Int))) (fun k=>by simp only[impl_Chunks.j1,if_true]) (Ev.now _)
  have i0: ∀r,Ev (fun k=>if(takeLineL t at_).2.2.2=0 then(impl_Chunks.j1 k (mkB body) (takeLineL t at_).1 (decide (((takeLineL t at_).1.size:Int)>300)) (takeLineL t at_).2.1 (takeLineL t at_).2.2.1)else(impl_Chunks.j1 k (mkB body) (takeLineL t at_).1 true (takeLineL t at_).2.1 (takeLineL t at_).2.2.1)) r→Ev (fun k=>impl_Chunks.l0 k (mkB body) (mkB t) (at_:Int)) r:=fun r h=>
   Ev.step (f:=fun k=>(impl_TakeLine.f k (mkB t) (at_:Int)).bind fun b=>(if b.2.2.2=0 then(impl_Chunks.j1 k (mkB body) b.1 (decide ((b.1.size:Int)>300)) b.2.1 b.2.2.1)else(impl_Chunks.j1 k (mkB body) b.1 true b.2.1 b.2.2.1))) (fun k=>by simp only[impl_Chunks.l0]) ((implTakeLine_is t at_ ha (by omega)).bind h)
  rw[chL]
  by_cases h0:(scanL (t.drop at_)).2=0
  ·have hn:=scan_next ha h0
   rw[takeLineL_ok h0]at i0
   simp only[if_true,size_mk]at i0
   generalize hline:(scanL (t.drop at_)).1=line at*
   by_cases h3:line.length≤300
   ·simp only[decide_eq_false (show ¬(line.length:Int)>300 by omega)]at i0
    rw[if_pos ⟨h0,h3⟩]
    generalize hnext:at_+line.length+2=nx at*
    obtain⟨n,hnn⟩: ∃n:Nat,(readHexT (cutB 59 line).1).1=(n:Int):=⟨(readHexT (cutB 59 line).1).1.toNat,by have:=readHexT_bnd (cutB 59 line).1;omega⟩
    have hnb:n≤268435455:=by have:=readHexT_bnd (cutB 59 line).1;omega
    have hI: ∀r,Ev (fun k=>if(readHexT (cutB 59 line).1).2=true then(if(body.length:Int)+(n:Int)>600 then some ((⟨#[]⟩:ByteArray),(413:Int))else(if(n:Int)=0 then((impl_trailed.f k (mkB t) (nx:Int)).bind fun t212=>(impl_Chunks.j2 k (mkB body) (n:Int) (!t212) (mkB t) (nx:Int)))else(impl_Chunks.j2 k (mkB body) (n:Int) false (mkB t) (nx:Int))))else some ((⟨#[]⟩:ByteArray),(400:Int))) r→Ev (fun k=>impl_Chunks.l0 k (mkB body) (mkB t) (at_:Int)) r:=fun r h=>i0 r (by
     refine Ev.step (f:=fun k=>(impl_ReadHex.f k (mkB (cutB 59 line).1)).bind fun q=>if q.2=true then(if(wrap64 (((mkB body).size:Int)+q.1))>600 then some ((⟨#[]⟩:ByteArray),(413:Int))else(if q.1=0 then((impl_trailed.f k (mkB t) (nx:Int)).bind fun t212=>(impl_Chunks.j2 k (mkB body) q.1 (!t212) (mkB t) (nx:Int)))else(impl_Chunks.j2 k (mkB body) q.1 false (mkB t) (nx:Int))))else some ((⟨#[]⟩:ByteArray),(400:Int))) (fun k=>?_) ?_
     ·simp only[impl_Chunks.j1,Bool.false_eq_true,if_false]
      rw[stringsCut_is (mkB line) 59 (by rw[size_mk];omega),bl_mk]
      rfl
     refine(implReadHex_is (cutB 59 line).1).bind ?_
     simp only[hnn,size_mk]
     rw[wrap_id (by omega) (by omega)]
     exact h)
    clear i0
    rw[hnn,Int.toNat_natCast]
    cases hok:(readHexT (cutB 59 line).1).2
    ·rw[hok]at hI
     simp only[Bool.false_eq_true,if_false]at hI ⊢
     exact hI _ (Ev.now _)
    ·rw[hok]at hI
     simp only[if_true]at hI ⊢
     by_cases hbig:body.length+n>600
     ·simp only[if_pos (show(body.length:Int)+(n:Int)>600 by omega)]at hI
      rw[if_pos hbig]
      exact hI _ (Ev.now _)
     simp only[if_neg (show ¬(body.length:Int)+(n:Int)>600 by omega)]at hI
     rw[if_neg hbig]
     by_cases hz:n=0
     ·subst hz
      have e0:((0:Nat):Int)=0:=rfl
      simp only[e0,if_true]at hI
      rw[if_pos rfl]
      have tI:=implTrail_go t hl 20 nx 0 (by omega) (by omega) hn
      refine hI _ ?_
      refine Ev.bind (a:=trailL t 21 nx) (by simpa [impl_trailed.f]using tI) ?_
      cases trailL t 21 nx
      ·exact Ev.step (f:=fun _=>some ((⟨#[]⟩:ByteArray),(400:Int))) (fun k=>by simp[impl_Chunks.j2]) (by simpa [ez]using Ev.now _)
      ·exact Ev.step (f:=fun _=>some (mkB body,(0:Int))) (fun k=>by simp[impl_Chunks.j2]) (by simpa using Ev.now _)
     ·simp only[if_neg (show ¬(n:Int)=0 by omega)]at hI
      rw[if_neg hz]
      have hI2: ∀r,Ev (fun k=>(impl_TakeN.f (mkB t) (nx:Int) (n:Int)).bind fun b=>((impl_TakeN.f b.2.1 b.2.2.1 2).bind fun c=>(if b.2.2.2=true then(if c.2.2.2=true then(if c.1.toList=([13,10]:List UInt8)then(if(mkB body).size+b.1.size≤9223372036854775807 then(impl_Chunks.l0 k (mkB body++b.1) c.2.1 c.2.2.1)else none)else some ((⟨#[]⟩:ByteArray),(400:Int)))else some ((⟨#[]⟩:ByteArray),(400:Int)))else some ((⟨#[]⟩:ByteArray),(400:Int))))) r→Ev (fun k=>impl_Chunks.l0 k (mkB body) (mkB t) (at_:Int)) r:=fun r h=>hI r (Ev.step (fun k=>by simp only[impl_Chunks.j2,Bool.false_eq_true,if_false];rw[if_neg (by omega)]) h)
      clear hI
      have eI:=implTakeN_is t nx n hn (by omega) (by omega)
      simp only[eI,Option.bind_some]at hI2
      by_cases hfit:n≤t.length-nx
      ·have et:takeNL t nx n=(mkB ((t.drop nx).take n),mkB t,((nx+n:Nat):Int),true):=by unfold takeNL;rw[if_pos hfit]
       have eI2:=implTakeN_is t (nx+n) 2 (by omega) (by omega) (by omega)
       have e2:((2:Nat):Int)=2:=rfl
       rw[e2]at eI2
       rw[et]at hI2
       simp only[eI2,Option.bind_some,if_true]at hI2
       by_cases hfit2:2≤t.length-(nx+n)
       ·have et2:takeNL t (nx+n) 2=(mkB ((t.drop (nx+n)).take 2),mkB t,((nx+n+2:Nat):Int),true):=by unfold takeNL;rw[if_pos hfit2]
        rw[et2]at hI2
        simp only[if_true,crlf_iff,size_mk]at hI2
        by_cases hcr:(t.drop (nx+n)).take 2= [13,10]
        ·have hln:((t.drop nx).take n).length≤600:=by rw[List.length_take];omega
         simp only[if_pos hcr,if_pos (show body.length+((t.drop nx).take n).length≤9223372036854775807 by omega),mk_app]at hI2
         rw[if_pos ⟨by omega,hcr⟩]
         exact hI2 _ (ih (nx+n+2) (body++(t.drop nx).take n) (by omega) (by omega) (by rw[List.length_append,List.length_take];omega))
        ·simp only[if_neg hcr]at hI2
         rw[if_neg (fun h=>hcr h.2)]
         exact hI2 _ (Ev.now _)
       ·have et2:takeNL t (nx+n) 2=((⟨#[]⟩:ByteArray),(⟨#[]⟩:ByteArray),0,false):=by unfold takeNL;rw[if_neg hfit2]
        rw[et2]at hI2
        simp only[Bool.false_eq_true,if_false]at hI2
        rw[if_neg (fun h=>hfit2 (by omega))]
        exact hI2 _ (Ev.now _)
      ·have et:takeNL t nx n=((⟨#[]⟩:ByteArray),(⟨#[]⟩:ByteArray),0,false):=by unfold takeNL;rw[if_neg hfit]
       rw[et]at hI2
       simp only[takeN_empty,Option.bind_some,Bool.false_eq_true,if_false]at hI2
       rw[if_neg (fun h=>hfit (by omega))]
       exact hI2 _ (Ev.now _)
   ·simp only[decide_eq_true (show(line.length:Int)>300 by omega)]at i0
    rw[if_neg (fun h=>h3 h.2)]
    exact i0 _ (ibad _ _ _ _)
  ·rw[takeLineL_no h0]at i0
   simp only[if_neg (show ¬((scanL (t.drop at_)).2:Int)=0 by omega)]at i0
   rw[if_neg (fun h=>h0 h.1)]
   exact i0 _ (ibad _ _ _ _)
theorem implChunks_is (t:List UInt8) (hl:t.length≤1048576):Ev (fun k=>impl_Chunks.f k (mkB t)) (mkB (chunksL t).1,(chunksL t).2):=by
 have:=implChunks_go t hl (t.length+1) 0 [] (by omega) (by omega) (by simp)
 simpa [impl_Chunks.f,mkB,chunksL]using this
theorem implMethod_is (s:ByteArray):Ev (fun k=>impl_isMethod.f k s) (tokenL (bl s)&&decide (s.size≤20)):=by
 unfold impl_isMethod.f
 refine(implToken_is s).bind ?_
 cases tokenL (bl s)
 ·simpa using Ev.now false
 ·have e:decide ((s.size:Int)≤20)=decide (s.size≤20):=decide_eq_decide.2 (by omega)
  simp only[if_true,e,Bool.true_and];exact Ev.now _
theorem implTarget_is (s:ByteArray) (hs:s.size≤9223372036854775806):Ev (fun k=>impl_isTarget.f k s) (decide (1≤s.size)&&decide (s.size≤200)&&(bl s).all visB):=by
 unfold impl_isTarget.f
 rw[within_is]
 have e:(decide ((1:Int)≤(s.size:Int))&&decide ((s.size:Int)≤200))=(decide (1≤s.size)&&decide (s.size≤200)):=by
  rw[show decide ((1:Int)≤(s.size:Int))=decide (1≤s.size)from decide_eq_decide.2 (by omega),show decide ((s.size:Int)≤200)=decide (s.size≤200)from decide_eq_decide.2 (by omega)]
 simp only[e,Option.bind_some]
 cases(decide (1≤s.size)&&decide (s.size≤200))
 ·simpa using Ev.now false
 ·simp only[if_true,Bool.true_and]
  exact(implAllVis_is s hs).bind (Ev.now _)
theorem splitL_len (c:UInt8): ∀(l x:List UInt8),x∈splitL c l→x.length≤l.length
 | [],x,hx=>by simp[splitL]at hx;subst hx;simp
 |d::r,x,hx=>by
  have ih:=splitL_len c r
  have hne:=splitL_ne c r
  unfold splitL at hx
  split at hx
  ·rcases List.mem_cons.1 hx with rfl|hx
   ·simp
   ·have:=ih x hx;simp;omega
  ·cases hq:splitL c r with
   |nil=>exact absurd hq hne
   |cons y ys=>
    rw[hq]at hx ih
    simp only[List.headD_cons,List.tail_cons]at hx
    rcases List.mem_cons.1 hx with rfl|hx
    ·have:=ih y (by simp);simp;omega
    ·have:=ih x (by simp[hx]);simp;omega
abbrev FstR:=ByteArray×ByteArray×Int×ByteArray×Bool×List IFld×ByteArray×Bool
theorem implFirst_is (l:List UInt8) (h:l.length≤1048576): ∃x0 x1:ByteArray,Ev (fun k=>impl_readFirst.f k (mkB l) false) ((x0,x1,0,(⟨#[]⟩:ByteArray),false,[],(⟨#[]⟩:ByteArray),(firstL l).isSome):FstR)∧ ∀a b,firstL l=some (a,b)→x0=mkB a∧x1=mkB b:=by
 have hbad: ∀w:List ByteArray,Ev (fun k=>impl_readFirst.j1 k w true) (((⟨#[]⟩:ByteArray),(⟨#[]⟩:ByteArray),0,(⟨#[]⟩:ByteArray),false,[],(⟨#[]⟩:ByteArray),false):FstR):=fun w=>Ev.step (f:=fun _=>some _) (fun k=>by simp only[impl_readFirst.j1,if_true]) (Ev.now _)
 have hsp: ∀r,Ev (fun k=>if(((splitL 32 l).map mkB).length:Int)=3 then(if 2<(((splitL 32 l).map mkB).length:Int)then(impl_readFirst.j1 k ((splitL 32 l).map mkB) ((rdOf ByteArray.empty ((splitL 32 l).map mkB) 2).toList !=([72,84,84,80,47,49,46,49]:List UInt8)))else(none))else(impl_readFirst.j1 k ((splitL 32 l).map mkB) true)) r→Ev (fun k=>impl_readFirst.f k (mkB l) false) r:=fun r hr=>by
  unfold impl_readFirst.f
  simp only[Bool.false_eq_true,if_false,stringsSplit_is l 32 h,Option.bind_some]
  exact hr
 by_cases h3:(splitL 32 l).length=3
 ·obtain⟨a,b,c,hw⟩: ∃a b c,splitL 32 l= [a,b,c]:=by
   match hq:splitL 32 l,h3 with
   | [a,b,c],_=>exact⟨a,b,c,rfl⟩
  have hlen: ∀x∈splitL 32 l,x.length≤l.length:=splitL_len 32 l
  rw[hw]at hlen hsp
  have ha:=hlen a (by simp)
  have hb:=hlen b (by simp)
  have e2:rdOf ByteArray.empty ([a,b,c].map mkB) 2=mkB c:=rfl
  have e0:rdOf ByteArray.empty ([a,b,c].map mkB) 0=mkB a:=rfl
  have e1:rdOf ByteArray.empty ([a,b,c].map mkB) 1=mkB b:=rfl
  simp only[e2,toList_mk]at hsp
  by_cases hc:c= [72,84,84,80,47,49,46,49]
  ·have hcb:(c !=([72,84,84,80,47,49,46,49]:List UInt8))=false:=by rw[hc];rfl
   rw[hcb]at hsp
   have hm:=implMethod_is (mkB a)
   have ht:=implTarget_is (mkB b) (by rw[size_mk];omega)
   rw[bl_mk,size_mk]at hm ht
   have hf:firstL l=if(tokenL a&&decide (a.length≤20)&&(decide (1≤b.length)&&decide (b.length≤200)&&b.all visB))=true then some (a,b)else none:=by
    unfold firstL;rw[hw];simp only[hc,true_and]
   have hr:Ev (fun k=>impl_readFirst.j1 k ([a,b,c].map mkB) false) ((mkB a,mkB b,0,(⟨#[]⟩:ByteArray),false,[],(⟨#[]⟩:ByteArray),(firstL l).isSome):FstR):=by
    refine Ev.step (f:=fun k=>(impl_isMethod.f k (mkB a)).bind fun t=>(if t=true then((impl_isTarget.f k (mkB b)).bind fun t2=>(some ((mkB a,mkB b,0,(⟨#[]⟩:ByteArray),false,[],(⟨#[]⟩:ByteArray),t2):FstR)))else(some ((mkB a,mkB b,0,(⟨#[]⟩:ByteArray),false,[],(⟨#[]⟩:ByteArray),false):FstR)))) (fun k=>?_) ?_
    ·simp only[impl_readFirst.j1,Bool.false_eq_true,if_false,e0,e1]
     rw[if_pos (by simp),if_pos (by simp)]
    refine hm.bind ?_
    rw[hf]
    cases hmm:(tokenL a&&decide (a.length≤20))
    ·simpa using Ev.now _
    ·simp only[if_true,Bool.true_and]
     refine ht.bind ?_
     cases htt:(decide (1≤b.length)&&decide (b.length≤200)&&b.all visB)
     ·simpa using Ev.now _
     ·simpa using Ev.now _
   refine⟨mkB a,mkB b,hsp _ ?_,?_⟩
   ·simp only[List.map_cons,List.map_nil,List.length_cons,List.length_nil]at hr ⊢
    simpa using hr
   ·intro x y hxy
    rw[hf]at hxy
    split at hxy
    ·have:=Option.some.inj hxy
     injection this with q1 q2
     subst q1;subst q2;exact⟨rfl,rfl⟩
    ·cases hxy
  ·have hcb:(c !=([72,84,84,80,47,49,46,49]:List UInt8))=true:=by simpa using hc
   have hf:firstL l=none:=by unfold firstL;rw[hw];simp only[hc,false_and,if_false]
   rw[hcb]at hsp
   rw[hf]
   refine⟨(⟨#[]⟩:ByteArray),(⟨#[]⟩:ByteArray),hsp _ ?_,fun a b h=>by cases h⟩
   simpa using hbad _
 ·have hf:firstL l=none:=by
   unfold firstL
   split
   ·rename_i a b c hw;rw[hw]at h3;exact absurd rfl h3
   ·rfl
  rw[hf]
  refine⟨(⟨#[]⟩:ByteArray),(⟨#[]⟩:ByteArray),hsp _ ?_,fun a b h=>by cases h⟩
  simp only[List.length_map,if_neg (show ¬((splitL 32 l).length:Int)=3 by omega)]
  exact hbad _
abbrev HdR:=ByteArray×ByteArray×Int×ByteArray×Bool×List IFld×ByteArray×Int×Int
def badH (c:Int):HdR:=((⟨#[]⟩:ByteArray),(⟨#[]⟩:ByteArray),0,(⟨#[]⟩:ByteArray),false,[],(⟨#[]⟩:ByteArray),0,c)
def rH (m0 m1:ByteArray) (r:Int×Nat×List IFld):HdR:=
 if r.1=0 then(m0,m1,0,(⟨#[]⟩:ByteArray),false,r.2.2,(⟨#[]⟩:ByteArray),(r.2.1:Int),0)else badH r.1
theorem implHead_go (t:List UInt8) (hl:t.length≤1048576) (m0 m1:ByteArray): ∀(c at_:Nat) (fs:List IFld),fs.length+c=20→at_≤t.length→
  Ev (fun k=>impl_ReadHead.l0 k false false (mkB t) (at_:Int) m0 m1 0 (⟨#[]⟩:ByteArray) false fs (⟨#[]⟩:ByteArray)) (rH m0 m1 (hdL t (c+1) at_ fs)):=by
 intro c
 induction c with
 |zero=>exact fun at_ fs h ha=>go 0 at_ fs h ha (fun h=>absurd rfl h)
 |succ c ih=>exact fun at_ fs h ha=>go (c+1) at_ fs h ha (fun _ at' fs' h' ha'=>ih at' fs' (by omega) ha')
where
 go (c at_ : Nat) (fs : List IFld) (h : fs.length + c = 20) (ha : at_ ≤ t.length) (ih : c ≠ 0 → ∀ at' (fs' : List IFld), fs'.length + c = 21 → at' ≤ t.length → Ev (fun k => impl_ReadHead.l0 k false false (mkB t) ((at' : Nat) : Int) m0 m1 0 (⟨#[]⟩ : ByteArray) false fs' (⟨#[]⟩ : ByteArray)) (rH m0 m1 (hdL t c at' fs'))) :
   Ev (fun k=>impl_ReadHead.l0 k false false (mkB t) (at_:Int) m0 m1 0 (⟨#[]⟩:ByteArray) false fs (⟨#[]⟩:ByteArray)) (rH m0 m1 (hdL t (c+1) at_ fs)):=by
  refine Ev.step (f:=fun k=>(impl_TakeLine.f k (mkB t) (at_:Int)).bind fun b=>(if b.2.2.2=0 then(if(b.1.size:Int)>300 then(impl_ReadHead.j1 k false false b.1 true b.2.1 b.2.2.1 m0 m1 0 (⟨#[]⟩:ByteArray) false fs (⟨#[]⟩:ByteArray))else(impl_ReadHead.j1 k false false b.1 (decide (b.2.2.1>1500)) b.2.1 b.2.2.1 m0 m1 0 (⟨#[]⟩:ByteArray) false fs (⟨#[]⟩:ByteArray)))else(some (badH 400)))) (fun k=>by simp only[impl_ReadHead.l0,badH]) ?_
  refine(implTakeLine_is t at_ ha (by omega)).bind ?_
  have hlong: ∀(q t:ByteArray) (a:Int),Ev (fun k=>impl_ReadHead.j1 k false false q true t a m0 m1 0 (⟨#[]⟩:ByteArray) false fs (⟨#[]⟩:ByteArray)) (badH 431):=fun q t a=>Ev.step (f:=fun _=>some (badH 431)) (fun k=>by simp only[impl_ReadHead.j1,if_true,badH]) (Ev.now _)
  rw[hdL]
  by_cases h0:(scanL (t.drop at_)).2=0
  ·rw[takeLineL_ok h0]
   have hn:=scan_next ha h0
   simp only[if_true,size_mk,if_pos h0]
   generalize (scanL (t.drop at_)).1=line at*
   generalize hnx:at_+line.length+2=nx at*
   by_cases h1:line.length>300
   ·simp only[if_pos (show(line.length:Int)>300 by omega),if_pos (show line.length>300∨nx>1500 from .inl h1)]
    exact hlong _ _ _
   simp only[if_neg (show ¬(line.length:Int)>300 by omega)]
   by_cases h2:nx>1500
   ·simp only[decide_eq_true (show((nx:Nat):Int)>1500 by omega),if_pos (show line.length>300∨nx>1500 from .inr h2)]
    exact hlong _ _ _
   simp only[decide_eq_false (show ¬((nx:Nat):Int)>1500 by omega),if_neg (show ¬(line.length>300∨nx>1500)by omega)]
   by_cases h3:line= []
   ·rw[if_pos h3]
    refine Ev.step (f:=fun _=>some (rH m0 m1 (0,at_+2,fs))) (fun k=>?_) (Ev.now _)
    simp only[impl_ReadHead.j1,Bool.false_eq_true,if_false,toList_mk,if_pos h3,rH,if_true]
    rw[←hnx,h3];rfl
   rw[if_neg h3]
   by_cases h4:c=0
   ·rw[if_pos h4]
    refine Ev.step (f:=fun _=>some (badH 431)) (fun k=>?_) (Ev.now _)
    simp only[impl_ReadHead.j1,Bool.false_eq_true,if_false,toList_mk,if_neg h3,badH]
    rw[if_pos (by omega)]
   rw[if_neg h4]
   refine Ev.step (f:=fun k=>(impl_ReadField.f k (mkB line)).bind fun b=>(if b.2.2=true then(impl_ReadHead.l0 k false false (mkB t) ((nx:Nat):Int) m0 m1 0 (⟨#[]⟩:ByteArray) false (fs++ [⟨b.1,b.2.1⟩]) (⟨#[]⟩:ByteArray))else some (badH 400))) (fun k=>?_) ?_
   ·simp only[impl_ReadHead.j1,Bool.false_eq_true,if_false,toList_mk,if_neg h3,badH]
    rw[if_neg (show ¬(fs.length:Int)=20 by omega)]
    simp only[if_pos (show fs.length<4398046511104 by omega)]
   refine(implReadField_is (mkB line) (by rw[size_mk];omega)).bind ?_
   rw[bl_mk]
   by_cases h5:(readFieldL line).2.2=true
   ·simp only[if_pos h5]
    exact ih h4 nx _ (by simp;omega) hn
   ·simp only[if_neg h5]
    exact Ev.now _
  ·rw[takeLineL_no h0]
   simp only[if_neg h0,if_neg (show ¬((scanL (t.drop at_)).2:Int)=0 by omega)]
   exact Ev.now _
def rHH (r:Int×Nat×List UInt8×List UInt8×List IFld):HdR:=if r.1=0 then(mkB r.2.2.1,mkB r.2.2.2.1,0,(⟨#[]⟩:ByteArray),false,r.2.2.2.2,(⟨#[]⟩:ByteArray),(r.2.1:Int),0)else badH r.1
theorem implReadHead_is (t:List UInt8) (hl:t.length≤1048576):Ev (fun k=>impl_ReadHead.f k (mkB t) false) (rHH (rqHead t)):=by
 unfold impl_ReadHead.f rqHead
 rw[size_mk]
 by_cases h4:t.length>4000
 ·simp only[if_pos (show(t.length:Int)>4000 by omega),if_pos h4]
  exact Ev.now _
 simp only[if_neg (show ¬(t.length:Int)>4000 by omega),if_neg h4]
 have e0:((0:Nat):Int)=0:=rfl
 have hlong: ∀(q t:ByteArray) (a:Int),Ev (fun k=>impl_ReadHead.j1 k false true q true t a (⟨#[]⟩:ByteArray) (⟨#[]⟩:ByteArray) 0 (⟨#[]⟩:ByteArray) false ([]:List IFld) (⟨#[]⟩:ByteArray)) (badH 431):=fun q t a=>Ev.step (f:=fun _=>some (badH 431)) (fun k=>by simp only[impl_ReadHead.j1,if_true,badH]) (Ev.now _)
 refine Ev.step (f:=fun k=>(impl_TakeLine.f k (mkB t) ((0:Nat):Int)).bind fun b=>(if b.2.2.2=0 then(if(b.1.size:Int)>300 then(impl_ReadHead.j1 k false true b.1 true b.2.1 b.2.2.1 (⟨#[]⟩:ByteArray) (⟨#[]⟩:ByteArray) 0 (⟨#[]⟩:ByteArray) false ([]:List IFld) (⟨#[]⟩:ByteArray))else(impl_ReadHead.j1 k false true b.1 (decide (b.2.2.1>1500)) b.2.1 b.2.2.1 (⟨#[]⟩:ByteArray) (⟨#[]⟩:ByteArray) 0 (⟨#[]⟩:ByteArray) false ([]:List IFld) (⟨#[]⟩:ByteArray)))else(some (badH 400)))) (fun k=>by simp only[impl_ReadHead.l0,badH,e0]) ?_
 refine(implTakeLine_is t 0 (by omega) (by omega)).bind ?_
 have ed:t.drop 0=t:=List.drop_zero
 by_cases h0:(scanL t).2=0
 ·rw[takeLineL_ok (by rw[ed];exact h0)]
  have hn:=scan_next (t:=t) (at_:=0) (by omega) (by rw[ed];exact h0)
  simp only[ed,Nat.zero_add]at hn ⊢
  simp only[if_true,size_mk,if_pos h0]
  generalize (scanL t).1=line at*
  by_cases h1:line.length>300
  ·simp only[if_pos (show(line.length:Int)>300 by omega),if_pos (show line.length>300∨line.length+2>1500 from .inl h1)]
   exact hlong _ _ _
  simp only[if_neg (show ¬(line.length:Int)>300 by omega),decide_eq_false (show ¬((line.length+2:Nat):Int)>1500 by omega),if_neg (show ¬(line.length>300∨line.length+2>1500)by omega)]
  obtain⟨x0,x1,hf,hx⟩:=implFirst_is line (by omega)
  refine Ev.step (f:=fun k=>(impl_readFirst.f k (mkB line) false).bind fun b=>(if b.2.2.2.2.2.2.2=true then(impl_ReadHead.l0 k false false (mkB t) ((line.length+2:Nat):Int) b.1 b.2.1 b.2.2.1 b.2.2.2.1 b.2.2.2.2.1 b.2.2.2.2.2.1 b.2.2.2.2.2.2.1)else some (badH 400))) (fun k=>by simp only[impl_ReadHead.j1,Bool.false_eq_true,if_false,if_true,badH]) ?_
  refine hf.bind ?_
  cases hfl:firstL line with
  |none=>simp only[Option.isSome_none,Bool.false_eq_true,if_false];exact Ev.now _
  |some p=>
   obtain⟨a,b⟩:=p
   obtain⟨rfl,rfl⟩:=hx a b hfl
   simp only[Option.isSome_some,if_true]
   have hg:=implHead_go t hl (mkB a) (mkB b) 20 (line.length+2) [] rfl hn
   have e:rHH (if(hdL t 21 (line.length+2) []).1=0 then(0,(hdL t 21 (line.length+2) []).2.1,a,b,(hdL t 21 (line.length+2) []).2.2)else((hdL t 21 (line.length+2) []).1,0,[],[],[]))=rH (mkB a) (mkB b) (hdL t 21 (line.length+2) []):=by
    unfold rHH rH
    by_cases hz:(hdL t 21 (line.length+2) []).1=0
    ·simp only[if_pos hz];simp
    ·simp only[if_neg hz]
   rw[e]
   exact hg
 ·rw[takeLineL_no (by rw[ed];exact h0)]
  simp only[ed,if_neg h0,if_neg (show ¬((scanL t).2:Int)=0 by omega)]
  exact Ev.now _
theorem readFieldL_ok {l:List UInt8} (h:(readFieldL l).2.2=true):fldOk ⟨(readFieldL l).1,(readFieldL l).2.1⟩=true:=by
 unfold readFieldL at h ⊢
 split at h
 ·rename_i hc
  rw[if_pos hc]
  simp only[fldOk,bl_mk];exact hc.2
 ·exact absurd h Bool.false_ne_true
theorem hd_ok (t:List UInt8): ∀(c at_:Nat) (fs:List IFld),(∀x∈fs,fldOk x=true)→at_≤t.length→(hdL t c at_ fs).1=0→(∀x∈(hdL t c at_ fs).2.2,fldOk x=true)∧(hdL t c at_ fs).2.2.length<fs.length+c∧(hdL t c at_ fs).2.1≤t.length
 |0,at_,fs,_,_,h=>by simp[hdL]at h
 |c+1,at_,fs,ho,ha,h=>by
  rw[hdL]at h ⊢
  by_cases h0:(scanL (t.drop at_)).2=0
  ·have hn:=scan_end ha h0
   simp only[if_pos h0]at h ⊢
   by_cases h1:(scanL (t.drop at_)).1.length>300∨at_+(scanL (t.drop at_)).1.length+2>1500
   ·rw[if_pos h1]at h;exact absurd h (by decide)
   rw[if_neg h1]at h
   simp only[if_neg h1]
   by_cases h2:(scanL (t.drop at_)).1= []
   ·simp only[if_pos h2];exact⟨ho,by omega,by omega⟩
   rw[if_neg h2]at h
   simp only[if_neg h2]
   by_cases h3:c=0
   ·rw[if_pos h3]at h;exact absurd h (by decide)
   rw[if_neg h3]at h
   simp only[if_neg h3]
   by_cases h4:(readFieldL (scanL (t.drop at_)).1).2.2=true
   ·rw[if_pos h4]at h
    simp only[if_pos h4]
    have:=hd_ok t c _ (fs++ [⟨(readFieldL (scanL (t.drop at_)).1).1,(readFieldL (scanL (t.drop at_)).1).2.1⟩]) (by
     intro x hx
     rcases List.mem_append.1 hx with hx|hx
     ·exact ho x hx
     ·simp at hx;subst hx;exact readFieldL_ok h4) hn h
    refine⟨this.1,?_,this.2.2⟩
    have h5:=this.2.1
    simp only[List.length_append,List.length_cons,List.length_nil]at h5
    omega
   ·rw[if_neg h4]at h;exact absurd h (by decide)
  ·rw[if_neg h0]at h;exact absurd h (by decide)
theorem firstL_parts {l a b:List UInt8} (h:firstL l=some (a,b)):(tokenL a&&decide (a.length≤20)&&(decide (1≤b.length)&&decide (b.length≤200)&&b.all visB))=true:=by
 unfold firstL at h
 split at h
 ·split at h
  ·rename_i hc
   have:=Option.some.inj h
   injection this with q1 q2
   subst q1;subst q2;exact hc.2
  ·cases h
 ·cases h
structure RqOk (t:List UInt8) (r:Int×Nat×List UInt8×List UInt8×List IFld):Prop where
 flds: ∀x∈r.2.2.2.2,fldOk x=true
 few:r.2.2.2.2.length≤20
 at_:r.2.1≤t.length
 first:(tokenL r.2.2.1&&decide (r.2.2.1.length≤20)&&(decide (1≤r.2.2.2.1.length)&&decide (r.2.2.2.1.length≤200)&&r.2.2.2.1.all visB))=true
theorem rqHead_ok (t:List UInt8) (h:(rqHead t).1=0):RqOk t (rqHead t):=by
 unfold rqHead at h ⊢
 by_cases h4:t.length>4000
 ·rw[if_pos h4]at h;exact absurd h (by decide)
 rw[if_neg h4]at h ⊢
 by_cases h0:(scanL t).2=0
 ·rw[if_pos h0]at h ⊢
  by_cases h1:(scanL t).1.length>300∨(scanL t).1.length+2>1500
  ·rw[if_pos h1]at h;exact absurd h (by decide)
  rw[if_neg h1]at h ⊢
  cases hf:firstL (scanL t).1 with
  |none=>rw[hf]at h;exact absurd h (by simp)
  |some p=>
   obtain⟨a,b⟩:=p
   rw[hf]at h
   simp only at h ⊢
   by_cases h2:(hdL t 21 ((scanL t).1.length+2) []).1=0
   ·rw[if_pos h2]
    obtain⟨q1,q2,q3⟩:=hd_ok t 21 ((scanL t).1.length+2) [] (by simp) (scanL_len t h0) h2
    simp only[List.length_nil]at q2
    exact⟨q1,by simp only;omega,q3,firstL_parts hf⟩
   ·rw[if_neg h2]at h;exact absurd h h2
 ·rw[if_neg h0]at h;exact absurd h (by decide)
theorem fldOk_sz {x:IFld} (h:fldOk x=true):x.f0.size≤40∧x.f1.size≤190:=by
 have:=fieldL_parts h
 rw[size_bl,size_bl]at this
 exact⟨this.2.1,this.2.2.1⟩
theorem totG_le (l:List IFld) (h: ∀x∈l,fldOk x=true):totG l≤230*l.length:=by
 induction l with
 |nil=>simp[totG]
 |cons x l ih=>
  have h1:=fldOk_sz (h x (by simp))
  have h2:=ih (fun y hy=>h y (List.mem_cons_of_mem _ hy))
  simp only[totG,List.map_cons,List.sum_cons,List.length_cons]at h2 ⊢
  omega
theorem totF_totG (l:List IFld):totF l=totG l:=rfl
theorem implLit_is (x:IFld) (hx:smallF x):impl_readMsg_1.f x.f0=some (!(isN lCL x||isN lTE x||isN lTR x)):=by
 unfold impl_readMsg_1.f
 rw[implFold_is _ (by have:=hx.1;omega)]
 have e:impl_framed.f=some [mkB lCL,mkB lTE,mkB lTR]:=rfl
 rw[e]
 simp only[Option.bind_some,slices_Contains_string_string.f]
 rw[if_pos (by simp)]
 simp only[Option.bind_some]
 congr 1
 congr 1
 rw[Bool.eq_iff_iff,Lib.containsS_iff]
 simp only[List.mem_cons,List.not_mem_nil,or_false,Bool.or_eq_true,isN,decide_eq_true_eq]
 have hq: ∀n:List UInt8,lowS x.f0=mkB n↔bl (lowS x.f0)=n:=fun n=>⟨fun h=>by rw[h,bl_mk],fun h=>by rw[←h,mk_bl]⟩
 rw[hq,hq,hq,or_assoc]
theorem filtK_go {α β:Type} (L:Nat→List α→List β→Int→Option (List β)) (p:α→Bool) (g:α→β) (ok:α→Prop) (z:α)
  (hstep: ∀k l acc (i:Int),0≤i→i<(l.length:Int)→acc.length<4398046511104→ok (l.getD i.toNat z)→L (k+1) l acc i=if p (l.getD i.toNat z)=true then L k l (acc++ [g (l.getD i.toNat z)]) (wrap64 (i+1))else L k l acc (wrap64 (i+1)))
  (hend: ∀k l acc,L (k+1) l acc (l.length:Int)=some acc):
  ∀(r pre:List α) (acc:List β),(∀x∈r,ok x)→acc.length+r.length≤1048576→(pre++r).length≤1048576→Ev (fun k=>L k (pre++r) acc pre.length) (acc++(r.filter p).map g)
 | [],pre,acc,_,_,_=>Ev.step (f:=fun _=>some acc) (fun k=>by simpa using hend k pre acc) (by simpa using Ev.now acc)
 |x::r,pre,acc,ho,ha,hl=>by
  have hx:=ho x (by simp)
  simp only[List.length_cons]at ha
  have hw:wrap64 ((pre.length:Int)+1)=(pre.length:Int)+1:=by simp at hl;exact wrap_id (by omega) (by omega)
  have hs:=fun k=>hstep k (pre++x::r) acc pre.length (by omega) (len_mid ..) (by omega) (by rw[getD_mid];exact hx)
  simp only[getD_mid,hw]at hs
  by_cases hp:p x=true
  ·have ih:=filtK_go L p g ok z hstep hend r (pre++ [x]) (acc++ [g x]) (fun y hy=>ho y (List.mem_cons_of_mem _ hy)) (by simp;omega) (by rw[←app_mid];exact hl)
   rw[←app_mid,len_snoc]at ih
   rw[List.filter_cons_of_pos hp,List.map_cons,show acc++g x::(r.filter p).map g=acc++ [g x]++(r.filter p).map g by simp]
   exact Ev.step (fun k=>by rw[hs,if_pos hp]) ih
  ·have ih:=filtK_go L p g ok z hstep hend r (pre++ [x]) acc (fun y hy=>ho y (List.mem_cons_of_mem _ hy)) (by omega) (by rw[←app_mid];exact hl)
   rw[←app_mid,len_snoc]at ih
   rw[List.filter_cons_of_neg hp]
   exact Ev.step (fun k=>by rw[hs,if_neg hp]) ih
theorem implKept_is (l:List IFld) (hl:l.length≤1048576) (ho: ∀x∈l,smallF x):Ev (fun k=>impl_kept__impl_readMsg_1.f k l) (keepF l):=by
 unfold impl_kept__impl_readMsg_1.f keepF
 refine(implFieldsOk_is l).bind ?_
 by_cases h:fldsOk l=true
 ·simp only[if_pos h]
  have:=filtK_go (fun k l acc i=>impl_kept__impl_readMsg_1.l0 k acc l (l.length:Int) i) (fun x=>!(isN lCL x||isN lTE x||isN lTR x)) (fun x=>x) smallF z82
   (fun k l acc i h0 h1 h2 h3=>by simp only[impl_kept__impl_readMsg_1.l0];rw[if_pos h1,if_pos h0,if_pos h1];simp only[rd_T82];rw[implLit_is _ h3];simp only[Option.bind_some,if_pos h2])
   (fun k l acc=>by simp only[impl_kept__impl_readMsg_1.l0];rw[if_neg (by omega)]) l [] [] ho (by simpa using hl) (by simpa using hl)
  simpa using this
 ·simp only[if_neg h];exact Ev.now _
theorem keepF_sub (l:List IFld): ∀x∈keepF l,x∈l:=by
 intro x hx
 unfold keepF at hx
 split at hx
 ·exact(List.mem_filter.1 hx).1
 ·cases hx
theorem keepF_len (l:List IFld):(keepF l).length≤l.length:=by
 unfold keepF
 split
 ·exact List.length_filter_le _ _
 ·simp
abbrev MsgR:=ByteArray×ByteArray×Int×ByteArray×Bool×List IFld×ByteArray×Int
def badM (c:Int):MsgR:=((⟨#[]⟩:ByteArray),(⟨#[]⟩:ByteArray),0,(⟨#[]⟩:ByteArray),false,[],(⟨#[]⟩:ByteArray),c)
def rM (r:RqR):MsgR:=(mkB r.1,mkB r.2.1,0,(⟨#[]⟩:ByteArray),false,r.2.2.1,mkB r.2.2.2.1,r.2.2.2.2)
theorem chL_len (r:List UInt8): ∀(c at_:Nat) (b:List UInt8),b.length≤600→(chL r c at_ b).1.length≤600:=by
 intro c
 induction c with
 |zero=>intro at_ b hb;simp[chL]
 |succ c ih=>
  intro at_ b hb
  rw[chL]
  by_cases h0:(scanL (r.drop at_)).2=0∧(scanL (r.drop at_)).1.length≤300
  ·rw[if_pos h0]
   by_cases h1:(readHexT (cutB 59 (scanL (r.drop at_)).1).1).2=true
   ·rw[if_pos h1]
    by_cases h2:b.length+(readHexT (cutB 59 (scanL (r.drop at_)).1).1).1.toNat>600
    ·rw[if_pos h2];simp
    rw[if_neg h2]
    by_cases h3:(readHexT (cutB 59 (scanL (r.drop at_)).1).1).1.toNat=0
    ·rw[if_pos h3]
     split
     ·exact hb
     ·simp
    rw[if_neg h3]
    split
    ·exact ih _ _ (by rw[List.length_append,List.length_take];omega)
    ·simp
   ·rw[if_neg h1];simp
  ·rw[if_neg h0];simp
theorem kindL_is (te cl bare:Bool) (n:Int):(kindL te cl false bare n).1=0∨(kindL te cl false bare n).1=1∨(kindL te cl false bare n).1=2:=by
 unfold kindL;cases bare<;>cases te<;>cases cl<;>simp
theorem framing_is (l:List IFld) (bare:Bool):(framingL l false bare).1=0∨(framingL l false bare).1=1∨(framingL l false bare).1=2∨(framingL l false bare).1=4:=by
 unfold framingL
 split
 ·split
  ·simp
  ·split
   ·split
    ·rcases kindL_is (hasL l nTE) true bare ‹Int› with h|h|h<;>simp[h]
    ·simp
   ·rcases kindL_is (hasL l nTE) false bare 0 with h|h|h<;>simp[h]
 ·simp
theorem bodyL_len (k n:Int) (r:List UInt8) (h:(bodyL k n r).2=0):(bodyL k n r).1.length≤r.length+600:=by
 unfold bodyL at h ⊢
 by_cases h4:k=4
 ·rw[if_pos h4];simp
 rw[if_neg h4]at h ⊢
 by_cases h0:k=0
 ·rw[if_pos h0];split<;>simp
 rw[if_neg h0]at h ⊢
 by_cases h1:k=1
 ·rw[if_pos h1]at h ⊢
  split
  ·simp
  ·split<;>simp
 rw[if_neg h1]at h ⊢
 by_cases h5:(chunksL r).2=0
 ·rw[if_pos h5]
  have:=chL_len r (r.length+1) 0 [] (by simp)
  unfold chunksL;omega
 ·rw[if_neg h5];simp
theorem implReadMsg_is (t:List UInt8) (hl:t.length≤1048576):Ev (fun k=>impl_readMsg.f k (mkB t) false false) (rM (rqL t)):=by
 unfold impl_readMsg.f rqL
 refine(implReadHead_is t hl).bind ?_
 by_cases h0:(rqHead t).1=0
 ·have hk:=rqHead_ok t h0
  have e:rHH (rqHead t)=(mkB (rqHead t).2.2.1,mkB (rqHead t).2.2.2.1,0,(⟨#[]⟩:ByteArray),false,(rqHead t).2.2.2.2,(⟨#[]⟩:ByteArray),((rqHead t).2.1:Int),0):=by unfold rHH;rw[if_pos h0]
  rw[e]
  simp only[if_pos h0,if_true,Bool.false_eq_true,if_false]
  obtain⟨q1,q2,q3,q4⟩:=hk
  generalize (rqHead t).2.2.1=a at*
  generalize (rqHead t).2.2.2.1=b at*
  generalize (rqHead t).2.2.2.2=fs at*
  generalize (rqHead t).2.1=n at*
  have htot:=totG_le fs q1
  have hfr:=implFraming_is fs false false (by omega) (by rw[totF_totG];omega)
  have hxt:(mkB t).extract ((n:Nat):Int).toNat (mkB t).size=mkB (t.drop n):=by
   rw[extract_mk,Int.toNat_natCast,size_mk,List.take_of_length_le (by simp)]
  have ez:mkB []=(⟨#[]⟩:ByteArray):=rfl
  have hj1: ∀body:List UInt8,body.length≤1048576→Ev (fun k=>impl_readMsg.j1 k (mkB body) (mkB a) (mkB b) 0 (⟨#[]⟩:ByteArray) false fs (⟨#[]⟩:ByteArray)) (rM (if msgOk (mkB a) (mkB b) 0 (⟨#[]⟩:ByteArray) false (keepF fs) (mkB body)=true then(a,b,keepF fs,body,0)else([],[],[],[],431))):=by
   intro body hb
   refine Ev.step (f:=fun k=>(impl_kept__impl_readMsg_1.f k fs).bind fun t375=>((impl_MsgOk.f k (mkB a) (mkB b) 0 (⟨#[]⟩:ByteArray) false t375 (mkB body)).bind fun t378=>(if t378=true then(some ((mkB a,mkB b,0,(⟨#[]⟩:ByteArray),false,t375,mkB body,0):MsgR))else(some (badM 431))))) (fun k=>by simp only[impl_readMsg.j1,badM]) ?_
   refine(implKept_is fs (by omega) (smallF_totG fs (by omega))).bind ?_
   have hkl:=keepF_len fs
   have hkt:=totG_le (keepF fs) (fun x hx=>q1 x (keepF_sub fs x hx))
   have q4':=q4
   simp only[Bool.and_eq_true,decide_eq_true_eq]at q4'
   have hS:SmallM (mkB a) (mkB b) 0 (⟨#[]⟩:ByteArray) (keepF fs) (mkB body):=⟨by rw[size_mk];have:=q4'.1.2;omega,by rw[size_mk];have:=q4'.2.1.2;omega,by decide,by rw[size_mk];exact hb,by omega,by omega,by omega,by omega⟩
   refine(implMsgOk_is _ _ _ _ _ _ _ hS).bind ?_
   cases msgOk (mkB a) (mkB b) 0 (⟨#[]⟩:ByteArray) false (keepF fs) (mkB body)
   ·simpa [rM,badM,ez]using Ev.now _
   ·simpa [rM]using Ev.now _
  have hrl:(t.drop n).length≤1048576:=by rw[List.length_drop];omega
  have hj0: ∀r,Ev (fun k=>(if(framingL fs false false).1=4 then(some (badM 400))else(if(framingL fs false false).1=0 then(if t.drop n= []then(impl_readMsg.j1 k (mkB (t.drop n)) (mkB a) (mkB b) 0 (⟨#[]⟩:ByteArray) false fs (⟨#[]⟩:ByteArray))else(some (badM 400)))else(if(framingL fs false false).1=1 then(if(framingL fs false false).2>600 then(some (badM 413))else(if((t.drop n).length:Int)=(framingL fs false false).2 then(impl_readMsg.j1 k (mkB (t.drop n)) (mkB a) (mkB b) 0 (⟨#[]⟩:ByteArray) false fs (⟨#[]⟩:ByteArray))else(some (badM 400))))else(if(framingL fs false false).1=2 then((impl_Chunks.f k (mkB (t.drop n))).bind fun bt373=>(if bt373.2=0 then(impl_readMsg.j1 k bt373.1 (mkB a) (mkB b) 0 (⟨#[]⟩:ByteArray) false fs (⟨#[]⟩:ByteArray))else(some (badM bt373.2))))else(if(framingL fs false false).1=3 then(if((t.drop n).length:Int)>600 then(some (badM 413))else(impl_readMsg.j1 k (mkB (t.drop n)) (mkB a) (mkB b) 0 (⟨#[]⟩:ByteArray) false fs (⟨#[]⟩:ByteArray)))else(impl_readMsg.j1 k (mkB (t.drop n)) (mkB a) (mkB b) 0 (⟨#[]⟩:ByteArray) false fs (⟨#[]⟩:ByteArray)))))))) r→Ev (fun k=>impl_readMsg.j0 k (mkB t) false ((n:Nat):Int) (mkB a) (mkB b) 0 (⟨#[]⟩:ByteArray) false fs (⟨#[]⟩:ByteArray)) r:=by
   intro r hr
   refine Ev.step (f:=fun k=>(impl_Framing.f k fs false false).bind fun bt371=>(if bt371.1=4 then(some (badM 400))else(if bt371.1=0 then(if t.drop n= []then(impl_readMsg.j1 k (mkB (t.drop n)) (mkB a) (mkB b) 0 (⟨#[]⟩:ByteArray) false fs (⟨#[]⟩:ByteArray))else(some (badM 400)))else(if bt371.1=1 then(if bt371.2>600 then(some (badM 413))else(if((t.drop n).length:Int)=bt371.2 then(impl_readMsg.j1 k (mkB (t.drop n)) (mkB a) (mkB b) 0 (⟨#[]⟩:ByteArray) false fs (⟨#[]⟩:ByteArray))else(some (badM 400))))else(if bt371.1=2 then((impl_Chunks.f k (mkB (t.drop n))).bind fun bt373=>(if bt373.2=0 then(impl_readMsg.j1 k bt373.1 (mkB a) (mkB b) 0 (⟨#[]⟩:ByteArray) false fs (⟨#[]⟩:ByteArray))else(some (badM bt373.2))))else(if bt371.1=3 then(if((t.drop n).length:Int)>600 then(some (badM 413))else(impl_readMsg.j1 k (mkB (t.drop n)) (mkB a) (mkB b) 0 (⟨#[]⟩:ByteArray) false fs (⟨#[]⟩:ByteArray)))else(impl_readMsg.j1 k (mkB (t.drop n)) (mkB a) (mkB b) 0 (⟨#[]⟩:ByteArray) false fs (⟨#[]⟩:ByteArray)))))))) (fun k=>?_) ?_
   ·simp only[impl_readMsg.j0,hxt,toList_mk,badM]
    rw[if_pos (by omega),if_pos (by rw[size_mk];omega)]
    simp only[size_mk]
   ·exact hfr.bind hr
  refine hj0 _ ?_
  have hb2:=bodyL_len (framingL fs false false).1 (framingL fs false false).2 (t.drop n)
  unfold bodyL at hb2 ⊢
  have hk3:=framing_is fs false
  generalize (framingL fs false false).1=kd at*
  generalize (framingL fs false false).2=ln at*
  by_cases c4:kd=4
  ·simp only[if_pos c4]
   simpa [rM,badM,ez]using Ev.now _
  simp only[if_neg c4]at hb2 ⊢
  by_cases c0:kd=0
  ·simp only[if_pos c0]at hb2 ⊢
   by_cases hr:t.drop n= []
   ·simp only[if_pos hr,hr]at hb2 ⊢
    simpa using hj1 [] (by simp)
   ·simp only[if_neg hr]
    simpa [rM,badM,ez]using Ev.now _
  simp only[if_neg c0]at hb2 ⊢
  by_cases c1:kd=1
  ·simp only[if_pos c1]at hb2 ⊢
   by_cases h6:ln>600
   ·simp only[if_pos h6]
    simpa [rM,badM,ez]using Ev.now _
   simp only[if_neg h6]
   by_cases h7:((t.drop n).length:Int)=ln
   ·simp only[if_pos h7]
    simpa using hj1 (t.drop n) hrl
   ·simp only[if_neg h7]
    simpa [rM,badM,ez]using Ev.now _
  simp only[if_neg c1]at hb2 ⊢
  by_cases c2:kd=2
  ·simp only[if_pos c2]
   refine(implChunks_is (t.drop n) hrl).bind ?_
   by_cases h8:(chunksL (t.drop n)).2=0
   ·simp only[if_pos h8]
    have hlen:(chunksL (t.drop n)).1.length≤1048576+600:=by
     have:=hb2 (by rw[if_pos h8];exact h8)
     rw[if_pos h8]at this;omega
    have hlen2:(chunksL (t.drop n)).1.length≤1048576:=by
     have:=chL_len (t.drop n) ((t.drop n).length+1) 0 [] (by simp)
     unfold chunksL;omega
    exact hj1 _ hlen2
   ·simp only[if_neg h8]
    simpa [rM,badM,ez]using Ev.now _
  ·exact absurd hk3 (by simp[c0,c1,c2,c4])
 ·have e:rHH (rqHead t)=badH (rqHead t).1:=by unfold rHH;rw[if_neg h0]
  rw[e]
  unfold badH
  simp only[if_neg h0]
  exact Ev.now (α:=MsgR) _
theorem implReadRequest_is (t:List UInt8) (hl:t.length≤1048576):Ev (fun k=>impl_ReadRequest.f k (mkB t)) (rM (rqL t)):=by
 unfold impl_ReadRequest.f
 exact(implReadMsg_is t hl).bind (Ev.now _)
theorem talk1:(rqL [71,69,84,32,47,32,72,84,84,80,47,49,46,49,13,10,65,58,32,98,13,10,13,10]).1= [71,69,84]∧(rqL [71,69,84,32,47,32,72,84,84,80,47,49,46,49,13,10,65,58,32,98,13,10,13,10]).2.2.1.length=1∧(rqL [71,69,84,32,47,32,72,84,84,80,47,49,46,49,13,10,65,58,32,98,13,10,13,10]).2.2.2.2=0:=by decide+kernel
theorem talk2:chunksL [49,13,10,120,13,10,48,13,10,13,10]=([120],0):=by decide+kernel
theorem talk3:(rqL [71,69,84,32,47,32,72,84,84,80,47,49,46,49,13,10,67,111,110,116,101,110,116,45,76,101,110,103,116,104,58,32,49,13,10,13,10]).2.2.2.2=400:=by decide+kernel
theorem talk4:msgOk (⟨#[]⟩:ByteArray) (⟨#[]⟩:ByteArray) 502 (⟨#[66,97,100,32,71,97,116,101,119,97,121]⟩:ByteArray) false [] (⟨#[]⟩:ByteArray)=true:=by decide+kernel
theorem canned_is:impl_Canned.f 502 false=some ((⟨#[]⟩:ByteArray),(⟨#[]⟩:ByteArray),502,(⟨#[66,97,100,32,71,97,116,101,119,97,121]⟩:ByteArray),false,[],(⟨#[]⟩:ByteArray)):=by rfl
theorem talks_is:Ev (fun k=>laws_talks.f k) true:=by
 unfold laws_talks.f
 refine Ev.bind (a:=rM (rqL [71,69,84,32,47,32,72,84,84,80,47,49,46,49,13,10,65,58,32,98,13,10,13,10])) (implReadRequest_is [71,69,84,32,47,32,72,84,84,80,47,49,46,49,13,10,65,58,32,98,13,10,13,10] (by decide)) ?_
 refine Ev.bind (a:=(mkB [120],(0:Int))) (by have:=implChunks_is [49,13,10,120,13,10,48,13,10,13,10] (by decide);rw[talk2]at this;exact this) ?_
 refine Ev.bind (a:=rM (rqL [71,69,84,32,47,32,72,84,84,80,47,49,46,49,13,10,67,111,110,116,101,110,116,45,76,101,110,103,116,104,58,32,49,13,10,13,10])) (implReadRequest_is [71,69,84,32,47,32,72,84,84,80,47,49,46,49,13,10,67,111,110,116,101,110,116,45,76,101,110,103,116,104,58,32,49,13,10,13,10] (by decide)) ?_
 obtain⟨h1,h2,h3⟩:=talk1
 have h4:=talk3
 simp only[rM,toList_mk,h1,h2,h3,h4,canned_is,if_true,Option.bind_some]
 simp only[if_pos (show((1:Nat):Int)=1 from rfl)]
 refine(implMsgOk_is _ _ 502 _ false [] _ ⟨by decide,by decide,by decide,by decide,by omega,by omega,by simp,by simp[totG]⟩).bind ?_
 rw[talk4]
 exact Ev.now true
theorem i64_and255 (n:Int):Go.bits .and .i64 n 255=n%256:=by
 have h255:(BitVec.ofInt 64 255).toNat=2^8-1:=by decide
 have key:(BitVec.ofInt 64 n&&&BitVec.ofInt 64 255).toNat=(n%((2^64:Nat):Int)).toNat%2^8:=by
  rw[BitVec.toNat_and,BitVec.toNat_ofInt,h255,Nat.and_two_pow_sub_one_eq_mod]
 show IntKind.i64.wrap ((BitVec.ofInt 64 n&&&BitVec.ofInt 64 255).toNat:Nat)=n%256
 rw[key,IntKind.wrap_i64]
 omega
def StOk (b:List Int) (i:Int):Prop:=0≤i∧i≤(b.length:Int)∧(b.length:Int)≤9223372036854775807
theorem l1Byte_ok (b:List Int) (i h:Int) (hs:StOk b i): ∃x i' h',spec_l1Byte.f b i h=some (x,i',h')∧0≤x∧x≤255∧StOk b i':=by
 obtain⟨h0,h1,h2⟩:=hs
 unfold spec_l1Byte.f
 simp only[i64_and255]
 by_cases c:i<(b.length:Int)
 ·rw[if_pos c,if_pos h0,wrap_id (a:=i+1) (by omega) (by omega)]
  exact⟨_,_,_,rfl,by omega,by omega,by omega,by omega,h2⟩
 ·rw[if_neg c]
  exact⟨_,_,_,rfl,by omega,by omega,h0,h1,h2⟩
theorem l1Below_ok (b:List Int) (i h n:Int) (hs:StOk b i): ∃x i' h',spec_l1Below.f b i h n=some (x,i',h')∧0≤x∧(n≤0→x=0)∧(0<n→x<n)∧StOk b i':=by
 unfold spec_l1Below.f
 by_cases c:n≤0
 ·rw[if_pos c];exact⟨_,_,_,rfl,by omega,fun _=>rfl,by omega,hs⟩
 rw[if_neg c]
 have hn0: ¬n=0:=by omega
 by_cases c2:n≤256
 ·rw[if_pos c2]
  obtain⟨x,i1,h1,e1,x0,x1,s1⟩:=l1Byte_ok b i h hs
  rw[e1,Option.bind_some,if_neg hn0,Int.tmod_eq_emod_of_nonneg x0]
  exact⟨_,_,_,rfl,Int.emod_nonneg _ hn0,by omega,fun _=>Int.emod_lt_of_pos _ (by omega),s1⟩
 ·rw[if_neg c2]
  obtain⟨x,i1,h1,e1,x0,x1,s1⟩:=l1Byte_ok b i h hs
  obtain⟨y,i2,h2,e2,y0,y1,s2⟩:=l1Byte_ok b i1 h1 s1
  obtain⟨z,i3,h3,e3,z0,z1,s3⟩:=l1Byte_ok b i2 h2 s2
  obtain⟨u,i4,h4,e4,u0,u1,s4⟩:=l1Byte_ok b i3 h3 s3
  simp only[e1,Option.bind_some,e2,e3,e4,if_neg hn0]
  rw[wrap_id (a:=x*16777216) (by omega) (by omega),wrap_id (a:=y*65536) (by omega) (by omega),wrap_id (a:=z*256) (by omega) (by omega),wrap_id (a:=x*16777216+y*65536) (by omega) (by omega),wrap_id (a:=x*16777216+y*65536+z*256) (by omega) (by omega),wrap_id (a:=x*16777216+y*65536+z*256+u) (by omega) (by omega)]
  have q0:0≤x*16777216+y*65536+z*256+u:=by omega
  rw[Int.tmod_eq_emod_of_nonneg q0]
  exact⟨_,_,_,rfl,Int.emod_nonneg _ hn0,by omega,fun _=>Int.emod_lt_of_pos _ (by omega),s4⟩
theorem l1New_go (l:List Int) (hl:(l.length:Int)≤9223372036854775807): ∀(n:Nat) (i h:Int),0≤i→i≤4000→(4000-i).toNat=n→ ∃h',Ev (fun k=>spec_l1New.l0 k l h i) (l,0,h'):=by
 intro n
 induction n with
 |zero=>
  intro i h h0 h1 hn
  refine⟨h,Ev.step (f:=fun _=>some (l,(0:Int),h)) (fun k=>?_) (Ev.now _)⟩
  rw[spec_l1New.l0]
  by_cases c:i<(l.length:Int)
  ·rw[if_pos c,if_neg (by omega)]
  ·rw[if_neg c]
 |succ n ih=>
  intro i h h0 h1 hn
  by_cases c:i<(l.length:Int)
  ·obtain⟨h',he⟩:=ih (i+1) (Go.bits .and .i64 (wrap64 ((wrap64 ((wrap64 (h*131))+(wrap64 (rd l i))))+7)) 1073741823) (by omega) (by omega) (by omega)
   refine⟨h',Ev.step (fun k=>?_) he⟩
   rw[spec_l1New.l0,if_pos c,if_pos (by omega),if_pos h0,wrap_id (a:=i+1) (by omega) (by omega)]
  ·exact⟨h,Ev.step (f:=fun _=>some (l,(0:Int),h)) (fun k=>by rw[spec_l1New.l0,if_neg c]) (Ev.now _)⟩
theorem l1New_ok (l:List Int) (hl:l.length≤9223372036854775807): ∃h',Ev (fun k=>spec_l1New.f k l) (l,0,h'):=l1New_go l (by omega) _ 0 _ (by omega) (by omega) rfl
theorem StOk_new (l:List Int) (hl:l.length≤9223372036854775807):StOk l 0:=⟨by omega,by omega,by omega⟩
theorem l1of_go (s:ByteArray) (hs0:0<s.size) (b:List Int) (n:Int) (hn:n≤1000000): ∀(m:Nat) (acc:List Int) (i h j:Int),0≤j→(n-j).toNat=m→(acc.length:Int)=j→StOk b i→
  ∃r i' h',Ev (fun k=>spec_l1of.l0 k n s acc j b i h) (r,i',h')∧(r.size:Int)=max j n∧StOk b i':=by
 intro m
 induction m with
 |zero=>
  intro acc i h j hj hm ha hs
  exact⟨strOfNums acc,i,h,Ev.step (f:=fun _=>some (strOfNums acc,i,h)) (fun k=>by rw[spec_l1of.l0,if_neg (by omega)]) (Ev.now _),by rw[size_strOf];omega,hs⟩
 |succ m ih=>
  intro acc i h j hj hm ha hs
  obtain⟨x,i1,h1,e1,x0,_,x1,s1⟩:=l1Below_ok b i h (s.size:Int) hs
  obtain⟨r,i2,h2,he,hr,s2⟩:=ih (acc++ [bt s x]) i1 h1 (j+1) (by omega) (by omega) (by rw[List.length_append,List.length_singleton];omega) s1
  refine⟨r,i2,h2,Ev.step (fun k=>?_) he,by omega,s2⟩
  rw[spec_l1of.l0,if_pos (by omega),e1,Option.bind_some,if_pos x0,if_pos (x1 (by omega)),if_pos (by omega),wrap_id (a:=j+1) (by omega) (by omega)]
theorem l1of_ok (b:List Int) (i h n:Int) (s:ByteArray) (hs0:0<s.size) (hn:n≤1000000) (hs:StOk b i): ∃r i' h',Ev (fun k=>spec_l1of.f k b i h n s) (r,i',h')∧(r.size:Int)=max 0 n∧StOk b i':=
 l1of_go s hs0 b n hn _ [] i h 0 (by omega) rfl rfl hs
theorem l1Once_ok (b:List Int) (i h n:Int) (hs:StOk b i): ∃x i' h',spec_l1Once.f b i h n=some (x,i',h')∧StOk b i':=by
 obtain⟨x,i1,h1,e1,_,_,_,s1⟩:=l1Below_ok b i h n hs
 unfold spec_l1Once.f
 rw[e1,Option.bind_some]
 exact⟨_,_,_,rfl,s1⟩
theorem l1bend_ok (b:List Int) (i h:Int) (s:ByteArray) (hz:s.size≤100000) (hs:StOk b i): ∃r i' h',spec_l1bend.f b i h s=some (r,i',h')∧r.size≤s.size+1∧StOk b i':=by
 unfold spec_l1bend.f
 rw[if_pos (by omega)]
 obtain⟨x,i1,h1,e1,x0,_,x1,s1⟩:=l1Below_ok b i h ((s.size:Int)+1) hs
 have x2:=x1 (by omega)
 obtain⟨y,i2,h2,e2,y0,_,y1,s2⟩:=l1Below_ok b i1 h1 4 s1
 have ha:(s.extract 0 x.toNat).size=x.toNat:=by rw[ByteArray.size_extract];omega
 have hb:(s.extract x.toNat s.size).size=s.size-x.toNat:=by rw[ByteArray.size_extract];omega
 simp only[e1,Option.bind_some,e2]
 by_cases c0:y=0
 ·obtain⟨z,i3,h3,e3,z0,z1,s3⟩:=l1Byte_ok b i2 h2 s2
  have h1z:(strOfNums [z%256]).size=1:=by rw[size_strOf];rfl
  rw[if_pos c0,if_pos x0,if_pos (by omega)]
  simp only[e3,Option.bind_some]
  rw[if_pos (by rw[ha,h1z];omega),if_pos (by rw[ByteArray.size_append,ha,h1z,hb];omega)]
  exact⟨_,_,_,rfl,by rw[ByteArray.size_append,ByteArray.size_append,ha,h1z,hb];omega,s3⟩
 rw[if_neg c0]
 by_cases c1:y=1
 ·rw[if_pos c1,if_pos x0,if_pos (by omega)]
  exact⟨_,_,_,rfl,by rw[ha];omega,s2⟩
 rw[if_neg c1]
 have hadd: ∃r i' h',(if s.size+1≤9223372036854775807 then(some (s++(⟨#[48]⟩:ByteArray),i2,h2))else none)=some (r,i',h')∧r.size≤s.size+1∧StOk b i':=by
  rw[if_pos (by omega)]
  exact⟨_,_,_,rfl,by rw[ByteArray.size_append];exact Nat.le_refl _,s2⟩
 by_cases c2:y=2
 ·rw[if_pos c2]
  by_cases c3:x<(s.size:Int)
  ·have hw:wrap64 (x+1)=x+1:=wrap_id (by omega) (by omega)
   have hc:(s.extract (x+1).toNat s.size).size=s.size-(x+1).toNat:=by rw[ByteArray.size_extract];omega
   rw[if_pos c3,if_pos x0,if_pos (by omega),hw,if_pos (by omega),if_pos (by omega),if_pos (by rw[ha,hc];omega)]
   exact⟨_,_,_,rfl,by rw[ByteArray.size_append,ha,hc];omega,s2⟩
  ·rw[if_neg c3];exact hadd
 rw[if_neg c2]
 by_cases c3:x<(s.size:Int)
 ·obtain⟨z,i3,h3,e3,z0,_,z1,s3⟩:=l1Below_ok b i2 h2 8 s2
  have hlen:(bytesOf s).length=s.size:=bytesOf_length s
  rw[if_pos c3,if_pos x0,if_pos (by rw[hlen];exact c3)]
  simp only[e3,Option.bind_some]
  rw[if_pos z0]
  exact⟨_,_,_,rfl,by rw[size_strOf,List.length_set,hlen];omega,s3⟩
 ·rw[if_neg c3];exact hadd
def FB (l:List IFld):Prop:= ∀x∈l,x.f0.size≤1000∧x.f1.size≤1000
theorem FB_snoc {l:List IFld} {x:IFld} (h:FB l) (h0:x.f0.size≤1000) (h1:x.f1.size≤1000):FB (l++ [x]):=by
 intro y hy
 rcases List.mem_append.1 hy with hy|hy
 ·exact h y hy
 ·rw[List.mem_singleton.1 hy];exact⟨h0,h1⟩
theorem l1Pick_ok (b:List Int) (i h:Int) (l:List Int) (hl:0<l.length) (hs:StOk b i): ∃x i' h',spec_l1PickInt.f b i h l=some (x,i',h')∧x∈l∧StOk b i':=by
 obtain⟨y,i1,h1,e1,y0,_,y1,s1⟩:=l1Below_ok b i h (l.length:Int) hs
 have y2:=y1 (by omega)
 refine⟨rd l y,i1,h1,?_,?_,s1⟩
 ·unfold spec_l1PickInt.f
  rw[e1,Option.bind_some,if_pos y0,if_pos y2]
 ·unfold rd
  rw[List.getD_eq_getElem?_getD,List.getElem?_eq_getElem (by omega)]
  exact List.getElem_mem _
theorem decDigits_len (n:Nat) (h:n≤999999999999999):(mkB (Lib.decDigits n)).size≤15:=by
 rw[size_mk]
 have h1:=nDigits_le15 n h
 have h2:(Lib.decDigits n).length≤Lib.nDigits n:=by
  first|exact Nat.le_of_eq (Lib.decDigits_length n)|exact Nat.le_of_eq (Lib.length_decDigits n)|(simp[Lib.nDigits];done)
 omega
theorem l6field_ok (b:List Int) (i h:Int) (hs:StOk b i): ∃n v i' h',Ev (fun k=>spec_l6field.f k b i h) (n,v,i',h')∧n.size≤1000∧v.size≤1000∧StOk b i':=by
 unfold spec_l6field.f
 obtain⟨x,i1,h1,e1,x0,_,x1,s1⟩:=l1Below_ok b i h 12 hs
 simp only[e1,Option.bind_some]
 by_cases c0:x=0
 ·obtain⟨y,i2,h2,e2,y0,_,y1,s2⟩:=l1Below_ok b i1 h1 60 s1
  have y2:=y1 (by omega)
  obtain⟨n,rfl⟩: ∃n:Nat,y=n:=⟨y.toNat,by omega⟩
  have hd:=specDec_is n (by omega)
  have hz:=decDigits_len n (by omega)
  refine⟨(⟨#[67,97,99,104,101,45,67,111,110,116,114,111,108]⟩:ByteArray),(⟨#[109,97,120,45,97,103,101,61]⟩:ByteArray)++mkB (Lib.decDigits n),i2,h2,?_,by decide,?_,s2⟩
  ·simp only[if_pos c0,e2,Option.bind_some]
   refine hd.bind ?_
   simp only[if_pos (show 8+(mkB (Lib.decDigits n)).size≤9223372036854775807 by omega)]
   exact Ev.now _
  ·rw[ByteArray.size_append];have:(⟨#[109,97,120,45,97,103,101,61]⟩:ByteArray).size=8:=rfl;omega
 simp only[if_neg c0]
 by_cases c1:x=1
 ·obtain⟨r,i2,h2,e2,r2,s2⟩:=l1of_ok b i1 h1 1 (⟨#[97,98,99]⟩:ByteArray) (by decide) (by omega) s1
  have q1:(⟨#[34]⟩:ByteArray).size=1:=rfl
  refine⟨(⟨#[69,84,97,103]⟩:ByteArray),((⟨#[34]⟩:ByteArray)++r)++(⟨#[34]⟩:ByteArray),i2,h2,?_,by decide,?_,s2⟩
  ·simp only[if_pos c1]
   refine e2.bind ?_
   simp only[if_pos (show 1+r.size≤9223372036854775807 by omega),if_pos (show((⟨#[34]⟩:ByteArray)++r).size+1≤9223372036854775807 by rw[ByteArray.size_append];omega)]
   exact Ev.now _
  ·rw[ByteArray.size_append,ByteArray.size_append];omega
 simp only[if_neg c1]
 by_cases c2:x=2
 ·exact⟨_,_,i1,h1,by simp only[if_pos c2];exact Ev.now _,by decide,by decide,s1⟩
 simp only[if_neg c2]
 by_cases c3:x=3
 ·obtain⟨r,i2,h2,e2,r2,s2⟩:=l1of_ok b i1 h1 1 (⟨#[97,98]⟩:ByteArray) (by decide) (by omega) s1
  exact⟨_,r,i2,h2,by simp only[if_pos c3];exact e2.bind (Ev.now _),by decide,by omega,s2⟩
 simp only[if_neg c3]
 by_cases c4:x=4
 ·exact⟨_,_,i1,h1,by simp only[if_pos c4];exact Ev.now _,by decide,by decide,s1⟩
 simp only[if_neg c4]
 obtain⟨y,i2,h2,e2,y0,_,y1,s2⟩:=l1Below_ok b i1 h1 3 s1
 have y2:=y1 (by omega)
 obtain⟨r,i3,h3,e3,r3,s3⟩:=l1of_ok b i2 h2 (1+y) (⟨#[97,66,45]⟩:ByteArray) (by decide) (by omega) s2
 obtain⟨z,i4,h4,e4,z0,_,z1,s4⟩:=l1Below_ok b i3 h3 5 s3
 have z2:=z1 (by omega)
 obtain⟨q,i5,h5,e5,q5,s5⟩:=l1of_ok b i4 h4 z (⟨#[97,98,49,61]⟩:ByteArray) (by decide) (by omega) s4
 refine⟨r,q,i5,h5,?_,by omega,by omega,s5⟩
 simp only[e2,Option.bind_some,wrap_id (a:=1+y) (by omega) (by omega)]
 refine e3.bind ?_
 simp only[e4,Option.bind_some]
 exact e5.bind (Ev.now _)
structure MB (c:Nat) (a0 a1:ByteArray) (a2:Int) (a3:ByteArray) (l:List IFld) (a6:ByteArray):Prop where
 h0:a0.size≤c
 h1:a1.size≤c
 i0:0≤a2
 i1:a2≤1000
 h3:a3.size≤c
 hl:l.length≤60
 hf:FB l
 h6:a6.size≤c
theorem reasonOf_ok (n:Int): ∃r,spec_ReasonOf.f n=some r∧r.size≤100:=by
 unfold spec_ReasonOf.f
 repeat' split
 all_goals exact⟨_,rfl,by decide⟩
theorem bare_ok (n:Int): ∃r,spec_l6bare.f n=some r:=by
 unfold spec_l6bare.f
 split
 ·exact⟨_,rfl⟩
 ·exact⟨_,rfl⟩
abbrev MsgD:=ByteArray×ByteArray×Int×ByteArray×Bool×List IFld×ByteArray×Int×Int
theorem l6msg_go (b:List Int): ∀(m:Nat) (x:Int) (l:List IFld) (i h:Int),x.toNat=m→l.length+m≤10→FB l→StOk b i→
  ∃a0 a1 a2 a3 a4 l' a6 i' h',Ev (fun k=>spec_l6msg.l0 k x b i h (⟨#[]⟩:ByteArray) (⟨#[]⟩:ByteArray) 0 (⟨#[]⟩:ByteArray) false l (⟨#[]⟩:ByteArray)) ((a0,a1,a2,a3,a4,l',a6,i',h'):MsgD)∧MB 2000 a0 a1 a2 a3 l' a6∧l'.length≤10∧StOk b i':=by
 intro m
 induction m with
 |zero=>
  intro x l i h hx hl hf hs
  have hz:(⟨#[]⟩:ByteArray).size=0:=rfl
  obtain⟨y,i1,h1,e1,y0,_,y1,s1⟩:=l1Below_ok b i h 20 hs
  have y2:=y1 (by omega)
  obtain⟨r,i2,h2,e2,r2,s2⟩:=l1of_ok b i1 h1 y (⟨#[97,98,99,13,10,48]⟩:ByteArray) (by decide) (by omega) s1
  obtain⟨q,i3,h3,e3,s3⟩:=l1Once_ok b i2 h2 2 s2
  have hst: ∀R:MsgD,(Ev (fun k=>if q=true then((some (([(⟨#[71,69,84]⟩:ByteArray),(⟨#[72,69,65,68]⟩:ByteArray),(⟨#[80,79,83,84]⟩:ByteArray),(⟨#[68,69,76,69,84,69]⟩:ByteArray),(⟨#[120]⟩:ByteArray)]:List ByteArray):List ByteArray)).bind fun y447=>((spec_l1Below.f b i3 h3 5).bind fun bt450=>(if 0≤bt450.1 then(if bt450.1<(y447.length:Int)then((spec_l1Below.f b bt450.2.1 bt450.2.2 5).bind fun bt454=>((spec_l1of.f k b bt454.2.1 bt454.2.2 bt454.1 (⟨#[97,98,63]⟩:ByteArray)).bind fun bt457=>(if 17+bt457.1.size≤9223372036854775807 then(some ((rdOf ByteArray.empty y447 bt450.1,(⟨#[104,116,116,112,58,47,47,97,46,101,120,97,109,112,108,101,47]⟩:ByteArray)++bt457.1,0,(⟨#[]⟩:ByteArray),false,l,r,bt457.2.1,bt457.2.2):MsgD))else(none))))else(none))else(none))))else((spec_l1PickInt.f b i3 h3 (([200,200,204,304,404,599]:List Int))).bind fun bt463=>((spec_ReasonOf.f bt463.1).bind fun t466=>((spec_l6bare.f bt463.1).bind fun t467=>(if t467=true then(some (((⟨#[]⟩:ByteArray),(⟨#[]⟩:ByteArray),bt463.1,t466,true,l,(⟨#[]⟩:ByteArray),bt463.2.1,bt463.2.2):MsgD))else((spec_l1Once.f b bt463.2.1 bt463.2.2 5).bind fun bt468=>(if bt468.1=true then(some (((⟨#[]⟩:ByteArray),(⟨#[]⟩:ByteArray),bt463.1,t466,true,l,(⟨#[]⟩:ByteArray),bt468.2.1,bt468.2.2):MsgD))else(some (((⟨#[]⟩:ByteArray),(⟨#[]⟩:ByteArray),bt463.1,t466,false,l,r,bt468.2.1,bt468.2.2):MsgD))))))))) R)→Ev (fun k=>spec_l6msg.l0 k x b i h (⟨#[]⟩:ByteArray) (⟨#[]⟩:ByteArray) 0 (⟨#[]⟩:ByteArray) false l (⟨#[]⟩:ByteArray)) R:=by
   intro R hR
   refine Ev.step (f:=fun k=>(spec_l1of.f k b i1 h1 y (⟨#[97,98,99,13,10,48]⟩:ByteArray)).bind fun bt441=>((spec_l1Once.f b bt441.2.1 bt441.2.2 2).bind fun bt444=>(if bt444.1=true then((some (([(⟨#[71,69,84]⟩:ByteArray),(⟨#[72,69,65,68]⟩:ByteArray),(⟨#[80,79,83,84]⟩:ByteArray),(⟨#[68,69,76,69,84,69]⟩:ByteArray),(⟨#[120]⟩:ByteArray)]:List ByteArray):List ByteArray)).bind fun y447=>((spec_l1Below.f b bt444.2.1 bt444.2.2 5).bind fun bt450=>(if 0≤bt450.1 then(if bt450.1<(y447.length:Int)then((spec_l1Below.f b bt450.2.1 bt450.2.2 5).bind fun bt454=>((spec_l1of.f k b bt454.2.1 bt454.2.2 bt454.1 (⟨#[97,98,63]⟩:ByteArray)).bind fun bt457=>(if 17+bt457.1.size≤9223372036854775807 then(some ((rdOf ByteArray.empty y447 bt450.1,(⟨#[104,116,116,112,58,47,47,97,46,101,120,97,109,112,108,101,47]⟩:ByteArray)++bt457.1,0,(⟨#[]⟩:ByteArray),false,l,bt441.1,bt457.2.1,bt457.2.2):MsgD))else(none))))else(none))else(none))))else((spec_l1PickInt.f b bt444.2.1 bt444.2.2 (([200,200,204,304,404,599]:List Int))).bind fun bt463=>((spec_ReasonOf.f bt463.1).bind fun t466=>((spec_l6bare.f bt463.1).bind fun t467=>(if t467=true then(some (((⟨#[]⟩:ByteArray),(⟨#[]⟩:ByteArray),bt463.1,t466,true,l,(⟨#[]⟩:ByteArray),bt463.2.1,bt463.2.2):MsgD))else((spec_l1Once.f b bt463.2.1 bt463.2.2 5).bind fun bt468=>(if bt468.1=true then(some (((⟨#[]⟩:ByteArray),(⟨#[]⟩:ByteArray),bt463.1,t466,true,l,(⟨#[]⟩:ByteArray),bt468.2.1,bt468.2.2):MsgD))else(some (((⟨#[]⟩:ByteArray),(⟨#[]⟩:ByteArray),bt463.1,t466,false,l,bt441.1,bt468.2.1,bt468.2.2):MsgD))))))))))) (fun k=>?_) (e2.bind (by simp only[e3,Option.bind_some];simpa only[Option.bind_some]using hR))
   simp only[spec_l6msg.l0]
   rw[if_neg (by omega),e1,Option.bind_some]
  cases q
  ·obtain⟨n,i4,h4,e4,n4,s4⟩:=l1Pick_ok b i3 h3 ([200,200,204,304,404,599]:List Int) (by decide) s3
   have hn:0≤n∧n≤1000:=by
    have: ∀z∈([200,200,204,304,404,599]:List Int),0≤z∧z≤1000:=by decide
    exact this n n4
   obtain⟨t,et,ht⟩:=reasonOf_ok n
   obtain⟨u,eu⟩:=bare_ok n
   obtain⟨v,i5,h5,e5,s5⟩:=l1Once_ok b i4 h4 5 s4
   simp only[Bool.false_eq_true,if_false,e4,Option.bind_some,et,eu,e5]at hst
   cases u
   ·simp only[Bool.false_eq_true,if_false]at hst
    cases v
    ·simp only[Bool.false_eq_true,if_false]at hst
     exact⟨_,_,_,_,_,_,_,_,_,hst _ (Ev.now _),⟨by omega,by omega,hn.1,hn.2,by omega,by omega,hf,by omega⟩,by omega,s5⟩
    ·simp only[if_true]at hst
     exact⟨_,_,_,_,_,_,_,_,_,hst _ (Ev.now _),⟨by omega,by omega,hn.1,hn.2,by omega,by omega,hf,by omega⟩,by omega,s5⟩
   ·simp only[if_true]at hst
    exact⟨_,_,_,_,_,_,_,_,_,hst _ (Ev.now _),⟨by omega,by omega,hn.1,hn.2,by omega,by omega,hf,by omega⟩,by omega,s4⟩
  ·obtain⟨n,i4,h4,e4,n0,_,n1,s4⟩:=l1Below_ok b i3 h3 5 s3
   have n2:=n1 (by omega)
   obtain⟨z,i5,h5,e5,z0,_,z1,s5⟩:=l1Below_ok b i4 h4 5 s4
   have z2:=z1 (by omega)
   obtain⟨t,i6,h6,e6,t6,s6⟩:=l1of_ok b i5 h5 z (⟨#[97,98,63]⟩:ByteArray) (by decide) (by omega) s5
   have hm:(rdOf ByteArray.empty ([(⟨#[71,69,84]⟩:ByteArray),(⟨#[72,69,65,68]⟩:ByteArray),(⟨#[80,79,83,84]⟩:ByteArray),(⟨#[68,69,76,69,84,69]⟩:ByteArray),(⟨#[120]⟩:ByteArray)]:List ByteArray) n).size≤2000:=by
    have hmm:rdOf ByteArray.empty ([(⟨#[71,69,84]⟩:ByteArray),(⟨#[72,69,65,68]⟩:ByteArray),(⟨#[80,79,83,84]⟩:ByteArray),(⟨#[68,69,76,69,84,69]⟩:ByteArray),(⟨#[120]⟩:ByteArray)]:List ByteArray) n∈([(⟨#[71,69,84]⟩:ByteArray),(⟨#[72,69,65,68]⟩:ByteArray),(⟨#[80,79,83,84]⟩:ByteArray),(⟨#[68,69,76,69,84,69]⟩:ByteArray),(⟨#[120]⟩:ByteArray)]:List ByteArray):=by
     unfold rdOf
     rw[List.getD_eq_getElem?_getD,List.getElem?_eq_getElem (by simp;omega)]
     exact List.getElem_mem _
    have: ∀z∈([(⟨#[71,69,84]⟩:ByteArray),(⟨#[72,69,65,68]⟩:ByteArray),(⟨#[80,79,83,84]⟩:ByteArray),(⟨#[68,69,76,69,84,69]⟩:ByteArray),(⟨#[120]⟩:ByteArray)]:List ByteArray),z.size≤2000:=by decide
    exact this _ hmm
   have q17:(⟨#[104,116,116,112,58,47,47,97,46,101,120,97,109,112,108,101,47]⟩:ByteArray).size=17:=rfl
   refine⟨rdOf ByteArray.empty ([(⟨#[71,69,84]⟩:ByteArray),(⟨#[72,69,65,68]⟩:ByteArray),(⟨#[80,79,83,84]⟩:ByteArray),(⟨#[68,69,76,69,84,69]⟩:ByteArray),(⟨#[120]⟩:ByteArray)]:List ByteArray) n,(⟨#[104,116,116,112,58,47,47,97,46,101,120,97,109,112,108,101,47]⟩:ByteArray)++t,0,(⟨#[]⟩:ByteArray),false,l,r,i6,h6,hst _ ?_,⟨hm,?_,by omega,by omega,by omega,by omega,hf,by omega⟩,by omega,s6⟩
   ·simp only[if_true,Option.bind_some,e4,if_pos n0,e5]
    rw[show(([(⟨#[71,69,84]⟩:ByteArray),(⟨#[72,69,65,68]⟩:ByteArray),(⟨#[80,79,83,84]⟩:ByteArray),(⟨#[68,69,76,69,84,69]⟩:ByteArray),(⟨#[120]⟩:ByteArray)]:List ByteArray).length:Int)=5 from rfl]
    simp only[if_pos n2]
    refine e6.bind ?_
    simp only[if_pos (show 17+t.size≤9223372036854775807 by omega)]
    exact Ev.now _
   ·rw[ByteArray.size_append,q17];omega
 |succ m ih=>
  intro x l i h hx hl hf hs
  obtain⟨n,v,i1,h1,e1,n1,v1,s1⟩:=l6field_ok b i h hs
  obtain⟨a0,a1,a2,a3,a4,l',a6,i',h',e2,hm,hl',s2⟩:=ih (x-1) (l++ [⟨n,v⟩]) i1 h1 (by omega) (by simp;omega) (FB_snoc hf n1 v1) s1
  refine⟨a0,a1,a2,a3,a4,l',a6,i',h',Ev.step (f:=fun k=>(spec_l6field.f k b i h).bind fun bt431=>(if l.length<4398046511104 then(spec_l6msg.l0 k (wrap64 (x-1)) b bt431.2.2.1 bt431.2.2.2 (⟨#[]⟩:ByteArray) (⟨#[]⟩:ByteArray) 0 (⟨#[]⟩:ByteArray) false (l++ [⟨bt431.1,bt431.2.1⟩]) (⟨#[]⟩:ByteArray))else(none))) (fun k=>by simp only[spec_l6msg.l0];rw[if_pos (by omega)]) (e1.bind ?_),hm,hl',s2⟩
  simp only[if_pos (show l.length<4398046511104 by omega),wrap_id (a:=x-1) (by omega) (by omega)]
  exact e2
theorem l6msg_ok (b:List Int) (i h:Int) (hs:StOk b i): ∃a0 a1 a2 a3 a4 l' a6 i' h',Ev (fun k=>spec_l6msg.f k b i h) ((a0,a1,a2,a3,a4,l',a6,i',h'):MsgD)∧MB 2000 a0 a1 a2 a3 l' a6∧l'.length≤10∧StOk b i':=by
 unfold spec_l6msg.f
 obtain⟨y,i1,h1,e1,y0,_,y1,s1⟩:=l1Below_ok b i h 5 hs
 have y2:=y1 (by omega)
 simp only[e1,Option.bind_some]
 exact l6msg_go b y.toNat y [] i1 h1 rfl (by simp;omega) (by intro x hx;cases hx) s1
theorem bent_fill (b:List Int) (a0 a1:ByteArray) (a2:Int) (a3:ByteArray) (a4:Bool) (a6:ByteArray) (i h n:Int) (hn:n≤30): ∀(m:Nat) (l:List IFld),(n-l.length).toNat=m→l.length≤40→FB l→
  ∃l',Ev (fun k=>spec_l6msgBent.l0 k n b i h a0 a1 a2 a3 a4 l a6) ((a0,a1,a2,a3,a4,l',a6,i,h):MsgD)∧l'.length≤40∧FB l'
 |0,l,hm,hl,hf=>⟨l,Ev.step (f:=fun _=>some _) (fun k=>by simp only[spec_l6msgBent.l0];rw[if_neg (by omega)]) (Ev.now _),hl,hf⟩
 |m+1,l,hm,hl,hf=>by
  obtain⟨l',e,q1,q2⟩:=bent_fill b a0 a1 a2 a3 a4 a6 i h n hn m (l++ [⟨(⟨#[112]⟩:ByteArray),(⟨#[113]⟩:ByteArray)⟩]) (by simp;omega) (by simp;omega) (FB_snoc hf (by decide) (by decide))
  exact⟨l',Ev.step (fun k=>by simp only[spec_l6msgBent.l0];rw[if_pos (by omega),if_pos (by omega)]) e,q1,q2⟩
theorem bent_long (b:List Int) (a0 a1:ByteArray) (a2:Int) (a3:ByteArray) (a4:Bool) (a6:ByteArray): ∀(m:Nat) (x i h:Int) (l:List IFld),(7-x).toNat=m→0≤x→l.length+m≤40→FB l→StOk b i→
  ∃l' i' h',Ev (fun k=>spec_l6msgBent.l1 k x b i h a0 a1 a2 a3 a4 l a6) ((a0,a1,a2,a3,a4,l',a6,i',h'):MsgD)∧l'.length≤40∧FB l'∧StOk b i'
 |0,x,i,h,l,hm,hx,hl,hf,hs=>⟨l,i,h,Ev.step (f:=fun _=>some _) (fun k=>by simp only[spec_l6msgBent.l1];rw[if_neg (by omega)]) (Ev.now _),by omega,hf,hs⟩
 |m+1,x,i,h,l,hm,hx,hl,hf,hs=>by
  obtain⟨y,i1,h1,e1,y0,_,y1,s1⟩:=l1Below_ok b i h 9 hs
  have y2:=y1 (by omega)
  obtain⟨r,i2,h2,e2,r2,s2⟩:=l1of_ok b i1 h1 (180+y) (⟨#[118]⟩:ByteArray) (by decide) (by omega) s1
  obtain⟨l',i',h',e,q1,q2,q3⟩:=bent_long b a0 a1 a2 a3 a4 a6 m (x+1) i2 h2 (l++ [⟨(⟨#[110]⟩:ByteArray),r⟩]) (by omega) (by omega) (by simp;omega) (FB_snoc hf (show(⟨#[110]⟩:ByteArray).size≤1000 by decide) (show r.size≤1000 by omega)) s2
  refine⟨l',i',h',Ev.step (f:=fun k=>(spec_l1of.f k b i1 h1 (180+y) (⟨#[118]⟩:ByteArray)).bind fun bt526=>(if l.length<4398046511104 then(spec_l6msgBent.l1 k (x+1) b bt526.2.1 bt526.2.2 a0 a1 a2 a3 a4 (l++ [⟨(⟨#[110]⟩:ByteArray),bt526.1⟩]) a6)else(none))) (fun k=>?_) (e2.bind ?_),q1,q2,q3⟩
  ·simp only[spec_l6msgBent.l1]
   rw[if_pos (by omega),e1,Option.bind_some]
   simp only[wrap_id (a:=180+y) (by omega) (by omega),wrap_id (a:=x+1) (by omega) (by omega)]
  ·simp only[if_pos (show l.length<4398046511104 by omega)];exact e
theorem msgBent_ok (b:List Int) (i h:Int) (hs:StOk b i): ∃a0 a1 a2 a3 a4 l' a6 i' h',Ev (fun k=>spec_l6msgBent.f k b i h) ((a0,a1,a2,a3,a4,l',a6,i',h'):MsgD)∧MB 3000 a0 a1 a2 a3 l' a6:=by
 unfold spec_l6msgBent.f
 obtain⟨a0,a1,a2,a3,a4,l,a6,i1,h1,e1,⟨m0_,m1_,n0,n1,m3_,ml,mf,m6_⟩,hl10,s1⟩:=l6msg_ok b i h hs
 obtain⟨q,i2,h2,e2,s2⟩:=l1Once_ok b i1 h1 4 s1
 have m0:a0.size≤3000:=by omega
 have m1:a1.size≤3000:=by omega
 have m3:a3.size≤3000:=by omega
 have m6:a6.size≤3000:=by omega
 have go: ∀(F:Nat→MsgD→Option MsgD),(∃c0 c1 c2 c3 c4 c5 c6 i' h',Ev (fun k=>F k (a0,a1,a2,a3,a4,l,a6,i1,h1)) ((c0,c1,c2,c3,c4,c5,c6,i',h'):MsgD)∧MB 3000 c0 c1 c2 c3 c5 c6)→ ∃c0 c1 c2 c3 c4 c5 c6 i' h',Ev (fun k=>(spec_l6msg.f k b i h).bind (F k)) ((c0,c1,c2,c3,c4,c5,c6,i',h'):MsgD)∧MB 3000 c0 c1 c2 c3 c5 c6:=by
  rintro F ⟨c0,c1,c2,c3,c4,c5,c6,i',h',e,hm⟩
  exact⟨c0,c1,c2,c3,c4,c5,c6,i',h',e1.bind e,hm⟩
 refine go _ ?_
 simp only[e2,Option.bind_some]
 cases q
 ·simp only[Bool.false_eq_true,if_false]
  exact⟨_,_,_,_,_,_,_,_,_,Ev.now _,⟨m0,m1,n0,n1,m3,ml,mf,m6⟩⟩
 simp only[if_true]
 obtain⟨x,i3,h3,e3,x0,_,x1,s3⟩:=l1Below_ok b i2 h2 10 s2
 simp only[e3,Option.bind_some]
 by_cases c8:x=8
 ·obtain⟨y,i4,h4,e4,y0,_,y1,s4⟩:=l1Below_ok b i3 h3 2 s3
  have y2:=y1 (by omega)
  obtain⟨l',e5,q1,q2⟩:=bent_fill b a0 a1 a2 a3 a4 a6 i4 h4 (20-y) (by omega) _ l rfl (by omega) mf
  simp only[if_pos c8,e4,Option.bind_some,wrap_id (a:=20-y) (by omega) (by omega)]
  exact⟨_,_,_,_,_,_,_,_,_,e5,⟨by omega,by omega,n0,n1,by omega,by omega,q2,by omega⟩⟩
 simp only[if_neg c8]
 by_cases c0:x=0
 ·obtain⟨r,i4,h4,e4,r4,s4⟩:=l1bend_ok b i3 h3 a0 (by omega) s3
  simp only[if_pos c0,e4,Option.bind_some]
  exact⟨_,_,_,_,_,_,_,_,_,Ev.now _,⟨by omega,m1,n0,n1,m3,by omega,mf,m6⟩⟩
 simp only[if_neg c0]
 by_cases c1:x=1
 ·obtain⟨r,i4,h4,e4,r4,s4⟩:=l1bend_ok b i3 h3 a1 (by omega) s3
  simp only[if_pos c1,e4,Option.bind_some]
  exact⟨_,_,_,_,_,_,_,_,_,Ev.now _,⟨m0,by omega,n0,n1,m3,by omega,mf,m6⟩⟩
 simp only[if_neg c1]
 by_cases c2:x=2
 ·obtain⟨n,i4,h4,e4,n4,s4⟩:=l1Pick_ok b i3 h3 ([0,199,200,600,304,204]:List Int) (by decide) s3
  have hn:0≤n∧n≤1000:=by
   have: ∀z∈([0,199,200,600,304,204]:List Int),0≤z∧z≤1000:=by decide
   exact this n n4
  simp only[if_pos c2,e4,Option.bind_some]
  exact⟨_,_,_,_,_,_,_,_,_,Ev.now _,⟨m0,m1,hn.1,hn.2,m3,by omega,mf,m6⟩⟩
 simp only[if_neg c2]
 by_cases c3:x=3
 ·obtain⟨y,i4,h4,e4,y0,_,y1,s4⟩:=l1Below_ok b i3 h3 2 s3
  have y2:=y1 (by omega)
  obtain⟨r,i5,h5,e5,r5,s5⟩:=l1of_ok b i4 h4 (40+y) (⟨#[114,32]⟩:ByteArray) (by decide) (by omega) s4
  simp only[if_pos c3,e4,Option.bind_some,wrap_id (a:=40+y) (by omega) (by omega)]
  exact⟨a0,a1,a2,r,a4,l,a6,i5,h5,e5.bind (Ev.now _),⟨m0,m1,n0,n1,by omega,by omega,mf,m6⟩⟩
 simp only[if_neg c3]
 by_cases c4:x=4
 ·simp only[if_pos c4]
  exact⟨_,_,_,_,_,_,_,_,_,Ev.now _,⟨m0,m1,n0,n1,m3,by omega,mf,m6⟩⟩
 simp only[if_neg c4]
 by_cases c5:x=5
 ·obtain⟨y,i4,h4,e4,y0,_,y1,s4⟩:=l1Below_ok b i3 h3 2 s3
  have y2:=y1 (by omega)
  obtain⟨r,i5,h5,e5,r5,s5⟩:=l1of_ok b i4 h4 (600+y) (⟨#[98,66]⟩:ByteArray) (by decide) (by omega) s4
  simp only[if_pos c5,e4,Option.bind_some,wrap_id (a:=600+y) (by omega) (by omega)]
  exact⟨a0,a1,a2,a3,a4,l,r,i5,h5,e5.bind (Ev.now _),⟨m0,m1,n0,n1,m3,by omega,mf,by omega⟩⟩
 simp only[if_neg c5]
 by_cases c6:x=6
 ·simp only[if_pos c6,if_pos (show l.length<4398046511104 by omega)]
  exact⟨_,_,_,_,_,_,_,_,_,Ev.now _,⟨m0,m1,n0,n1,m3,by simp;omega,FB_snoc mf (by decide) (by decide),m6⟩⟩
 simp only[if_neg c6]
 by_cases c7:x=7
 ·simp only[if_pos c7]
  obtain⟨l',i',h',e4,q1,q2,q3⟩:=bent_long b a0 a1 a2 a3 a4 a6 7 0 i3 h3 l rfl (by omega) (by omega) mf s3
  exact⟨_,_,_,_,_,_,_,_,_,e4,⟨m0,m1,n0,n1,m3,by omega,q2,m6⟩⟩
 simp only[if_neg c7]
 obtain⟨y,i4,h4,e4,y0,_,y1,s4⟩:=l1Below_ok b i3 h3 2 s3
 have y2:=y1 (by omega)
 obtain⟨r,i5,h5,e5,r5,s5⟩:=l1of_ok b i4 h4 (193+y) (⟨#[116]⟩:ByteArray) (by decide) (by omega) s4
 simp only[e4,Option.bind_some,wrap_id (a:=193+y) (by omega) (by omega)]
 have q7:(⟨#[104,116,116,112,58,47,47]⟩:ByteArray).size=7:=rfl
 refine⟨a0,(⟨#[104,116,116,112,58,47,47]⟩:ByteArray)++r,a2,a3,a4,l,a6,i5,h5,e5.bind ?_,⟨m0,by rw[ByteArray.size_append];omega,n0,n1,m3,by omega,mf,m6⟩⟩
 simp only[if_pos (show 7+r.size≤9223372036854775807 by omega)]
 exact Ev.now _
theorem drawMsg_ok (l:List Int) (hl:l.length≤9223372036854775807): ∃a0 a1 a2 a3 a4 fs a6,Ev (fun k=>spec_DrawWriteMsg.f k l) (a0,a1,a2,a3,a4,fs,a6)∧MB 3000 a0 a1 a2 a3 fs a6:=by
 unfold spec_DrawWriteMsg.f
 obtain⟨h0,e0⟩:=l1New_ok l hl
 obtain⟨a0,a1,a2,a3,a4,fs,a6,i',h',e1,hm⟩:=msgBent_ok l 0 h0 (StOk_new l hl)
 exact⟨a0,a1,a2,a3,a4,fs,a6,e0.bind (e1.bind (Ev.now _)),hm⟩
theorem MB.small {a0 a1:ByteArray} {a2:Int} {a3:ByteArray} {l:List IFld} {a6:ByteArray} (h:MB 3000 a0 a1 a2 a3 l a6):SmallM a0 a1 a2 a3 l a6:=by
 have hb:totG l≤2000*l.length:=by
  have hf:=h.hf
  clear h
  induction l with
  |nil=>simp[totG]
  |cons x l ih=>
   have h1:=hf x (by simp)
   have h2:=ih (fun y hy=>hf y (List.mem_cons_of_mem _ hy))
   simp only[totG,List.map_cons,List.sum_cons,List.length_cons]at h2 ⊢
   omega
 obtain⟨q0,q1,q2,q3,q4,q5,q6,q7⟩:=h
 exact⟨by omega,by omega,by omega,by omega,by omega,by omega,by omega,by omega⟩
def fldM (n v:List UInt8):IFld:=⟨mkB n,mkB v⟩
def nCLt:List UInt8:= [67,111,110,116,101,110,116,45,76,101,110,103,116,104]
def nTEt:List UInt8:= [84,114,97,110,115,102,101,114,45,69,110,99,111,100,105,110,103]
def lenFs (a6:ByteArray):List IFld:=if bl a6= []then []else [fldM nCLt (Lib.itoa (a6.size:Int))]
theorem fldT_M (n v:List UInt8):fldT (fldM n v)=n++ [58,32]++v:=by simp[fldT,fldM,bl_mk]
theorem fldsT_app (l m:List IFld):fldsT (l++m)=fldsT l++fldsT m:=by simp[fldsT]
theorem reqL_first {a0 a1 a3:ByteArray} {a2:Int} {a4:Bool} (h:reqL a0 a1 a2 a3 a4=true):(tokenL (bl a0)&&decide ((bl a0).length≤20)&&(decide (1≤(bl a1).length)&&decide ((bl a1).length≤200)&&(bl a1).all visB))=true:=by
 unfold reqL at h
 rw[size_bl,size_bl]
 simp only[Bool.and_eq_true]at h ⊢
 exact⟨⟨h.1.1.1.1.2,h.1.1.1.1.1⟩,h.1.1.1.2⟩
theorem headT_req {a0 a1 a3 a6:ByteArray} {a2:Int} {a4:Bool} {l:List IFld} (h0:bl a0≠ []):headT a0 a1 a2 a3 a4 l a6=lineT (bl a0) (bl a1)++13::10::(fldsT (l++lenFs a6)++ [13,10]):=by
 unfold headT firstT lenT lenFs
 rw[if_neg h0,if_neg h0,fldsT_app]
 by_cases h:bl a6= []
 ·simp[h,lineT,crB,fldsT]
 ·rw[if_neg h,if_pos (by simp[h])]
  simp[lineT,crB,fldsT,fldT_M,nCLt]
theorem framed_same {l:List IFld} (h:framedB l=false): ∀x∈l,sameB x.f0 nCL=false∧sameB x.f0 nTE=false:=by
 unfold framedB at h
 simp only[Bool.or_eq_false_iff,List.any_eq_false,isN,decide_eq_true_eq]at h
 intro x hx
 have e1:lowS nCL=nCL:=low_CL
 have e2:lowS nTE=nTE:=low_TE
 constructor
 ·unfold sameB
  rw[e1,toList_bl,toList_bl,show bl nCL=lCL from rfl]
  have:=h.1.1 x hx
  simpa using this
 ·unfold sameB
  rw[e2,toList_bl,toList_bl,show bl nTE=lTE from rfl]
  have:=h.1.2 x hx
  simpa using this
theorem valsF_app {l:List IFld} (m:List IFld) {n:ByteArray} (h: ∀x∈l,sameB x.f0 n=false):valsF (l++m) n=valsF m n:=by
 unfold valsF
 rw[List.filter_append,List.filter_eq_nil_iff.2 (fun x hx=>by rw[h x hx];exact Bool.false_ne_true),List.nil_append]
theorem vals_app {l:List IFld} (m:List IFld) {n:ByteArray} (hk:fldsOk (l++m)=true) (h: ∀x∈l,sameB x.f0 n=false):vals (l++m) n=valsF m n:=by
 unfold vals;rw[if_pos hk];exact valsF_app m h
theorem rq_body {a b R:List UInt8} {l:List IFld} (hf:(tokenL a&&decide (a.length≤20)&&(decide (1≤b.length)&&decide (b.length≤200)&&b.all visB))=true) (ho: ∀x∈l,fldOk x=true) (h:(rqL (lineT a b++13::10::(fldsT l++13::10::R))).2.2.2.2=0):
  (bodyL (framingL l false false).1 (framingL l false false).2 R).2=0:=by
 obtain⟨h0,h1⟩:=rq_code _ h
 have e:=rqHead_all hf ho h0
 rw[e]at h1
 have ed:(lineT a b++13::10::(fldsT l++13::10::R)).drop ((lineT a b++13::10::fldsT l).length+2)=R:=by
  rw[show lineT a b++13::10::(fldsT l++13::10::R)=(lineT a b++13::10::fldsT l++ [13,10])++R by simp]
  exact drop_at _ _ _ (by simp;omega)
 rw[ed]at h1
 exact h1
theorem rq_four {a b R:List UInt8} {l:List IFld} (hf:(tokenL a&&decide (a.length≤20)&&(decide (1≤b.length)&&decide (b.length≤200)&&b.all visB))=true) (ho: ∀x∈l,fldOk x=true) (h4:(framingL l false false).1=4):
  (rqL (lineT a b++13::10::(fldsT l++13::10::R))).2.2.2.2≠0:=by
 intro h
 have:=rq_body hf ho h
 rw[h4]at this
 exact absurd this (by simp[bodyL])
theorem rq_line {a b R line:List UInt8} {l:List IFld} (hf:(tokenL a&&decide (a.length≤20)&&(decide (1≤b.length)&&decide (b.length≤200)&&b.all visB))=true) (ho: ∀x∈l,fldOk x=true) (hn: ∀x∈line,x≠10∧x≠13) (hne:line≠ []) (hx:(readFieldL line).2.2=false):
  (rqL (lineT a b++13::10::(fldsT l++(line++13::10::R)))).2.2.2.2≠0:=by
 intro h
 obtain⟨h0,_⟩:=rq_code _ h
 obtain⟨c,h1,_⟩:=rqHead_flds hf ho h0
 have hs:scanL ((lineT a b++13::10::(fldsT l++(line++13::10::R))).drop (lineT a b++13::10::fldsT l).length)=(line,0):=by
  rw[show lineT a b++13::10::(fldsT l++(line++13::10::R))=(lineT a b++13::10::fldsT l)++(line++13::10::R)by simp,List.drop_left]
  exact scanL_line _ _ hn
 exact hd_bad hs hne hx h1
theorem framing_both {l:List IFld} (hf:framedB l=false):(framingL (l++ [fldM nCLt [53],fldM nTEt [99,104,117,110,107,101,100]]) false false).1=4:=by
 by_cases hk:fldsOk (l++ [fldM nCLt [53],fldM nTEt [99,104,117,110,107,101,100]])=true
 ·have hs:=framed_same hf
  have v1:=vals_app _ hk (fun x hx=>(hs x hx).1)
  have v2:=vals_app _ hk (fun x hx=>(hs x hx).2)
  rw[show valsF [fldM nCLt [53],fldM nTEt [99,104,117,110,107,101,100]] nCL= [mkB [53]]by decide+kernel]at v1
  rw[show valsF [fldM nCLt [53],fldM nTEt [99,104,117,110,107,101,100]] nTE= [mkB [99,104,117,110,107,101,100]]by decide+kernel]at v2
  unfold framingL
  rw[if_pos hk,if_pos ⟨by unfold hasL;rw[v2];rfl,.inl (by unfold hasL;rw[v1];rfl)⟩]
 ·unfold framingL;rw[if_neg hk]
theorem framing_two {l:List IFld} (hf:framedB l=false):(framingL (l++ [fldM nCLt [49],fldM lCL [50]]) false false).1=4:=by
 by_cases hk:fldsOk (l++ [fldM nCLt [49],fldM lCL [50]])=true
 ·have hs:=framed_same hf
  have v1:=vals_app _ hk (fun x hx=>(hs x hx).1)
  have v2:=vals_app _ hk (fun x hx=>(hs x hx).2)
  rw[show valsF [fldM nCLt [49],fldM lCL [50]] nCL= [mkB [49],mkB [50]]by decide+kernel]at v1
  rw[show valsF [fldM nCLt [49],fldM lCL [50]] nTE= []by decide+kernel]at v2
  have w2:hasL (l++ [fldM nCLt [49],fldM lCL [50]]) nTE=false:=by unfold hasL;rw[v2];rfl
  have w1:hasL (l++ [fldM nCLt [49],fldM lCL [50]]) nCL=true:=by unfold hasL;rw[v1];rfl
  have hL:lenL (wordsL (l++ [fldM nCLt [49],fldM lCL [50]]) nCL)=none:=by
   unfold wordsL;rw[v1];decide+kernel
  unfold framingL
  rw[if_pos hk,if_neg (by rw[w2];simp),if_pos w1,hL]
 ·unfold framingL;rw[if_neg hk]
theorem framing_odd {l:List IFld} (hf:framedB l=false):(framingL (l++ [fldM nTEt [103,122,105,112,44,32,99,104,117,110,107,101,100]]) false false).1=4:=by
 by_cases hk:fldsOk (l++ [fldM nTEt [103,122,105,112,44,32,99,104,117,110,107,101,100]])=true
 ·have hs:=framed_same hf
  have v2:=vals_app _ hk (fun x hx=>(hs x hx).2)
  rw[show valsF [fldM nTEt [103,122,105,112,44,32,99,104,117,110,107,101,100]] nTE= [mkB [103,122,105,112,44,32,99,104,117,110,107,101,100]]by decide+kernel]at v2
  have hw: ¬(wordsL (l++ [fldM nTEt [103,122,105,112,44,32,99,104,117,110,107,101,100]]) nTE).length=1:=by
   unfold wordsL;rw[v2];decide+kernel
  unfold framingL
  rw[if_pos hk,if_pos ⟨by unfold hasL;rw[v2];rfl,.inr (.inl hw)⟩]
 ·unfold framingL;rw[if_neg hk]
theorem FnTwice:laws_FnTwice.Pure:=by
 intro l ⟨hl,hb⟩
 refine Ev.rounds ?_
 unfold laws_FnTwice.f
 obtain⟨a0,a1,a2,a3,a4,fs,a6',hd,hm⟩:=drawMsg_ok l hl
 have S:SmallM a0 a1 a2 a3 fs (⟨#[]⟩:ByteArray):=by
  have:=hm.small
  exact⟨this.h0,this.h1,this.h3,by decide,this.i0,this.i1,this.hl,this.ht⟩
 refine hd.bind ?_
 refine(specMsgOk_is a0 a1 a2 a3 a4 fs (⟨#[]⟩:ByteArray) S).bind ?_
 have hend:Ev (fun k=>(laws_talks.f k).bind fun t=>some t) true:=talks_is.bind (Ev.now _)
 have hskip:Ev (fun k=>laws_FnTwice.j0 k true a0 a1 a2 a3 a4 fs (⟨#[]⟩:ByteArray)) true:=Ev.step (f:=fun k=>(laws_talks.f k).bind fun t=>some t) (fun k=>by simp only[laws_FnTwice.j0,if_true]) hend
 cases hok:msgOk a0 a1 a2 a3 a4 fs (⟨#[]⟩:ByteArray)
 ·simpa using hskip
 simp only[if_true]
 by_cases hz:bl a0= []
 ·rw[show(a0.toList==([]:List UInt8))=true by rw[toList_bl,hz];rfl]
  exact hskip
 rw[show(a0.toList==([]:List UInt8))=false by rw[toList_bl];simpa using hz]
 have hok2:=hok
 unfold msgOk at hok2
 simp only[Bool.and_eq_true]at hok2
 obtain⟨⟨⟨⟨k1,k2⟩,k3⟩,k4⟩,k5,k6⟩:=hok2
 have hlen:=of_decide_eq_true k6
 have hfr:framedB fs=false:=by simpa using k3
 have hreq:reqL a0 a1 a2 a3 a4=true:=by unfold lineL at k5;rwa [if_neg hz]at k5
 have hf:=reqL_first hreq
 have hh:=headT_req (a1:=a1) (a2:=a2) (a3:=a3) (a4:=a4) (l:=fs) (a6:=(⟨#[]⟩:ByteArray)) hz
 have e6:lenFs (⟨#[]⟩:ByteArray)= []:=rfl
 rw[e6,List.append_nil]at hh
 have ho:=fldsOk_all k1
 obtain⟨H,hH⟩: ∃H,H=lineT (bl a0) (bl a1)++13::10::fldsT fs:=⟨_,rfl⟩
 have hh2:headT a0 a1 a2 a3 a4 fs (⟨#[]⟩:ByteArray)=H++ [13,10]:=by rw[hh,hH];simp
 have hHl:H.length≤1498:=by rw[hh2]at hlen;simp at hlen;omega
 have hSW:Ev (fun k=>spec_WriteHead.f k a0 a1 a2 a3 a4 fs (⟨#[]⟩:ByteArray)) (mkB (H++ [13,10])):=by
  unfold spec_WriteHead.f
  refine(specMsgOk_is _ _ _ _ _ _ _ S).bind ?_
  rw[hok]
  simp only[if_true]
  refine(specHead_is _ _ _ _ _ _ _ S.h0 S.h1 S.h3 S.h6 (lineL_status k5) S.hl S.ht (fldsOk_all k1) (smallF_totG _ S.ht)).bind ?_
  rw[hh2]
  exact Ev.now _
 refine Ev.step (fun k=>laws_FnTwice.j0.eq_2 ..) ?_
 simp only[Bool.false_eq_true,if_false]
 refine hSW.bind ?_
 have hsz2:(H++ [13,10]).length=H.length+2:=by simp
 have hw:wrap64 (((mkB (H++ [13,10])).size:Int)-2)=(H.length:Int):=by rw[size_mk,hsz2,wrap_id (by omega) (by omega)];omega
 have hx:(mkB (H++ [13,10])).extract 0 ((H.length:Int)).toNat=mkB H:=by rw[extract_mk,Int.toNat_natCast,List.drop_zero,Nat.sub_zero,List.take_left]
 have hap: ∀a:Array UInt8,mkB H++(⟨a⟩:ByteArray)=mkB (H++a.toList):=fun a=>by
  have e:(⟨a⟩:ByteArray)=mkB a.toList:=by simp[mkB]
  rw[e,mk_append]
 have p1:mkB H++(⟨#[67,111,110,116,101,110,116,45,76,101,110,103,116,104,58,32,53,13,10,84,114,97,110,115,102,101,114,45,69,110,99,111,100,105,110,103,58,32,99,104,117,110,107,101,100,13,10,13,10,48,13,10,13,10]⟩:ByteArray)=mkB (H++ [67,111,110,116,101,110,116,45,76,101,110,103,116,104,58,32,53,13,10,84,114,97,110,115,102,101,114,45,69,110,99,111,100,105,110,103,58,32,99,104,117,110,107,101,100,13,10,13,10,48,13,10,13,10]):=hap _
 have p2:mkB H++(⟨#[67,111,110,116,101,110,116,45,76,101,110,103,116,104,58,32,49,13,10,99,111,110,116,101,110,116,45,108,101,110,103,116,104,58,32,50,13,10,13,10,120]⟩:ByteArray)=mkB (H++ [67,111,110,116,101,110,116,45,76,101,110,103,116,104,58,32,49,13,10,99,111,110,116,101,110,116,45,108,101,110,103,116,104,58,32,50,13,10,13,10,120]):=hap _
 have p3:mkB H++(⟨#[67,111,110,116,101,110,116,45,76,101,110,103,116,104,32,58,32,49,13,10,13,10,120]⟩:ByteArray)=mkB (H++ [67,111,110,116,101,110,116,45,76,101,110,103,116,104,32,58,32,49,13,10,13,10,120]):=hap _
 have p4:mkB H++(⟨#[84,114,97,110,115,102,101,114,45,69,110,99,111,100,105,110,103,58,32,103,122,105,112,44,32,99,104,117,110,107,101,100,13,10,13,10,48,13,10,13,10]⟩:ByteArray)=mkB (H++ [84,114,97,110,115,102,101,114,45,69,110,99,111,100,105,110,103,58,32,103,122,105,112,44,32,99,104,117,110,107,101,100,13,10,13,10,48,13,10,13,10]):=hap _
 simp only[hw,hx,p1,p2,p3,p4]
 simp only[size_mk,if_pos (show(0:Int)≤(H.length:Int)by omega),if_pos (show(H.length:Int)≤((H++ [13,10]).length:Int)by omega),if_pos (show H.length+54≤9223372036854775807 by omega),if_pos (show H.length+41≤9223372036854775807 by omega),if_pos (show H.length+23≤9223372036854775807 by omega)]
 have hq: ∀x:List UInt8,x.length≤100→(H++x).length≤1048576:=fun x h=>by rw[List.length_append];omega
 have g1:(rqL (H++ [67,111,110,116,101,110,116,45,76,101,110,103,116,104,58,32,53,13,10,84,114,97,110,115,102,101,114,45,69,110,99,111,100,105,110,103,58,32,99,104,117,110,107,101,100,13,10,13,10,48,13,10,13,10])).2.2.2.2≠0:=by
  have:=rq_four (R:= [48,13,10,13,10]) (l:=fs++ [fldM nCLt [53],fldM nTEt [99,104,117,110,107,101,100]]) hf (by
   intro x hx
   rcases List.mem_append.1 hx with hx|hx
   ·exact ho x hx
   ·simp only[List.mem_cons,List.not_mem_nil,or_false]at hx
    rcases hx with rfl|rfl<;>decide+kernel) (framing_both hfr)
  rw[fldsT_app]at this
  rw[hH]
  simpa [fldsT,fldT_M,nCLt,nTEt,crB]using this
 have g2:(rqL (H++ [67,111,110,116,101,110,116,45,76,101,110,103,116,104,58,32,49,13,10,99,111,110,116,101,110,116,45,108,101,110,103,116,104,58,32,50,13,10,13,10,120])).2.2.2.2≠0:=by
  have:=rq_four (R:= [120]) (l:=fs++ [fldM nCLt [49],fldM lCL [50]]) hf (by
   intro x hx
   rcases List.mem_append.1 hx with hx|hx
   ·exact ho x hx
   ·simp only[List.mem_cons,List.not_mem_nil,or_false]at hx
    rcases hx with rfl|rfl<;>decide+kernel) (framing_two hfr)
  rw[fldsT_app]at this
  rw[hH]
  simpa [fldsT,fldT_M,nCLt,lCL,crB]using this
 have g3:(rqL (H++ [67,111,110,116,101,110,116,45,76,101,110,103,116,104,32,58,32,49,13,10,13,10,120])).2.2.2.2≠0:=by
  have:=rq_line (R:= [13,10,120]) (line:= [67,111,110,116,101,110,116,45,76,101,110,103,116,104,32,58,32,49]) (l:=fs) hf ho (by decide) (by decide) (by decide+kernel)
  rw[hH]
  simpa using this
 have g4:(rqL (H++ [84,114,97,110,115,102,101,114,45,69,110,99,111,100,105,110,103,58,32,103,122,105,112,44,32,99,104,117,110,107,101,100,13,10,13,10,48,13,10,13,10])).2.2.2.2≠0:=by
  have:=rq_four (R:= [48,13,10,13,10]) (l:=fs++ [fldM nTEt [103,122,105,112,44,32,99,104,117,110,107,101,100]]) hf (by
   intro x hx
   rcases List.mem_append.1 hx with hx|hx
   ·exact ho x hx
   ·simp only[List.mem_cons,List.not_mem_nil,or_false]at hx
    subst hx;decide+kernel) (framing_odd hfr)
  rw[fldsT_app]at this
  rw[hH]
  simpa [fldsT,fldT_M,nTEt,crB]using this
 refine Ev.bind (implReadRequest_is (H++ [67,111,110,116,101,110,116,45,76,101,110,103,116,104,58,32,53,13,10,84,114,97,110,115,102,101,114,45,69,110,99,111,100,105,110,103,58,32,99,104,117,110,107,101,100,13,10,13,10,48,13,10,13,10]) (hq _ (by decide))) ?_
 refine Ev.bind (implReadRequest_is (H++ [67,111,110,116,101,110,116,45,76,101,110,103,116,104,58,32,49,13,10,99,111,110,116,101,110,116,45,108,101,110,103,116,104,58,32,50,13,10,13,10,120]) (hq _ (by decide))) ?_
 refine Ev.bind (implReadRequest_is (H++ [67,111,110,116,101,110,116,45,76,101,110,103,116,104,32,58,32,49,13,10,13,10,120]) (hq _ (by decide))) ?_
 refine Ev.bind (implReadRequest_is (H++ [84,114,97,110,115,102,101,114,45,69,110,99,111,100,105,110,103,58,32,103,122,105,112,44,32,99,104,117,110,107,101,100,13,10,13,10,48,13,10,13,10]) (hq _ (by decide))) ?_
 have c1: ¬(rM (rqL (H++ [67,111,110,116,101,110,116,45,76,101,110,103,116,104,58,32,53,13,10,84,114,97,110,115,102,101,114,45,69,110,99,111,100,105,110,103,58,32,99,104,117,110,107,101,100,13,10,13,10,48,13,10,13,10]))).2.2.2.2.2.2.2=0:=g1
 have c2: ¬(rM (rqL (H++ [67,111,110,116,101,110,116,45,76,101,110,103,116,104,58,32,49,13,10,99,111,110,116,101,110,116,45,108,101,110,103,116,104,58,32,50,13,10,13,10,120]))).2.2.2.2.2.2.2=0:=g2
 have c3: ¬(rM (rqL (H++ [67,111,110,116,101,110,116,45,76,101,110,103,116,104,32,58,32,49,13,10,13,10,120]))).2.2.2.2.2.2.2=0:=g3
 have c4: ¬(rM (rqL (H++ [84,114,97,110,115,102,101,114,45,69,110,99,111,100,105,110,103,58,32,103,122,105,112,44,32,99,104,117,110,107,101,100,13,10,13,10,48,13,10,13,10]))).2.2.2.2.2.2.2=0:=g4
 simp only[if_neg c1,if_neg c2,if_neg c3,if_neg c4]
 exact hend
end Go.Proofs.YtnilblnhlpnpgaaGreatDoor.Pure
