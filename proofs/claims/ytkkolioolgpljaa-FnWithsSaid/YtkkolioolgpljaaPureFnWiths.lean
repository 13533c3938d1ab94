/- A field that is put in is the only one of its name, and the others stay in order; the call returns true for every code of a draw. No condition. -/
import Derived.Test.YtkkolioolgpljaaGFnWithsx12
import Derived.Laws.BitsLemmas
import Derived.Laws.Strings
import Derived.Lib.Index
import Derived.Lib.IndexMore
import Derived.OpenShut
namespace Go.Proofs.Ytkkolioolgpljaa.Pure
open Go.RowKit Go.Proofs.Ytkkolioolgpljaa.GFnWiths Go.Proofs.YtkkolioolgpljaaW.PrintWords Go.Proofs.YtkkolioolgpljaaW.PrintLast Go.Proofs.YtkkolioolgpljaaW.PrintMore
set_option linter.unusedVariables false
set_option linter.unusedSimpArgs false
/-! #### Bytes -/
theorem toList_inj {a b:ByteArray} (h:a.toList=b.toList):a=b:=by
 rw[ByteArray.toList_eq,ByteArray.toList_eq]at h
 cases a;cases b;simp_all
theorem getD_mid {α:Type} (pre:List α) (x:α) (r:List α) (z:α):(pre++x::r).getD ((pre.length:Int).toNat) z=x:=by simp[List.getD]
theorem wrap_id {a:Int} (h1: -9223372036854775808≤a) (h2:a≤9223372036854775807):wrap64 a=a:=by unfold wrap64;omega
theorem len_mid {α:Type} (pre:List α) (x:α) (r:List α):(pre.length:Int)<((pre++x::r).length:Int):=by simp;omega
theorem app_mid {α:Type} (pre:List α) (x:α) (r:List α):pre++x::r=(pre++ [x])++r:=by simp
theorem len_snoc {α:Type} (pre:List α) (x:α):((pre++ [x]).length:Int)=(pre.length:Int)+1:=by simp
theorem size_strOf (xs:List Int):(strOfNums xs).size=xs.length:=by
 show(strOfNums xs).data.size=_
 simp[strOfNums]
/-! #### Str -/
def mkB (l:List UInt8):ByteArray:=⟨l.toArray⟩
def bl (s:ByteArray):List UInt8:=s.data.toList
theorem mk_bl (s:ByteArray):mkB (bl s)=s:=by cases s;simp[mkB,bl]
theorem bl_mk (l:List UInt8):bl (mkB l)=l:=by simp[mkB,bl]
theorem size_mk (l:List UInt8):(mkB l).size=l.length:=by show(mkB l).data.size=_;simp[mkB]
theorem size_bl (s:ByteArray):(bl s).length=s.size:=by rw[bl,Array.length_toList];rfl
theorem toList_bl (s:ByteArray):s.toList=bl s:=ByteArray.toList_eq s
theorem toList_mk (l:List UInt8):(mkB l).toList=l:=by rw[toList_bl,bl_mk]
theorem getB (l:List UInt8) (i:Nat) (h:i<(mkB l).size):(mkB l)[i]'h=l[i]'(by rwa [size_mk]at h):=by
 show(mkB l).data[i]'h=_
 simp[mkB]
theorem bt_at_ (l:List UInt8) (i:Nat) (h:i<l.length):bt (mkB l) (i:Int)=((l[i]'h).toNat:Int):=by
 unfold bt
 rw[dif_pos (by rw[size_mk];simpa using h),getB]
 simp
theorem bt_mid (pre:List UInt8) (b:UInt8) (r:List UInt8):bt (mkB (pre++b::r)) (pre.length:Int)=(b.toNat:Int):=by
 rw[bt_at_ _ _ (by simp)]
 simp
theorem extract_mk (l:List UInt8) (i j:Nat):(mkB l).extract i j=mkB ((l.drop i).take (j-i)):=by
 apply toList_inj
 rw[toList_mk,toList_bl,bl,ByteArray.data_extract,Array.toList_extract]
 simp[mkB,List.extract]
theorem size_lt_mid (pre:List UInt8) (b:UInt8) (r:List UInt8):(pre.length:Int)<((mkB (pre++b::r)).size:Int):=by rw[size_mk];exact len_mid ..
theorem u8_lt (b:UInt8):(b.toNat:Int)<256:=by have:=b.toNat_lt;omega
theorem toUInt8_toNat (b:UInt8):((b.toNat:Int)).toNat.toUInt8=b:=by simp
/-- 'for all bytes', as a loop over a string's places. -/
theorem all_loop (F : Nat → ByteArray → Int → Option Bool) (G : Nat → Int → Option Bool) (p : UInt8 → Bool) (hG : ∀ b : UInt8, Ev (fun k => G k b.toNat) (p b))
  (hF: ∀k s i,F (k+1) s i=if i<(s.size:Int)then(if 0≤i then(G k (bt s i)).bind fun t=>(if t=true then F k s (wrap64 (i+1))else some false)else none)else some true):
  ∀(r pre:List UInt8),(pre++r).length≤9223372036854775806→Ev (fun k=>F k (mkB (pre++r)) pre.length) (r.all p)
 | [],pre,_=>Ev.step (f:=fun _=>some true) (fun k=>by rw[hF,size_mk];simp) (Ev.now _)
 |b::r,pre,hl=>by
  have ih:=all_loop F G p hG hF r (pre++ [b]) (by rw[←app_mid];exact hl)
  rw[←app_mid,len_snoc]at ih
  simp at hl
  refine Ev.step (f:=fun k=>(G k b.toNat).bind fun t=>(if t=true then F k (mkB (pre++b::r)) (pre.length+1)else some false)) (fun k=>?_) ?_
  ·rw[hF,if_pos (size_lt_mid ..),if_pos (by omega),bt_mid,wrap_id (by omega) (by omega)]
  refine(hG b).bind ?_
  cases hp:p b
  ·simpa [List.all_cons,hp]using Ev.now false
  ·simpa [List.all_cons,hp]using ih
theorem all_ev (F : Nat → ByteArray → Int → Option Bool) (G : Nat → Int → Option Bool) (p : UInt8 → Bool) (hG : ∀ b : UInt8, Ev (fun k => G k b.toNat) (p b))
  (hF: ∀k s i,F (k+1) s i=if i<(s.size:Int)then(if 0≤i then(G k (bt s i)).bind fun t=>(if t=true then F k s (wrap64 (i+1))else some false)else none)else some true)
  (s:ByteArray) (hs:s.size≤9223372036854775806):Ev (fun k=>F k s 0) ((bl s).all p):=by
 have:=all_loop F G p hG hF (bl s) [] (by simpa [size_bl]using hs)
 simpa [mk_bl]using this
theorem Ev.const {α:Type} {x:Option α} {r:α} (h:x=some r):Ev (fun _=>x) r:=⟨0,fun _ _=>h⟩
/-! #### Mids -/
theorem take_mid (pre m suf:List UInt8):((pre++(m++suf)).drop pre.length).take (pre.length+m.length-pre.length)=m:=by simp
theorem bt_mid2 (pre m:List UInt8) (b:UInt8) (suf:List UInt8) (i:Int) (hi:i=(pre.length:Int)+(m.length:Int)):bt (mkB (pre++(m++b::suf))) i=(b.toNat:Int):=by
 have:=bt_mid (pre++m) b suf
 rw[List.append_assoc]at this
 rw[hi,←this];simp
/-! #### Trim -/
def wh (b:UInt8):Bool:=decide (b.toNat=32)||decide (b.toNat=9)
def trimB (l:List UInt8):List UInt8:=((l.dropWhile wh).reverse.dropWhile wh).reverse
theorem l1white_is (b:UInt8):spec_l1white.f (b.toNat:Int)=some (wh b):=by
 unfold spec_l1white.f wh
 by_cases h:b.toNat=32
 ·rw[if_pos (by omega)];simp[h]
 ·rw[if_neg (by omega)]
  by_cases h':b.toNat=9
  ·simp[h']
  ·simp[h,h'];omega
theorem isSpace_is (b:UInt8):impl_isSpace.f (b.toNat:Int)=some (wh b):=l1white_is b
theorem specTrim_end : ∀ (m pre suf : List UInt8), (pre ++ (m.reverse ++ suf)).length ≤ 9223372036854775806 →
  Ev (fun k=>spec_Trim.l1 k (mkB (pre++(m.reverse++suf))) pre.length ((pre.length:Int)+m.length)) (mkB (m.dropWhile wh).reverse)
 | [],pre,suf,hl=>by
  refine Ev.step (f:=fun _=>some (mkB [])) (fun k=>?_) (by simpa using Ev.now (mkB []))
  simp only[spec_Trim.l1]
  simp at hl
  rw[if_neg (by simp),if_pos (by omega),if_pos (by simp),if_pos (by rw[size_mk];simp<;>omega),extract_mk]
  simp
 |b::m,pre,suf,hl=>by
  have e:pre++((b::m).reverse++suf)=pre++(m.reverse++b::suf):=by simp
  rw[e]at hl ⊢
  have hl2:=hl
  simp at hl2
  have hb:bt (mkB (pre++(m.reverse++b::suf))) ((pre.length:Int)+m.length)=(b.toNat:Int):=bt_mid2 pre m.reverse b suf _ (by simp)
  have hw:wrap64 ((pre.length:Int)+((b::m).length:Int)-1)=(pre.length:Int)+m.length:=by rw[wrap_id (by simp<;>omega) (by simp<;>omega)];simp<;>omega
  by_cases hwb:wh b=true
  ·have ih:=specTrim_end m pre (b::suf) hl
   rw[List.dropWhile_cons,if_pos hwb]
   refine Ev.step (fun k=>?_) ih
   simp only[spec_Trim.l1]
   rw[if_pos (by simp<;>omega),hw,if_pos (by omega),if_pos (by rw[size_mk];simp<;>omega),hb,l1white_is,hwb]
   simp
  ·rw[List.dropWhile_cons,if_neg hwb]
   have hwb':wh b=false:=by simpa using hwb
   refine Ev.step (f:=fun _=>some (mkB (b::m).reverse)) (fun k=>?_) (Ev.now _)
   simp only[spec_Trim.l1]
   rw[if_pos (by simp<;>omega),hw,if_pos (by omega),if_pos (by rw[size_mk];simp<;>omega),hb,l1white_is,hwb']
   simp only[Option.bind_some,Bool.false_eq_true,if_false]
   rw[if_pos (by omega),if_pos (by simp<;>omega),if_pos (by rw[size_mk];simp<;>omega),extract_mk]
   have hn:((pre.length:Int)+((b::m).length:Int)).toNat=pre.length+(b::m).reverse.length:=by simp;omega
   rw[hn,Int.toNat_natCast,←e,take_mid]
theorem specTrim_go : ∀ (r pre : List UInt8), (pre ++ r).length ≤ 9223372036854775806 →
  Ev (fun k=>spec_Trim.l0 k (mkB (pre++r)) pre.length) (mkB (trimB r))
 | [],pre,hl=>by
  have:=specTrim_end [] pre [] (by simpa using hl)
  refine Ev.step (f:=fun k=>spec_Trim.j1 k (mkB (pre++ [])) pre.length) (fun k=>by simp only[spec_Trim.l0];rw[if_neg (by rw[size_mk];simp)]) ?_
  refine Ev.step (f:=fun k=>spec_Trim.l1 k (mkB (pre++ [])) pre.length ((mkB (pre++ [])).size:Int)) (fun k=>by simp only[spec_Trim.j1]) ?_
  rw[size_mk]
  simpa [trimB]using this
 |b::r,pre,hl=>by
  have hl2:=hl
  simp at hl2
  by_cases hwb:wh b=true
  ·have ih:=specTrim_go r (pre++ [b]) (by rw[←app_mid];exact hl)
   rw[←app_mid,len_snoc]at ih
   have et:trimB (b::r)=trimB r:=by simp[trimB,List.dropWhile_cons,hwb]
   rw[et]
   refine Ev.step (fun k=>?_) ih
   simp only[spec_Trim.l0]
   rw[if_pos (size_lt_mid ..),if_pos (by omega),bt_mid,l1white_is,hwb,wrap_id (by omega) (by omega)]
   simp
  ·have hwb':wh b=false:=by simpa using hwb
   have:=specTrim_end (b::r).reverse pre [] (by simpa using hl)
   refine Ev.step (f:=fun k=>spec_Trim.j1 k (mkB (pre++b::r)) pre.length) (fun k=>?_) ?_
   ·simp only[spec_Trim.l0]
    rw[if_pos (size_lt_mid ..),if_pos (by omega),bt_mid,l1white_is,hwb']
    simp
   refine Ev.step (f:=fun k=>spec_Trim.l1 k (mkB (pre++b::r)) pre.length ((mkB (pre++b::r)).size:Int)) (fun k=>by simp only[spec_Trim.j1]) ?_
   have e2:((mkB (pre++b::r)).size:Int)=(pre.length:Int)+((b::r).reverse.length:Int):=by rw[size_mk];simp
   rw[e2]
   have et:trimB (b::r)=((b::r).reverse.dropWhile wh).reverse:=by simp only[trimB,List.dropWhile_cons,hwb',Bool.false_eq_true,if_false]
   rw[et]
   simpa using this
theorem specTrim_is (s:ByteArray) (hs:s.size≤9223372036854775806):Ev (fun k=>spec_Trim.f k s) (mkB (trimB (bl s))):=by
 have:=specTrim_go (bl s) [] (by simpa [size_bl]using hs)
 simpa [mk_bl,spec_Trim.f]using this
theorem implTrim_end: ∀(m:List UInt8),m.length≤9223372036854775806→Ev (fun k=>impl_Trim.l1 k (mkB m.reverse)) (mkB (m.dropWhile wh).reverse)
 | [],_=>Ev.step (f:=fun _=>some (mkB [])) (fun k=>by simp[impl_Trim.l1,toList_mk]) (by simpa using Ev.now (mkB []))
 |b::m,hl=>by
  simp at hl
  have hw:wrap64 (((mkB (b::m).reverse).size:Int)-1)=(m.length:Int):=by rw[size_mk,wrap_id (by simp<;>omega) (by simp<;>omega)];simp
  have hb:bt (mkB (b::m).reverse) (m.length:Int)=(b.toNat:Int):=by
   have:=bt_mid m.reverse b []
   simpa using this
  have hcell: ∀k,impl_Trim.l1 (k+1) (mkB (b::m).reverse)=if wh b=true then impl_Trim.l1 k (mkB m.reverse)else some (mkB (b::m).reverse):=by
   intro k
   simp only[impl_Trim.l1]
   rw[if_neg (by rw[toList_mk];simp),hw,if_pos (by omega),if_pos (by rw[size_mk];simp<;>omega),hb,isSpace_is]
   simp only[Option.bind_some]
   split
   ·rw[if_pos (by rw[size_mk];simp<;>omega),extract_mk]
    congr 2
    simp
   ·rfl
  by_cases hwb:wh b=true
  ·rw[List.dropWhile_cons,if_pos hwb]
   exact Ev.step (fun k=>by rw[hcell,if_pos hwb]) (implTrim_end m (by omega))
  ·rw[List.dropWhile_cons,if_neg hwb]
   exact Ev.step (f:=fun _=>some (mkB (b::m).reverse)) (fun k=>by rw[hcell,if_neg hwb]) (Ev.now _)
theorem implTrim_go: ∀(r:List UInt8),r.length≤9223372036854775806→Ev (fun k=>impl_Trim.l0 k (mkB r)) (mkB (trimB r))
 | [],_=>by
  have:=implTrim_end [] (by simp)
  refine Ev.step (f:=fun k=>impl_Trim.j1 k (mkB [])) (fun k=>by simp[impl_Trim.l0,toList_mk]) ?_
  exact Ev.step (f:=fun k=>impl_Trim.l1 k (mkB [])) (fun k=>by simp only[impl_Trim.j1]) (by simpa [trimB]using this)
 |b::r,hl=>by
  simp at hl
  have hb:bt (mkB (b::r)) 0=(b.toNat:Int):=by simpa using bt_mid [] b r
  by_cases hwb:wh b=true
  ·have ih:=implTrim_go r (by omega)
   have et:trimB (b::r)=trimB r:=by simp[trimB,List.dropWhile_cons,hwb]
   rw[et]
   refine Ev.step (fun k=>?_) ih
   simp only[impl_Trim.l0]
   rw[if_neg (by rw[toList_mk];simp),if_pos (by rw[size_mk];simp<;>omega),hb,isSpace_is,hwb]
   simp only[Option.bind_some,if_true]
   rw[if_pos (by rw[size_mk];simp<;>omega),extract_mk]
   simp[size_mk]
  ·have hwb':wh b=false:=by simpa using hwb
   have:=implTrim_end (b::r).reverse (by simpa using hl)
   refine Ev.step (f:=fun k=>impl_Trim.j1 k (mkB (b::r))) (fun k=>?_) ?_
   ·simp only[impl_Trim.l0]
    rw[if_neg (by rw[toList_mk];simp),if_pos (by rw[size_mk];simp<;>omega),hb,isSpace_is,hwb']
    simp
   refine Ev.step (f:=fun k=>impl_Trim.l1 k (mkB (b::r))) (fun k=>by simp only[impl_Trim.j1]) ?_
   have et:trimB (b::r)=((b::r).reverse.dropWhile wh).reverse:=by simp only[trimB,List.dropWhile_cons,hwb',Bool.false_eq_true,if_false]
   rw[et]
   simpa using this
theorem implTrim_is (s:ByteArray) (hs:s.size≤9223372036854775806):Ev (fun k=>impl_Trim.f k s) (mkB (trimB (bl s))):=by
 have:=implTrim_go (bl s) (by simpa [size_bl]using hs)
 simpa [mk_bl,impl_Trim.f]using this
/-! #### Chars -/
def plB (b:UInt8):Bool:=decide (b.toNat=9)||(decide (32≤b.toNat)&&decide (b.toNat≠127))
theorem specPlain_is (b:UInt8):spec_l1plain.f (b.toNat:Int)=some (plB b):=by
 unfold spec_l1plain.f plB
 by_cases h:b.toNat=9
 ·rw[if_pos (by omega)];simp[h]
 ·rw[if_neg (by omega)]
  by_cases h':32≤b.toNat
  ·rw[if_pos (by omega)];congr 1;rw[Bool.eq_iff_iff];simp[h,h'];omega
  ·rw[if_neg (by omega)];simp[h,h']
theorem implPlain_is (b:UInt8):impl_isPlain.f (b.toNat:Int)=some (plB b):=specPlain_is b
/-! #### TokB -/
def lowB (b:UInt8):Bool:=decide (97≤b.toNat)&&decide (b.toNat≤122)
def uppB (b:UInt8):Bool:=decide (65≤b.toNat)&&decide (b.toNat≤90)
def digB (b:UInt8):Bool:=decide (48≤b.toNat)&&decide (b.toNat≤57)
theorem isLower_is (b:UInt8):impl_isLower.f (b.toNat:Int)=some (lowB b):=by
 unfold impl_isLower.f lowB
 by_cases h:97≤b.toNat
 ·rw[if_pos (by omega)];congr 1;rw[Bool.eq_iff_iff];simp[h];omega
 ·rw[if_neg (by omega)];simp[h]
theorem isUpper_is (b:UInt8):impl_isUpper.f (b.toNat:Int)=some (uppB b):=by
 unfold impl_isUpper.f uppB
 by_cases h:65≤b.toNat
 ·rw[if_pos (by omega)];congr 1;rw[Bool.eq_iff_iff];simp[h];omega
 ·rw[if_neg (by omega)];simp[h]
theorem isDigit_is (b:UInt8):impl_isDigit.f (b.toNat:Int)=some (digB b):=by
 unfold impl_isDigit.f digB
 by_cases h:48≤b.toNat
 ·rw[if_pos (by omega)];congr 1;rw[Bool.eq_iff_iff];simp[h];omega
 ·rw[if_neg (by omega)];simp[h]
theorem l1digit_is (b:UInt8):spec_l1digit.f (b.toNat:Int)=some (digB b):=isDigit_is b
theorem has_go (c:Int): ∀(r pre:List UInt8),(pre++r).length≤9223372036854775806→Ev (fun k=>spec_l1has.l0 k (mkB (pre++r)) c pre.length) (r.any fun x=>decide ((x.toNat:Int)=c))
 | [],pre,hl=>Ev.step (f:=fun _=>some false) (fun k=>by simp only[spec_l1has.l0];rw[if_neg (by rw[size_mk];simp)]) (Ev.now _)
 |b::r,pre,hl=>by
  have ih:=has_go c r (pre++ [b]) (by rw[←app_mid];exact hl)
  rw[←app_mid,len_snoc]at ih
  simp at hl
  by_cases h:(b.toNat:Int)=c
  ·refine Ev.step (f:=fun _=>some true) (fun k=>?_) (by simpa [h]using Ev.now true)
   simp only[spec_l1has.l0]
   rw[if_pos (size_lt_mid ..),if_pos (by omega),bt_mid,if_pos h]
  ·refine Ev.step (fun k=>?_) (by simpa [h]using ih)
   simp only[spec_l1has.l0]
   rw[if_pos (size_lt_mid ..),if_pos (by omega),bt_mid,if_neg h,wrap_id (by omega) (by omega)]
theorem has_is (set:List UInt8) (b:UInt8) (h:set.length≤9223372036854775806):Ev (fun k=>spec_l1has.f k (mkB set) (b.toNat:Int)) (set.contains b):=by
 have:=has_go (b.toNat:Int) set [] (by simpa using h)
 have e:(set.any fun x=>decide ((x.toNat:Int)=(b.toNat:Int)))=set.contains b:=by
  rw[←List.any_beq]
  congr 1
  funext x
  rw[Bool.eq_iff_iff]
  simp only[decide_eq_true_eq,beq_iff_eq]
  constructor
  ·intro h;exact(UInt8.toNat_inj.1 (by omega)).symm
  ·intro h;rw[h]
 rw[e]at this
 simpa [spec_l1has.f]using this
/-! #### Token -/
def tokOdd:List UInt8:= [33,35,36,37,38,39,42,43,45,46,94,95,124,126]
def tokB (b:UInt8):Bool:=lowB b||uppB b||digB b||decide (b.toNat=96)||tokOdd.contains b
theorem indexByte_pos: ∀(l:List UInt8) (c:UInt8),Lib.indexByte l c≥0↔l.contains c=true
 | [],c=>by simp[Lib.indexByte]
 |b::l,c=>by
  have ih:=indexByte_pos l c
  have lo: -1≤Lib.indexByte l c:=Lib.indexByte_ge l c
  unfold Lib.indexByte
  by_cases h:b=c
  ·subst h;simp
  ·have hb:(b==c)=false:=by simpa using h
   have hc:(c==b)=false:=by simpa using fun x=>h x.symm
   rw[hb]
   simp only[Bool.false_eq_true,if_false,List.contains_cons,hc,Bool.false_or]
   rw[←ih]
   by_cases h2:Lib.indexByte l c= -1
   ·simp[h2]
   ·have:(Lib.indexByte l c== -1)=false:=by simpa using h2
    rw[this];simp;omega
theorem isTokenByte_is (b:UInt8):impl_isTokenByte.f (b.toNat:Int)=some (tokB b):=by
 have hi:(decide (Lib.indexByte tokOdd b≥0))=tokOdd.contains b:=by
  rw[Bool.eq_iff_iff,decide_eq_true_iff];exact indexByte_pos _ _
 have hx:strings_IndexByte.f (⟨#[33,35,36,37,38,39,42,43,45,46,94,95,124,126]⟩:ByteArray) (b.toNat:Int)=some (Lib.indexByte tokOdd b):=by
  unfold strings_IndexByte.f;rw[toUInt8_toNat];rfl
 unfold impl_isTokenByte.f
 simp only[isLower_is,isUpper_is,isDigit_is,hx,Option.bind_some,hi]
 unfold tokB
 cases lowB b<;>cases uppB b<;>cases digB b<;>simp
 all_goals (by_cases h:b.toNat=96<;>simp[h])
 all_goals (try omega)
theorem tchar_is (b:UInt8):Ev (fun k=>spec_l1tchar.f k (b.toNat:Int)) (tokB b):=by
 have hb:=u8_lt b
 have hh:Ev (fun k=>spec_l1has.f k (⟨#[33,35,36,37,38,39,42,43,45,46,94,95,124,126]⟩:ByteArray) (b.toNat:Int)) (tokOdd.contains b):=has_is tokOdd b (by decide)
 have rest:Ev (fun k=>if digB b=true then some true else if(b.toNat:Int)=96 then some true else(spec_l1has.f k (⟨#[33,35,36,37,38,39,42,43,45,46,94,95,124,126]⟩:ByteArray) (b.toNat:Int)).bind fun t=>some t) (digB b||decide (b.toNat=96)||tokOdd.contains b):=by
  cases hd:digB b
  ·by_cases h9:b.toNat=96
   ·simpa [h9]using Ev.now true
   ·have: ¬(b.toNat:Int)=96:=by omega
    simpa [h9,this]using hh.bind (f:=fun _ (t:Bool)=>some t) (Ev.now _)
  ·simpa using Ev.now true
 unfold spec_l1tchar.f spec_l1lower.f
 simp only[l1digit_is]
 unfold tokB
 by_cases hU:65≤b.toNat∧b.toNat≤90
 ·have e1:uppB b=true:=by simp[uppB,hU]
  simp only[if_pos (show(b.toNat:Int)≥65 by omega),if_pos (show(b.toNat:Int)≤90 by omega),Option.bind_some,if_pos (show((b.toNat:Int)+32)%256≥97 by omega),if_pos (show((b.toNat:Int)+32)%256≤122 by omega)]
  simpa [e1]using Ev.now true
 ·have e1:uppB b=false:=by simp[uppB];omega
  have hlow:(if(b.toNat:Int)≥65 then(if(b.toNat:Int)≤90 then some (((b.toNat:Int)+32)%256)else some (b.toNat:Int))else some (b.toNat:Int))=some (b.toNat:Int):=by
   split
   ·rw[if_neg (by omega)]
   ·rfl
  rw[hlow]
  simp only[Option.bind_some]
  by_cases hL:97≤b.toNat
  ·by_cases hL2:b.toNat≤122
   ·have e2:lowB b=true:=by simp[lowB,hL,hL2]
    simp only[if_pos (show(b.toNat:Int)≥97 by omega),if_pos (show(b.toNat:Int)≤122 by omega)]
    simpa [e2]using Ev.now true
   ·have e2:lowB b=false:=by simp[lowB,hL2]
    simp only[if_pos (show(b.toNat:Int)≥97 by omega),if_neg (show ¬(b.toNat:Int)≤122 by omega)]
    simpa [e1,e2]using rest
  ·have e2:lowB b=false:=by simp[lowB,hL]
   simp only[if_neg (show ¬(b.toNat:Int)≥97 by omega)]
   simpa [e1,e2]using rest
def tokenL (l:List UInt8):Bool:=decide (1≤l.length)&&decide (l.length≤4000)&&l.all tokB
theorem specToken_is (s:ByteArray):Ev (fun k=>spec_Token.f k s) (tokenL (bl s)):=by
 unfold spec_Token.f tokenL
 rw[size_bl]
 by_cases h0:(s.size:Int)=0
 ·simp only[if_pos h0]
  refine Ev.step (f:=fun _=>some false) (fun k=>by simp[spec_Token.j0]) ?_
  simpa [show ¬1≤s.size by omega]using Ev.now false
 ·simp only[if_neg h0]
  by_cases h4:(s.size:Int)>4000
  ·refine Ev.step (f:=fun _=>some false) (fun k=>by simp[spec_Token.j0,h4]) ?_
   simpa [show ¬s.size≤4000 by omega]using Ev.now false
  ·refine Ev.step (f:=fun k=>spec_Token.l0 k s 0) (fun k=>by simp[spec_Token.j0,h4]) ?_
   have:=all_ev spec_Token.l0 spec_l1tchar.f tokB tchar_is (fun k s i=>by simp only[spec_Token.l0]) s (by omega)
   simpa [show 1≤s.size by omega,show s.size≤4000 by omega]using this
/-! #### Within -/
theorem within_is (n a b:Int):impl_within.f n a b=some (decide (a≤n)&&decide (n≤b)):=by
 unfold impl_within.f
 by_cases h:a≤n<;>simp[h]
/-! #### FieldOk -/
theorem implToken_is (s:ByteArray):Ev (fun k=>impl_Token.f k s) (tokenL (bl s)):=by
 unfold impl_Token.f tokenL
 rw[size_bl]
 simp only[within_is,Option.bind_some]
 have e:(decide ((1:Int)≤(s.size:Int))&&decide ((s.size:Int)≤4000))=(decide (1≤s.size)&&decide (s.size≤4000)):=by rw[Bool.eq_iff_iff];simp;omega
 rw[e]
 cases h:(decide (1≤s.size)&&decide (s.size≤4000))
 ·simpa using Ev.now false
 ·have hs:s.size≤9223372036854775806:=by simp at h;omega
  have:=all_ev impl_all__impl_isTokenByte.l0 (fun _ c=>impl_isTokenByte.f c) tokB (fun b=>Ev.const (isTokenByte_is b)) (fun k s i=>by simp only[impl_all__impl_isTokenByte.l0]) s hs
  simpa [impl_all__impl_isTokenByte.f]using this.bind (f:=fun _ (t:Bool)=>some t) (Ev.now _)
def fieldL (n v:List UInt8):Bool:=tokenL n&&decide (n.length≤40)&&decide (v.length≤190)&&v.all plB&&decide (trimB v=v)
theorem specL5plain_is (s:ByteArray) (hs:s.size≤9223372036854775806):Ev (fun k=>spec_l5plain.f k s) ((bl s).all plB):=by
 have:=all_ev spec_l5plain.l0 (fun _ c=>spec_l1plain.f c) plB (fun b=>Ev.const (specPlain_is b)) (fun k s i=>by simp only[spec_l5plain.l0]) s hs
 simpa [spec_l5plain.f]using this
theorem implAllPlain_is (s:ByteArray) (hs:s.size≤9223372036854775806):Ev (fun k=>impl_all__impl_isPlain.f k s) ((bl s).all plB):=by
 have:=all_ev impl_all__impl_isPlain.l0 (fun _ c=>impl_isPlain.f c) plB (fun b=>Ev.const (implPlain_is b)) (fun k s i=>by simp only[impl_all__impl_isPlain.l0]) s hs
 simpa [impl_all__impl_isPlain.f]using this
theorem trim_eq (v:ByteArray):((mkB (trimB (bl v))).toList==v.toList)=decide (trimB (bl v)=bl v):=by
 rw[toList_mk,toList_bl,Bool.eq_iff_iff];simp
theorem specFieldOk_is (n v:ByteArray):Ev (fun k=>spec_FieldOk.f k n v) (fieldL (bl n) (bl v)):=by
 unfold spec_FieldOk.f fieldL
 rw[size_bl,size_bl]
 by_cases h1:(n.size:Int)≤40
 ·simp only[if_pos h1]
  refine(specToken_is n).bind ?_
  cases ht:tokenL (bl n)
  ·simpa using Ev.now false
  ·by_cases h2:(v.size:Int)≤190
   ·simp only[if_pos h2,if_true]
    refine(specL5plain_is v (by omega)).bind ?_
    cases hp:(bl v).all plB
    ·simpa using Ev.now false
    ·simp only[if_true]
     have:=(specTrim_is v (by omega)).bind (f:=fun _ (t:ByteArray)=>some (t.toList==v.toList)) (Ev.now _)
     rw[trim_eq]at this
     simpa [show n.size≤40 by omega,show v.size≤190 by omega]using this
   ·simp only[if_neg h2,if_true]
    simpa [show ¬v.size≤190 by omega]using Ev.now false
 ·simp only[if_neg h1]
  simpa [show ¬n.size≤40 by omega]using Ev.now false
theorem implFieldOk_is (n v:ByteArray):Ev (fun k=>impl_FieldOk.f k n v) (fieldL (bl n) (bl v)):=by
 unfold impl_FieldOk.f fieldL
 rw[size_bl,size_bl]
 refine(implToken_is n).bind ?_
 cases ht:tokenL (bl n)
 ·simpa using Ev.now false
 ·by_cases h1:(n.size:Int)≤40
  ·by_cases h2:(v.size:Int)≤190
   ·simp only[if_pos h1,if_pos h2,if_true]
    refine(implAllPlain_is v (by omega)).bind ?_
    cases hp:(bl v).all plB
    ·simpa using Ev.now false
    ·simp only[if_true]
     have:=(implTrim_is v (by omega)).bind (f:=fun _ (t:ByteArray)=>some (t.toList==v.toList)) (Ev.now _)
     rw[trim_eq]at this
     simpa [show n.size≤40 by omega,show v.size≤190 by omega]using this
   ·simp only[if_pos h1,if_neg h2,if_true]
    simpa [show ¬v.size≤190 by omega]using Ev.now false
  ·simp only[if_neg h1,if_true]
   simpa [show ¬n.size≤40 by omega]using Ev.now false
/-! #### Index -/
theorem index_bound: ∀(l sub:List UInt8),Lib.index l sub= -1∨(0≤Lib.index l sub∧Lib.index l sub+sub.length≤l.length)
 | [],sub=>by cases sub<;>simp[Lib.index]
 |b::l,sub=>by
  unfold Lib.index
  by_cases hp:sub.isPrefixOf (b::l)=true
  ·have:=(List.isPrefixOf_iff_prefix.1 hp).length_le
   rw[if_pos hp];right;simp at this ⊢;omega
  ·rw[if_neg hp]
   rcases index_bound l sub with h|h
   ·left;simp[h]
   ·right
    have:(Lib.index l sub== -1)=false:=by simp;omega
    rw[this];simp;omega
/-! #### Cut -/
def cutB (c:UInt8):List UInt8→List UInt8×List UInt8×Bool
 | []=>([],[],false)
 |b::l=>if b=c then([],l,true)else(b::(cutB c l).1,(cutB c l).2)
theorem cut_is (c:UInt8): ∀l:List UInt8,Lib.cut l [c]=cutB c l
 | []=>by simp[Lib.cut,Lib.index,cutB]
 |b::l=>by
  have ih:=cut_is c l
  have hb:=index_bound l [c]
  unfold Lib.cut at ih ⊢
  by_cases h:b=c
  ·subst h
   have hi:Lib.index (b::l) [b]=0:=by simp[Lib.index]
   rw[hi];simp[cutB]
  ·have hi:Lib.index (b::l) [c]=if Lib.index l [c]= -1 then-1 else Lib.index l [c]+1:=by
    have hc:(c==b)=false:=by simpa using fun x=>h x.symm
    simp only[Lib.index,List.isPrefixOf,hc,Bool.false_and,Bool.false_eq_true,if_false]
    by_cases hm:Lib.index l [c]= -1<;>simp[hm]
   rw[hi,cutB,if_neg h]
   by_cases hm:Lib.index l [c]= -1
   ·rw[hm]at ih
    rw[if_pos hm]
    rw[if_neg (by omega)]at ih ⊢
    rw[←ih]
   ·rw[if_neg hm]
    rw[if_pos (by omega)]at ih
    rw[if_pos (by omega),←ih]
    have e:(Lib.index l [c]+1).toNat=(Lib.index l [c]).toNat+1:=by omega
    rw[e]
    simp[Nat.add_right_comm]
theorem cutB_len (c:UInt8): ∀l:List UInt8,(cutB c l).1.length+(cutB c l).2.1.length≤l.length
 | []=>by simp[cutB]
 |b::l=>by
  have ih:=cutB_len c l
  unfold cutB;split
  ·simp
  ·simp;omega
/-! #### ReadField -/
def readFieldL (l:List UInt8):ByteArray×ByteArray×Bool:=
 if(cutB 58 l).2.2=true∧fieldL (cutB 58 l).1 (trimB (cutB 58 l).2.1)=true then(mkB (cutB 58 l).1,mkB (trimB (cutB 58 l).2.1),true)else((⟨#[]⟩:ByteArray),(⟨#[]⟩:ByteArray),false)
theorem stringsCut_is (s:ByteArray) (c:UInt8) (hs:s.size≤1048576):strings_Cut.f s (⟨#[c]⟩:ByteArray)=some (mkB (cutB c (bl s)).1,mkB (cutB c (bl s)).2.1,(cutB c (bl s)).2.2):=by
 unfold strings_Cut.f
 rw[if_pos (by omega)]
 have:Lib.cut s.data.toList (⟨#[c]⟩:ByteArray).data.toList=cutB c (bl s):=cut_is c (bl s)
 rw[this];rfl
theorem implReadField_is (s:ByteArray) (hs:s.size≤1048576):Ev (fun k=>impl_ReadField.f k s) (readFieldL (bl s)):=by
 have hlen:=cutB_len 58 (bl s)
 rw[size_bl]at hlen
 unfold impl_ReadField.f
 rw[stringsCut_is s 58 hs]
 simp only[Option.bind_some]
 refine(implTrim_is _ (by rw[size_mk];omega)).bind ?_
 unfold readFieldL
 rw[bl_mk]
 cases hc:(cutB 58 (bl s)).2.2
 ·simpa using Ev.now ((⟨#[]⟩:ByteArray),(⟨#[]⟩:ByteArray),false)
 ·simp only[if_true]
  refine(implFieldOk_is _ _).bind ?_
  rw[bl_mk,bl_mk]
  cases hf:fieldL (cutB 58 (bl s)).1 (trimB (cutB 58 (bl s)).2.1)
  ·simpa using Ev.now _
  ·simpa using Ev.now _
/-! #### Lists -/
/-- A loop that holds a list against itself. -/
theorem eqS_loop {β : Type} (F : Nat → List β → List β → Int → Option Bool) (hF : ∀ k l (i : Int), 0 ≤ i → i < (l.length : Int) → F (k + 1) l l i = F k l l (wrap64 (i + 1)))
  (hE: ∀k l,F (k+1) l l (l.length:Int)=some true) (L:List β) (hL:L.length≤1048576): ∀(r pre:List β),pre++r=L→Ev (fun k=>F k L L pre.length) true
 | [],pre,hp=>by
  have e:pre=L:=by simpa using hp
  exact Ev.step (f:=fun _=>some true) (fun k=>by rw[e];exact hE k L) (Ev.now _)
 |x::r,pre,hp=>by
  have ih:=eqS_loop F hF hE L hL r (pre++ [x]) (by rw[←hp];simp)
  rw[len_snoc]at ih
  have hlm:=len_mid pre x r
  rw[hp]at hlm
  exact Ev.step (fun k=>by rw[hF k L _ (by omega) hlm,wrap_id (by omega) (by omega)]) ih
theorem eqS_ev {β : Type} (F : Nat → List β → List β → Int → Option Bool) (hF : ∀ k l (i : Int), 0 ≤ i → i < (l.length : Int) → F (k + 1) l l i = F k l l (wrap64 (i + 1)))
  (hE: ∀k l,F (k+1) l l (l.length:Int)=some true) (l:List β) (hl:l.length≤1048576):Ev (fun k=>F k l l 0) true:=by
 simpa using eqS_loop F hF hE l hl l [] rfl
/-- A loop that asks each element. -/
theorem allS_loop {α : Type} (F : Nat → List α → Int → Option Bool) (G : Nat → α → Option Bool) (p : α → Bool) (z : α) (hG : ∀ x, Ev (fun k => G k x) (p x))
  (hF: ∀k l (i:Int),0≤i→i<(l.length:Int)→F (k+1) l i=(G k (l.getD i.toNat z)).bind fun t=>if t=true then F k l (wrap64 (i+1))else some false)
  (hE: ∀k l,F (k+1) l (l.length:Int)=some true): ∀(r pre:List α),(pre++r).length≤1048576→Ev (fun k=>F k (pre++r) pre.length) (r.all p)
 | [],pre,_=>Ev.step (f:=fun _=>some true) (fun k=>by simpa using hE k pre) (Ev.now _)
 |x::r,pre,hl=>by
  have ih:=allS_loop F G p z hG hF hE r (pre++ [x]) (by rw[←app_mid];exact hl)
  rw[←app_mid,len_snoc]at ih
  simp at hl
  refine Ev.step (f:=fun k=>(G k x).bind fun t=>if t=true then F k (pre++x::r) (pre.length+1)else some false) (fun k=>?_) ?_
  ·rw[hF k _ _ (by omega) (len_mid ..),getD_mid,wrap_id (by omega) (by omega)]
  refine(hG x).bind ?_
  cases hp:p x
  ·simpa [hp]using Ev.now false
  ·simpa [hp]using ih
theorem allS_ev {α : Type} (F : Nat → List α → Int → Option Bool) (G : Nat → α → Option Bool) (p : α → Bool) (z : α) (hG : ∀ x, Ev (fun k => G k x) (p x))
  (hF: ∀k l (i:Int),0≤i→i<(l.length:Int)→F (k+1) l i=(G k (l.getD i.toNat z)).bind fun t=>if t=true then F k l (wrap64 (i+1))else some false)
  (hE: ∀k l,F (k+1) l (l.length:Int)=some true) (l:List α) (hl:l.length≤1048576):Ev (fun k=>F k l 0) (l.all p):=by
 simpa using allS_loop F G p z hG hF hE l [] (by simpa using hl)
/-! #### Fields -/
abbrev IFld:=S24
def fldOk (x:IFld):Bool:=fieldL (bl x.f0) (bl x.f1)
def fldsOk (l:List IFld):Bool:=decide (l.length≤20)&&l.all fldOk
theorem specFieldsOk_is (l:List IFld):Ev (fun k=>spec_FieldsOk.f k l) (fldsOk l):=by
 unfold spec_FieldsOk.f fldsOk
 by_cases h:(l.length:Int)>20
 ·simp only[if_pos h]
  simpa [show ¬l.length≤20 by omega]using Ev.now false
 ·simp only[if_neg h]
  have:=allS_ev spec_FieldsOk.l0 (fun k x=>spec_FieldOk.f k x.f0 x.f1) fldOk z24 (fun x=>specFieldOk_is x.f0 x.f1)
   (fun k l i h0 h1=>by simp only[spec_FieldsOk.l0];rw[if_pos h1,if_pos h0];rfl) (fun k l=>by simp only[spec_FieldsOk.l0];rw[if_neg (by omega)]) l (by omega)
  simpa [show l.length≤20 by omega]using this
theorem implFieldsOk_is (l:List IFld):Ev (fun k=>impl_FieldsOk.f k l) (fldsOk l):=by
 unfold impl_FieldsOk.f fldsOk
 by_cases h:(l.length:Int)>20
 ·simp only[if_pos h]
  simpa [show ¬l.length≤20 by omega]using Ev.now false
 ·simp only[if_neg h]
  have:=allS_ev (fun k l i=>impl_FieldsOk.l0 k l (l.length:Int) i) (fun k x=>impl_FieldOk.f k x.f0 x.f1) fldOk z24 (fun x=>implFieldOk_is x.f0 x.f1)
   (fun k l i h0 h1=>by simp only[impl_FieldsOk.l0];rw[if_pos h1,if_pos h0,if_pos h1];rfl) (fun k l=>by simp only[impl_FieldsOk.l0];rw[if_neg (by omega)]) l (by omega)
  simpa [show l.length≤20 by omega]using this
/-! #### FoldD -/
def lowS (s:ByteArray):ByteArray:=strOfNums ((bytesOf s).map lowI)
/-! #### FoldS -/
theorem specFold_is (s:ByteArray) (h:s.size≤1099511627776):spec_Fold.f s=some (lowS s):=by unfold spec_Fold.f;rw[if_pos h];rfl
/-! #### FoldI -/
theorem implFold_is (s:ByteArray) (h:s.size≤1099511627776):impl_Fold.f s=some (lowS s):=by unfold impl_Fold.f;rw[if_pos h];rfl
/-! #### ValuesI -/
/-- A loop that collects what is fit. -/
theorem filtS_go {α β : Type} (L : Nat → List α → List β → Int → Option (List β)) (p : α → Bool) (g : α → β) (ok : α → Prop) (z : α)
  (hstep: ∀k l acc (i:Int),0≤i→i<(l.length:Int)→acc.length<8796093022208→ok (l.getD i.toNat z)→L (k+1) l acc i=if p (l.getD i.toNat z)=true then L k l (acc++ [g (l.getD i.toNat z)]) (wrap64 (i+1))else L k l acc (wrap64 (i+1)))
  (hend: ∀k l acc,L (k+1) l acc (l.length:Int)=some acc):
  ∀(r pre:List α) (acc:List β),(∀x∈r,ok x)→acc.length+r.length≤1048576→(pre++r).length≤1048576→Ev (fun k=>L k (pre++r) acc pre.length) (acc++(r.filter p).map g)
 | [],pre,acc,_,_,_=>Ev.step (f:=fun _=>some acc) (fun k=>by simpa using hend k pre acc) (by simpa using Ev.now acc)
 |x::r,pre,acc,ho,ha,hl=>by
  have hx:=ho x (by simp)
  simp only[List.length_cons]at ha
  have hw:wrap64 ((pre.length:Int)+1)=(pre.length:Int)+1:=by simp at hl;exact wrap_id (by omega) (by omega)
  have hs:=fun k=>hstep k (pre++x::r) acc pre.length (by omega) (len_mid ..) (by omega) (by rw[getD_mid];exact hx)
  simp only[getD_mid,hw]at hs
  by_cases hp:p x=true
  ·have ih:=filtS_go L p g ok z hstep hend r (pre++ [x]) (acc++ [g x]) (fun y hy=>ho y (List.mem_cons_of_mem _ hy)) (by simp;omega) (by rw[←app_mid];exact hl)
   rw[←app_mid,len_snoc]at ih
   rw[List.filter_cons_of_pos hp,List.map_cons,show acc++g x::(r.filter p).map g=acc++ [g x]++(r.filter p).map g by simp]
   exact Ev.step (fun k=>by rw[hs,if_pos hp]) ih
  ·have ih:=filtS_go L p g ok z hstep hend r (pre++ [x]) acc (fun y hy=>ho y (List.mem_cons_of_mem _ hy)) (by omega) (by rw[←app_mid];exact hl)
   rw[←app_mid,len_snoc]at ih
   rw[List.filter_cons_of_neg hp]
   exact Ev.step (fun k=>by rw[hs,if_neg hp]) ih
def sameB (a b:ByteArray):Bool:=(lowS a).toList==(lowS b).toList
theorem implSame_is (a b:ByteArray) (ha:a.size≤1099511627776) (hb:b.size≤1099511627776):impl_SameFold.f a b=some (sameB a b):=by
 unfold impl_SameFold.f;rw[implFold_is a ha,implFold_is b hb];rfl
def valsF (l:List IFld) (n:ByteArray):List ByteArray:=(l.filter fun x=>sameB x.f0 n).map (·.f1)
def vals (l:List IFld) (n:ByteArray):List ByteArray:=if fldsOk l=true then valsF l n else []
def smallF (x:IFld):Prop:=x.f0.size≤1048576∧x.f1.size≤1048576
theorem implValues_is (l:List IFld) (n:ByteArray) (hl:l.length≤1048576) (ho: ∀x∈l,smallF x) (hn:n.size≤1048576):Ev (fun k=>impl_Values.f k l n) (vals l n):=by
 unfold impl_Values.f vals
 refine(implFieldsOk_is l).bind ?_
 by_cases h:fldsOk l=true
 ·simp only[if_pos h]
  have:=filtS_go (fun k l acc i=>impl_Values.l0 k n acc l (l.length:Int) i) (fun x=>sameB x.f0 n) (·.f1) smallF z24
   (fun k l acc i h0 h1 h2 h3=>by simp only[impl_Values.l0];rw[if_pos h1,if_pos h0,if_pos h1];simp only[rd_T24];rw[implSame_is _ _ (by have:=h3.1;omega) (by omega)];simp only[Option.bind_some,if_pos h2])
   (fun k l acc=>by simp only[impl_Values.l0];rw[if_neg (by omega)]) l [] [] ho (by simpa using hl) (by simpa using hl)
  simpa [valsF]using this
 ·simp only[if_neg h];exact Ev.now _
theorem le_sum_mem: ∀(l:List Nat) (x:Nat),x∈l→x≤l.sum
 |a::l,x,h=>by
  simp only[List.sum_cons]
  rcases List.mem_cons.1 h with rfl|h
  ·omega
  ·have:=le_sum_mem l x h;omega
/-! #### Values -/
theorem specSame_is (a b:ByteArray) (ha:a.size≤1099511627776) (hb:b.size≤1099511627776):spec_SameFold.f a b=some (sameB a b):=by
 unfold spec_SameFold.f;rw[specFold_is a ha,specFold_is b hb];rfl
/-! #### Joined -/
def totF (l:List IFld):Nat:=(l.map fun x=>x.f0.size+x.f1.size).sum
theorem smallF_tot (l:List IFld) (h:totF l≤1048576): ∀x∈l,smallF x:=by
 intro x hx
 have:x.f0.size+x.f1.size≤totF l:=le_sum_mem _ _ (List.mem_map_of_mem (f:=fun x:IFld=>x.f0.size+x.f1.size) hx)
 exact⟨by omega,by omega⟩
def totS (l:List ByteArray):Nat:=(l.map (·.size)).sum
theorem totS_vals (l:List IFld) (n:ByteArray):totS (vals l n)≤totF l:=by
 have: ∀l:List IFld,totS (valsF l n)≤totF l:=by
  intro l
  induction l with
  |nil=>simp[totS,totF,valsF]
  |cons x r ih=>
   by_cases hp:sameB x.f0 n=true
   ·simp[totS,totF,valsF,List.filter_cons,hp]at ih ⊢;omega
   ·simp[totS,totF,valsF,List.filter_cons,hp]at ih ⊢;omega
 unfold vals
 split
 ·exact this l
 ·simp[totS]
theorem len_vals (l:List IFld) (n:ByteArray):(vals l n).length≤20:=by
 unfold vals
 split
 ·rename_i h
  simp[fldsOk]at h
  have:(valsF l n).length≤l.length:=by simpa [valsF]using List.length_filter_le _ l
  omega
 ·simp
def commaB:List UInt8:= [44,32]
def joined (v:List ByteArray):ByteArray:=mkB (Lib.join (v.map bl) commaB)
theorem bl_length (a:ByteArray):(bl a).length=a.size:=by simp[bl]
theorem joinTail_len (v:List ByteArray):(Lib.joinTail commaB (v.map bl)).length=totS v+2*v.length:=by
 induction v with
 |nil=>rfl
 |cons x r ih=>
  have h1:Lib.joinTail commaB ((x::r).map bl)=commaB++bl x++Lib.joinTail commaB (r.map bl):=by simp[Lib.joinTail]
  have h2:totS (x::r)=x.size+totS r:=by simp[totS]
  rw[h1,h2,List.length_append,List.length_append,ih,bl_length,List.length_cons]
  simp[commaB];omega
theorem join_len (v:List ByteArray):(Lib.join (v.map bl) commaB).length≤totS v+2*v.length:=by
 cases v with
 |nil=>simp[Lib.join_nil]
 |cons x r=>
  have h2:totS (x::r)=x.size+totS r:=by simp[totS]
  rw[List.map_cons,Lib.join_cons,List.length_append,joinTail_len,bl_length,h2,List.length_cons];omega
theorem implJoined_is (l:List IFld) (n:ByteArray) (hl:l.length≤1048576) (ht:totF l≤1048576) (hn:n.size≤1048576):Ev (fun k=>impl_Joined.f k l n) (joined (vals l n)):=by
 have h1:=totS_vals l n
 have h2:=len_vals l n
 have h3:=join_len (vals l n)
 unfold impl_Joined.f
 refine(implValues_is l n hl (smallF_tot l ht) hn).bind ?_
 have hx:strings_Join.f (vals l n) (⟨#[44,32]⟩:ByteArray)=some (joined (vals l n)):=by
  unfold strings_Join.f
  exact if_pos ⟨by omega,by show(Lib.join ((vals l n).map bl) commaB).length≤_;omega⟩
 rw[hx]
 exact Ev.now _
/-! #### Elems -/
/-- A list's pieces: cut at each comma outside of quotes. -/
def elL:Nat→Bool→List UInt8→List UInt8→List (List UInt8)
 |0,_,mid,_=> [mid]
 |_+1,_,mid,[]=> [mid]
 |n+1,q,mid,b::r=>if b=34 then elL n (!q) (mid++ [b]) r else if q=true then(if b=92 then(match r with| []=> [mid++ [b]]|c::r'=>elL n true (mid++ [b,c]) r')else elL n true (mid++ [b]) r)else if b=44 then mid::elL n false [] r else elL n false (mid++ [b]) r
theorem elL_cons (n:Nat) (q:Bool) (mid:List UInt8) (b:UInt8) (r:List UInt8):elL (n+1) q mid (b::r)=if b=34 then elL n (!q) (mid++ [b]) r else if q=true then(if b=92 then(match r with| []=> [mid++ [b]]|c::r'=>elL n true (mid++ [b,c]) r')else elL n true (mid++ [b]) r)else if b=44 then mid::elL n false [] r else elL n false (mid++ [b]) r:=by cases r<;>rfl
/-- What stays of them without blanks around. -/
def keepT (l:List (List UInt8)):List (List UInt8):=(l.map trimB).filter (fun x=>!x.isEmpty)
theorem keepT_cons (x:List UInt8) (l:List (List UInt8)):keepT (x::l)=keepT [x]++keepT l:=by
 unfold keepT
 simp only[List.map_cons,List.map_nil]
 rw[List.filter_cons,List.filter_cons]
 split<;>simp
theorem keepT_one (x:List UInt8):keepT [x]=if trimB x= []then []else [trimB x]:=by
 unfold keepT
 by_cases h:trimB x= []
 ·simp[h]
 ·simp[h]
theorem u8_34 (b:UInt8):(b.toNat:Int)=34↔b=34:=by rw[←UInt8.toNat_inj];show _↔b.toNat=34;omega
theorem u8_92 (b:UInt8):(b.toNat:Int)=92↔b=92:=by rw[←UInt8.toNat_inj];show _↔b.toNat=92;omega
theorem u8_44 (b:UInt8):(b.toNat:Int)=44↔b=44:=by rw[←UInt8.toNat_inj];show _↔b.toNat=44;omega
theorem implAdd_is (out:List ByteArray) (x:List UInt8) (hx:x.length≤1000000) (ho:out.length≤1000000):Ev (fun k=>impl_Elements.add k out (mkB x)) (out++(keepT [x]).map mkB):=by
 unfold impl_Elements.add
 refine(implTrim_is (mkB x) (by rw[size_mk];omega)).bind ?_
 rw[bl_mk,toList_mk,keepT_one]
 by_cases h:trimB x= []
 ·simp only[if_pos h];simpa using Ev.now out
 ·simp only[if_neg h,if_pos (show out.length<8796093022208 by omega)];exact Ev.now _
theorem implElems_last (mid done : List UInt8) (out : List ByteArray) (q : Bool) (hl : (done ++ mid).length ≤ 100000) (ho : out.length ≤ done.length) :
  Ev (fun k=>impl_Elements.l0 k (mkB (done++mid)) out (done.length:Int) q ((done.length:Int)+(mid.length:Int))) (out++(keepT [mid]).map mkB):=by
 rw[List.length_append]at hl
 have hs:(mkB (done++mid)).size=done.length+mid.length:=by rw[size_mk,List.length_append]
 have hx:(mkB (done++mid)).extract (done.length:Int).toNat (mkB (done++mid)).size=mkB mid:=by
  have:=take_mid done mid []
  rw[List.append_nil]at this
  rw[extract_mk,Int.toNat_natCast,hs,this]
 refine Ev.step (fun k=>?_) (implAdd_is out mid (by omega) (by omega))
 rw[impl_Elements.l0,if_neg (by rw[hs];omega),if_pos (by omega),if_pos (by rw[hs];omega),hx]
theorem implElems_cell (k : Nat) (s : ByteArray) (out : List ByteArray) (fr : Int) (q : Bool) (i : Int) (b : UInt8) (hlt : i < (s.size : Int)) (h0 : 0 ≤ i) (hb : bt s i = (b.toNat : Int)) (hs : s.size ≤ 1000000) :
  impl_Elements.l0 (k+1) s out fr q i=if b=34 then impl_Elements.l0 k s out fr (!q) (i+1)else if q=true then(if b=92 then impl_Elements.l0 k s out fr true (i+1+1)else impl_Elements.l0 k s out fr true (i+1))else if b=44 then(if 0≤fr then(if fr≤i then(impl_Elements.add k out (s.extract fr.toNat i.toNat)).bind fun o=>impl_Elements.l0 k s o (i+1) false (i+1)else none)else none)else impl_Elements.l0 k s out fr false (i+1):=by
 have hw:wrap64 (i+1)=i+1:=wrap_id (by omega) (by omega)
 have hw2:wrap64 (i+1+1)=i+1+1:=wrap_id (by omega) (by omega)
 rw[impl_Elements.l0,if_pos hlt,if_pos h0,hb,hw,hw2]
 by_cases h34:b=34
 ·rw[if_pos h34,if_pos ((u8_34 b).2 h34)]
 rw[if_neg h34,if_neg (fun h=>h34 ((u8_34 b).1 h))]
 cases q
 ·rw[if_neg Bool.false_ne_true,if_neg Bool.false_ne_true]
  by_cases h44:b=44
  ·rw[if_pos h44,if_pos ((u8_44 b).2 h44)]
  ·rw[if_neg h44,if_neg (fun h=>h44 ((u8_44 b).1 h))]
 ·rw[if_pos rfl,if_pos rfl]
  by_cases h92:b=92
  ·rw[if_pos h92,if_pos ((u8_92 b).2 h92)]
  ·rw[if_neg h92,if_neg (fun h=>h92 ((u8_92 b).1 h))]
theorem implElems_go : ∀ (n : Nat) (r mid done : List UInt8) (out : List ByteArray) (q : Bool), r.length ≤ n → (done ++ (mid ++ r)).length ≤ 100000 → out.length ≤ done.length →
  Ev (fun k=>impl_Elements.l0 k (mkB (done++(mid++r))) out (done.length:Int) q ((done.length:Int)+(mid.length:Int))) (out++(keepT (elL n q mid r)).map mkB):=by
 intro n
 induction n with
 |zero=>
  intro r mid done out q hr hl ho
  obtain rfl:r= []:=List.length_eq_zero_iff.1 (by omega)
  have:=implElems_last mid done out q (by simpa using hl) ho
  simpa [elL]using this
 |succ n ih=>
  intro r mid done out q hr hl ho
  cases r with
  |nil=>
   have:=implElems_last mid done out q (by simpa using hl) ho
   simpa [elL]using this
  |cons b r=>
   have hl2:=hl
   simp at hl2 hr
   have hlt:(done.length:Int)+(mid.length:Int)<((mkB (done++(mid++b::r))).size:Int):=by rw[size_mk];simp;omega
   have hb:=bt_mid2 done mid b r _ rfl
   have hz:(mkB (done++(mid++b::r))).size≤1000000:=by rw[size_mk];omega
   have h0i:(0:Int)≤(done.length:Int)+(mid.length:Int):=by omega
   have ih1:=fun q'=>ih r (mid++ [b]) done out q' (by omega) (by simp;omega) ho
   have e1:done++(mid++ [b]++r)=done++(mid++b::r):=by simp
   have e2:(done.length:Int)+((mid++ [b]).length:Int)=(done.length:Int)+(mid.length:Int)+1:=by simp;omega
   simp only[e1,e2]at ih1
   by_cases h34:b=34
   ·have e:elL (n+1) q mid (b::r)=elL n (!q) (mid++ [b]) r:=by rw[elL_cons,if_pos h34]
    rw[e]
    refine Ev.step (fun k=>?_) (ih1 (!q))
    rw[implElems_cell k _ out _ _ _ b hlt h0i hb hz,if_pos h34]
   ·cases q with
    |true=>
     by_cases h92:b=92
     ·cases r with
      |nil=>
       have e:elL (n+1) true mid [b]= [mid++ [b]]:=by simp[elL,h34,h92]
       rw[e]
       have hx:(mkB (done++(mid++ [b]))).extract (done.length:Int).toNat (mkB (done++(mid++ [b]))).size=mkB (mid++ [b]):=by
        have:=take_mid done (mid++ [b]) []
        rw[List.append_nil]at this
        rw[extract_mk,Int.toNat_natCast,size_mk,show(done++(mid++ [b])).length=done.length+(mid++ [b]).length by simp,this]
       refine Ev.step (f:=fun k=>impl_Elements.l0 k (mkB (done++(mid++ [b]))) out (done.length:Int) true ((done.length:Int)+(mid.length:Int)+1+1)) (fun k=>?_) ?_
       ·rw[implElems_cell k _ out _ _ _ b hlt h0i hb hz,if_neg h34,if_pos rfl,if_pos h92]
       ·refine Ev.step (fun k=>?_) (implAdd_is out (mid++ [b]) (by simp;omega) (by omega))
        rw[impl_Elements.l0,if_neg (by rw[size_mk];simp;omega),if_pos (by omega),if_pos (by rw[size_mk];simp;omega),hx]
      |cons c r'=>
       simp at hl2 hr
       have e:elL (n+1) true mid (b::c::r')=elL n true (mid++ [b,c]) r':=by rw[elL_cons,if_neg h34,if_pos rfl,if_pos h92]
       rw[e]
       have ih2:=ih r' (mid++ [b,c]) done out true (by omega) (by simp;omega) ho
       have e3:done++(mid++ [b,c]++r')=done++(mid++b::c::r'):=by simp
       have e4:(done.length:Int)+((mid++ [b,c]).length:Int)=(done.length:Int)+(mid.length:Int)+1+1:=by simp;omega
       rw[e3,e4]at ih2
       refine Ev.step (fun k=>?_) ih2
       rw[implElems_cell k _ out _ _ _ b hlt h0i hb hz,if_neg h34,if_pos rfl,if_pos h92]
     ·have e:elL (n+1) true mid (b::r)=elL n true (mid++ [b]) r:=by rw[elL_cons,if_neg h34,if_pos rfl,if_neg h92]
      rw[e]
      refine Ev.step (fun k=>?_) (ih1 true)
      rw[implElems_cell k _ out _ _ _ b hlt h0i hb hz,if_neg h34,if_pos rfl,if_neg h92]
    |false=>
     by_cases h44:b=44
     ·have e:elL (n+1) false mid (b::r)=mid::elL n false [] r:=by rw[elL_cons,if_neg h34,if_neg Bool.false_ne_true,if_pos h44]
      have er:out++(keepT (mid::elL n false [] r)).map mkB=(out++(keepT [mid]).map mkB)++(keepT (elL n false [] r)).map mkB:=by rw[keepT_cons,List.map_append,List.append_assoc]
      rw[e,er]
      have hx:(mkB (done++(mid++b::r))).extract (done.length:Int).toNat ((done.length:Int)+(mid.length:Int)).toNat=mkB mid:=by
       rw[extract_mk,Int.toNat_natCast,show((done.length:Int)+(mid.length:Int)).toNat=done.length+mid.length by omega,take_mid]
      have hk1:(keepT [mid]).length≤1:=by rw[keepT_one];split<;>simp
      have ih2:=ih r [] (done++mid++ [b]) (out++(keepT [mid]).map mkB) false (by omega) (by simp;omega) (by simp;omega)
      have e3:(done++mid++ [b])++([]++r)=done++(mid++b::r):=by simp
      have e4:((done++mid++ [b]).length:Int)=(done.length:Int)+(mid.length:Int)+1:=by simp;omega
      rw[e3,e4]at ih2
      simp only[List.length_nil,Int.natCast_zero,Int.add_zero]at ih2
      refine Ev.step (f:=fun k=>(impl_Elements.add k out (mkB mid)).bind fun o=>impl_Elements.l0 k (mkB (done++(mid++b::r))) o ((done.length:Int)+(mid.length:Int)+1) false ((done.length:Int)+(mid.length:Int)+1)) (fun k=>?_) ?_
      ·rw[implElems_cell k _ out _ _ _ b hlt h0i hb hz,if_neg h34,if_neg Bool.false_ne_true,if_pos h44,if_pos (by omega),if_pos (by omega),hx]
      ·exact(implAdd_is out mid (by omega) (by omega)).bind ih2
     ·have e:elL (n+1) false mid (b::r)=elL n false (mid++ [b]) r:=by rw[elL_cons,if_neg h34,if_neg Bool.false_ne_true,if_neg h44]
      rw[e]
      refine Ev.step (fun k=>?_) (ih1 false)
      rw[implElems_cell k _ out _ _ _ b hlt h0i hb hz,if_neg h34,if_neg Bool.false_ne_true,if_neg h44]
def elementsL (l:List UInt8):List ByteArray:=if l.length>4000 then []else(keepT (elL l.length false [] l)).map mkB
theorem implElements_is (s:ByteArray):Ev (fun k=>impl_Elements.f k s) (elementsL (bl s)):=by
 unfold impl_Elements.f elementsL
 rw[size_bl]
 by_cases h:s.size>4000
 ·simp only[if_pos (show(s.size:Int)>4000 by omega),if_pos h];exact Ev.now _
 ·simp only[if_neg (show ¬(s.size:Int)>4000 by omega),if_neg h]
  have:=implElems_go s.size (bl s) [] [] [] false (by rw[size_bl];omega) (by simp[size_bl];omega) (by simp)
  simpa [mk_bl]using this
/-! #### Words -/
def wordsL (l:List IFld) (n:ByteArray):List ByteArray:=elementsL (bl (joined (vals l n)))
theorem implWords_is (l:List IFld) (n:ByteArray) (hl:l.length≤1048576) (ht:totF l≤1048576) (hn:n.size≤1048576):Ev (fun k=>impl_Words.f k l n) (wordsL l n):=by
 unfold impl_Words.f
 refine(implJoined_is l n hl ht hn).bind ?_
 refine(implElements_is _).bind ?_
 exact Ev.now _
theorem trimB_len (x:List UInt8):(trimB x).length≤x.length:=by
 have h1: ∀l:List UInt8,(l.dropWhile wh).length≤l.length:=fun l=>(List.dropWhile_sublist _).length_le
 unfold trimB
 rw[List.length_reverse]
 refine Nat.le_trans (h1 _) ?_
 rw[List.length_reverse]
 exact h1 x
theorem elL_len: ∀(n:Nat) (q:Bool) (mid r:List UInt8),(elL n q mid r).length≤r.length+1∧ ∀x∈elL n q mid r,x.length≤mid.length+r.length
 |0,q,mid,r=>by simp[elL]
 |n+1,q,mid,[]=>by simp[elL]
 |n+1,q,mid,b::r=>by
  have ih:=fun q'=>elL_len n q' (mid++ [b]) r
  simp only[List.length_append,List.length_singleton]at ih
  have same: ∀q',(elL n q' (mid++ [b]) r).length≤(b::r).length+1∧ ∀x∈elL n q' (mid++ [b]) r,x.length≤mid.length+(b::r).length:=fun q'=>by
   have:=ih q'
   refine⟨by simp;omega,fun x hx=>?_⟩
   have:=this.2 x hx
   simp;omega
  unfold elL
  by_cases h34:b=34
  ·rw[if_pos h34];exact same _
  rw[if_neg h34]
  by_cases hq:q=true
  ·rw[if_pos hq]
   by_cases h92:b=92
   ·rw[if_pos h92]
    cases r with
    |nil=>simp
    |cons c r'=>
     have:=elL_len n true (mid++ [b,c]) r'
     simp only[List.length_append,List.length_cons,List.length_nil]at this
     refine⟨by simp;omega,fun x hx=>?_⟩
     have:=this.2 x hx
     simp;omega
   ·rw[if_neg h92];exact same _
  ·rw[if_neg hq]
   by_cases h44:b=44
   ·rw[if_pos h44]
    have:=elL_len n false [] r
    refine⟨by simp;omega,fun x hx=>?_⟩
    rcases List.mem_cons.1 hx with rfl|hx
    ·simp
    ·have:=this.2 x hx;simp at this ⊢;omega
   ·rw[if_neg h44];exact same _
theorem elementsL_bnd (l:List UInt8):(elementsL l).length≤4001∧ ∀x∈elementsL l,x.size≤4000:=by
 unfold elementsL
 by_cases h:l.length>4000
 ·rw[if_pos h];simp
 ·rw[if_neg h]
  have hb:=elL_len l.length false [] l
  refine⟨?_,fun x hx=>?_⟩
  ·rw[List.length_map]
   refine Nat.le_trans (List.length_filter_le _ _) ?_
   rw[List.length_map];omega
  ·obtain⟨y,hy,rfl⟩:=List.mem_map.1 hx
   obtain⟨z,hz,rfl⟩:=List.mem_map.1 (List.mem_filter.1 hy).1
   rw[size_mk]
   have:=hb.2 z hz
   have:=trimB_len z
   simp at*;omega
/-! #### GetI -/
def get1 (l:List IFld) (n:ByteArray):ByteArray×Bool:=if((vals l n).length:Int)=0 then((⟨#[]⟩:ByteArray),false)else(rdOf ByteArray.empty (vals l n) 0,true)
theorem implGet_is (l:List IFld) (n:ByteArray) (hl:l.length≤1048576) (ho: ∀x∈l,smallF x) (hn:n.size≤1048576):Ev (fun k=>impl_Get.f k l n) (get1 l n):=by
 unfold impl_Get.f get1
 refine(implValues_is l n hl ho hn).bind ?_
 by_cases h:((vals l n).length:Int)=0
 ·simp only[if_pos h];exact Ev.now _
 ·simp only[if_neg h,if_pos (show 0<((vals l n).length:Int)by omega)];exact Ev.now _
/-! #### HopI -/
def hop7:List ByteArray:= [(⟨#[99,111,110,110,101,99,116,105,111,110]⟩:ByteArray),(⟨#[107,101,101,112,45,97,108,105,118,101]⟩:ByteArray),(⟨#[112,114,111,120,121,45,99,111,110,110,101,99,116,105,111,110]⟩:ByteArray),(⟨#[116,101]⟩:ByteArray),(⟨#[116,114,97,105,108,101,114]⟩:ByteArray),(⟨#[116,114,97,110,115,102,101,114,45,101,110,99,111,100,105,110,103]⟩:ByteArray),(⟨#[117,112,103,114,97,100,101]⟩:ByteArray)]
def hopC:ByteArray:=(⟨#[99,111,110,110,101,99,116,105,111,110]⟩:ByteArray)
def hopSort (l:List ByteArray):List ByteArray:=slices_Compact_string_string.cpt (slices_Sort_string_string.srt l)
theorem srt_len (l:List ByteArray):(slices_Sort_string_string.srt l).length=l.length:=by simp[slices_Sort_string_string.srt]
theorem implHop_end (l w:List ByteArray) (hl:l.length<4611686018427387904):((slices_Sort_string_string.f l).bind fun t=>(slices_Compact_string_string.f t).bind fun t2=>some t2)=some (hopSort l):=by
 unfold slices_Sort_string_string.f slices_Compact_string_string.f
 rw[if_pos hl,Option.bind_some,srt_len,if_pos hl];rfl
def hopAdd (l:List ByteArray):List ByteArray:=(l.filter fun w=>tokenL (bl w)).map lowS
theorem implHop_go : ∀ (r pre out : List ByteArray), (∀ x ∈ r, x.size ≤ 1048576) → (pre ++ r).length ≤ 1048576 → out.length + r.length ≤ 1048576 →
  Ev (fun k=>impl_HopNames.l0 k out (pre++r) ((pre++r).length:Int) (pre.length:Int)) (hopSort (out++hopAdd r))
 | [],pre,out,_,hl,ho=>by
  refine Ev.step (f:=fun _=>some (hopSort out)) (fun k=>?_) (by simpa [hopAdd]using Ev.now (hopSort out))
  simp only[impl_HopNames.l0]
  rw[if_neg (by simp),implHop_end out [] (by simp at ho;omega)]
 |x::r,pre,out,hx,hl,ho=>by
  have hl2:=hl
  simp at hl2 ho
  have hrd:rdOf ByteArray.empty (pre++x::r) (pre.length:Int)=x:=getD_mid pre x r _
  have ih:=fun o=>implHop_go r (pre++ [x]) o (fun y hy=>hx y (List.mem_cons_of_mem _ hy)) (by rw[←app_mid];exact hl)
  simp only[←app_mid,len_snoc]at ih
  have hw:wrap64 ((pre.length:Int)+1)=(pre.length:Int)+1:=wrap_id (by omega) (by omega)
  refine Ev.step (f:=fun k=>(impl_Token.f k x).bind fun t=>if t=true then((impl_Fold.f x).bind fun q=>if out.length<8796093022208 then impl_HopNames.l0 k (out++ [q]) (pre++x::r) ((pre++x::r).length:Int) ((pre.length:Int)+1)else none)else impl_HopNames.l0 k out (pre++x::r) ((pre++x::r).length:Int) ((pre.length:Int)+1)) (fun k=>?_) ?_
  ·simp only[impl_HopNames.l0]
   rw[if_pos (len_mid ..),if_pos (by omega),if_pos (len_mid ..),hrd,hw]
  refine(implToken_is x).bind ?_
  cases ht:tokenL (bl x)
  ·simp only[Bool.false_eq_true,if_false]
   have:=ih out (by omega)
   simpa [hopAdd,ht]using this
  ·simp only[if_true,implFold_is x (by have:=hx x (by simp);omega),Option.bind_some,if_pos (show out.length<8796093022208 by omega)]
   have:=ih (out++ [lowS x]) (by simp;omega)
   simpa [hopAdd,ht]using this
def hopsL (l:List IFld):List ByteArray:=if fldsOk l=true then hopSort (hop7++hopAdd (wordsL l hopC))else []
theorem implHopNames_is (l:List IFld) (hl:l.length≤1048576) (ht:totF l≤1048576):Ev (fun k=>impl_HopNames.f k l) (hopsL l):=by
 unfold impl_HopNames.f hopsL
 refine(implFieldsOk_is l).bind ?_
 cases hf:fldsOk l
 ·simpa using Ev.now _
 ·simp only[if_true]
  refine(implWords_is l hopC hl ht (by decide)).bind ?_
  have hb:=elementsL_bnd (bl (joined (vals l hopC)))
  have:=implHop_go (wordsL l hopC) [] hop7 (fun x hx=>by have:=hb.2 x hx;omega) (by have:=hb.1;simp only[List.nil_append];unfold wordsL;omega) (by have:=hb.1;show 7+_≤_;unfold wordsL;omega)
  exact this
/-! #### Heads -/
theorem hop7_sort:hopSort hop7=hop7:=by
 have h1:slices_Sort_string_string.srt hop7=hop7:=by
  unfold slices_Sort_string_string.srt
  rw[List.mergeSort_of_pairwise (by decide)]
  rfl
 unfold hopSort
 rw[h1]
 rfl
theorem heads_is:Ev (fun k=>laws_heads.f k) true:=by
 unfold laws_heads.f
 refine(implReadField_is (⟨#[65,58,32,32,98,32]⟩:ByteArray) (by decide)).bind ?_
 have e1:readFieldL (bl (⟨#[65,58,32,32,98,32]⟩:ByteArray))=(mkB [65],mkB [98],true):=by rfl
 rw[e1]
 have hg:=implGet_is [(⟨(⟨#[65]⟩:ByteArray),(⟨#[98]⟩:ByteArray)⟩:IFld)] (⟨#[97]⟩:ByteArray) (by decide) (by intro x hx;simp at hx;subst hx;exact⟨by decide,by decide⟩) (by decide)
 have e2:get1 [(⟨(⟨#[65]⟩:ByteArray),(⟨#[98]⟩:ByteArray)⟩:IFld)] (⟨#[97]⟩:ByteArray)=(mkB [98],true):=by
  have hs:sameB (⟨#[65]⟩:ByteArray) (⟨#[97]⟩:ByteArray)=true:=by
   unfold sameB
   rw[toList_bl,toList_bl]
   rfl
  have hv:vals [(⟨(⟨#[65]⟩:ByteArray),(⟨#[98]⟩:ByteArray)⟩:IFld)] (⟨#[97]⟩:ByteArray)= [(⟨#[98]⟩:ByteArray)]:=by
   unfold vals valsF
   rw[if_pos (by rfl)]
   simp[List.filter,hs]
  unfold get1
  rw[hv]
  rfl
 rw[e2]at hg
 refine hg.bind ?_
 simp only[if_true,toList_mk,beq_self_eq_true,Bool.and_self]
 refine(implHopNames_is [] (by decide) (by decide)).bind ?_
 have e3:hopsL []=hop7:=by
  have:hopAdd (wordsL [] hopC)= []:=by rfl
  unfold hopsL
  rw[if_pos (by rfl),this,List.append_nil,hop7_sort]
 rw[e3]
 exact Ev.now _
/-! #### Draw -/
-- what is drawn: it comes, and lies in its range
theorem i64_and255 (n:Int):Go.bits .and .i64 n 255=n%256:=by
 have h255:(BitVec.ofInt 64 255).toNat=2^8-1:=by decide
 have key:(BitVec.ofInt 64 n&&&BitVec.ofInt 64 255).toNat=(n%((2^64:Nat):Int)).toNat%2^8:=by
  rw[BitVec.toNat_and,BitVec.toNat_ofInt,h255,Nat.and_two_pow_sub_one_eq_mod]
 show IntKind.i64.wrap ((BitVec.ofInt 64 n&&&BitVec.ofInt 64 255).toNat:Nat)=n%256
 rw[key,IntKind.wrap_i64]
 omega
def StOk (b:List Int) (i:Int):Prop:=0≤i∧i≤(b.length:Int)∧(b.length:Int)≤9223372036854775807
theorem l1Byte_ok (b:List Int) (i h:Int) (hs:StOk b i): ∃x i' h',spec_l1Byte.f b i h=some (x,i',h')∧0≤x∧x≤255∧StOk b i':=by
 obtain⟨h0,h1,h2⟩:=hs
 unfold spec_l1Byte.f
 simp only[i64_and255]
 by_cases c:i<(b.length:Int)
 ·rw[if_pos c,if_pos h0,wrap_id (a:=i+1) (by omega) (by omega)]
  exact⟨_,_,_,rfl,by omega,by omega,by omega,by omega,h2⟩
 ·rw[if_neg c]
  exact⟨_,_,_,rfl,by omega,by omega,h0,h1,h2⟩
theorem l1Below_ok (b:List Int) (i h n:Int) (hs:StOk b i): ∃x i' h',spec_l1Below.f b i h n=some (x,i',h')∧0≤x∧(n≤0→x=0)∧(0<n→x<n)∧StOk b i':=by
 unfold spec_l1Below.f
 by_cases c:n≤0
 ·rw[if_pos c];exact⟨_,_,_,rfl,by omega,fun _=>rfl,by omega,hs⟩
 rw[if_neg c]
 have hn0: ¬n=0:=by omega
 by_cases c2:n≤256
 ·rw[if_pos c2]
  obtain⟨x,i1,h1,e1,x0,x1,s1⟩:=l1Byte_ok b i h hs
  rw[e1,Option.bind_some,if_neg hn0,Int.tmod_eq_emod_of_nonneg x0]
  exact⟨_,_,_,rfl,Int.emod_nonneg _ hn0,by omega,fun _=>Int.emod_lt_of_pos _ (by omega),s1⟩
 ·rw[if_neg c2]
  obtain⟨x,i1,h1,e1,x0,x1,s1⟩:=l1Byte_ok b i h hs
  obtain⟨y,i2,h2,e2,y0,y1,s2⟩:=l1Byte_ok b i1 h1 s1
  obtain⟨z,i3,h3,e3,z0,z1,s3⟩:=l1Byte_ok b i2 h2 s2
  obtain⟨u,i4,h4,e4,u0,u1,s4⟩:=l1Byte_ok b i3 h3 s3
  simp only[e1,Option.bind_some,e2,e3,e4,if_neg hn0]
  rw[wrap_id (a:=x*16777216) (by omega) (by omega),wrap_id (a:=y*65536) (by omega) (by omega),wrap_id (a:=z*256) (by omega) (by omega),wrap_id (a:=x*16777216+y*65536) (by omega) (by omega),wrap_id (a:=x*16777216+y*65536+z*256) (by omega) (by omega),wrap_id (a:=x*16777216+y*65536+z*256+u) (by omega) (by omega)]
  have q0:0≤x*16777216+y*65536+z*256+u:=by omega
  rw[Int.tmod_eq_emod_of_nonneg q0]
  exact⟨_,_,_,rfl,Int.emod_nonneg _ hn0,by omega,fun _=>Int.emod_lt_of_pos _ (by omega),s4⟩
theorem l1New_go (l:List Int) (hl:(l.length:Int)≤9223372036854775807): ∀(n:Nat) (i h:Int),0≤i→i≤4000→(4000-i).toNat=n→ ∃h',Ev (fun k=>spec_l1New.l0 k l h i) (l,0,h'):=by
 intro n
 induction n with
 |zero=>
  intro i h h0 h1 hn
  refine⟨h,Ev.step (f:=fun _=>some (l,(0:Int),h)) (fun k=>?_) (Ev.now _)⟩
  rw[spec_l1New.l0]
  by_cases c:i<(l.length:Int)
  ·rw[if_pos c,if_neg (by omega)]
  ·rw[if_neg c]
 |succ n ih=>
  intro i h h0 h1 hn
  by_cases c:i<(l.length:Int)
  ·obtain⟨h',he⟩:=ih (i+1) (Go.bits .and .i64 (wrap64 ((wrap64 ((wrap64 (h*131))+(wrap64 (rd l i))))+7)) 1073741823) (by omega) (by omega) (by omega)
   refine⟨h',Ev.step (fun k=>?_) he⟩
   rw[spec_l1New.l0,if_pos c,if_pos (by omega),if_pos h0,wrap_id (a:=i+1) (by omega) (by omega)]
  ·exact⟨h,Ev.step (f:=fun _=>some (l,(0:Int),h)) (fun k=>by rw[spec_l1New.l0,if_neg c]) (Ev.now _)⟩
theorem l1New_ok (l:List Int) (hl:l.length≤9223372036854775807): ∃h',Ev (fun k=>spec_l1New.f k l) (l,0,h'):=l1New_go l (by omega) _ 0 _ (by omega) (by omega) rfl
theorem StOk_new (l:List Int) (hl:l.length≤9223372036854775807):StOk l 0:=⟨by omega,by omega,by omega⟩
/-! #### DrawOf -/
theorem l1of_go (s : ByteArray) (hs0 : 0 < s.size) (b : List Int) (n : Int) (hn : n ≤ 1000000) : ∀ (m : Nat) (acc : List Int) (i h j : Int), 0 ≤ j → (n - j).toNat = m → (acc.length : Int) = j → StOk b i →
  ∃r i' h',Ev (fun k=>spec_l1of.l0 k n s acc j b i h) (r,i',h')∧(r.size:Int)=max j n∧StOk b i':=by
 intro m
 induction m with
 |zero=>
  intro acc i h j hj hm ha hs
  exact⟨strOfNums acc,i,h,Ev.step (f:=fun _=>some (strOfNums acc,i,h)) (fun k=>by rw[spec_l1of.l0,if_neg (by omega)]) (Ev.now _),by rw[size_strOf];omega,hs⟩
 |succ m ih=>
  intro acc i h j hj hm ha hs
  obtain⟨x,i1,h1,e1,x0,_,x1,s1⟩:=l1Below_ok b i h (s.size:Int) hs
  obtain⟨r,i2,h2,he,hr,s2⟩:=ih (acc++ [bt s x]) i1 h1 (j+1) (by omega) (by omega) (by rw[List.length_append,List.length_singleton];omega) s1
  refine⟨r,i2,h2,Ev.step (fun k=>?_) he,by omega,s2⟩
  rw[spec_l1of.l0,if_pos (by omega),e1,Option.bind_some,if_pos x0,if_pos (x1 (by omega)),if_pos (by omega),wrap_id (a:=j+1) (by omega) (by omega)]
theorem l1of_ok (b:List Int) (i h n:Int) (s:ByteArray) (hs0:0<s.size) (hn:n≤1000000) (hs:StOk b i): ∃r i' h',Ev (fun k=>spec_l1of.f k b i h n s) (r,i',h')∧(r.size:Int)=max 0 n∧StOk b i':=
 l1of_go s hs0 b n hn _ [] i h 0 (by omega) rfl rfl hs
/-! #### DrawUrl -/
theorem l1Once_ok (b:List Int) (i h n:Int) (hs:StOk b i): ∃x i' h',spec_l1Once.f b i h n=some (x,i',h')∧StOk b i':=by
 obtain⟨x,i1,h1,e1,_,_,_,s1⟩:=l1Below_ok b i h n hs
 unfold spec_l1Once.f
 rw[e1,Option.bind_some]
 exact⟨_,_,_,rfl,s1⟩
/-! #### DrawBend -/
theorem l1bend_ok (b:List Int) (i h:Int) (s:ByteArray) (hz:s.size≤100000) (hs:StOk b i): ∃r i' h',spec_l1bend.f b i h s=some (r,i',h')∧r.size≤s.size+1∧StOk b i':=by
 unfold spec_l1bend.f
 rw[if_pos (by omega)]
 obtain⟨x,i1,h1,e1,x0,_,x1,s1⟩:=l1Below_ok b i h ((s.size:Int)+1) hs
 have x2:=x1 (by omega)
 obtain⟨y,i2,h2,e2,y0,_,y1,s2⟩:=l1Below_ok b i1 h1 4 s1
 have ha:(s.extract 0 x.toNat).size=x.toNat:=by rw[ByteArray.size_extract];omega
 have hb:(s.extract x.toNat s.size).size=s.size-x.toNat:=by rw[ByteArray.size_extract];omega
 simp only[e1,Option.bind_some,e2]
 by_cases c0:y=0
 ·obtain⟨z,i3,h3,e3,z0,z1,s3⟩:=l1Byte_ok b i2 h2 s2
  have h1z:(strOfNums [z%256]).size=1:=by rw[size_strOf];rfl
  rw[if_pos c0,if_pos x0,if_pos (by omega)]
  simp only[e3,Option.bind_some]
  rw[if_pos (by rw[ha,h1z];omega),if_pos (by rw[ByteArray.size_append,ha,h1z,hb];omega)]
  exact⟨_,_,_,rfl,by rw[ByteArray.size_append,ByteArray.size_append,ha,h1z,hb];omega,s3⟩
 rw[if_neg c0]
 by_cases c1:y=1
 ·rw[if_pos c1,if_pos x0,if_pos (by omega)]
  exact⟨_,_,_,rfl,by rw[ha];omega,s2⟩
 rw[if_neg c1]
 have hadd: ∃r i' h',(if s.size+1≤9223372036854775807 then(some (s++(⟨#[48]⟩:ByteArray),i2,h2))else none)=some (r,i',h')∧r.size≤s.size+1∧StOk b i':=by
  rw[if_pos (by omega)]
  exact⟨_,_,_,rfl,by rw[ByteArray.size_append];exact Nat.le_refl _,s2⟩
 by_cases c2:y=2
 ·rw[if_pos c2]
  by_cases c3:x<(s.size:Int)
  ·have hw:wrap64 (x+1)=x+1:=wrap_id (by omega) (by omega)
   have hc:(s.extract (x+1).toNat s.size).size=s.size-(x+1).toNat:=by rw[ByteArray.size_extract];omega
   rw[if_pos c3,if_pos x0,if_pos (by omega),hw,if_pos (by omega),if_pos (by omega),if_pos (by rw[ha,hc];omega)]
   exact⟨_,_,_,rfl,by rw[ByteArray.size_append,ha,hc];omega,s2⟩
  ·rw[if_neg c3];exact hadd
 rw[if_neg c2]
 by_cases c3:x<(s.size:Int)
 ·obtain⟨z,i3,h3,e3,z0,_,z1,s3⟩:=l1Below_ok b i2 h2 8 s2
  have hlen:(bytesOf s).length=s.size:=bytesOf_length s
  rw[if_pos c3,if_pos x0,if_pos (by rw[hlen];exact c3)]
  simp only[e3,Option.bind_some]
  rw[if_pos z0]
  exact⟨_,_,_,rfl,by rw[size_strOf,List.length_set,hlen];omega,s3⟩
 ·rw[if_neg c3];exact hadd
/-! #### DrawField -/
theorem l5name_ok (b:List Int) (i h:Int) (hs:StOk b i): ∃r i' h',Ev (fun k=>spec_l5name.f k b i h) (r,i',h')∧r.size≤16∧StOk b i':=by
 unfold spec_l5name.f
 obtain⟨x,i1,h1,e1,x0,_,x1,s1⟩:=l1Below_ok b i h 9 hs
 have x2:=x1 (by omega)
 by_cases c0:x=0
 ·refine⟨_,i1,h1,by simp only[e1,Option.bind_some,if_pos c0];exact Ev.now _,by decide,s1⟩
 by_cases c1:x=1
 ·refine⟨_,i1,h1,by simp only[e1,Option.bind_some,if_neg c0,if_pos c1];exact Ev.now _,by decide,s1⟩
 by_cases c2:x=2
 ·refine⟨_,i1,h1,by simp only[e1,Option.bind_some,if_neg c0,if_neg c1,if_pos c2];exact Ev.now _,by decide,s1⟩
 by_cases c3:x=3
 ·refine⟨_,i1,h1,by simp only[e1,Option.bind_some,if_neg c0,if_neg c1,if_neg c2,if_pos c3];exact Ev.now _,by decide,s1⟩
 by_cases c4:x=4
 ·refine⟨_,i1,h1,by simp only[e1,Option.bind_some,if_neg c0,if_neg c1,if_neg c2,if_neg c3,if_pos c4];exact Ev.now _,by decide,s1⟩
 by_cases c5:x=5
 ·refine⟨_,i1,h1,by simp only[e1,Option.bind_some,if_neg c0,if_neg c1,if_neg c2,if_neg c3,if_neg c4,if_pos c5];exact Ev.now _,by decide,s1⟩
 by_cases c6:x=6
 ·refine⟨_,i1,h1,by simp only[e1,Option.bind_some,if_neg c0,if_neg c1,if_neg c2,if_neg c3,if_neg c4,if_neg c5,if_pos c6];exact Ev.now _,by decide,s1⟩
 obtain⟨y,i2,h2,e2,y0,_,y1,s2⟩:=l1Below_ok b i1 h1 4 s1
 have y2:=y1 (by omega)
 obtain⟨r,i3,h3,e3,r3,s3⟩:=l1of_ok b i2 h2 (1+y) (⟨#[97,66,45]⟩:ByteArray) (by decide) (by omega) s2
 refine⟨r,i3,h3,?_,by omega,s3⟩
 simp only[e1,Option.bind_some,if_neg c0,if_neg c1,if_neg c2,if_neg c3,if_neg c4,if_neg c5,if_neg c6,e2,wrap_id (a:=1+y) (by omega) (by omega)]
 exact e3.bind (Ev.now _)
theorem l5field_ok (b:List Int) (i h:Int) (hs:StOk b i): ∃n v i' h',Ev (fun k=>spec_l5field.f k b i h) (n,v,i',h')∧n.size≤16∧v.size≤64∧StOk b i':=by
 unfold spec_l5field.f
 obtain⟨n,i1,h1,e1,n1,s1⟩:=l5name_ok b i h hs
 obtain⟨x,i2,h2,e2,x0,_,x1,s2⟩:=l1Below_ok b i1 h1 6 s1
 have x2:=x1 (by omega)
 obtain⟨v,i3,h3,e3,v3,s3⟩:=l1of_ok b i2 h2 x (⟨#[97,98,49,61]⟩:ByteArray) (by decide) (by omega) s2
 obtain⟨y,i4,h4,e4,y0,_,y1,s4⟩:=l1Below_ok b i3 h3 4 s3
 have y2:=y1 (by omega)
 by_cases c0:y=0
 ·refine⟨n,(⟨#[99,108,111,115,101,44,32,120,45,116,101,97,44,32,34,113,44,34,32,44,32,97,99,99,101,112,116]⟩:ByteArray),i4,h4,e1.bind ?_,n1,by decide,s4⟩
  simp only[e2,Option.bind_some]
  refine e3.bind ?_
  simp only[e4,Option.bind_some,if_pos c0];exact Ev.now _
 by_cases c1:y=1
 ·obtain⟨a,i5,h5,e5,a5,s5⟩:=l1of_ok b i4 h4 1 (⟨#[97,98]⟩:ByteArray) (by decide) (by omega) s4
  obtain⟨z,i6,h6,e6,z0,_,z1,s6⟩:=l1Below_ok b i5 h5 8 s5
  have z2:=z1 (by omega)
  obtain⟨m,i7,h7,e7,m7,s7⟩:=l1of_ok b i6 h6 z (⟨#[44,32,97,9,66]⟩:ByteArray) (by decide) (by omega) s6
  obtain⟨q,i8,h8,e8,q8,s8⟩:=l1of_ok b i7 h7 1 (⟨#[97,98]⟩:ByteArray) (by decide) (by omega) s7
  refine⟨n,(a++m)++q,i8,h8,e1.bind ?_,n1,by rw[ByteArray.size_append,ByteArray.size_append];omega,s8⟩
  simp only[e2,Option.bind_some]
  refine e3.bind ?_
  simp only[e4,Option.bind_some,if_neg c0,if_pos c1]
  refine e5.bind ?_
  simp only[e6,Option.bind_some]
  refine e7.bind ?_
  simp only[if_pos (show a.size+m.size≤9223372036854775807 by omega)]
  refine e8.bind ?_
  simp only[if_pos (show(a++m).size+q.size≤9223372036854775807 by rw[ByteArray.size_append];omega)]
  exact Ev.now _
 refine⟨n,v,i4,h4,e1.bind ?_,n1,by omega,s4⟩
 simp only[e2,Option.bind_some]
 refine e3.bind ?_
 simp only[e4,Option.bind_some,if_neg c0,if_neg c1];exact Ev.now _
/-! #### DrawFields -/
def FB (l:List IFld):Prop:= ∀x∈l,x.f0.size≤1000∧x.f1.size≤1000
theorem FB_snoc {l:List IFld} {x:IFld} (h:FB l) (h0:x.f0.size≤1000) (h1:x.f1.size≤1000):FB (l++ [x]):=by
 intro y hy
 rcases List.mem_append.1 hy with hy|hy
 ·exact h y hy
 ·rw[List.mem_singleton.1 hy];exact⟨h0,h1⟩
theorem l5list_fill (b : List Int) : ∀ (m : Nat) (l : List IFld) (i h : Int), 22 - l.length = m → l.length ≤ 60 → FB l → StOk b i →
  ∃r i' h',Ev (fun k=>spec_l5list.l1 k l b i h) (r,i',h')∧r.length≤60∧FB r∧StOk b i':=by
 intro m
 induction m with
 |zero=>
  intro l i h hm hl hf hs
  obtain⟨y,i1,h1,e1,y0,_,y1,s1⟩:=l1Below_ok b i h 2 hs
  have y2:=y1 (by omega)
  refine⟨l,i1,h1,Ev.step (f:=fun _=>some (l,i1,h1)) (fun k=>?_) (Ev.now _),hl,hf,s1⟩
  simp only[spec_l5list.l1,e1,Option.bind_some,wrap_id (a:=20+y) (by omega) (by omega)]
  rw[if_neg (by omega)]
 |succ m ih=>
  intro l i h hm hl hf hs
  obtain⟨y,i1,h1,e1,y0,_,y1,s1⟩:=l1Below_ok b i h 2 hs
  have y2:=y1 (by omega)
  by_cases c:(l.length:Int)<20+y
  ·obtain⟨r,i2,h2,e2,r1,r2,s2⟩:=ih (l++ [(⟨(⟨#[70]⟩:ByteArray),(⟨#[]⟩:ByteArray)⟩:IFld)]) i1 h1 (by simp;omega) (by simp;omega) (FB_snoc hf (by decide) (by decide)) s1
   refine⟨r,i2,h2,Ev.step (fun k=>?_) e2,r1,r2,s2⟩
   simp only[spec_l5list.l1,e1,Option.bind_some,wrap_id (a:=20+y) (by omega) (by omega)]
   rw[if_pos c,if_pos (by omega)]
  ·refine⟨l,i1,h1,Ev.step (f:=fun _=>some (l,i1,h1)) (fun k=>?_) (Ev.now _),hl,hf,s1⟩
   simp only[spec_l5list.l1,e1,Option.bind_some,wrap_id (a:=20+y) (by omega) (by omega)]
   rw[if_neg c]
theorem l5list_go (b : List Int) : ∀ (m : Nat) (l : List IFld) (i h n : Int), n.toNat = m → l.length + m ≤ 30 → FB l → StOk b i →
  ∃r i' h',Ev (fun k=>spec_l5list.l0 k l n b i h) (r,i',h')∧r.length≤60∧FB r∧StOk b i':=by
 intro m
 induction m with
 |zero=>
  intro l i h n hn hl hf hs
  obtain⟨o,i1,h1,e1,s1⟩:=l1Once_ok b i h 12 hs
  cases o
  ·refine⟨l,i1,h1,Ev.step (f:=fun _=>some (l,i1,h1)) (fun k=>?_) (Ev.now _),by omega,hf,s1⟩
   simp only[spec_l5list.l0]
   rw[if_neg (by omega),e1]
   simp only[Option.bind_some,Bool.false_eq_true,if_false]
  ·obtain⟨r,i2,h2,e2,r1,r2,s2⟩:=l5list_fill b _ l i1 h1 rfl (by omega) hf s1
   refine⟨r,i2,h2,Ev.step (fun k=>?_) e2,r1,r2,s2⟩
   simp only[spec_l5list.l0]
   rw[if_neg (by omega),e1]
   simp only[Option.bind_some,if_true]
 |succ m ih=>
  intro l i h n hn hl hf hs
  obtain⟨a,v,i1,h1,e1,a1,v1,s1⟩:=l5field_ok b i h hs
  obtain⟨r,i2,h2,e2,r1,r2,s2⟩:=ih (l++ [(⟨a,v⟩:IFld)]) i1 h1 (n-1) (by omega) (by simp;omega) (FB_snoc hf (by show a.size≤1000;omega) (by show v.size≤1000;omega)) s1
  refine⟨r,i2,h2,?_,r1,r2,s2⟩
  refine Ev.step (f:=fun k=>(spec_l5field.f k b i h).bind fun bt=>spec_l5list.l0 k (l++ [(⟨bt.1,bt.2.1⟩:IFld)]) (n-1) b bt.2.2.1 bt.2.2.2) (fun k=>?_) (e1.bind e2)
  simp only[spec_l5list.l0]
  rw[if_pos (by omega)]
  simp only[if_pos (show l.length<4398046511104 by omega),wrap_id (a:=n-1) (by omega) (by omega)]
theorem l5list_ok (b:List Int) (i h:Int) (hs:StOk b i): ∃r i' h',Ev (fun k=>spec_l5list.f k b i h) (r,i',h')∧r.length≤60∧FB r∧StOk b i':=by
 unfold spec_l5list.f
 obtain⟨x,i1,h1,e1,x0,_,x1,s1⟩:=l1Below_ok b i h 7 hs
 have x2:=x1 (by omega)
 simp only[e1,Option.bind_some]
 exact l5list_go b x.toNat [] i1 h1 x rfl (by simp;omega) (by intro y hy;cases hy) s1
theorem getD_FB {l:List IFld} (hf:FB l) (z:IFld) (hz:z.f0.size≤1000∧z.f1.size≤1000) (n:Nat):(l.getD n z).f0.size≤1000∧(l.getD n z).f1.size≤1000:=by
 rw[List.getD_eq_getElem?_getD]
 cases h:l[n]? with
 |none=>exact hz
 |some y=>exact hf y (List.mem_of_getElem? h)
theorem l5bent_ok (b:List Int) (i h:Int) (hs:StOk b i): ∃r i' h',Ev (fun k=>spec_l5bent.f k b i h) (r,i',h')∧r.length≤60∧(∀x∈r,x.f0.size≤1001∧x.f1.size≤1001)∧StOk b i':=by
 unfold spec_l5bent.f
 obtain⟨l,i1,h1,e1,l1,l2,s1⟩:=l5list_ok b i h hs
 obtain⟨o,i2,h2,e2,s2⟩:=l1Once_ok b i1 h1 8 s1
 have hold: ∀x∈l,x.f0.size≤1001∧x.f1.size≤1001:=fun x hx=>by have:=l2 x hx;omega
 have hset: ∀(n:Nat) (x:IFld),x.f0.size≤1001→x.f1.size≤1001→ ∀y∈l.set n x,y.f0.size≤1001∧y.f1.size≤1001:=fun n x h0 h1 y hy=>by
  rcases List.mem_or_eq_of_mem_set hy with hy|rfl
  ·exact hold y hy
  ·exact⟨h0,h1⟩
 have hno: ∃r i' h',Ev (fun k=>spec_l5bent.j0 k l false b i2 h2) (r,i',h')∧r.length≤60∧(∀x∈r,x.f0.size≤1001∧x.f1.size≤1001)∧StOk b i':=
  ⟨l,i2,h2,Ev.step (f:=fun _=>some (l,i2,h2)) (fun k=>by simp[spec_l5bent.j0]) (Ev.now _),l1,hold,s2⟩
 cases o
 ·obtain⟨r,i',h',e,r1,r2,s⟩:=hno
  refine⟨r,i',h',e1.bind ?_,r1,r2,s⟩
  simp only[e2,Option.bind_some,Bool.false_eq_true,if_false]
  exact e
 by_cases c:(l.length:Int)>0
 ·have hd:decide ((l.length:Int)>0)=true:=decide_eq_true c
  obtain⟨x,i3,h3,e3,x0,_,x1,s3⟩:=l1Below_ok b i2 h2 (l.length:Int) s2
  have x2:=x1 c
  obtain⟨y,i4,h4,e4,y0,_,y1,s4⟩:=l1Below_ok b i3 h3 3 s3
  have hz:=getD_FB l2 (⟨ByteArray.empty,ByteArray.empty⟩:IFld) ⟨by decide,by decide⟩ x.toNat
  have hj: ∀(F:Nat→Option (List IFld×Int×Int)) (r:List IFld×Int×Int),(∀k,spec_l5bent.j0 (k+1) l true b i2 h2=F k)→Ev F r→Ev (fun k=>(spec_l5list.f k b i h).bind fun bt=>(spec_l1Once.f b bt.2.1 bt.2.2 8).bind fun bt1=>if bt1.1=true then spec_l5bent.j0 k bt.1 (decide ((bt.1.length:Int)>0)) b bt1.2.1 bt1.2.2 else spec_l5bent.j0 k bt.1 false b bt1.2.1 bt1.2.2) r:=fun F r hF hr=>by
   refine e1.bind ?_
   simp only[e2,Option.bind_some,if_true,hd]
   exact Ev.step hF hr
  by_cases c0:y=0
  ·obtain⟨t,i5,h5,e5,t5,s5⟩:=l1bend_ok b i4 h4 (rd_T24 l x).f0 (by have:=hz.1;show(l.getD x.toNat (⟨ByteArray.empty,ByteArray.empty⟩:IFld)).f0.size≤_;omega) s4
   refine⟨l.set x.toNat ⟨t,(rd_T24 l x).f1⟩,i5,h5,hj (fun _=>some (l.set x.toNat ⟨t,(rd_T24 l x).f1⟩,i5,h5)) _ (fun k=>?_) (Ev.now _),by simp;omega,hset _ _ ?_ ?_,s5⟩
   ·simp only[spec_l5bent.j0,if_true,e3,Option.bind_some,e4,if_pos c0,if_pos x0,if_pos x2,e5]
   ·have:=hz.1;show t.size≤1001;have q:t.size≤(l.getD x.toNat (⟨ByteArray.empty,ByteArray.empty⟩:IFld)).f0.size+1:=t5;omega
   ·have:=hz.2;show(l.getD x.toNat (⟨ByteArray.empty,ByteArray.empty⟩:IFld)).f1.size≤1001;omega
  by_cases c1:y=1
  ·have hb:1+((rd_T24 l x).f1).size≤9223372036854775807:=by have:=hz.2;show 1+(l.getD x.toNat (⟨ByteArray.empty,ByteArray.empty⟩:IFld)).f1.size≤_;omega
   refine⟨l.set x.toNat ⟨(rd_T24 l x).f0,(⟨#[32]⟩:ByteArray)++(rd_T24 l x).f1⟩,i4,h4,hj (fun _=>some (l.set x.toNat ⟨(rd_T24 l x).f0,(⟨#[32]⟩:ByteArray)++(rd_T24 l x).f1⟩,i4,h4)) _ (fun k=>?_) (Ev.now _),by simp;omega,hset _ _ ?_ ?_,s4⟩
   ·simp only[spec_l5bent.j0,if_true,e3,Option.bind_some,e4,if_neg c0,if_pos c1,if_pos x0,if_pos x2,if_pos hb]
   ·have:=hz.1;show(l.getD x.toNat (⟨ByteArray.empty,ByteArray.empty⟩:IFld)).f0.size≤1001;omega
   ·have:=hz.2;show((⟨#[32]⟩:ByteArray)++(l.getD x.toNat (⟨ByteArray.empty,ByteArray.empty⟩:IFld)).f1).size≤1001;rw[ByteArray.size_append];show 1+_≤_;omega
  ·obtain⟨t,i5,h5,e5,t5,s5⟩:=l1bend_ok b i4 h4 (rd_T24 l x).f1 (by have:=hz.2;show(l.getD x.toNat (⟨ByteArray.empty,ByteArray.empty⟩:IFld)).f1.size≤_;omega) s4
   refine⟨l.set x.toNat ⟨(rd_T24 l x).f0,t⟩,i5,h5,hj (fun _=>some (l.set x.toNat ⟨(rd_T24 l x).f0,t⟩,i5,h5)) _ (fun k=>?_) (Ev.now _),by simp;omega,hset _ _ ?_ ?_,s5⟩
   ·simp only[spec_l5bent.j0,if_true,e3,Option.bind_some,e4,if_neg c0,if_neg c1,if_pos x0,if_pos x2,e5]
   ·have:=hz.1;show(l.getD x.toNat (⟨ByteArray.empty,ByteArray.empty⟩:IFld)).f0.size≤1001;omega
   ·have:=hz.2;show t.size≤1001;have q:t.size≤(l.getD x.toNat (⟨ByteArray.empty,ByteArray.empty⟩:IFld)).f1.size+1:=t5;omega
 ·have hd:decide ((l.length:Int)>0)=false:=decide_eq_false c
  obtain⟨r,i',h',e,r1,r2,s⟩:=hno
  refine⟨r,i',h',e1.bind ?_,r1,r2,s⟩
  simp only[e2,Option.bind_some,if_true,hd]
  exact e
/-! #### Without -/
theorem filtF_go (L : Nat → List IFld → List IFld → Int → Option (List IFld)) (p : IFld → Bool) (ok : IFld → Prop) (z : IFld)
  (hstep: ∀k l acc (i:Int),0≤i→i<(l.length:Int)→acc.length<4398046511104→ok (l.getD i.toNat z)→L (k+1) l acc i=if p (l.getD i.toNat z)=true then L k l acc (wrap64 (i+1))else L k l (acc++ [l.getD i.toNat z]) (wrap64 (i+1)))
  (hend: ∀k l acc,L (k+1) l acc (l.length:Int)=some acc):
  ∀(r pre acc:List IFld),(∀x∈r,ok x)→(pre++r).length≤1048576→acc.length≤pre.length→Ev (fun k=>L k (pre++r) acc (pre.length:Int)) (acc++r.filter fun x=>!p x)
 | [],pre,acc,_,_,_=>Ev.step (f:=fun _=>some acc) (fun k=>by have:=hend k pre acc;simpa using this) (by simpa using Ev.now acc)
 |x::r,pre,acc,ho,hl,ha=>by
  have hl2:=hl
  simp at hl2
  have hg:(pre++x::r).getD ((pre.length:Int)).toNat z=x:=getD_mid pre x r z
  have hw:wrap64 ((pre.length:Int)+1)=(pre.length:Int)+1:=wrap_id (by omega) (by omega)
  have ih:=fun acc' h=>filtF_go L p ok z hstep hend r (pre++ [x]) acc' (fun y hy=>ho y (List.mem_cons_of_mem _ hy)) (by rw[←app_mid];exact hl) h
  simp only[←app_mid,len_snoc]at ih
  have hs:=fun k=>hstep k (pre++x::r) acc (pre.length:Int) (by omega) (len_mid ..) (by omega) (by rw[hg];exact ho x (by simp))
  simp only[hg,hw]at hs
  cases hp:p x
  ·refine Ev.step (f:=fun k=>L k (pre++x::r) (acc++ [x]) ((pre.length:Int)+1)) (fun k=>by rw[hs k,hp,if_neg Bool.false_ne_true]) ?_
   have:=ih (acc++ [x]) (by simp;omega)
   simpa [List.filter,hp]using this
  ·refine Ev.step (f:=fun k=>L k (pre++x::r) acc ((pre.length:Int)+1)) (fun k=>by rw[hs k,hp,if_pos rfl]) ?_
   have:=ih acc (by simp;omega)
   simpa [List.filter,hp]using this
def withoutL (l:List IFld) (n:ByteArray):List IFld:=if fldsOk l=true then l.filter (fun x=>!sameB x.f0 n)else []
theorem implWithout_is (l:List IFld) (n:ByteArray) (hl:l.length≤1048576) (ho: ∀x∈l,smallF x) (hn:n.size≤1048576):Ev (fun k=>impl_Without.f k l n) (withoutL l n):=by
 unfold impl_Without.f withoutL
 refine(implFieldsOk_is l).bind ?_
 cases fldsOk l
 ·simpa using Ev.now _
 ·simp only[if_true]
  have:=filtF_go (fun k l acc i=>impl_Without.l0 k n acc l (l.length:Int) i) (fun x=>sameB x.f0 n) smallF (⟨ByteArray.empty,ByteArray.empty⟩:IFld)
   (fun k l acc i h0 h1 ha hok=>by
    show impl_Without.l0 (k+1) n acc l (l.length:Int) i=_
    simp only[impl_Without.l0]
    rw[if_pos h1,if_pos h0,if_pos h1,show(rd_T24 l i)=l.getD i.toNat (⟨ByteArray.empty,ByteArray.empty⟩:IFld)from rfl,implSame_is _ _ (by have:=hok.1;omega) (by omega),Option.bind_some]
    simp only[if_pos ha])
   (fun k l acc=>by simp only[impl_Without.l0];rw[if_neg (by omega)]) l [] [] ho (by simpa using hl) (by simp)
  simpa using this
theorem specWithout_is (l:List IFld) (n:ByteArray) (hl:l.length≤1048576) (ho: ∀x∈l,smallF x) (hn:n.size≤1048576):Ev (fun k=>spec_Without.f k l n) (withoutL l n):=by
 unfold spec_Without.f withoutL
 refine(specFieldsOk_is l).bind ?_
 cases fldsOk l
 ·simpa using Ev.now _
 ·simp only[if_true]
  have:=filtF_go (fun k l acc i=>spec_Without.l0 k l n acc i) (fun x=>sameB x.f0 n) smallF (⟨ByteArray.empty,ByteArray.empty⟩:IFld)
   (fun k l acc i h0 h1 ha hok=>by
    show spec_Without.l0 (k+1) l n acc i=_
    simp only[spec_Without.l0]
    rw[if_pos h1,if_pos h0,show(rd_T24 l i)=l.getD i.toNat (⟨ByteArray.empty,ByteArray.empty⟩:IFld)from rfl,specSame_is _ _ (by have:=hok.1;omega) (by omega),Option.bind_some]
    simp only[if_pos ha])
   (fun k l acc=>by simp only[spec_Without.l0];rw[if_neg (by omega)]) l [] [] ho (by simpa using hl) (by simp)
  simpa using this
def withL (l:List IFld) (n v:ByteArray):List IFld:=if fldsOk l=true∧fieldL (bl n) (bl v)=true then(if((withoutL l n++ [(⟨n,v⟩:IFld)]).length:Int)>20 then []else withoutL l n++ [(⟨n,v⟩:IFld)])else []
theorem withoutL_le (l:List IFld) (n:ByteArray):(withoutL l n).length≤l.length:=by
 unfold withoutL;split
 ·exact List.length_filter_le _ _
 ·simp
theorem implWith_is (l:List IFld) (n v:ByteArray) (hl:l.length≤1000) (ho: ∀x∈l,smallF x) (hn:n.size≤1048576):Ev (fun k=>impl_With.f k l n v) (withL l n v):=by
 unfold impl_With.f withL
 have hno:Ev (fun k=>impl_With.j0 k l true n v) []:=Ev.step (f:=fun _=>some []) (fun k=>by simp[impl_With.j0]) (Ev.now _)
 have hle:=withoutL_le l n
 refine(implFieldsOk_is l).bind ?_
 cases hf:fldsOk l
 ·simp only[Bool.false_eq_true,if_false,false_and];exact hno
 ·simp only[if_true,true_and]
  refine(implFieldOk_is n v).bind ?_
  cases hk:fieldL (bl n) (bl v)
  ·simp only[Bool.not_false,Bool.false_eq_true,if_false];exact hno
  ·simp only[Bool.not_true,if_true]
   refine Ev.step (fun k=>by simp only[impl_With.j0,Bool.false_eq_true,if_false];rfl) ?_
   refine(implWithout_is l n (by omega) ho hn).bind ?_
   simp only[Option.bind_some,if_pos (show(withoutL l n).length+([(⟨n,v⟩:IFld)]:List IFld).length<4398046511104 by simp;omega)]
   by_cases hc:((withoutL l n++ [(⟨n,v⟩:IFld)]).length:Int)>20
   ·simp only[if_pos hc];exact Ev.now _
   ·simp only[if_neg hc];exact Ev.now _
theorem specWith_is (l:List IFld) (n v:ByteArray) (hl:l.length≤1000) (ho: ∀x∈l,smallF x) (hn:n.size≤1048576):Ev (fun k=>spec_With.f k l n v) (withL l n v):=by
 unfold spec_With.f withL
 have hno:Ev (fun k=>spec_With.j0 k l true n v) []:=Ev.step (f:=fun _=>some []) (fun k=>by simp[spec_With.j0]) (Ev.now _)
 have hle:=withoutL_le l n
 refine(specFieldsOk_is l).bind ?_
 cases hf:fldsOk l
 ·simp only[Bool.false_eq_true,if_false,false_and];exact hno
 ·simp only[if_true,true_and]
  refine(specFieldOk_is n v).bind ?_
  cases hk:fieldL (bl n) (bl v)
  ·simp only[Bool.not_false,Bool.false_eq_true,if_false];exact hno
  ·simp only[Bool.not_true,if_true]
   refine Ev.step (fun k=>by simp only[spec_With.j0,Bool.false_eq_true,if_false];rfl) ?_
   refine(specWithout_is l n (by omega) ho hn).bind ?_
   simp only[Option.bind_some,if_pos (show(withoutL l n).length+([(⟨n,v⟩:IFld)]:List IFld).length<4398046511104 by simp;omega)]
   by_cases hc:((withoutL l n++ [(⟨n,v⟩:IFld)]).length:Int)>20
   ·simp only[if_pos hc];exact Ev.now _
   ·simp only[if_neg hc];exact Ev.now _
theorem sameB_self (n:ByteArray):sameB n n=true:=by unfold sameB;simp
theorem withL_parts {l:List IFld} {n v:ByteArray} (h:withL l n v≠ []):withL l n v=withoutL l n++ [(⟨n,v⟩:IFld)]∧fldsOk l=true∧fldsOk (withL l n v)=true∧fieldL (bl n) (bl v)=true:=by
 unfold withL at h ⊢
 by_cases h1:fldsOk l=true∧fieldL (bl n) (bl v)=true
 ·rw[if_pos h1]at h ⊢
  by_cases h2:((withoutL l n++ [(⟨n,v⟩:IFld)]).length:Int)>20
  ·rw[if_pos h2]at h;exact absurd rfl h
  ·rw[if_neg h2]
   refine⟨rfl,h1.1,?_,h1.2⟩
   have hall:=h1.1
   unfold fldsOk at hall ⊢
   simp only[Bool.and_eq_true,decide_eq_true_eq,List.all_eq_true]at hall ⊢
   refine⟨by omega,fun x hx=>?_⟩
   rcases List.mem_append.1 hx with hx|hx
   ·unfold withoutL at hx
    rw[if_pos h1.1]at hx
    exact hall.2 x (List.mem_filter.1 hx).1
   ·rw[List.mem_singleton.1 hx];exact h1.2
 ·rw[if_neg h1]at h;exact absurd rfl h
theorem filter_same (l:List IFld) (n v:ByteArray):((l.filter fun x=>!sameB x.f0 n)++ [(⟨n,v⟩:IFld)]).filter (fun x=>sameB x.f0 n)= [(⟨n,v⟩:IFld)]:=by
 rw[List.filter_append,List.filter_filter]
 have e1:l.filter (fun x=>sameB x.f0 n&&!sameB x.f0 n)= []:=by
  apply List.filter_eq_nil_iff.2
  intro x _;simp
 rw[e1]
 simp[List.filter,sameB_self]
theorem filter_other (l:List IFld) (n v:ByteArray):((l.filter fun x=>!sameB x.f0 n)++ [(⟨n,v⟩:IFld)]).filter (fun x=>!sameB x.f0 n)=l.filter fun x=>!sameB x.f0 n:=by
 rw[List.filter_append,List.filter_filter]
 have e1:l.filter (fun x=>!sameB x.f0 n&&!sameB x.f0 n)=l.filter fun x=>!sameB x.f0 n:=by
  congr 1;funext x;simp
 rw[e1]
 simp[List.filter,sameB_self]
theorem sameTexts1_is (a:ByteArray):Ev (fun k=>laws_sameTexts.f k [a] [a]) true:=by
 unfold laws_sameTexts.f
 simp only[if_true]
 refine Ev.step (f:=fun k=>laws_sameTexts.l0 k [a] [a] 1) (fun k=>?_) (Ev.step (f:=fun _=>some true) (fun k=>by simp[laws_sameTexts.l0]) (Ev.now _))
 simp only[laws_sameTexts.l0]
 rw[if_pos (by simp),if_pos (by omega),if_pos (by simp)]
 simp only[if_true,wrap_id (a:=0+1) (by omega) (by omega)]
 rfl
theorem sameFields_is (l:List IFld) (hl:l.length≤1048576):Ev (fun k=>laws_sameFields.f k l l) true:=by
 unfold laws_sameFields.f
 simp only[if_true]
 exact eqS_ev (fun k l m i=>laws_sameFields.l0 k l m i) (fun k l i h0 h1=>by
  simp only[laws_sameFields.l0]
  rw[if_pos h1,if_pos h0,if_pos h1]
  simp) (fun k l=>by simp only[laws_sameFields.l0];rw[if_neg (by omega)]) l hl
theorem drawWith_ok (l:List Int) (hl:l.length≤9223372036854775807): ∃(r:List IFld) (n v:ByteArray),Ev (fun k=>spec_DrawWith.f k l) (r,n,v)∧r.length≤60∧(∀x∈r,x.f0.size≤1001∧x.f1.size≤1001)∧n.size≤1001∧v.size≤1001:=by
 unfold spec_DrawWith.f
 obtain⟨h0,e0⟩:=l1New_ok l hl
 obtain⟨r,i1,h1,e1,r1,r2,s1⟩:=l5bent_ok l 0 h0 (StOk_new l hl)
 obtain⟨n,v,i2,h2,e2,n1,v1,s2⟩:=l5field_ok l i1 h1 s1
 obtain⟨o,i3,h3,e3,s3⟩:=l1Once_ok l i2 h2 8 s2
 cases o
 ·refine⟨r,n,v,e0.bind (e1.bind (e2.bind ?_)),r1,r2,by omega,by omega⟩
  simp only[e3,Option.bind_some,Bool.false_eq_true,if_false];exact Ev.now _
 ·obtain⟨t,i4,h4,e4,t4,s4⟩:=l1bend_ok l i3 h3 v (by omega) s3
  refine⟨r,n,t,e0.bind (e1.bind (e2.bind ?_)),r1,r2,by omega,by omega⟩
  simp only[e3,Option.bind_some,if_true,e4];exact Ev.now _
theorem FnWiths:laws_FnWiths.Pure:=by
 intro l ⟨hl,_⟩
 refine Ev.rounds ?_
 unfold laws_FnWiths.f
 obtain⟨r,n,v,hd,hr,hf,hn,hv⟩:=drawWith_ok l hl
 have hsm: ∀x∈r,smallF x:=fun x hx=>⟨by have:=hf x hx;omega,by have:=hf x hx;omega⟩
 have hend:Ev (fun k=>(laws_heads.f k).bind fun t=>some t) true:=heads_is.bind (Ev.now _)
 refine hd.bind ?_
 refine(implWith_is r n v (by omega) hsm (by omega)).bind ?_
 refine(specWith_is r n v (by omega) hsm (by omega)).bind ?_
 by_cases he:withL r n v= []
 ·rw[he]
  simp only[List.length_nil,if_pos (show((0:Nat):Int)=0 from rfl)]
  exact hend
 ·have hne: ¬((withL r n v).length:Int)=0:=by
   intro h;exact he (List.length_eq_zero_iff.1 (by omega))
  simp only[if_neg hne]
  obtain⟨w1,w2,w3,w4⟩:=withL_parts he
  have hwl:(withL r n v).length≤1048576:=by rw[w1];have:=withoutL_le r n;simp;omega
  have hws: ∀x∈withL r n v,smallF x:=by
   rw[w1]
   intro x hx
   rcases List.mem_append.1 hx with hx|hx
   ·unfold withoutL at hx
    rw[if_pos w2]at hx
    exact hsm x (List.mem_filter.1 hx).1
   ·rw[List.mem_singleton.1 hx];exact⟨by show n.size≤_;omega,by show v.size≤_;omega⟩
  have e1:vals (withL r n v) n= [v]:=by
   unfold vals valsF
   rw[if_pos w3,w1]
   unfold withoutL
   rw[if_pos w2,filter_same]
   rfl
  have e2:get1 (withL r n v) n=(v,true):=by
   unfold get1
   rw[e1]
   rfl
  have e3:withoutL (withL r n v) n=withoutL r n:=by
   conv=>lhs;unfold withoutL
   rw[if_pos w3,w1]
   unfold withoutL
   rw[if_pos w2,filter_other]
  have hV:=implValues_is (withL r n v) n hwl hws (by omega)
  rw[e1]at hV
  refine hV.bind ?_
  have hG:=implGet_is (withL r n v) n hwl hws (by omega)
  rw[e2]at hG
  refine hG.bind ?_
  refine(sameTexts1_is v).bind ?_
  simp only[if_true]
  have hW:=implWithout_is (withL r n v) n hwl hws (by omega)
  rw[e3]at hW
  refine hW.bind ?_
  refine(specWithout_is r n (by omega) hsm (by omega)).bind ?_
  refine(sameFields_is _ (by have:=withoutL_le r n;omega)).bind ?_
  simp only[if_true]
  have hO:=implFieldsOk_is (withL r n v)
  rw[w3]at hO
  refine hO.bind ?_
  simp only[if_true]
  exact hend
end Go.Proofs.Ytkkolioolgpljaa.Pure
