/- Grammar of the program and of the reference agree, and the call returns true, for every text. No condition. -/
import Derived.Test.YtnilblnhlpnpgaaGreatDoorGFnExactGrammarx19
import Derived.Laws.BitsLemmas
import Derived.Laws.Strings
import Derived.Lib.AtoiAll
import Derived.Lib.Index
import Derived.Lib.IndexAny
import Derived.Lib.IndexMore
import Derived.Lib.ItoaNum
import Derived.Lib.Join
import Derived.Lib.SplitLaws
import Derived.OpenShut
namespace Go.Proofs.YtnilblnhlpnpgaaGreatDoor.Pure
open Go.RowKit Go.Proofs.YtnilblnhlpnpgaaGreatDoor.GFnExactGrammar Go.Proofs.YtnilblnhlpnpgaaGreatDoorW.PrintWords Go.Proofs.YtnilblnhlpnpgaaGreatDoorW.PrintLast Go.Proofs.YtnilblnhlpnpgaaGreatDoorW.PrintMore
set_option linter.unusedVariables false
set_option linter.unusedSimpArgs false
theorem toList_inj {a b:ByteArray} (h:a.toList=b.toList):a=b:=by
 rw[ByteArray.toList_eq,ByteArray.toList_eq]at h
 cases a;cases b;simp_all
theorem wrap_id {a:Int} (h1: -9223372036854775808≤a) (h2:a≤9223372036854775807):wrap64 a=a:=by unfold wrap64;omega
theorem len_mid {α:Type} (pre:List α) (x:α) (r:List α):(pre.length:Int)<((pre++x::r).length:Int):=by simp;omega
theorem app_mid {α:Type} (pre:List α) (x:α) (r:List α):pre++x::r=(pre++ [x])++r:=by simp
theorem len_snoc {α:Type} (pre:List α) (x:α):((pre++ [x]).length:Int)=(pre.length:Int)+1:=by simp
def mkB (l:List UInt8):ByteArray:=⟨l.toArray⟩
def bl (s:ByteArray):List UInt8:=s.data.toList
theorem mk_bl (s:ByteArray):mkB (bl s)=s:=by cases s;simp[mkB,bl]
theorem bl_mk (l:List UInt8):bl (mkB l)=l:=by simp[mkB,bl]
theorem size_mk (l:List UInt8):(mkB l).size=l.length:=by show(mkB l).data.size=_;simp[mkB]
theorem size_bl (s:ByteArray):(bl s).length=s.size:=by rw[bl,Array.length_toList];rfl
theorem toList_bl (s:ByteArray):s.toList=bl s:=ByteArray.toList_eq s
theorem toList_mk (l:List UInt8):(mkB l).toList=l:=by rw[toList_bl,bl_mk]
theorem mkB_inj {l m:List UInt8} (h:mkB l=mkB m):l=m:=by rw[←bl_mk l,h,bl_mk]
theorem getB (l:List UInt8) (i:Nat) (h:i<(mkB l).size):(mkB l)[i]'h=l[i]'(by rwa [size_mk]at h):=by
 show(mkB l).data[i]'h=_
 simp[mkB]
theorem bt_at_ (l:List UInt8) (i:Nat) (h:i<l.length):bt (mkB l) (i:Int)=((l[i]'h).toNat:Int):=by
 unfold bt
 rw[dif_pos (by rw[size_mk];simpa using h),getB]
 simp
theorem bt_mid (pre:List UInt8) (b:UInt8) (r:List UInt8):bt (mkB (pre++b::r)) (pre.length:Int)=(b.toNat:Int):=by
 rw[bt_at_ _ _ (by simp)]
 simp
theorem extract_mk (l:List UInt8) (i j:Nat):(mkB l).extract i j=mkB ((l.drop i).take (j-i)):=by
 apply toList_inj
 rw[toList_mk,toList_bl,bl,ByteArray.data_extract,Array.toList_extract]
 simp[mkB,List.extract]
theorem size_lt_mid (pre:List UInt8) (b:UInt8) (r:List UInt8):(pre.length:Int)<((mkB (pre++b::r)).size:Int):=by rw[size_mk];exact len_mid ..
theorem u8_lt (b:UInt8):(b.toNat:Int)<256:=by have:=b.toNat_lt;omega
theorem toUInt8_toNat (b:UInt8):((b.toNat:Int)).toNat.toUInt8=b:=by simp
theorem all_loop (F:Nat→ByteArray→Int→Option Bool) (G:Nat→Int→Option Bool) (p:UInt8→Bool) (hG: ∀b:UInt8,Ev (fun k=>G k b.toNat) (p b))
  (hF: ∀k s i,F (k+1) s i=if i<(s.size:Int)then(if 0≤i then(G k (bt s i)).bind fun t=>(if t=true then F k s (wrap64 (i+1))else some false)else none)else some true):
  ∀(r pre:List UInt8),(pre++r).length≤9223372036854775806→Ev (fun k=>F k (mkB (pre++r)) pre.length) (r.all p)
 | [],pre,_=>Ev.step (f:=fun _=>some true) (fun k=>by rw[hF,size_mk];simp) (Ev.now _)
 |b::r,pre,hl=>by
  have ih:=all_loop F G p hG hF r (pre++ [b]) (by rw[←app_mid];exact hl)
  rw[←app_mid,len_snoc]at ih
  simp at hl
  refine Ev.step (f:=fun k=>(G k b.toNat).bind fun t=>(if t=true then F k (mkB (pre++b::r)) (pre.length+1)else some false)) (fun k=>?_) ?_
  ·rw[hF,if_pos (size_lt_mid ..),if_pos (by omega),bt_mid,wrap_id (by omega) (by omega)]
  refine(hG b).bind ?_
  cases hp:p b
  ·simpa [List.all_cons,hp]using Ev.now false
  ·simpa [List.all_cons,hp]using ih
theorem all_ev (F:Nat→ByteArray→Int→Option Bool) (G:Nat→Int→Option Bool) (p:UInt8→Bool) (hG: ∀b:UInt8,Ev (fun k=>G k b.toNat) (p b))
  (hF: ∀k s i,F (k+1) s i=if i<(s.size:Int)then(if 0≤i then(G k (bt s i)).bind fun t=>(if t=true then F k s (wrap64 (i+1))else some false)else none)else some true)
  (s:ByteArray) (hs:s.size≤9223372036854775806):Ev (fun k=>F k s 0) ((bl s).all p):=by
 have:=all_loop F G p hG hF (bl s) [] (by simpa [size_bl]using hs)
 simpa [mk_bl]using this
theorem Ev.const {α:Type} {x:Option α} {r:α} (h:x=some r):Ev (fun _=>x) r:=⟨0,fun _ _=>h⟩
theorem index_bound: ∀(l sub:List UInt8),Lib.index l sub= -1∨(0≤Lib.index l sub∧Lib.index l sub+sub.length≤l.length)
 | [],sub=>by cases sub<;>simp[Lib.index]
 |b::l,sub=>by
  unfold Lib.index
  by_cases hp:sub.isPrefixOf (b::l)=true
  ·have:=(List.isPrefixOf_iff_prefix.1 hp).length_le
   rw[if_pos hp];right;simp at this ⊢;omega
  ·rw[if_neg hp]
   rcases index_bound l sub with h|h
   ·left;simp[h]
   ·right
    have:(Lib.index l sub== -1)=false:=by simp;omega
    rw[this];simp;omega
theorem take_mid (pre m suf:List UInt8):((pre++(m++suf)).drop pre.length).take (pre.length+m.length-pre.length)=m:=by simp
theorem bt_mid2 (pre m:List UInt8) (b:UInt8) (suf:List UInt8) (i:Int) (hi:i=(pre.length:Int)+(m.length:Int)):bt (mkB (pre++(m++b::suf))) i=(b.toNat:Int):=by
 have:=bt_mid (pre++m) b suf
 rw[List.append_assoc]at this
 rw[hi,←this];simp
theorem u8_nat (b c:UInt8):(b.toNat:Int)=(c.toNat:Int)↔b=c:=by rw[←UInt8.toNat_inj];omega
def lowB (b:UInt8):Bool:=decide (97≤b.toNat)&&decide (b.toNat≤122)
def uppB (b:UInt8):Bool:=decide (65≤b.toNat)&&decide (b.toNat≤90)
def digB (b:UInt8):Bool:=decide (48≤b.toNat)&&decide (b.toNat≤57)
theorem isLower_is (b:UInt8):impl_isLower.f (b.toNat:Int)=some (lowB b):=by
 unfold impl_isLower.f lowB
 by_cases h:97≤b.toNat
 ·rw[if_pos (by omega)];congr 1;rw[Bool.eq_iff_iff];simp[h];omega
 ·rw[if_neg (by omega)];simp[h]
theorem isUpper_is (b:UInt8):impl_isUpper.f (b.toNat:Int)=some (uppB b):=by
 unfold impl_isUpper.f uppB
 by_cases h:65≤b.toNat
 ·rw[if_pos (by omega)];congr 1;rw[Bool.eq_iff_iff];simp[h];omega
 ·rw[if_neg (by omega)];simp[h]
theorem isDigit_is (b:UInt8):impl_isDigit.f (b.toNat:Int)=some (digB b):=by
 unfold impl_isDigit.f digB
 by_cases h:48≤b.toNat
 ·rw[if_pos (by omega)];congr 1;rw[Bool.eq_iff_iff];simp[h];omega
 ·rw[if_neg (by omega)];simp[h]
theorem l1digit_is (b:UInt8):spec_l1digit.f (b.toNat:Int)=some (digB b):=isDigit_is b
theorem has_go (c:Int): ∀(r pre:List UInt8),(pre++r).length≤9223372036854775806→Ev (fun k=>spec_l1has.l0 k (mkB (pre++r)) c pre.length) (r.any fun x=>decide ((x.toNat:Int)=c))
 | [],pre,hl=>Ev.step (f:=fun _=>some false) (fun k=>by simp only[spec_l1has.l0];rw[if_neg (by rw[size_mk];simp)]) (Ev.now _)
 |b::r,pre,hl=>by
  have ih:=has_go c r (pre++ [b]) (by rw[←app_mid];exact hl)
  rw[←app_mid,len_snoc]at ih
  simp at hl
  by_cases h:(b.toNat:Int)=c
  ·refine Ev.step (f:=fun _=>some true) (fun k=>?_) (by simpa [h]using Ev.now true)
   simp only[spec_l1has.l0]
   rw[if_pos (size_lt_mid ..),if_pos (by omega),bt_mid,if_pos h]
  ·refine Ev.step (fun k=>?_) (by simpa [h]using ih)
   simp only[spec_l1has.l0]
   rw[if_pos (size_lt_mid ..),if_pos (by omega),bt_mid,if_neg h,wrap_id (by omega) (by omega)]
theorem has_is (set:List UInt8) (b:UInt8) (h:set.length≤9223372036854775806):Ev (fun k=>spec_l1has.f k (mkB set) (b.toNat:Int)) (set.contains b):=by
 have:=has_go (b.toNat:Int) set [] (by simpa using h)
 have e:(set.any fun x=>decide ((x.toNat:Int)=(b.toNat:Int)))=set.contains b:=by
  rw[←List.any_beq]
  congr 1
  funext x
  rw[Bool.eq_iff_iff]
  simp only[decide_eq_true_eq,beq_iff_eq]
  constructor
  ·intro h;exact(UInt8.toNat_inj.1 (by omega)).symm
  ·intro h;rw[h]
 rw[e]at this
 simpa [spec_l1has.f]using this
theorem strOf_digit (n:Nat) (h:n<10):strOfNums [(wrap64 (48+(n:Int)))%256]=mkB [UInt8.ofNat (48+n)]:=by
 have e:(wrap64 (48+(n:Int)))%256=((48+n:Nat):Int):=by rw[wrap_id (by omega) (by omega)];omega
 rw[e]
 show(⟨(([((48+n:Nat):Int)]:List Int).map fun n=>UInt8.ofNat n.toNat).toArray⟩:ByteArray)=_
 rw[List.map_cons,List.map_nil,Int.toNat_natCast]
 rfl
theorem mk_append (a b:List UInt8):mkB a++mkB b=mkB (a++b):=by
 cases h:mkB a++mkB b with|mk d=>
 have h3:(mkB a++mkB b).data.toList=a++b:=by simp[mkB]
 rw[h]at h3
 simp only[mkB,ByteArray.mk.injEq]
 apply Array.toList_inj.1
 rw[h3]
theorem nDigits_le15 (n:Nat) (h:n≤999999999999999):Lib.nDigits n≤15:=by
 by_cases h1:Lib.nDigits n≤15
 ·exact h1
 ·have hk: ∀k u:Nat,u<10^(k+1)→Lib.nDigits u≤k+1:=by
   intro k
   induction k with
   |zero=>intro u hu;rw[Lib.nDigits_small (by simpa using hu)];omega
   |succ k ih=>
    intro u hu
    by_cases h10:u<10
    ·rw[Lib.nDigits_small h10];omega
    ·rw[Lib.nDigits_big h10]
     have:=ih (u/10) (by rw[Nat.pow_succ]at hu;omega)
     omega
  exact hk 14 n (by omega)
theorem specDec_is (n:Nat) (h:n≤999999999999999):Ev (fun k=>spec_DecText.f k (n:Int)) (mkB (Lib.decDigits n)):=by
 induction n using Nat.strongRecOn with
 |_ n ih=>
  have hd:decide ((n:Int)>999999999999999)=false:=decide_eq_false (by omega)
  refine Ev.step (f:=fun k=>spec_DecText.j0 k (n:Int) false) (fun k=>by simp only[spec_DecText.f];rw[if_neg (by omega),hd]) ?_
  by_cases h10:n<10
  ·refine Ev.step (f:=fun _=>some (mkB (Lib.decDigits n))) (fun k=>?_) (Ev.now _)
   simp only[spec_DecText.j0,Bool.false_eq_true,if_false]
   rw[if_pos (by omega),strOf_digit n h10,Lib.decDigits,dif_pos h10]
  ·have ih':=ih (n/10) (by omega) (by omega)
   have hlen:(mkB (Lib.decDigits (n/10))).size≤15:=by rw[size_mk,Lib.decDigits_length];exact nDigits_le15 _ (by omega)
   have e1:wrap64 (Int.tdiv (n:Int) 10)=((n/10:Nat):Int):=by
    rw[Int.tdiv_eq_ediv_of_nonneg (by omega),wrap_id (by omega) (by omega)];rfl
   have e2:Int.tmod (n:Int) 10=((n%10:Nat):Int):=by rw[Int.tmod_eq_emod_of_nonneg (by omega)];rfl
   refine Ev.step (f:=fun k=>(spec_DecText.f k ((n/10:Nat):Int)).bind fun t=>if t.size+(mkB [UInt8.ofNat (48+n%10)]).size≤9223372036854775807 then some (t++mkB [UInt8.ofNat (48+n%10)])else none) (fun k=>?_) ?_
   ·simp only[spec_DecText.j0,Bool.false_eq_true,if_false]
    rw[if_neg (by omega),e1,e2]
    simp only[Option.bind_some,strOf_digit (n%10) (show n%10<10 by omega)]
   ·refine ih'.bind ?_
    have hs:(mkB [UInt8.ofNat (48+n%10)]).size=1:=by rw[size_mk];rfl
    have hdd:Lib.decDigits n=Lib.decDigits (n/10)++ [UInt8.ofNat (48+n%10)]:=by rw[Lib.decDigits,dif_neg h10]
    rw[if_pos (by omega),mk_append,hdd]
    exact Ev.now _
theorem itoa_is (n:Nat) (h:n≤999999999999999):strconv_Itoa.f (n:Int)=some (mkB (Lib.decDigits n)):=by
 unfold strconv_Itoa.f
 rw[if_pos ⟨by omega,by omega⟩]
 unfold Lib.itoa
 rw[if_neg (by omega)]
 rfl
theorem within_is (n a b:Int):impl_within.f n a b=some (decide (a≤n)&&decide (n≤b)):=by
 unfold impl_within.f
 by_cases h:a≤n<;>simp[h]
def cutB (c:UInt8):List UInt8→List UInt8×List UInt8×Bool
 | []=>([],[],false)
 |b::l=>if b=c then([],l,true)else(b::(cutB c l).1,(cutB c l).2)
theorem cut_is (c:UInt8): ∀l:List UInt8,Lib.cut l [c]=cutB c l
 | []=>by simp[Lib.cut,Lib.index,cutB]
 |b::l=>by
  have ih:=cut_is c l
  have hb:=index_bound l [c]
  unfold Lib.cut at ih ⊢
  by_cases h:b=c
  ·subst h
   have hi:Lib.index (b::l) [b]=0:=by simp[Lib.index]
   rw[hi];simp[cutB]
  ·have hi:Lib.index (b::l) [c]=if Lib.index l [c]= -1 then-1 else Lib.index l [c]+1:=by
    have hc:(c==b)=false:=by simpa using fun x=>h x.symm
    simp only[Lib.index,List.isPrefixOf,hc,Bool.false_and,Bool.false_eq_true,if_false]
    by_cases hm:Lib.index l [c]= -1<;>simp[hm]
   rw[hi,cutB,if_neg h]
   by_cases hm:Lib.index l [c]= -1
   ·rw[hm]at ih
    rw[if_pos hm]
    rw[if_neg (by omega)]at ih ⊢
    rw[←ih]
   ·rw[if_neg hm]
    rw[if_pos (by omega)]at ih
    rw[if_pos (by omega),←ih]
    have e:(Lib.index l [c]+1).toNat=(Lib.index l [c]).toNat+1:=by omega
    rw[e]
    simp[Nat.add_right_comm]
theorem cutB_app (c:UInt8): ∀(pre r:List UInt8),(∀b∈pre,b≠c)→cutB c (pre++r)=(pre++(cutB c r).1,(cutB c r).2)
 | [],r,_=>rfl
 |b::pre,r,h=>by
  have ih:=cutB_app c pre r (fun x hx=>h x (List.mem_cons_of_mem _ hx))
  rw[List.cons_append,cutB,if_neg (h b (by simp)),ih];rfl
theorem cutB_len (c:UInt8): ∀l:List UInt8,(cutB c l).1.length+(cutB c l).2.1.length≤l.length
 | []=>by simp[cutB]
 |b::l=>by
  have ih:=cutB_len c l
  unfold cutB;split
  ·simp
  ·simp;omega
theorem upto_go (c:UInt8): ∀(r pre:List UInt8),(∀b∈pre,b≠c)→(pre++r).length≤9223372036854775806→Ev (fun k=>spec_l6upto.l0 k (mkB (pre++r)) (c.toNat:Int) pre.length) (mkB (cutB c (pre++r)).1)
 | [],pre,hp,hl=>by
  have e:(cutB c (pre++ [])).1=pre++ []:=by rw[cutB_app c pre [] hp];simp[cutB]
  rw[e]
  exact Ev.step (f:=fun _=>some (mkB (pre++ []))) (fun k=>by simp only[spec_l6upto.l0];rw[if_neg (by rw[size_mk];simp)]) (Ev.now _)
 |b::r,pre,hp,hl=>by
  simp at hl
  by_cases h:b=c
  ·subst h
   have e:(cutB b (pre++b::r)).1=pre:=by rw[cutB_app b pre _ hp];simp[cutB]
   rw[e]
   refine Ev.step (f:=fun _=>some (mkB pre)) (fun k=>?_) (Ev.now _)
   simp only[spec_l6upto.l0]
   rw[if_pos (size_lt_mid ..),if_pos (by omega),bt_mid,if_pos rfl,if_pos (by have:=size_lt_mid pre b r;omega),extract_mk]
   simp
  ·have ih:=upto_go c r (pre++ [b]) (by intro x hx;rcases List.mem_append.1 hx with h'|h';exact hp x h';simp at h';subst h';exact h) (by simp;omega)
   rw[←app_mid,len_snoc]at ih
   refine Ev.step (fun k=>?_) ih
   simp only[spec_l6upto.l0]
   rw[if_pos (size_lt_mid ..),if_pos (by omega),bt_mid,if_neg (fun e=>h ((u8_nat b c).1 e)),wrap_id (by omega) (by omega)]
theorem upto_is (c:UInt8) (s:ByteArray) (h:s.size≤9223372036854775806):Ev (fun k=>spec_l6upto.f k s (c.toNat:Int)) (mkB (cutB c (bl s)).1):=by
 have:=upto_go c (bl s) [] (by simp) (by simpa [size_bl]using h)
 simpa [mk_bl,spec_l6upto.f]using this
def isDig (c:UInt8):Bool:=decide (48≤c.toNat)&&decide (c.toNat≤57)
def dvalF (acc:Nat) (l:List UInt8):Nat:=l.foldl (fun a c=>a*10+(c.toNat-48)) acc
def dval (l:List UInt8):Nat:=dvalF 0 l
theorem dvalF_append (acc:Nat) (l m:List UInt8):dvalF acc (l++m)=dvalF (dvalF acc l) m:=by simp[dvalF]
theorem digit_toNat (d:Nat) (h:d<10):(UInt8.ofNat (48+d)).toNat=48+d:=by simp;omega
theorem dval_dec (n:Nat):dval (Lib.decDigits n)=n∧(Lib.decDigits n).all isDig=true∧Lib.decDigits n≠ []:=by
 induction n using Nat.strongRecOn with
 |_ n ih=>
  by_cases h:n<10
  ·rw[Lib.decDigits,dif_pos h]
   refine⟨?_,?_,by simp⟩
   ·simp only[dval,dvalF,List.foldl_cons,List.foldl_nil,digit_toNat n h];omega
   ·simp only[List.all_cons,List.all_nil,isDig,digit_toNat n h];simp;omega
  ·obtain⟨h1,h2,h3⟩:=ih (n/10) (by omega)
   rw[Lib.decDigits,dif_neg h]
   refine⟨?_,?_,by simp⟩
   ·rw[dval,dvalF_append,←dval,h1]
    simp only[dvalF,List.foldl_cons,List.foldl_nil,digit_toNat (n%10) (by omega)];omega
   ·rw[List.all_append,h2]
    simp only[List.all_cons,List.all_nil,isDig,digit_toNat (n%10) (show n%10<10 by omega)];simp;omega
theorem dvalF_lt: ∀(l:List UInt8) (acc m:Nat),l.all isDig=true→acc<10^m→dvalF acc l<10^(m+l.length)
 | [],acc,m,_,h=>by simpa [dvalF]using h
 |c::r,acc,m,ha,h=>by
  simp only[List.all_cons,Bool.and_eq_true,isDig,decide_eq_true_eq]at ha
  have:=dvalF_lt r (acc*10+(c.toNat-48)) (m+1) ha.2 (by rw[Nat.pow_succ];omega)
  rw[List.length_cons,show m+(r.length+1)=m+1+r.length by omega]
  exact this
theorem dval_lt15 (l:List UInt8) (hd:l.all isDig=true) (hl:l.length≤15):dval l≤999999999999999:=by
 have h1:=dvalF_lt l 0 0 hd (by decide)
 have h2:10^(0+l.length)≤10^15:=Nat.pow_le_pow_right (by decide) (by omega)
 have h3:(10:Nat)^15=1000000000000000:=by decide
 unfold dval
 omega
def rdec (l:List UInt8):Int×Bool:=if Lib.decDigits (dval l)=l∧l.length≤15 then((dval l:Int),true)else(0,false)
theorem l1digit_dig (c:UInt8):spec_l1digit.f (c.toNat:Int)=some (isDig c):=by
 have:c.toNat<256:=c.toNat_lt
 unfold spec_l1digit.f isDig
 by_cases h1:48≤c.toNat
 ·rw[if_pos (by omega),decide_eq_true h1,Bool.true_and];congr 1;exact decide_eq_decide.2 (by omega)
 ·rw[if_neg (by omega),decide_eq_false h1,Bool.false_and]
theorem specReadDec_go: ∀(r pre:List UInt8) (acc:Nat),acc<10^pre.length→(pre++r).length≤15→r.all isDig=true→
  Ev (fun k=>spec_ReadDec.l0 k (mkB (pre++r)) (acc:Int) pre.length) (if Lib.decDigits (dvalF acc r)=pre++r then((dvalF acc r:Int),true)else(0,false))
 | [],pre,acc,ha,hl,_=>by
  have h15:(10:Nat)^pre.length≤10^15:=Nat.pow_le_pow_right (by decide) (by simpa using hl)
  have h3:(10:Nat)^15=1000000000000000:=by decide
  have hd:=(specDec_is acc (by omega)).bind (f:=fun _ (t:ByteArray)=>if t.toList=(mkB (pre++ [])).toList then some ((acc:Int),true)else some ((0:Int),false)) (r:=if Lib.decDigits acc=pre++ []then((acc:Int),true)else((0:Int),false)) (by
   simp only[toList_mk]
   split<;>exact Ev.now _)
  refine Ev.step (fun k=>?_) hd
  simp only[spec_ReadDec.l0]
  rw[if_neg (by rw[size_mk];simp)]
 |c::r,pre,acc,ha,hl,hd=>by
  simp only[List.all_cons,Bool.and_eq_true]at hd
  have hc:48≤c.toNat∧c.toNat≤57:=by have:=hd.1;simpa [isDig]using this
  have hl':pre.length<15:=by simp at hl;omega
  have h15:(10:Nat)^pre.length≤10^14:=Nat.pow_le_pow_right (by decide) (by omega)
  have h3:(10:Nat)^14=100000000000000:=by decide
  have ih:=specReadDec_go r (pre++ [c]) (acc*10+(c.toNat-48)) (by rw[List.length_append,List.length_singleton,Nat.pow_succ];omega) (by rw[←app_mid];exact hl) hd.2
  rw[←app_mid,len_snoc]at ih
  have e:dvalF acc (c::r)=dvalF (acc*10+(c.toNat-48)) r:=rfl
  rw[e]
  refine Ev.step (fun k=>?_) ih
  simp only[spec_ReadDec.l0]
  rw[if_pos (size_lt_mid ..),if_pos (by omega),bt_mid,l1digit_dig,hd.1]
  simp only[Option.bind_some,if_true]
  rw[wrap_id (a:=(acc:Int)*10) (by omega) (by omega),wrap_id (by omega) (by omega),wrap_id (a:=(pre.length:Int)+1) (by omega) (by omega)]
  congr 1
  omega
theorem specReadDec_bad: ∀(r pre:List UInt8) (acc:Int),(pre++r).length≤15→r.all isDig=false→Ev (fun k=>spec_ReadDec.l0 k (mkB (pre++r)) acc pre.length) ((0:Int),false)
 | [],pre,acc,_,hd=>by simp at hd
 |c::r,pre,acc,hl,hd=>by
  have hw:wrap64 ((pre.length:Int)+1)=(pre.length:Int)+1:=by simp at hl;exact wrap_id (by omega) (by omega)
  by_cases hc:isDig c=true
  ·have ih:=fun acc'=>specReadDec_bad r (pre++ [c]) acc' (by rw[←app_mid];exact hl) (by simpa [hc]using hd)
   simp only[←app_mid,len_snoc]at ih
   refine Ev.step (fun k=>?_) (ih (wrap64 ((wrap64 (acc*10))+(((c.toNat:Int)-48)%256))))
   simp only[spec_ReadDec.l0]
   rw[if_pos (size_lt_mid ..),if_pos (by omega),bt_mid,l1digit_dig,hc,hw]
   simp only[Option.bind_some,if_true]
  ·refine Ev.step (f:=fun _=>some ((0:Int),false)) (fun k=>?_) (Ev.now _)
   simp only[spec_ReadDec.l0]
   rw[if_pos (size_lt_mid ..),if_pos (by omega),bt_mid,l1digit_dig]
   simp only[Option.bind_some,if_neg hc]
theorem specReadDec_is (l:List UInt8) (hl:l.length≤1099511627776):Ev (fun k=>spec_ReadDec.f k (mkB l)) (rdec l):=by
 have hj:Ev (fun k=>spec_ReadDec.j0 k (mkB l) true) ((0:Int),false):=Ev.step (f:=fun _=>some ((0:Int),false)) (fun k=>by simp[spec_ReadDec.j0]) (Ev.now _)
 unfold spec_ReadDec.f
 by_cases h0:l= []
 ·have:rdec l=(0,false):=by unfold rdec;rw[if_neg (by rintro⟨h,_⟩;subst h0;exact(dval_dec _).2.2 h)]
  have hz:((mkB l).size:Int)=0:=by rw[size_mk,h0];rfl
  rw[this]
  simp only[if_pos hz];exact hj
 ·have h1:1≤l.length:=List.length_pos_iff.2 h0
  have hz: ¬((mkB l).size:Int)=0:=by rw[size_mk];omega
  simp only[if_neg hz]
  by_cases h15:l.length≤15
  ·have e:decide (((mkB l).size:Int)>15)=false:=decide_eq_false (by rw[size_mk];omega)
   rw[e]
   refine Ev.step (f:=fun k=>spec_ReadDec.l0 k (mkB l) 0 0) (fun k=>by simp[spec_ReadDec.j0]) ?_
   by_cases hd:l.all isDig=true
   ·have:=specReadDec_go l [] 0 (by decide) (by simpa using h15) hd
    have e2:rdec l=if Lib.decDigits (dvalF 0 l)= []++l then((dvalF 0 l:Int),true)else(0,false):=by
     unfold rdec dval
     simp only[List.nil_append]
     by_cases hh:Lib.decDigits (dvalF 0 l)=l
     ·rw[if_pos ⟨hh,h15⟩,if_pos hh]
     ·rw[if_neg (fun q=>hh q.1),if_neg hh]
    rw[e2];exact this
   ·have e2:rdec l=(0,false):=by
     unfold rdec
     rw[if_neg]
     rintro⟨hh,_⟩
     exact hd (by have:=(dval_dec (dval l)).2.1;rwa [hh]at this)
    rw[e2]
    exact specReadDec_bad l [] 0 (by simpa using h15) (by simpa using hd)
  ·have e:decide (((mkB l).size:Int)>15)=true:=decide_eq_true (by rw[size_mk];omega)
   have e2:rdec l=(0,false):=by unfold rdec;rw[if_neg (fun q=>h15 q.2)]
   rw[e,e2];exact hj
theorem parse_digits: ∀(l:List UInt8) (acc m:Nat),l.all isDig=true→acc<10^m→m+l.length≤15→Lib.parseUint10 acc l= .ok (dvalF acc l)
 | [],acc,m,_,_,_=>rfl
 |c::r,acc,m,hd,ha,hm=>by
  simp only[List.all_cons,Bool.and_eq_true]at hd
  have hc:48≤c.toNat∧c.toNat≤57:=by have:=hd.1;simpa [isDig]using this
  simp only[List.length_cons]at hm
  have h15:(10:Nat)^m≤10^14:=Nat.pow_le_pow_right (by decide) (by omega)
  have h3:(10:Nat)^14=100000000000000:=by decide
  rw[Lib.parseUint10,if_pos hc,if_neg (by omega),if_neg (by omega),parse_digits r _ (m+1) hd.2 (by rw[Nat.pow_succ];omega) (by omega)]
  rfl
theorem implReadDec_ok (l:List UInt8):impl_ReadDec.ok l=rdec l:=by
 unfold impl_ReadDec.ok
 by_cases h:Lib.decDigits (dval l)=l∧l.length≤15
 ·obtain⟨h1,h2⟩:=h
  have hall:l.all isDig=true:=by have:=(dval_dec (dval l)).2.1;rwa [h1]at this
  have hne:l≠ []:=by have:=(dval_dec (dval l)).2.2;rwa [h1]at this
  have hlt:=dval_lt15 l hall h2
  have hp:Lib.parseMag l= .ok (dval l):=by
   unfold Lib.parseMag
   rw[if_neg hne,parse_digits l 0 0 hall (by decide) (by omega)];rfl
  have hat:Lib.atoiAll l= .ok (dval l:Int):=by
   cases l with
   |nil=>exact absurd rfl hne
   |cons c r=>
    have hc:48≤c.toNat∧c.toNat≤57:=by
     simp only[List.all_cons,Bool.and_eq_true]at hall
     have:=hall.1;simpa [isDig]using this
    unfold Lib.atoiAll
    simp only[if_neg (show ¬(c.toNat=43∨c.toNat=45)by omega),hp]
    rw[if_neg (by omega),if_neg (by omega),if_neg (by omega)]
  rw[hat,rdec,if_pos ⟨h1,h2⟩]
  simp only[]
  rw[if_pos ⟨by omega,by omega,by unfold Lib.itoa;rw[if_neg (by omega),Int.toNat_natCast];exact h1⟩]
 ·have hr:rdec l=(0,false):=by unfold rdec;rw[if_neg h]
  rw[hr]
  cases hA:Lib.atoiAll l with
  | «syntax» =>rfl
  |range=>rfl
  |ok v=>
   simp only[]
   rw[if_neg]
   rintro⟨h0,h1,h2⟩
   obtain⟨n,rfl⟩: ∃n:Nat,v=n:=⟨v.toNat,by omega⟩
   have h3:Lib.decDigits n=l:=by rw[←h2];unfold Lib.itoa;rw[if_neg (by omega),Int.toNat_natCast]
   have h4:dval l=n:=by rw[←h3];exact(dval_dec n).1
   exact h ⟨by rw[h4,h3],by rw[←h3,Lib.decDigits_length];exact nDigits_le15 n (by omega)⟩
theorem implReadDec_is (l:List UInt8) (hl:l.length≤1099511627776):impl_ReadDec.f (mkB l)=some (rdec l):=by
 unfold impl_ReadDec.f
 rw[if_pos (by rw[size_mk];exact hl),←implReadDec_ok]
 rfl
theorem stringsCut_is (c:UInt8) (l:List UInt8) (h:l.length≤1048576):strings_Cut.f (mkB l) (⟨#[c]⟩:ByteArray)=some (mkB (cutB c l).1,mkB (cutB c l).2.1,(cutB c l).2.2):=by
 unfold strings_Cut.f
 rw[if_pos (by rw[size_mk];omega),show(⟨#[c]⟩:ByteArray).data.toList= [c]from rfl,show(mkB l).data.toList=l from bl_mk l,cut_is]
 rfl
def tokOdd:List UInt8:= [33,35,36,37,38,39,42,43,45,46,94,95,124,126]
def tokB (b:UInt8):Bool:=lowB b||uppB b||digB b||decide (b.toNat=96)||tokOdd.contains b
theorem indexByte_pos: ∀(l:List UInt8) (c:UInt8),Lib.indexByte l c≥0↔l.contains c=true
 | [],c=>by simp[Lib.indexByte]
 |b::l,c=>by
  have ih:=indexByte_pos l c
  have lo: -1≤Lib.indexByte l c:=Lib.indexByte_ge l c
  unfold Lib.indexByte
  by_cases h:b=c
  ·subst h;simp
  ·have hb:(b==c)=false:=by simpa using h
   have hc:(c==b)=false:=by simpa using fun x=>h x.symm
   rw[hb]
   simp only[Bool.false_eq_true,if_false,List.contains_cons,hc,Bool.false_or]
   rw[←ih]
   by_cases h2:Lib.indexByte l c= -1
   ·simp[h2]
   ·have:(Lib.indexByte l c== -1)=false:=by simpa using h2
    rw[this];simp;omega
theorem isTokenByte_is (b:UInt8):impl_isTokenByte.f (b.toNat:Int)=some (tokB b):=by
 have hi:(decide (Lib.indexByte tokOdd b≥0))=tokOdd.contains b:=by
  rw[Bool.eq_iff_iff,decide_eq_true_iff];exact indexByte_pos _ _
 have hx:strings_IndexByte.f (⟨#[33,35,36,37,38,39,42,43,45,46,94,95,124,126]⟩:ByteArray) (b.toNat:Int)=some (Lib.indexByte tokOdd b):=by
  unfold strings_IndexByte.f;rw[toUInt8_toNat];rfl
 unfold impl_isTokenByte.f
 simp only[isLower_is,isUpper_is,isDigit_is,hx,Option.bind_some,hi]
 unfold tokB
 cases lowB b<;>cases uppB b<;>cases digB b<;>simp
 all_goals (by_cases h:b.toNat=96<;>simp[h])
 all_goals (try omega)
theorem tchar_is (b:UInt8):Ev (fun k=>spec_l1tchar.f k (b.toNat:Int)) (tokB b):=by
 have hb:=u8_lt b
 have hh:Ev (fun k=>spec_l1has.f k (⟨#[33,35,36,37,38,39,42,43,45,46,94,95,124,126]⟩:ByteArray) (b.toNat:Int)) (tokOdd.contains b):=has_is tokOdd b (by decide)
 have rest:Ev (fun k=>if digB b=true then some true else if(b.toNat:Int)=96 then some true else(spec_l1has.f k (⟨#[33,35,36,37,38,39,42,43,45,46,94,95,124,126]⟩:ByteArray) (b.toNat:Int)).bind fun t=>some t) (digB b||decide (b.toNat=96)||tokOdd.contains b):=by
  cases hd:digB b
  ·by_cases h9:b.toNat=96
   ·simpa [h9]using Ev.now true
   ·have: ¬(b.toNat:Int)=96:=by omega
    simpa [h9,this]using hh.bind (f:=fun _ (t:Bool)=>some t) (Ev.now _)
  ·simpa using Ev.now true
 unfold spec_l1tchar.f spec_l1lower.f
 simp only[l1digit_is]
 unfold tokB
 by_cases hU:65≤b.toNat∧b.toNat≤90
 ·have e1:uppB b=true:=by simp[uppB,hU]
  simp only[if_pos (show(b.toNat:Int)≥65 by omega),if_pos (show(b.toNat:Int)≤90 by omega),Option.bind_some,if_pos (show((b.toNat:Int)+32)%256≥97 by omega),if_pos (show((b.toNat:Int)+32)%256≤122 by omega)]
  simpa [e1]using Ev.now true
 ·have e1:uppB b=false:=by simp[uppB];omega
  have hlow:(if(b.toNat:Int)≥65 then(if(b.toNat:Int)≤90 then some (((b.toNat:Int)+32)%256)else some (b.toNat:Int))else some (b.toNat:Int))=some (b.toNat:Int):=by
   split
   ·rw[if_neg (by omega)]
   ·rfl
  rw[hlow]
  simp only[Option.bind_some]
  by_cases hL:97≤b.toNat
  ·by_cases hL2:b.toNat≤122
   ·have e2:lowB b=true:=by simp[lowB,hL,hL2]
    simp only[if_pos (show(b.toNat:Int)≥97 by omega),if_pos (show(b.toNat:Int)≤122 by omega)]
    simpa [e2]using Ev.now true
   ·have e2:lowB b=false:=by simp[lowB,hL2]
    simp only[if_pos (show(b.toNat:Int)≥97 by omega),if_neg (show ¬(b.toNat:Int)≤122 by omega)]
    simpa [e1,e2]using rest
  ·have e2:lowB b=false:=by simp[lowB,hL]
   simp only[if_neg (show ¬(b.toNat:Int)≥97 by omega)]
   simpa [e1,e2]using rest
def tokenL (l:List UInt8):Bool:=decide (1≤l.length)&&decide (l.length≤4000)&&l.all tokB
theorem specToken_is (s:ByteArray):Ev (fun k=>spec_Token.f k s) (tokenL (bl s)):=by
 unfold spec_Token.f tokenL
 rw[size_bl]
 by_cases h0:(s.size:Int)=0
 ·simp only[if_pos h0]
  refine Ev.step (f:=fun _=>some false) (fun k=>by simp[spec_Token.j0]) ?_
  simpa [show ¬1≤s.size by omega]using Ev.now false
 ·simp only[if_neg h0]
  by_cases h4:(s.size:Int)>4000
  ·refine Ev.step (f:=fun _=>some false) (fun k=>by simp[spec_Token.j0,h4]) ?_
   simpa [show ¬s.size≤4000 by omega]using Ev.now false
  ·refine Ev.step (f:=fun k=>spec_Token.l0 k s 0) (fun k=>by simp[spec_Token.j0,h4]) ?_
   have:=all_ev spec_Token.l0 spec_l1tchar.f tokB tchar_is (fun k s i=>by simp only[spec_Token.l0]) s (by omega)
   simpa [show 1≤s.size by omega,show s.size≤4000 by omega]using this
def wh (b:UInt8):Bool:=decide (b.toNat=32)||decide (b.toNat=9)
def trimB (l:List UInt8):List UInt8:=((l.dropWhile wh).reverse.dropWhile wh).reverse
theorem l1white_is (b:UInt8):spec_l1white.f (b.toNat:Int)=some (wh b):=by
 unfold spec_l1white.f wh
 by_cases h:b.toNat=32
 ·rw[if_pos (by omega)];simp[h]
 ·rw[if_neg (by omega)]
  by_cases h':b.toNat=9
  ·simp[h']
  ·simp[h,h'];omega
theorem isSpace_is (b:UInt8):impl_isSpace.f (b.toNat:Int)=some (wh b):=by
 unfold impl_isSpace.f wh
 by_cases h:b.toNat=32
 ·rw[if_pos (by omega)];simp[h]
 ·rw[if_neg (by omega)]
  by_cases h':b.toNat=9
  ·simp[h']
  ·simp[h,h'];omega
theorem specTrim_end: ∀(m pre suf:List UInt8),(pre++(m.reverse++suf)).length≤9223372036854775806→
  Ev (fun k=>spec_Trim.l1 k (mkB (pre++(m.reverse++suf))) pre.length ((pre.length:Int)+m.length)) (mkB (m.dropWhile wh).reverse)
 | [],pre,suf,hl=>by
  refine Ev.step (f:=fun _=>some (mkB [])) (fun k=>?_) (by simpa using Ev.now (mkB []))
  simp only[spec_Trim.l1]
  simp at hl
  rw[if_neg (by simp),if_pos (by omega),if_pos (by simp),if_pos (by rw[size_mk];simp<;>omega),extract_mk]
  simp
 |b::m,pre,suf,hl=>by
  have e:pre++((b::m).reverse++suf)=pre++(m.reverse++b::suf):=by simp
  rw[e]at hl ⊢
  have hl2:=hl
  simp at hl2
  have hb:bt (mkB (pre++(m.reverse++b::suf))) ((pre.length:Int)+m.length)=(b.toNat:Int):=bt_mid2 pre m.reverse b suf _ (by simp)
  have hw:wrap64 ((pre.length:Int)+((b::m).length:Int)-1)=(pre.length:Int)+m.length:=by rw[wrap_id (by simp<;>omega) (by simp<;>omega)];simp<;>omega
  by_cases hwb:wh b=true
  ·have ih:=specTrim_end m pre (b::suf) hl
   rw[List.dropWhile_cons,if_pos hwb]
   refine Ev.step (fun k=>?_) ih
   simp only[spec_Trim.l1]
   rw[if_pos (by simp<;>omega),hw,if_pos (by omega),if_pos (by rw[size_mk];simp<;>omega),hb,l1white_is,hwb]
   simp
  ·rw[List.dropWhile_cons,if_neg hwb]
   have hwb':wh b=false:=by simpa using hwb
   refine Ev.step (f:=fun _=>some (mkB (b::m).reverse)) (fun k=>?_) (Ev.now _)
   simp only[spec_Trim.l1]
   rw[if_pos (by simp<;>omega),hw,if_pos (by omega),if_pos (by rw[size_mk];simp<;>omega),hb,l1white_is,hwb']
   simp only[Option.bind_some,Bool.false_eq_true,if_false]
   rw[if_pos (by omega),if_pos (by simp<;>omega),if_pos (by rw[size_mk];simp<;>omega),extract_mk]
   have hn:((pre.length:Int)+((b::m).length:Int)).toNat=pre.length+(b::m).reverse.length:=by simp;omega
   rw[hn,Int.toNat_natCast,←e,take_mid]
theorem specTrim_go: ∀(r pre:List UInt8),(pre++r).length≤9223372036854775806→
  Ev (fun k=>spec_Trim.l0 k (mkB (pre++r)) pre.length) (mkB (trimB r))
 | [],pre,hl=>by
  have:=specTrim_end [] pre [] (by simpa using hl)
  refine Ev.step (f:=fun k=>spec_Trim.j1 k (mkB (pre++ [])) pre.length) (fun k=>by simp only[spec_Trim.l0];rw[if_neg (by rw[size_mk];simp)]) ?_
  refine Ev.step (f:=fun k=>spec_Trim.l1 k (mkB (pre++ [])) pre.length ((mkB (pre++ [])).size:Int)) (fun k=>by simp only[spec_Trim.j1]) ?_
  rw[size_mk]
  simpa [trimB]using this
 |b::r,pre,hl=>by
  have hl2:=hl
  simp at hl2
  by_cases hwb:wh b=true
  ·have ih:=specTrim_go r (pre++ [b]) (by rw[←app_mid];exact hl)
   rw[←app_mid,len_snoc]at ih
   have et:trimB (b::r)=trimB r:=by simp[trimB,List.dropWhile_cons,hwb]
   rw[et]
   refine Ev.step (fun k=>?_) ih
   simp only[spec_Trim.l0]
   rw[if_pos (size_lt_mid ..),if_pos (by omega),bt_mid,l1white_is,hwb,wrap_id (by omega) (by omega)]
   simp
  ·have hwb':wh b=false:=by simpa using hwb
   have:=specTrim_end (b::r).reverse pre [] (by simpa using hl)
   refine Ev.step (f:=fun k=>spec_Trim.j1 k (mkB (pre++b::r)) pre.length) (fun k=>?_) ?_
   ·simp only[spec_Trim.l0]
    rw[if_pos (size_lt_mid ..),if_pos (by omega),bt_mid,l1white_is,hwb']
    simp
   refine Ev.step (f:=fun k=>spec_Trim.l1 k (mkB (pre++b::r)) pre.length ((mkB (pre++b::r)).size:Int)) (fun k=>by simp only[spec_Trim.j1]) ?_
   have e2:((mkB (pre++b::r)).size:Int)=(pre.length:Int)+((b::r).reverse.length:Int):=by rw[size_mk];simp
   rw[e2]
   have et:trimB (b::r)=((b::r).reverse.dropWhile wh).reverse:=by simp only[trimB,List.dropWhile_cons,hwb',Bool.false_eq_true,if_false]
   rw[et]
   simpa using this
theorem specTrim_is (s:ByteArray) (hs:s.size≤9223372036854775806):Ev (fun k=>spec_Trim.f k s) (mkB (trimB (bl s))):=by
 have:=specTrim_go (bl s) [] (by simpa [size_bl]using hs)
 simpa [mk_bl,spec_Trim.f]using this
theorem implTrim_end: ∀(m:List UInt8),m.length≤9223372036854775806→Ev (fun k=>impl_Trim.l1 k (mkB m.reverse)) (mkB (m.dropWhile wh).reverse)
 | [],_=>Ev.step (f:=fun _=>some (mkB [])) (fun k=>by simp[impl_Trim.l1,toList_mk]) (by simpa using Ev.now (mkB []))
 |b::m,hl=>by
  simp at hl
  have hw:wrap64 (((mkB (b::m).reverse).size:Int)-1)=(m.length:Int):=by rw[size_mk,wrap_id (by simp<;>omega) (by simp<;>omega)];simp
  have hb:bt (mkB (b::m).reverse) (m.length:Int)=(b.toNat:Int):=by
   have:=bt_mid m.reverse b []
   simpa using this
  have hcell: ∀k,impl_Trim.l1 (k+1) (mkB (b::m).reverse)=if wh b=true then impl_Trim.l1 k (mkB m.reverse)else some (mkB (b::m).reverse):=by
   intro k
   simp only[impl_Trim.l1]
   rw[if_neg (by rw[toList_mk];simp),hw,if_pos (by omega),if_pos (by rw[size_mk];simp<;>omega),hb,isSpace_is]
   simp only[Option.bind_some]
   split
   ·rw[if_pos (by rw[size_mk];simp<;>omega),extract_mk]
    congr 2
    simp
   ·rfl
  by_cases hwb:wh b=true
  ·rw[List.dropWhile_cons,if_pos hwb]
   exact Ev.step (fun k=>by rw[hcell,if_pos hwb]) (implTrim_end m (by omega))
  ·rw[List.dropWhile_cons,if_neg hwb]
   exact Ev.step (f:=fun _=>some (mkB (b::m).reverse)) (fun k=>by rw[hcell,if_neg hwb]) (Ev.now _)
theorem implTrim_go: ∀(r:List UInt8),r.length≤9223372036854775806→Ev (fun k=>impl_Trim.l0 k (mkB r)) (mkB (trimB r))
 | [],_=>by
  have:=implTrim_end [] (by simp)
  refine Ev.step (f:=fun k=>impl_Trim.j1 k (mkB [])) (fun k=>by simp[impl_Trim.l0,toList_mk]) ?_
  exact Ev.step (f:=fun k=>impl_Trim.l1 k (mkB [])) (fun k=>by simp only[impl_Trim.j1]) (by simpa [trimB]using this)
 |b::r,hl=>by
  simp at hl
  have hb:bt (mkB (b::r)) 0=(b.toNat:Int):=by simpa using bt_mid [] b r
  by_cases hwb:wh b=true
  ·have ih:=implTrim_go r (by omega)
   have et:trimB (b::r)=trimB r:=by simp[trimB,List.dropWhile_cons,hwb]
   rw[et]
   refine Ev.step (fun k=>?_) ih
   simp only[impl_Trim.l0]
   rw[if_neg (by rw[toList_mk];simp),if_pos (by rw[size_mk];simp<;>omega),hb,isSpace_is,hwb]
   simp only[Option.bind_some,if_true]
   rw[if_pos (by rw[size_mk];simp<;>omega),extract_mk]
   simp[size_mk]
  ·have hwb':wh b=false:=by simpa using hwb
   have:=implTrim_end (b::r).reverse (by simpa using hl)
   refine Ev.step (f:=fun k=>impl_Trim.j1 k (mkB (b::r))) (fun k=>?_) ?_
   ·simp only[impl_Trim.l0]
    rw[if_neg (by rw[toList_mk];simp),if_pos (by rw[size_mk];simp<;>omega),hb,isSpace_is,hwb']
    simp
   refine Ev.step (f:=fun k=>impl_Trim.l1 k (mkB (b::r))) (fun k=>by simp only[impl_Trim.j1]) ?_
   have et:trimB (b::r)=((b::r).reverse.dropWhile wh).reverse:=by simp only[trimB,List.dropWhile_cons,hwb',Bool.false_eq_true,if_false]
   rw[et]
   simpa using this
theorem implTrim_is (s:ByteArray) (hs:s.size≤9223372036854775806):Ev (fun k=>impl_Trim.f k s) (mkB (trimB (bl s))):=by
 have:=implTrim_go (bl s) (by simpa [size_bl]using hs)
 simpa [mk_bl,impl_Trim.f]using this
def plB (b:UInt8):Bool:=decide (b.toNat=9)||(decide (32≤b.toNat)&&decide (b.toNat≠127))
theorem specPlain_is (b:UInt8):spec_l1plain.f (b.toNat:Int)=some (plB b):=by
 unfold spec_l1plain.f plB
 by_cases h:b.toNat=9
 ·rw[if_pos (by omega)];simp[h]
 ·rw[if_neg (by omega)]
  by_cases h':32≤b.toNat
  ·rw[if_pos (by omega)];congr 1;rw[Bool.eq_iff_iff];simp[h,h'];omega
  ·rw[if_neg (by omega)];simp[h,h']
theorem implPlain_is (b:UInt8):impl_isPlain.f (b.toNat:Int)=some (plB b):=by
 unfold impl_isPlain.f plB
 by_cases h:b.toNat=9
 ·rw[if_pos (by omega)];simp[h]
 ·rw[if_neg (by omega)]
  by_cases h':32≤b.toNat
  ·rw[if_pos (by omega)];congr 1;rw[Bool.eq_iff_iff];simp[h,h'];omega
  ·rw[if_neg (by omega)];simp[h,h']
theorem implToken_is (s:ByteArray):Ev (fun k=>impl_Token.f k s) (tokenL (bl s)):=by
 unfold impl_Token.f tokenL
 rw[size_bl]
 simp only[within_is,Option.bind_some]
 have e:(decide ((1:Int)≤(s.size:Int))&&decide ((s.size:Int)≤4000))=(decide (1≤s.size)&&decide (s.size≤4000)):=by rw[Bool.eq_iff_iff];simp;omega
 rw[e]
 cases h:(decide (1≤s.size)&&decide (s.size≤4000))
 ·simpa using Ev.now false
 ·have hs:s.size≤9223372036854775806:=by simp at h;omega
  have:=all_ev impl_all__impl_isTokenByte.l0 (fun _ c=>impl_isTokenByte.f c) tokB (fun b=>Ev.const (isTokenByte_is b)) (fun k s i=>by simp only[impl_all__impl_isTokenByte.l0]) s hs
  simpa [impl_all__impl_isTokenByte.f]using this.bind (f:=fun _ (t:Bool)=>some t) (Ev.now _)
theorem specL5plain_is (s:ByteArray) (hs:s.size≤9223372036854775806):Ev (fun k=>spec_l5plain.f k s) ((bl s).all plB):=by
 have:=all_ev spec_l5plain.l0 (fun _ c=>spec_l1plain.f c) plB (fun b=>Ev.const (specPlain_is b)) (fun k s i=>by simp only[spec_l5plain.l0]) s hs
 simpa [spec_l5plain.f]using this
theorem implAllPlain_is (s:ByteArray) (hs:s.size≤9223372036854775806):Ev (fun k=>impl_all__impl_isPlain.f k s) ((bl s).all plB):=by
 have:=all_ev impl_all__impl_isPlain.l0 (fun _ c=>impl_isPlain.f c) plB (fun b=>Ev.const (implPlain_is b)) (fun k s i=>by simp only[impl_all__impl_isPlain.l0]) s hs
 simpa [impl_all__impl_isPlain.f]using this
def leapD (y:Int):Prop:=y%4=0∧(y%100≠0∨y%400=0)
instance (y:Int):Decidable (leapD y):=by unfold leapD;infer_instance
def yearD (y:Int):Int:=if leapD y then 366 else 365
def befD (y:Int):Int:=365*(y-1970)+(y-1)/4-(y-1)/100+(y-1)/400-477
def monD (y m:Int):Int:=if m=2 then(if leapD y then 29 else 28)else if m=4∨m=6∨m=9∨m=11 then 30 else 31
theorem befD_up (y:Int):befD (y+1)=befD y+yearD y:=by
 unfold befD yearD
 by_cases h:leapD y
 ·rw[if_pos h];unfold leapD at h;omega
 ·rw[if_neg h];unfold leapD at h;omega
theorem yearD_pos (y:Int):365≤yearD y∧yearD y≤366:=by unfold yearD;split<;>omega
theorem monD_pos (y m:Int):28≤monD y m∧monD y m≤31:=by unfold monD;repeat' split<;>omega
theorem befD_0:befD 1970=0:=by decide
theorem befD_low (n:Nat):befD (1970+n)≤366*n:=by unfold befD;omega
theorem befD_mono (a:Int) (n:Nat):befD a+365*n≤befD (a+n):=by
 induction n with
 |zero=>simp
 |succ n ih=>
  have h:=befD_up (a+n)
  have h2:=yearD_pos (a+n)
  have e:a+((n+1:Nat):Int)=a+n+1:=by omega
  rw[e];omega
theorem yr_ex (D:Int) (h0:0≤D) (h1:D≤2932896): ∃Y:Int,1970≤Y∧Y≤9999∧befD Y≤D∧D<befD (Y+1):=by
 have key: ∀n:Nat,D<befD (1970+n)→ ∃m:Nat,m<n∧befD (1970+m)≤D∧D<befD (1970+m+1):=by
  intro n
  induction n with
  |zero=>intro h;have:=befD_0;simp at h;omega
  |succ n ih=>
   intro h
   by_cases c:D<befD (1970+n)
   ·obtain⟨m,a,b⟩:=ih c;exact⟨m,by omega,b⟩
   ·refine⟨n,by omega,by omega,?_⟩
    have e:(1970:Int)+((n+1:Nat):Int)=1970+n+1:=by omega
    rw[e]at h;exact h
 have e:befD (1970+(8030:Nat))=2932897:=by decide
 obtain⟨m,a,b,c⟩:=key 8030 (by omega)
 exact⟨1970+m,by omega,by omega,b,c⟩
def restD (y:Int):Nat→Int→Int
 |0,_=>0
 |n+1,m=>monD y m+restD y n (m+1)
theorem restD_12 (y:Int):restD y 12 1=yearD y:=by
 unfold yearD
 by_cases h:leapD y<;>simp[restD,monD,h]
def mgoD (y:Int):Nat→Int→Int→Int×Int
 |0,d,m=>(d,m)
 |n+1,d,m=>if d≥monD y m then mgoD y n (d-monD y m) (m+1)else(d,m)
theorem mgoD_is (y:Int): ∀(n:Nat) (d m:Int),0≤d→d<restD y n m→0≤(mgoD y n d m).1∧(mgoD y n d m).1<monD y (mgoD y n d m).2∧m≤(mgoD y n d m).2∧(mgoD y n d m).2<m+n
 |0,d,m,h0,h1=>by simp[restD]at h1;omega
 |n+1,d,m,h0,h1=>by
  unfold mgoD
  unfold restD at h1
  by_cases c:d≥monD y m
  ·rw[if_pos c]
   have:=mgoD_is y n (d-monD y m) (m+1) (by omega) (by omega)
   omega
  ·rw[if_neg c];refine⟨h0,?_,?_,?_⟩<;>dsimp only<;>omega
def digsD:Nat→Nat→List UInt8
 |0,_=> []
 |c+1,n=>digsD c (n/10)++ [UInt8.ofNat (48+n%10)]
theorem digsD_len: ∀c n,(digsD c n).length=c
 |0,_=>rfl
 |c+1,n=>by rw[digsD,List.length_append,digsD_len c];rfl
theorem digsD_zero: ∀c,digsD c 0=List.replicate c 48
 |0=>rfl
 |c+1=>by rw[digsD,Nat.zero_div,digsD_zero c,List.replicate_succ'];rfl
theorem digsD_pad: ∀(c n:Nat),n<10^(c+1)→List.replicate (c+1-(Lib.decDigits n).length) 48++Lib.decDigits n=digsD (c+1) n
 |0,n,h=>by
  have h10:n<10:=by simpa using h
  rw[Lib.decDigits,dif_pos h10,digsD,digsD,Nat.mod_eq_of_lt h10];rfl
 |c+1,n,h=>by
  by_cases h10:n<10
  ·rw[Lib.decDigits,dif_pos h10,digsD,Nat.div_eq_of_lt h10,digsD_zero,Nat.mod_eq_of_lt h10];rfl
  ·have ih:=digsD_pad c (n/10) (by rw[Nat.pow_succ]at h;omega)
   rw[Lib.decDigits,dif_neg h10,digsD,←ih,List.length_append,List.length_singleton,Nat.add_sub_add_right,List.append_assoc]
theorem wid (a:Int) (h0: -9223372036854775808≤a) (h1:a≤9223372036854775807):wrap64 a=a:=wrap_id h0 h1
theorem tdv (a n:Int) (h:0≤a):Int.tdiv a n=a/n:=Int.tdiv_eq_ediv_of_nonneg h
theorem tmd (a n:Int) (h:0≤a):Int.tmod a n=a%n:=Int.tmod_eq_emod_of_nonneg h
theorem implBef_is (y:Int) (h0:1970≤y) (h1:y≤20000):impl_daysBefore.f y=some (befD y):=by
 unfold impl_daysBefore.f befD
 rw[wid (y-1970) (by omega) (by omega),wid (365*(y-1970)) (by omega) (by omega),wid (y-1) (by omega) (by omega),tdv _ 4 (by omega),tdv _ 100 (by omega),tdv _ 400 (by omega),
  wid ((y-1)/4) (by omega) (by omega),wid ((y-1)/100) (by omega) (by omega),wid ((y-1)/400) (by omega) (by omega),wid (365*(y-1970)+(y-1)/4) (by omega) (by omega),
  wid (365*(y-1970)+(y-1)/4-(y-1)/100) (by omega) (by omega),wid (365*(y-1970)+(y-1)/4-(y-1)/100+(y-1)/400) (by omega) (by omega),wid _ (by omega) (by omega)]
theorem specLeap_is (y:Int) (h0:0≤y):spec_l2leap.f y=some (decide (leapD y)):=by
 unfold spec_l2leap.f
 rw[tmd _ _ h0,tmd _ _ h0,tmd _ _ h0]
 by_cases h4:y%4=0
 ·rw[if_pos h4]
  by_cases h100:y%100=0
  ·rw[if_pos h100];congr 1
   by_cases h400:y%400=0
   ·rw[decide_eq_true (show leapD y from⟨h4,.inr h400⟩),h400];rfl
   ·rw[decide_eq_false (show ¬leapD y from fun h=>by unfold leapD at h;omega)];exact beq_eq_false_iff_ne.2 h400
  ·rw[if_neg h100,decide_eq_true (show leapD y from⟨h4,.inl h100⟩)]
 ·rw[if_neg h4,decide_eq_false (show ¬leapD y from fun h=>h4 h.1)]
theorem specYear_is (y:Int) (h0:0≤y):spec_l2year.f y=some (yearD y):=by
 unfold spec_l2year.f yearD
 rw[specLeap_is y h0,Option.bind_some]
 by_cases h:leapD y<;>simp[h]
theorem specMon_is (y m:Int) (h0:0≤y):spec_l2days.f y m=some (monD y m):=by
 unfold spec_l2days.f monD
 by_cases h2:m=2
 ·rw[if_pos h2,if_pos h2,specLeap_is y h0,Option.bind_some]
  by_cases h:leapD y<;>simp[h]
 ·rw[if_neg h2,if_neg h2]
  by_cases h4:m=4<;>by_cases h6:m=6<;>by_cases h9:m=9<;>by_cases h11:m=11<;>simp[h4,h6,h9,h11]
theorem implMon_is (y m:Int) (h0:0≤y):Ev (fun k=>impl_daysOf.f k y m) (monD y m):=by
 have hj:Ev (fun k=>impl_daysOf.j0 k m false) (if m=2 then 28 else if m=4∨m=6∨m=9∨m=11 then 30 else 31):=by
  refine Ev.step (f:=fun _=>some (if m=2 then 28 else if m=4∨m=6∨m=9∨m=11 then 30 else 31)) (fun k=>?_) (Ev.now _)
  rw[impl_daysOf.j0,if_neg Bool.false_ne_true]
  by_cases h2:m=2
  ·rw[if_pos h2,if_pos h2]
  ·rw[if_neg h2,if_neg h2]
   by_cases h4:m=4<;>by_cases h6:m=6<;>by_cases h9:m=9<;>by_cases h11:m=11<;>simp[h4,h6,h9,h11]
 have ht:Ev (fun k=>impl_daysOf.j0 k m true) 29:=Ev.step (f:=fun _=>some 29) (fun k=>by rw[impl_daysOf.j0,if_pos rfl]) (Ev.now _)
 unfold impl_daysOf.f monD
 rw[tmd _ _ h0,tmd _ _ h0,tmd _ _ h0]
 by_cases h2:m=2
 ·rw[if_pos h2]at hj
  simp only[if_pos h2]
  have h400:Ev (fun k=>impl_daysOf.j0 k m (y%400==0)) (if y%400=0 then 29 else 28):=by
   by_cases h:y%400=0
   ·rw[if_pos h,h];exact ht
   ·rw[if_neg h,beq_eq_false_iff_ne.2 h];exact hj
  by_cases h4:y%4=0
  ·simp only[if_pos h4]
   by_cases h100:y%100=0
   ·simp only[if_pos h100]
    have e:(if leapD y then(29:Int)else 28)=if y%400=0 then 29 else 28:=by
     by_cases h:y%400=0
     ·rw[if_pos h,if_pos (show leapD y from⟨h4,.inr h⟩)]
     ·rw[if_neg h,if_neg (fun q=>by unfold leapD at q;omega)]
    rw[e];exact h400
   ·simp only[if_neg h100]
    rw[if_pos (show leapD y from⟨h4,.inl h100⟩)];exact ht
  ·simp only[if_neg h4]
   rw[if_neg (fun q=>h4 (show leapD y from q).1)]
   rw[if_neg (show ¬y%400=0 by omega)]at h400
   exact h400
 ·rw[if_neg h2]at hj
  simp only[if_neg h2];exact hj
abbrev Six:=Int×Int×Int×Int×Int×Int
theorem specMon_go (y h mi s:Int) (h0:0≤y): ∀(n:Nat) (d m:Int),0≤d→d<restD y n m→1≤m→m+n≤13→d≤400→
  Ev (fun k=>spec_CivilOf.l1 k d y m 0 h mi s) (y,(mgoD y n d m).2,(mgoD y n d m).1+1,h,mi,s,true)
 |0,d,m,h1,h2,_,_,_=>by simp[restD]at h2;omega
 |n+1,d,m,h1,h2,h3,h4,h5=>by
  have hm:=monD_pos y m
  unfold restD at h2
  by_cases c:d≥monD y m
  ·have ih:=specMon_go y h mi s h0 n (d-monD y m) (m+1) (by omega) (by omega) (by omega) (by omega) (by omega)
   have e:mgoD y (n+1) d m=mgoD y n (d-monD y m) (m+1):=by rw[mgoD,if_pos c]
   rw[e]
   exact Ev.step (fun k=>by rw[spec_CivilOf.l1,specMon_is y m h0,Option.bind_some,if_pos c,Option.bind_some,wid _ (by omega) (by omega),wid _ (by omega) (by omega)]) ih
  ·have e:mgoD y (n+1) d m=(d,m):=by rw[mgoD,if_neg c]
   rw[e]
   exact Ev.step (f:=fun _=>some (y,m,d+1,h,mi,s,true)) (fun k=>by rw[spec_CivilOf.l1,specMon_is y m h0,Option.bind_some,if_neg c,wid _ (by omega) (by omega)]) (Ev.now _)
theorem implMon_go (y x h mi s:Int) (h0:0≤y): ∀(n:Nat) (d m:Int),0≤d→d<restD y n m→1≤m→m+n≤13→d≤400→
  Ev (fun k=>impl_civilOf.l1 k d y m x h mi s) (y,(mgoD y n d m).2,(mgoD y n d m).1+1,h,mi,s)
 |0,d,m,h1,h2,_,_,_=>by simp[restD]at h2;omega
 |n+1,d,m,h1,h2,h3,h4,h5=>by
  have hm:=monD_pos y m
  unfold restD at h2
  by_cases c:d≥monD y m
  ·have ih:=implMon_go y x h mi s h0 n (d-monD y m) (m+1) (by omega) (by omega) (by omega) (by omega) (by omega)
   have e:mgoD y (n+1) d m=mgoD y n (d-monD y m) (m+1):=by rw[mgoD,if_pos c]
   rw[e]
   refine Ev.step (fun k=>by rw[impl_civilOf.l1]) ?_
   refine(implMon_is y m h0).bind ?_
   simp only[if_pos c]
   refine(implMon_is y m h0).bind ?_
   rw[wid _ (by omega) (by omega),wid _ (by omega) (by omega)];exact ih
  ·have e:mgoD y (n+1) d m=(d,m):=by rw[mgoD,if_neg c]
   rw[e]
   refine Ev.step (fun k=>by rw[impl_civilOf.l1]) ?_
   refine(implMon_is y m h0).bind ?_
   simp only[if_neg c]
   rw[wid _ (by omega) (by omega)];exact Ev.now _
theorem befD_le (y:Int) (n:Nat):befD y≤befD (y+n):=by have:=befD_mono y n;omega
theorem specYr_go (D h mi s:Int) {r:Int×Int×Int×Int×Int×Int×Bool}: ∀(n:Nat) (y:Int),1970≤y→y+n≤9999→befD (y+n)≤D→D<befD (y+n+1)→D≤2932896→0≤befD y→
  Ev (fun k=>spec_CivilOf.l1 k (D-befD (y+n)) (y+n) 1 0 h mi s) r→Ev (fun k=>spec_CivilOf.l0 k (D-befD y) y 1 0 h mi s) r
 |0,y,h0,h1,h2,h3,h4,h5,hr=>by
  have e:y+((0:Nat):Int)=y:=by simp
  rw[e]at h2 h3 hr
  have hu:=befD_up y
  exact Ev.step (fun k=>by rw[spec_CivilOf.l0,specYear_is y (by omega),Option.bind_some,if_neg (by omega)]) hr
 |n+1,y,h0,h1,h2,h3,h4,h5,hr=>by
  have e:y+((n+1:Nat):Int)=(y+1)+(n:Int):=by omega
  rw[e]at h1 h2 h3 hr
  have hu:=befD_up y
  have hp:=yearD_pos y
  have hm:=befD_le (y+1) n
  have ih:=specYr_go D h mi s n (y+1) (by omega) h1 h2 h3 h4 (by omega) hr
  refine Ev.step (fun k=>?_) ih
  rw[spec_CivilOf.l0,specYear_is y (by omega),Option.bind_some,if_pos (by omega),Option.bind_some,wid _ (by omega) (by omega),wid _ (by omega) (by omega),show D-befD y-yearD y=D-befD (y+1)by omega]
theorem implYr_go (D h mi s:Int) {r:Six}: ∀(n:Nat) (y:Int),1970≤y→y+n≤9999→befD (y+n)≤D→D<befD (y+n+1)→D≤2932896→0≤befD (y+n)→
  Ev (fun k=>impl_civilOf.l1 k (D-befD (y+n)) (y+n) 1 0 h mi s) r→Ev (fun k=>impl_civilOf.l0 k D y 1 0 h mi s) r
 |0,y,h0,h1,h2,h3,h4,h5,hr=>by
  have e:y+((0:Nat):Int)=y:=by simp
  rw[e]at h2 h3 hr h5
  refine Ev.step (fun k=>?_) hr
  rw[impl_civilOf.l0,wid (y+1) (by omega) (by omega),implBef_is (y+1) (by omega) (by omega),Option.bind_some,if_neg (by omega),implBef_is y h0 (by omega),Option.bind_some,wid _ (by omega) (by omega)]
 |n+1,y,h0,h1,h2,h3,h4,h5,hr=>by
  have e:y+((n+1:Nat):Int)=(y+1)+(n:Int):=by omega
  rw[e]at h1 h2 h3 hr h5
  have hm:=befD_le (y+1) n
  have ih:=implYr_go D h mi s n (y+1) (by omega) h1 h2 h3 h4 h5 hr
  refine Ev.step (fun k=>?_) ih
  rw[impl_civilOf.l0,wid (y+1) (by omega) (by omega),implBef_is (y+1) (by omega) (by omega),Option.bind_some,if_pos (by omega)]
theorem civil_at (t Y:Int) (h0:0≤t) (h1:t≤253402300799) (y0:1970≤Y) (y1:Y≤9999) (y2:befD Y≤t/86400) (y3:t/86400<befD (Y+1)):
  (1≤(mgoD Y 12 (t/86400-befD Y) 1).2∧(mgoD Y 12 (t/86400-befD Y) 1).2≤12)∧(1≤(mgoD Y 12 (t/86400-befD Y) 1).1+1∧(mgoD Y 12 (t/86400-befD Y) 1).1+1≤31)∧
  Ev (fun k=>spec_CivilOf.f k t) (Y,(mgoD Y 12 (t/86400-befD Y) 1).2,(mgoD Y 12 (t/86400-befD Y) 1).1+1,t/3600%24,t/60%60,t%60,true)∧
  Ev (fun k=>impl_civilOf.f k t) (Y,(mgoD Y 12 (t/86400-befD Y) 1).2,(mgoD Y 12 (t/86400-befD Y) 1).1+1,t/3600%24,t/60%60,t%60):=by
 have hD0:0≤t/86400:=by omega
 have hD1:t/86400≤2932896:=by omega
 have hup:=befD_up Y
 have hyp:=yearD_pos Y
 have hB0:0≤befD Y:=by
  have:=befD_le 1970 (Y-1970).toNat
  rw[show(1970:Int)+((Y-1970).toNat:Int)=Y by omega]at this
  have:=befD_0;omega
 have hr12:=restD_12 Y
 have hd0:0≤t/86400-befD Y:=by omega
 have hd1:t/86400-befD Y<restD Y 12 1:=by omega
 obtain⟨g0,g1,g2,g3⟩:=mgoD_is Y 12 _ 1 hd0 hd1
 have hmp:=monD_pos Y (mgoD Y 12 (t/86400-befD Y) 1).2
 refine⟨⟨g2,by omega⟩,⟨?_,?_⟩,?_,?_⟩
 ·omega
 ·omega
 ·have ht:spec_l2time.f t=some true:=by
   unfold spec_l2time.f
   rw[if_pos (show t≥0 from h0),decide_eq_true h1]
  unfold spec_CivilOf.f
  simp only[ht,Option.bind_some,if_true]
  rw[tdv _ _ h0,tdv _ _ h0,tdv _ _ h0,tmd t 60 h0,wid (t/86400) (by omega) (by omega),wid (t/3600) (by omega) (by omega),wid (t/60) (by omega) (by omega),tmd (t/3600) 24 (by omega),tmd (t/60) 60 (by omega)]
  have:=specYr_go (t/86400) (t/3600%24) (t/60%60) (t%60) (Y-1970).toNat 1970 (by omega) (by omega) (by rw[show(1970:Int)+((Y-1970).toNat:Int)=Y by omega];exact y2) (by rw[show(1970:Int)+((Y-1970).toNat:Int)=Y by omega];exact y3) hD1 (by rw[befD_0];omega)
   (by rw[show(1970:Int)+((Y-1970).toNat:Int)=Y by omega];exact specMon_go Y _ _ _ (by omega) 12 _ 1 hd0 hd1 (by omega) (by omega) (by omega))
  rw[befD_0,Int.sub_zero]at this
  exact this
 ·have hy0:=befD_low (t/86400/366).toNat
  have hn:((t/86400/366).toNat:Int)=t/86400/366:=by omega
  rw[hn]at hy0
  have hle:1970+t/86400/366≤Y:=by
   by_cases c:1970+t/86400/366≤Y
   ·exact c
   ·have:=befD_le (Y+1) (1970+t/86400/366-(Y+1)).toNat
    rw[show(Y+1)+((1970+t/86400/366-(Y+1)).toNat:Int)=1970+t/86400/366 by omega]at this
    omega
  unfold impl_civilOf.f
  rw[tdv t 86400 h0,tmd t 86400 h0,wid (t/86400) (by omega) (by omega),tdv _ 366 (by omega),wid (t/86400/366) (by omega) (by omega),wid (1970+_) (by omega) (by omega),tdv _ 3600 (by omega),tdv _ 60 (by omega),wid (t%86400/3600) (by omega) (by omega),wid (t%86400/60) (by omega) (by omega),tmd _ 60 (by omega),tmd _ 60 (by omega)]
  have e1:t%86400/3600=t/3600%24:=by omega
  have e2:t%86400/60%60=t/60%60:=by omega
  have e3:t%86400%60=t%60:=by omega
  rw[e1,e2]
  try rw[e3]
  refine implYr_go (t/86400) _ _ _ (Y-(1970+t/86400/366)).toNat (1970+t/86400/366) (by omega) (by omega) ?_ ?_ hD1 ?_ ?_
  all_goals rw[show(1970+t/86400/366)+((Y-(1970+t/86400/366)).toNat:Int)=Y by omega]
  ·exact y2
  ·exact y3
  ·exact hB0
  ·exact implMon_go Y _ _ _ _ (by omega) 12 _ 1 hd0 hd1 (by omega) (by omega) (by omega)
theorem Ev.ifp {α:Type} {c:Prop} [Decidable c] {f g:Nat→Option α} {r:α} (hc:c) (h:Ev f r):Ev (fun k=>if c then f k else g k) r:=by simp only[if_pos hc];exact h
theorem specPad_go (c:Nat): ∀(j:Nat) (l:List UInt8),l.length+j=c→c≤100→Ev (fun k=>spec_l2pad.l0 k (c:Int) (mkB l)) (mkB (List.replicate j 48++l))
 |0,l,h,hc=>Ev.step (f:=fun _=>some (mkB l)) (fun k=>by rw[spec_l2pad.l0,size_mk,if_neg (by omega)]) (Ev.now _)
 |j+1,l,h,hc=>by
  have ih:=specPad_go c j (48::l) (by simp;omega) hc
  have e:List.replicate j (48:UInt8)++48::l=List.replicate (j+1) 48++l:=by rw[List.replicate_succ',List.append_assoc];rfl
  rw[e]at ih
  refine Ev.step (fun k=>?_) ih
  rw[spec_l2pad.l0,size_mk,if_pos (by omega),if_pos (by omega),show(⟨#[48]⟩:ByteArray)=mkB [48]from rfl,mk_append]
  rfl
theorem specPad_is (n c:Nat) (hc:c+1≤10) (h:n<10^(c+1)):Ev (fun k=>spec_l2pad.f k (n:Int) ((c+1:Nat):Int)) (mkB (digsD (c+1) n)):=by
 have hp:=digsD_pad c n h
 have hl:=congrArg List.length hp
 rw[List.length_append,List.length_replicate,digsD_len]at hl
 have hb:(10:Nat)^(c+1)≤10^10:=Nat.pow_le_pow_right (by omega) hc
 have h10:(10:Nat)^10=10000000000:=by decide
 unfold spec_l2pad.f
 refine(specDec_is n (by omega)).bind ?_
 have:=specPad_go (c+1) (c+1-(Lib.decDigits n).length) (Lib.decDigits n) (by omega) (by omega)
 rw[hp]at this
 exact this
theorem implDig_go: ∀(c n:Nat) (out:List UInt8),n≤1000000→out.length+c≤100→Ev (fun k=>impl_digits.l0 k (n:Int) (c:Int) (mkB out)) (mkB (digsD c n++out))
 |0,n,out,_,_=>Ev.step (f:=fun _=>some (mkB out)) (fun k=>by rw[impl_digits.l0,if_neg (by omega)]) (Ev.now _)
 |c+1,n,out,hn,ho=>by
  have ih:=implDig_go c (n/10) (UInt8.ofNat (48+n%10)::out) (by omega) (by simp;omega)
  have e:digsD (c+1) n++out=digsD c (n/10)++UInt8.ofNat (48+n%10)::out:=by rw[digsD,List.append_assoc];rfl
  rw[e]
  refine Ev.step (fun k=>?_) ih
  have hi:=itoa_is (n%10) (by omega)
  rw[Lib.decDigits_one (show n%10<10 by omega)]at hi
  rw[impl_digits.l0,if_pos (by omega),tmd _ _ (by omega),tdv _ _ (by omega),show((n:Int)%10)=((n%10:Nat):Int)by omega,hi,Option.bind_some,size_mk,size_mk,if_pos (by simp;omega),mk_append,wid _ (by omega) (by omega),wid _ (by omega) (by omega),
   show((n:Int)/10)=((n/10:Nat):Int)by omega,show(((c+1:Nat):Int)-1)=(c:Int)by omega]
  rfl
theorem implDig_is (n c:Nat) (hn:n≤1000000) (hc:c≤100):Ev (fun k=>impl_digits.f k (n:Int) (c:Int)) (mkB (digsD c n)):=by
 have:=implDig_go c n [] hn (by simpa using hc)
 rw[List.append_nil]at this
 exact this
def stampL (Y M d h mi s:Nat):List UInt8:=digsD 4 Y++digsD 2 M++digsD 2 d++digsD 2 h++digsD 2 mi++digsD 2 s
theorem stampL_len (Y M d h mi s:Nat):(stampL Y M d h mi s).length=14:=by simp[stampL,digsD_len]
def preD (y:Int):Nat→Int
 |0=>0
 |n+1=>preD y n+monD y ((n:Int)+1)
theorem preD_pos (y:Int): ∀n:Nat,28*(n:Int)≤preD y n∧preD y n≤31*(n:Int)
 |0=>by simp[preD]
 |n+1=>by
  have h:=preD_pos y n
  have hm:=monD_pos y ((n:Int)+1)
  rw[preD];omega
theorem restD_split (y:Int): ∀(n j:Nat) (m:Int),restD y (n+j) m=restD y n m+restD y j (m+n)
 |0,j,m=>by simp[restD]
 |n+1,j,m=>by
  have h:=restD_split y n j (m+1)
  have e:n+1+j=(n+j)+1:=by omega
  rw[e,restD,restD,h,show m+1+(n:Int)=m+((n+1:Nat):Int)by omega];omega
theorem restD_pre (y:Int): ∀n:Nat,restD y n 1=preD y n
 |0=>rfl
 |n+1=>by
  have h:=restD_split y n 1 1
  rw[restD_pre y n]at h
  rw[h,preD]
  simp only[restD]
  rw[show(1:Int)+(n:Int)=(n:Int)+1 by omega];omega
theorem restD_nonneg (y:Int): ∀(n:Nat) (m:Int),0≤restD y n m
 |0,m=>by simp[restD]
 |n+1,m=>by
  have h:=restD_nonneg y n (m+1)
  have hm:=monD_pos y m
  rw[restD];omega
theorem mgoD_to (y r:Int): ∀(n j:Nat) (m:Int),0≤r→r<monD y (m+n)→mgoD y (n+(j+1)) (restD y n m+r) m=(r,m+n)
 |0,j,m,h0,h1=>by
  have e:restD y 0 m+r=r:=by simp[restD]
  have e2:m+((0:Nat):Int)=m:=by simp
  rw[e2]at h1
  rw[Nat.zero_add,e,mgoD,if_neg (by omega),e2]
 |n+1,j,m,h0,h1=>by
  have hn:=restD_nonneg y n (m+1)
  have e:n+1+(j+1)=(n+(j+1))+1:=by omega
  have e2:m+((n+1:Nat):Int)=m+1+(n:Int):=by omega
  rw[e2]at h1
  have ih:=mgoD_to y r n j (m+1) h0 h1
  rw[e,mgoD,restD,if_pos (by omega),show monD y m+restD y n (m+1)+r-monD y m=restD y n (m+1)+r by omega,ih,e2]
def secD (Y:Int) (n:Nat) (d h mi s:Int):Int:=(((befD Y+preD Y n+d-1)*24+h)*60+mi)*60+s
theorem specSecM_go (Y d h mi s x5:Int) (h0:0≤Y) (hh:0≤h∧h≤23) (hm:0≤mi∧mi≤59) (hs:0≤s∧s≤59) (hb:0≤befD Y∧befD Y≤3000000) (hd:1≤d∧d≤31) (n:Nat) (hn:n≤11): ∀(j i:Nat),i+j=n→
  Ev (fun k=>spec_SecondsOf.l1 k (befD Y+preD Y i+d-1) ((i:Int)+1) Y ((n:Int)+1) d h mi s) (secD Y n d h mi s,true)
 |0,i,e=>by
  have hp:=preD_pos Y n
  obtain rfl:i=n:=by omega
  refine Ev.step (f:=fun _=>some (secD Y i d h mi s,true)) (fun k=>?_) (Ev.now _)
  rw[spec_SecondsOf.l1,if_neg (by omega)]
  unfold secD
  obtain⟨X,hX⟩: ∃X,befD Y+preD Y i+d-1=X:=⟨_,rfl⟩
  have hX1:0≤X∧X≤3001000:=by omega
  rw[hX,wid (X*24) (by omega) (by omega),wid (X*24+h) (by omega) (by omega),wid ((X*24+h)*60) (by omega) (by omega),wid ((X*24+h)*60+mi) (by omega) (by omega),wid (((X*24+h)*60+mi)*60) (by omega) (by omega),wid (((X*24+h)*60+mi)*60+s) (by omega) (by omega)]
 |j+1,i,e=>by
  have hp:=preD_pos Y i
  have hmm:=monD_pos Y ((i:Int)+1)
  have ih:=specSecM_go Y d h mi s x5 h0 hh hm hs hb hd n hn j (i+1) (by omega)
  refine Ev.step (fun k=>?_) ih
  rw[spec_SecondsOf.l1,if_pos (by omega),specMon_is Y _ h0,Option.bind_some,wid _ (by omega) (by omega),wid _ (by omega) (by omega),preD]
  rw[show befD Y+preD Y i+d-1+monD Y ((i:Int)+1)=befD Y+(preD Y i+monD Y ((i:Int)+1))+d-1 by omega,show((i:Int)+1+1)=((i+1:Nat):Int)+1 by omega]
theorem specSecY_go (Y M d h mi s:Int) (hY:Y≤9999) (hd:1≤d∧d≤31) (hb:befD Y≤3000000) {r:Int×Bool} (hr:Ev (fun k=>spec_SecondsOf.l1 k (befD Y+d-1) 1 Y M d h mi s) r): ∀(j:Nat) (y:Int),y+j=Y→1970≤y→0≤befD y→
  Ev (fun k=>spec_SecondsOf.l0 k (befD y+d-1) y Y M d h mi s) r
 |0,y,e,h0,hp=>by
  have e2:y=Y:=by omega
  rw[e2]
  exact Ev.step (fun k=>by rw[spec_SecondsOf.l0,if_neg (by omega)]) hr
 |j+1,y,e,h0,hp=>by
  have hu:=befD_up y
  have hy:=yearD_pos y
  have hle:=befD_le (y+1) j
  rw[show y+1+(j:Int)=Y by omega]at hle
  have ih:=specSecY_go Y M d h mi s hY hd hb hr j (y+1) (by omega) (by omega) (by omega)
  refine Ev.step (fun k=>?_) ih
  rw[spec_SecondsOf.l0,if_pos (by omega),specYear_is y (by omega),Option.bind_some,wid _ (by omega) (by omega),wid _ (by omega) (by omega),show befD y+d-1+yearD y=befD (y+1)+d-1 by omega]
theorem implSecM_go (Y d h mi s:Int) (h0:0≤Y) (hh:0≤h∧h≤23) (hm:0≤mi∧mi≤59) (hs:0≤s∧s≤59) (hb:0≤befD Y∧befD Y≤3000000) (hd:1≤d∧d≤31) (n:Nat) (hn:n≤11): ∀(j i:Nat),i+j=n→
  Ev (fun k=>impl_SecondsOf.l0 k (befD Y+preD Y i+d-1) ((i:Int)+1) Y ((n:Int)+1) d h mi s) (secD Y n d h mi s,true)
 |0,i,e=>by
  have hp:=preD_pos Y n
  obtain rfl:i=n:=by omega
  refine Ev.step (f:=fun _=>some (secD Y i d h mi s,true)) (fun k=>?_) (Ev.now _)
  rw[impl_SecondsOf.l0,if_neg (by omega)]
  unfold secD
  obtain⟨X,hX⟩: ∃X,befD Y+preD Y i+d-1=X:=⟨_,rfl⟩
  have hX1:0≤X∧X≤3001000:=by omega
  rw[hX,wid (86400*X) (by omega) (by omega),wid (3600*h) (by omega) (by omega),wid (60*mi) (by omega) (by omega),wid (86400*X+3600*h) (by omega) (by omega),wid (86400*X+3600*h+60*mi) (by omega) (by omega),wid (86400*X+3600*h+60*mi+s) (by omega) (by omega),
   show 86400*X+3600*h+60*mi+s=((X*24+h)*60+mi)*60+s by omega]
 |j+1,i,e=>by
  have hp:=preD_pos Y i
  have hmm:=monD_pos Y ((i:Int)+1)
  have ih:=implSecM_go Y d h mi s h0 hh hm hs hb hd n hn j (i+1) (by omega)
  refine Ev.step (f:=fun k=>(impl_daysOf.f k Y ((i:Int)+1)).bind fun t=>impl_SecondsOf.l0 k (wrap64 (befD Y+preD Y i+d-1+t)) (wrap64 ((i:Int)+1+1)) Y ((n:Int)+1) d h mi s) (fun k=>?_) ?_
  ·rw[impl_SecondsOf.l0,if_pos (by omega)]
  ·refine(implMon_is Y _ h0).bind ?_
   rw[wid _ (by omega) (by omega),wid _ (by omega) (by omega),show befD Y+preD Y i+d-1+monD Y ((i:Int)+1)=befD Y+preD Y (i+1)+d-1 by rw[preD];omega,show((i:Int)+1+1)=((i+1:Nat):Int)+1 by omega]
   exact ih
theorem secD_day (Y:Int) (n:Nat) (d h mi s:Int) (hh:0≤h∧h≤23) (hm:0≤mi∧mi≤59) (hs:0≤s∧s≤59):
  secD Y n d h mi s/86400=befD Y+preD Y n+d-1∧secD Y n d h mi s/3600%24=h∧secD Y n d h mi s/60%60=mi∧secD Y n d h mi s%60=s:=by
 unfold secD
 obtain⟨X,hX⟩: ∃X,befD Y+preD Y n+d-1=X:=⟨_,rfl⟩
 rw[hX]
 omega
theorem civil_back (Y:Int) (n:Nat) (d h mi s:Int) (hY:1970≤Y∧Y≤9999) (hn:n≤11) (hd:1≤d∧d≤monD Y ((n:Int)+1)) (hh:0≤h∧h≤23) (hm:0≤mi∧mi≤59) (hs:0≤s∧s≤59):
  (0≤secD Y n d h mi s∧secD Y n d h mi s≤253402300799)∧Ev (fun k=>spec_CivilOf.f k (secD Y n d h mi s)) (Y,(n:Int)+1,d,h,mi,s,true)∧Ev (fun k=>impl_civilOf.f k (secD Y n d h mi s)) (Y,(n:Int)+1,d,h,mi,s):=by
 obtain⟨e1,e2,e3,e4⟩:=secD_day Y n d h mi s hh hm hs
 have hp:=preD_pos Y n
 have hmm:=monD_pos Y ((n:Int)+1)
 have h12:=restD_12 Y
 have hsp:=restD_split Y n (11-n) 1
 have hsp2:=restD_split Y (n+1) (11-n) 1
 rw[show n+1+(11-n)=12 by omega,restD_pre Y (n+1),preD]at hsp2
 have hnn:=restD_nonneg Y (11-n) (1+((n+1:Nat):Int))
 have hup:=befD_up Y
 have hB0:0≤befD Y:=by
  have:=befD_le 1970 (Y-1970).toNat
  rw[show(1970:Int)+((Y-1970).toNat:Int)=Y by omega]at this
  have:=befD_0;omega
 have hB1:befD (Y+1)≤2932897:=by
  have:=befD_le (Y+1) (10000-(Y+1)).toNat
  rw[show Y+1+((10000-(Y+1)).toNat:Int)=10000 by omega]at this
  have e:befD 10000=2932897:=by decide
  omega
 have y2:befD Y≤secD Y n d h mi s/86400:=by omega
 have y3:secD Y n d h mi s/86400<befD (Y+1):=by omega
 have t0:0≤secD Y n d h mi s:=by omega
 have t1:secD Y n d h mi s≤253402300799:=by omega
 obtain⟨_,_,c1,c2⟩:=civil_at _ Y t0 t1 hY.1 hY.2 y2 y3
 have hg:mgoD Y 12 (secD Y n d h mi s/86400-befD Y) 1=(d-1,1+(n:Int)):=by
  have:=mgoD_to Y (d-1) n (11-n) 1 (by omega) (by rw[show(1:Int)+(n:Int)=(n:Int)+1 by omega];omega)
  rw[show n+(11-n+1)=12 by omega,restD_pre]at this
  rw[←this,e1];congr 1;omega
 rw[hg,e2,e3,e4]at c1 c2
 have ed:d-1+1=d:=by omega
 have en:(1:Int)+(n:Int)=(n:Int)+1:=by omega
 simp only[ed,en]at c1 c2
 exact⟨⟨t0,t1⟩,c1,c2⟩
theorem civil_sec (t:Int) (h0:0≤t) (h1:t≤253402300799): ∃(Y:Int) (n:Nat) (d h mi s:Int),t=secD Y n d h mi s∧(1970≤Y∧Y≤9999)∧n≤11∧(1≤d∧d≤monD Y ((n:Int)+1))∧(0≤h∧h≤23)∧(0≤mi∧mi≤59)∧(0≤s∧s≤59):=by
 obtain⟨Y,y0,y1,y2,y3⟩:=yr_ex (t/86400) (by omega) (by omega)
 have hup:=befD_up Y
 have h12:=restD_12 Y
 have key: ∀(k:Nat) (x:Int),k≤12→0≤x→x<restD Y k (((12-k:Nat):Int)+1)→ ∃n:Nat,12-k≤n∧n≤11∧preD Y n≤x+preD Y (12-k)∧x+preD Y (12-k)<preD Y n+monD Y ((n:Int)+1):=by
  intro k
  induction k with
  |zero=>intro x _ hx0 hx;simp[restD]at hx;omega
  |succ k ih=>
   intro x hk hx0 hx
   rw[restD]at hx
   by_cases c:x<monD Y (((12-(k+1):Nat):Int)+1)
   ·exact⟨12-(k+1),by omega,by omega,by omega,by omega⟩
   ·have e:12-k=(12-(k+1))+1:=by omega
    have ep:preD Y (12-k)=preD Y (12-(k+1))+monD Y (((12-(k+1):Nat):Int)+1):=by rw[e,preD]
    have ei:(((12-k:Nat)):Int)+1=((12-(k+1):Nat):Int)+1+1:=by omega
    obtain⟨n,a,b,c1,c2⟩:=ih (x-monD Y (((12-(k+1):Nat):Int)+1)) (by omega) (by omega) (by rw[ei];omega)
    exact⟨n,by omega,b,by omega,by omega⟩
 obtain⟨n,_,hn,c1,c2⟩:=key 12 (t/86400-befD Y) (by omega) (by omega) (by
  show _<restD Y 12 (((0:Nat):Int)+1)
  rw[show((0:Nat):Int)+1=1 by rfl,h12];omega)
 have e0:preD Y (12-12)=0:=rfl
 rw[e0]at c1 c2
 refine⟨Y,n,t/86400-befD Y-preD Y n+1,t/3600%24,t/60%60,t%60,?_,⟨y0,y1⟩,hn,⟨by omega,by omega⟩,⟨by omega,by omega⟩,⟨by omega,by omega⟩,⟨by omega,by omega⟩⟩
 unfold secD
 rw[show befD Y+preD Y n+(t/86400-befD Y-preD Y n+1)-1=t/86400 by omega]
 omega
def validD (Y M d h mi s:Int):Prop:=1970≤Y∧Y≤9999∧1≤M∧M≤12∧1≤d∧d≤monD Y M∧0≤h∧h≤23∧0≤mi∧mi≤59∧0≤s∧s≤59
instance (Y M d h mi s:Int):Decidable (validD Y M d h mi s):=by unfold validD;infer_instance
theorem specCivOk_is (Y M d h mi s:Int):spec_CivilOk.f Y M d h mi s=some (decide (validD Y M d h mi s)):=by
 have no: ¬validD Y M d h mi s→some false=some (decide (validD Y M d h mi s)):=fun q=>by rw[decide_eq_false q]
 unfold spec_CivilOk.f
 by_cases c1:Y≥1970
 ·rw[if_pos c1]
  by_cases c2:Y≤9999
  ·rw[if_pos c2]
   by_cases c3:M≥1
   ·rw[if_pos c3]
    by_cases c4:M≤12
    ·rw[if_pos c4]
     by_cases c5:d≥1
     ·rw[if_pos c5,specMon_is Y M (by omega),Option.bind_some]
      by_cases c6:d≤monD Y M
      ·rw[if_pos c6]
       by_cases c7:h≥0
       ·rw[if_pos c7]
        by_cases c8:h≤23
        ·rw[if_pos c8]
         by_cases c9:mi≥0
         ·rw[if_pos c9]
          by_cases c10:mi≤59
          ·rw[if_pos c10]
           by_cases c11:s≥0
           ·rw[if_pos c11];congr 1
            exact decide_eq_decide.2 ⟨fun q=>⟨c1,c2,c3,c4,c5,c6,c7,c8,c9,c10,c11,q⟩,fun v=>v.2.2.2.2.2.2.2.2.2.2.2⟩
           ·rw[if_neg c11];exact no fun v=>c11 v.2.2.2.2.2.2.2.2.2.2.1
          ·rw[if_neg c10];exact no fun v=>c10 v.2.2.2.2.2.2.2.2.2.1
         ·rw[if_neg c9];exact no fun v=>c9 v.2.2.2.2.2.2.2.2.1
        ·rw[if_neg c8];exact no fun v=>c8 v.2.2.2.2.2.2.2.1
       ·rw[if_neg c7];exact no fun v=>c7 v.2.2.2.2.2.2.1
      ·rw[if_neg c6];exact no fun v=>c6 v.2.2.2.2.2.1
     ·rw[if_neg c5];exact no fun v=>c5 v.2.2.2.2.1
    ·rw[if_neg c4];exact no fun v=>c4 v.2.2.2.1
   ·rw[if_neg c3];exact no fun v=>c3 v.2.2.1
  ·rw[if_neg c2];exact no fun v=>c2 v.2.1
 ·rw[if_neg c1];exact no fun v=>c1 v.1
theorem implCivOk_is (Y M d h mi s:Int):Ev (fun k=>impl_CivilOk.f k Y M d h mi s) (decide (validD Y M d h mi s)):=by
 have no: ¬validD Y M d h mi s→Ev (fun _:Nat=>some false) (decide (validD Y M d h mi s)):=fun q=>by rw[decide_eq_false q];exact Ev.now _
 have bd: ∀a b x:Int,(decide (a≤x)&&decide (x≤b))=true↔a≤x∧x≤b:=fun a b x=>by simp
 unfold impl_CivilOk.f
 simp only[within_is,Option.bind_some]
 by_cases c1:1970≤Y∧Y≤9999
 ·simp only[(bd 1970 9999 Y).2 c1,if_true]
  by_cases c2:1≤M∧M≤12
  ·simp only[(bd 1 12 M).2 c2,if_true]
   refine(implMon_is Y M (by omega)).bind ?_
   by_cases c3:1≤d∧d≤monD Y M
   ·simp only[(bd 1 (monD Y M) d).2 c3,if_true]
    by_cases c4:0≤h∧h≤23
    ·simp only[(bd 0 23 h).2 c4,if_true]
     by_cases c5:0≤mi∧mi≤59
     ·simp only[(bd 0 59 mi).2 c5,if_true]
      have e:(decide (0≤s)&&decide (s≤59))=decide (validD Y M d h mi s):=by
       rw[←Bool.decide_and]
       exact decide_eq_decide.2 ⟨fun q=>⟨c1.1,c1.2,c2.1,c2.2,c3.1,c3.2,c4.1,c4.2,c5.1,c5.2,q.1,q.2⟩,fun v=>v.2.2.2.2.2.2.2.2.2.2⟩
      rw[e];exact Ev.now _
     ·simp only[Bool.eq_false_iff.2 (fun q=>c5 ((bd 0 59 mi).1 q)),Bool.false_eq_true,if_false];exact no fun v=>c5 ⟨v.2.2.2.2.2.2.2.2.1,v.2.2.2.2.2.2.2.2.2.1⟩
    ·simp only[Bool.eq_false_iff.2 (fun q=>c4 ((bd 0 23 h).1 q)),Bool.false_eq_true,if_false];exact no fun v=>c4 ⟨v.2.2.2.2.2.2.1,v.2.2.2.2.2.2.2.1⟩
   ·simp only[Bool.eq_false_iff.2 (fun q=>c3 ((bd 1 (monD Y M) d).1 q)),Bool.false_eq_true,if_false];exact no fun v=>c3 ⟨v.2.2.2.2.1,v.2.2.2.2.2.1⟩
  ·simp only[Bool.eq_false_iff.2 (fun q=>c2 ((bd 1 12 M).1 q)),Bool.false_eq_true,if_false];exact no fun v=>c2 ⟨v.2.2.1,v.2.2.2.1⟩
 ·simp only[Bool.eq_false_iff.2 (fun q=>c1 ((bd 1970 9999 Y).1 q)),Bool.false_eq_true,if_false];exact no fun v=>c1 ⟨v.1,v.2.1⟩
def secR (Y M d h mi s:Int):Int×Bool:=if validD Y M d h mi s then(secD Y (M-1).toNat d h mi s,true)else(0,false)
theorem bef_bounds (Y:Int) (h0:1970≤Y) (h1:Y≤9999):0≤befD Y∧befD Y≤3000000:=by
 have a:=befD_le 1970 (Y-1970).toNat
 rw[show(1970:Int)+((Y-1970).toNat:Int)=Y by omega,befD_0]at a
 have b:=befD_le Y (10000-Y).toNat
 rw[show Y+((10000-Y).toNat:Int)=10000 by omega]at b
 have e:befD 10000=2932897:=by decide
 omega
theorem specSec_is (Y M d h mi s:Int):Ev (fun k=>spec_SecondsOf.f k Y M d h mi s) (secR Y M d h mi s):=by
 unfold spec_SecondsOf.f secR
 rw[specCivOk_is]
 simp only[Option.bind_some]
 by_cases v:validD Y M d h mi s
 ·simp only[decide_eq_true v,if_pos v,if_true]
  obtain⟨c1,c2,c3,c4,c5,c6,c7,c8,c9,c10,c11,c12⟩:=v
  have hm:=monD_pos Y M
  have hb:=bef_bounds Y c1 c2
  obtain⟨n,hn⟩: ∃n:Nat,M=(n:Int)+1:=⟨(M-1).toNat,by omega⟩
  have hm1:=specSecM_go Y d h mi s 0 (by omega) ⟨c7,c8⟩ ⟨c9,c10⟩ ⟨c11,c12⟩ hb ⟨c5,by omega⟩ n (by omega) n 0 (by omega)
  rw[show befD Y+preD Y 0+d-1=befD Y+d-1 by simp[preD],show(((0:Nat):Int)+1)=1 by rfl]at hm1
  have hy:=specSecY_go Y ((n:Int)+1) d h mi s c2 ⟨c5,by omega⟩ hb.2 hm1 (Y-1970).toNat 1970 (by omega) (by omega) (by rw[befD_0];omega)
  rw[befD_0]at hy
  rw[hn,wid (d-1) (by omega) (by omega),show((n:Int)+1-1).toNat=n by omega]
  rw[show(0:Int)+d-1=d-1 by omega]at hy
  exact hy
 ·simp only[decide_eq_false v,if_neg v,Bool.false_eq_true,if_false];exact Ev.now _
theorem implSec_is (Y M d h mi s:Int):Ev (fun k=>impl_SecondsOf.f k Y M d h mi s) (secR Y M d h mi s):=by
 unfold impl_SecondsOf.f secR
 refine(implCivOk_is Y M d h mi s).bind ?_
 by_cases v:validD Y M d h mi s
 ·simp only[decide_eq_true v,if_pos v,if_true]
  obtain⟨c1,c2,c3,c4,c5,c6,c7,c8,c9,c10,c11,c12⟩:=v
  have hm:=monD_pos Y M
  have hb:=bef_bounds Y c1 c2
  obtain⟨n,hn⟩: ∃n:Nat,M=(n:Int)+1:=⟨(M-1).toNat,by omega⟩
  have hm1:=implSecM_go Y d h mi s (by omega) ⟨c7,c8⟩ ⟨c9,c10⟩ ⟨c11,c12⟩ hb ⟨c5,by omega⟩ n (by omega) n 0 (by omega)
  rw[show befD Y+preD Y 0+d-1=befD Y+d-1 by simp[preD],show(((0:Nat):Int)+1)=1 by rfl]at hm1
  rw[implBef_is Y c1 (by omega)]
  simp only[Option.bind_some]
  rw[hn,wid (befD Y+d) (by omega) (by omega),wid (befD Y+d-1) (by omega) (by omega),show((n:Int)+1-1).toNat=n by omega]
  exact hm1
 ·simp only[decide_eq_false v,if_neg v,Bool.false_eq_true,if_false];exact Ev.now _
theorem implDigit_is (b:UInt8):impl_isDigit.f (b.toNat:Int)=some (isDig b):=by
 unfold impl_isDigit.f isDig
 by_cases h1:48≤b.toNat
 ·rw[if_pos (by omega),decide_eq_true h1,Bool.true_and];congr 1;exact decide_eq_decide.2 (by omega)
 ·rw[if_neg (by omega),decide_eq_false h1,Bool.false_and]
theorem implAllDig_is (l:List UInt8) (hl:l.length≤1099511627776):Ev (fun k=>impl_all__impl_isDigit.f k (mkB l)) (l.all isDig):=by
 unfold impl_all__impl_isDigit.f
 have:=all_ev impl_all__impl_isDigit.l0 (fun _=>impl_isDigit.f) isDig (fun b=>Ev.const (implDigit_is b)) (fun k s i=>by rw[impl_all__impl_isDigit.l0]) (mkB l) (by rw[size_mk];omega)
 rwa [bl_mk]at this
theorem atoi_digs (l:List UInt8) (hne:l≠ []) (hall:l.all isDig=true) (h2:l.length≤15):Lib.atoiAll l= .ok (dval l:Int):=by
 have hlt:=dval_lt15 l hall h2
 have hp:Lib.parseMag l= .ok (dval l):=by
  unfold Lib.parseMag
  rw[if_neg hne,parse_digits l 0 0 hall (by decide) (by omega)];rfl
 cases l with
 |nil=>exact absurd rfl hne
 |cons c r=>
  have hc:48≤c.toNat∧c.toNat≤57:=by
   simp only[List.all_cons,Bool.and_eq_true]at hall
   have:=hall.1;simpa [isDig]using this
  unfold Lib.atoiAll
  simp only[if_neg (show ¬(c.toNat=43∨c.toNat=45)by omega),hp]
  rw[if_neg (by omega),if_neg (by omega),if_neg (by omega)]
theorem implNum_is (l:List UInt8) (i j:Nat) (hij:i<j) (hj:j≤l.length) (hj2:j≤15) (hall:l.all isDig=true):impl_ReadStamp_num (mkB l) (i:Int) (j:Int)=some ((dval ((l.drop i).take (j-i)):Nat):Int):=by
 unfold impl_ReadStamp_num
 rw[Int.toNat_natCast,Int.toNat_natCast,extract_mk,show(mkB ((l.drop i).take (j-i))).data.toList=(l.drop i).take (j-i)from bl_mk _,
  atoi_digs _ (fun e=>by have:=congrArg List.length e;rw[List.length_take,List.length_drop]at this;simp at this;omega)
   (by rw[List.all_eq_true]at hall ⊢;exact fun x hx=>hall x (List.mem_of_mem_drop (List.mem_of_mem_take hx))) (by rw[List.length_take];omega)]
theorem specNum_go: ∀(r pre:List UInt8) (acc:Nat),acc<10^pre.length→(pre++r).length≤14→
  ∃v:Int,Ev (fun k=>spec_l2num.l0 k (mkB (pre++r)) (acc:Int) pre.length) v∧(r.all isDig=true→v=(dvalF acc r:Int))
 | [],pre,acc,ha,hl=>⟨(acc:Int),Ev.step (f:=fun _=>some (acc:Int)) (fun k=>by rw[spec_l2num.l0,if_neg (by rw[size_mk];simp)]) (Ev.now _),fun _=>rfl⟩
 |c::r,pre,acc,ha,hl=>by
  have hl':pre.length<14:=by simp at hl;omega
  have h15:(10:Nat)^pre.length≤10^14:=Nat.pow_le_pow_right (by decide) (by omega)
  have h3:(10:Nat)^14=100000000000000:=by decide
  have hcell: ∀k,spec_l2num.l0 (k+1) (mkB (pre++c::r)) (acc:Int) (pre.length:Int)=if(c.toNat:Int)=32 then spec_l2num.l0 k (mkB (pre++c::r)) ((acc:Int)*10) ((pre.length:Int)+1)else if isDig c=true then spec_l2num.l0 k (mkB (pre++c::r)) (wrap64 ((acc:Int)*10+(((c.toNat:Int))-48)%256)) ((pre.length:Int)+1)else some (-1):=by
   intro k
   rw[spec_l2num.l0,if_pos (size_lt_mid ..),if_pos (by omega),bt_mid,l1digit_dig,Option.bind_some,wrap_id (a:=(acc:Int)*10) (by omega) (by omega),wrap_id (a:=(pre.length:Int)+1) (by omega) (by omega)]
  by_cases h32:(c.toNat:Int)=32
  ·obtain⟨v,hv,_⟩:=specNum_go r (pre++ [c]) (acc*10) (by rw[List.length_append,List.length_singleton,Nat.pow_succ];omega) (by rw[←app_mid];exact hl)
   rw[←app_mid,len_snoc]at hv
   refine⟨v,Ev.step (fun k=>by rw[hcell,if_pos h32]) (by rw[show((acc*10:Nat):Int)=(acc:Int)*10 by omega]at hv;exact hv),fun hd=>?_⟩
   simp only[List.all_cons,Bool.and_eq_true]at hd
   have:48≤c.toNat∧c.toNat≤57:=by have:=hd.1;simpa [isDig]using this
   omega
  ·cases hd:isDig c
   ·refine⟨-1,Ev.step (f:=fun _=>some (-1)) (fun k=>by rw[hcell,if_neg h32,hd,if_neg Bool.false_ne_true]) (Ev.now _),fun q=>?_⟩
    simp[hd]at q
   ·have hc:48≤c.toNat∧c.toNat≤57:=by simpa [isDig]using hd
    obtain⟨v,hv,hq⟩:=specNum_go r (pre++ [c]) (acc*10+(c.toNat-48)) (by rw[List.length_append,List.length_singleton,Nat.pow_succ];omega) (by rw[←app_mid];exact hl)
    rw[←app_mid,len_snoc]at hv
    refine⟨v,Ev.step (fun k=>?_) hv,fun q=>?_⟩
    ·rw[hcell,if_neg h32,hd,if_pos rfl,wrap_id (by omega) (by omega)]
     congr 1<;>omega
    ·simp only[List.all_cons,Bool.and_eq_true]at q
     exact hq q.2
theorem specNum_ex (l:List UInt8) (hl:l.length≤14): ∃v:Int,Ev (fun k=>spec_l2num.f k (mkB l)) v∧(l.all isDig=true→v=(dval l:Int)):=by
 have:=specNum_go l [] 0 (by decide) (by simpa using hl)
 simpa [spec_l2num.f,dval]using this
theorem digsD_dig: ∀c n,(digsD c n).all isDig=true
 |0,_=>rfl
 |c+1,n=>by
  rw[digsD,List.all_append,digsD_dig c,Bool.true_and,List.all_cons,List.all_nil,Bool.and_true]
  have:=digit_toNat (n%10) (by omega)
  unfold isDig;rw[this];simp;omega
def rsR (l:List UInt8):Int×Bool:=if l.length=14∧l.all isDig=true then secR (dval (l.take 4)) (dval ((l.drop 4).take 2)) (dval ((l.drop 6).take 2)) (dval ((l.drop 8).take 2)) (dval ((l.drop 10).take 2)) (dval ((l.drop 12).take 2))else(0,false)
theorem implRS_is (l:List UInt8) (hl:l.length≤1099511627776):Ev (fun k=>impl_ReadStamp.f k (mkB l)) (rsR l):=by
 unfold impl_ReadStamp.f rsR
 rw[size_mk]
 by_cases hz:l.length=14
 ·simp only[if_pos (show(l.length:Int)=14 by omega)]
  refine(implAllDig_is l hl).bind ?_
  cases hd:l.all isDig
  ·simp only[Bool.false_eq_true,and_false,if_false];exact Ev.now _
  ·have e0:=implNum_is l 0 4 (by omega) (by omega) (by omega) hd
   have e1:=implNum_is l 4 6 (by omega) (by omega) (by omega) hd
   have e2:=implNum_is l 6 8 (by omega) (by omega) (by omega) hd
   have e3:=implNum_is l 8 10 (by omega) (by omega) (by omega) hd
   have e4:=implNum_is l 10 12 (by omega) (by omega) (by omega) hd
   have e5:=implNum_is l 12 14 (by omega) (by omega) (by omega) hd
   simp only[if_true,and_true,if_pos hz]
   rw[show impl_ReadStamp_num (mkB l) 0 4=_ from e0,show impl_ReadStamp_num (mkB l) 4 6=_ from e1,show impl_ReadStamp_num (mkB l) 6 8=_ from e2,show impl_ReadStamp_num (mkB l) 8 10=_ from e3,show impl_ReadStamp_num (mkB l) 10 12=_ from e4,show impl_ReadStamp_num (mkB l) 12 14=_ from e5]
   simp only[Option.bind_some,List.drop_zero]
   exact implSec_is _ _ _ _ _ _
 ·simp only[if_neg (show ¬(l.length:Int)=14 by omega),hz,false_and,if_false];exact Ev.now _
theorem dval_digs: ∀(c n:Nat),n<10^c→dval (digsD c n)=n
 |0,n,h=>by simp at h;subst h;rfl
 |c+1,n,h=>by
  have ih:=dval_digs c (n/10) (by rw[Nat.pow_succ]at h;omega)
  rw[digsD]
  unfold dval at ih ⊢
  rw[dvalF_append,ih]
  show n/10*10+((UInt8.ofNat (48+n%10)).toNat-48)=n
  rw[digit_toNat _ (by omega)];omega
theorem rsR_stamp (Y M d h mi s:Nat) (hv:validD Y M d h mi s):rsR (stampL Y M d h mi s)=(secD Y ((M:Int)-1).toNat d h mi s,true):=by
 have hv':=hv
 obtain⟨c1,c2,c3,c4,c5,c6,c7,c8,c9,c10,c11,c12⟩:=hv'
 have hm:=monD_pos Y M
 have hall:(stampL Y M d h mi s).all isDig=true:=by unfold stampL;simp only[List.all_append,digsD_dig,Bool.and_self]
 unfold rsR
 rw[if_pos ⟨stampL_len ..,hall⟩]
 have z:=digsD_len
 have e:stampL Y M d h mi s=digsD 4 Y++(digsD 2 M++(digsD 2 d++(digsD 2 h++(digsD 2 mi++digsD 2 s)))):=by unfold stampL;simp only[List.append_assoc]
 have f0:(stampL Y M d h mi s).take 4=digsD 4 Y:=by rw[e];exact List.take_left' (z 4 Y)
 have g1:(stampL Y M d h mi s).drop 4=digsD 2 M++(digsD 2 d++(digsD 2 h++(digsD 2 mi++digsD 2 s))):=by rw[e];exact List.drop_left' (z 4 Y)
 have g2:(stampL Y M d h mi s).drop 6=digsD 2 d++(digsD 2 h++(digsD 2 mi++digsD 2 s)):=by rw[show 6=4+2 from rfl,←List.drop_drop,g1];exact List.drop_left' (z 2 M)
 have g3:(stampL Y M d h mi s).drop 8=digsD 2 h++(digsD 2 mi++digsD 2 s):=by rw[show 8=6+2 from rfl,←List.drop_drop,g2];exact List.drop_left' (z 2 d)
 have g4:(stampL Y M d h mi s).drop 10=digsD 2 mi++digsD 2 s:=by rw[show 10=8+2 from rfl,←List.drop_drop,g3];exact List.drop_left' (z 2 h)
 have g5:(stampL Y M d h mi s).drop 12=digsD 2 s:=by rw[show 12=10+2 from rfl,←List.drop_drop,g4];exact List.drop_left' (z 2 mi)
 rw[f0,g1,g2,g3,g4,g5,List.take_left' (z 2 M),List.take_left' (z 2 d),List.take_left' (z 2 h),List.take_left' (z 2 mi),List.take_of_length_le (by rw[z];omega),
  dval_digs 4 Y (by omega),dval_digs 2 M (by omega),dval_digs 2 d (by omega),dval_digs 2 h (by omega),dval_digs 2 mi (by omega),dval_digs 2 s (by omega)]
 exact if_pos hv
def warcL (Y M d h mi s:Nat):List UInt8:=digsD 4 Y++ [45]++digsD 2 M++ [45]++digsD 2 d++ [84]++(digsD 2 h++ [58]++digsD 2 mi++ [58]++digsD 2 s)++ [90]
theorem warcL_len (Y M d h mi s:Nat):(warcL Y M d h mi s).length=20:=by simp[warcL,digsD_len]
theorem specClock_is (Y M d:Int) (h mi s:Nat) (hh:h≤23) (hmi:mi≤59) (hse:s≤59):Ev (fun k=>spec_l2clock.f k Y M d (h:Int) (mi:Int) (s:Int)) (mkB (digsD 2 h++ [58]++digsD 2 mi++ [58]++digsD 2 s)):=by
 have z:=digsD_len
 have a4:=specPad_is h 1 (by decide) (show h<100 by omega)
 have a5:=specPad_is mi 1 (by decide) (show mi<100 by omega)
 have a6:=specPad_is s 1 (by decide) (show s<100 by omega)
 have ec:(⟨#[58]⟩:ByteArray)=mkB [58]:=rfl
 unfold spec_l2clock.f
 simp only[ec]
 refine a4.bind (Ev.ifp (by simp only[mk_append,size_mk,List.length_append,List.length_cons,List.length_nil,z];omega) (a5.bind (Ev.ifp (by simp only[mk_append,size_mk,List.length_append,List.length_cons,List.length_nil,z];omega) (Ev.ifp (by simp only[mk_append,size_mk,List.length_append,List.length_cons,List.length_nil,z];omega) (a6.bind (Ev.ifp (by simp only[mk_append,size_mk,List.length_append,List.length_cons,List.length_nil,z];omega) ?_))))))
 simp only[mk_append]
 exact Ev.now _
theorem warc_of (t:Int) (h0:0≤t) (h1:t≤253402300799) (Y M d h mi s:Nat) (hY:Y≤9999) (hM:M≤12) (hd:d≤31) (hh:h≤23) (hmi:mi≤59) (hse:s≤59)
  (hs:Ev (fun k=>spec_CivilOf.f k t) ((Y:Int),(M:Int),(d:Int),(h:Int),(mi:Int),(s:Int),true)) (hi:Ev (fun k=>impl_civilOf.f k t) ((Y:Int),(M:Int),(d:Int),(h:Int),(mi:Int),(s:Int))):
  Ev (fun k=>spec_WarcDate.f k t) (mkB (warcL Y M d h mi s))∧Ev (fun k=>impl_WarcDate.f k t) (mkB (warcL Y M d h mi s)):=by
 unfold warcL
 have z:=digsD_len
 have a1:=specPad_is Y 3 (by decide) (show Y<10000 by omega)
 have a2:=specPad_is M 1 (by decide) (show M<100 by omega)
 have a3:=specPad_is d 1 (by decide) (show d<100 by omega)
 have ac:=specClock_is (Y:Int) (M:Int) (d:Int) h mi s hh hmi hse
 have b1:=implDig_is Y 4 (by omega) (by decide)
 have b2:=implDig_is M 2 (by omega) (by decide)
 have b3:=implDig_is d 2 (by omega) (by decide)
 have b4:=implDig_is h 2 (by omega) (by decide)
 have b5:=implDig_is mi 2 (by omega) (by decide)
 have b6:=implDig_is s 2 (by omega) (by decide)
 have e45:(⟨#[45]⟩:ByteArray)=mkB [45]:=rfl
 have e84:(⟨#[84]⟩:ByteArray)=mkB [84]:=rfl
 have e58:(⟨#[58]⟩:ByteArray)=mkB [58]:=rfl
 have e90:(⟨#[90]⟩:ByteArray)=mkB [90]:=rfl
 refine⟨?_,?_⟩
 ·unfold spec_WarcDate.f
  refine hs.bind ?_
  simp only[if_true,e45,e84,e90]
  refine a1.bind (Ev.ifp (by simp only[mk_append,size_mk,List.length_append,List.length_cons,List.length_nil,z];omega) (a2.bind (Ev.ifp (by simp only[mk_append,size_mk,List.length_append,List.length_cons,List.length_nil,z];omega) (Ev.ifp (by simp only[mk_append,size_mk,List.length_append,List.length_cons,List.length_nil,z];omega) (a3.bind (Ev.ifp (by simp only[mk_append,size_mk,List.length_append,List.length_cons,List.length_nil,z];omega) (Ev.ifp (by simp only[mk_append,size_mk,List.length_append,List.length_cons,List.length_nil,z];omega)
   (ac.bind (Ev.ifp (by simp only[mk_append,size_mk,List.length_append,List.length_cons,List.length_nil,z];omega) (Ev.ifp (by simp only[mk_append,size_mk,List.length_append,List.length_cons,List.length_nil,z];omega) ?_))))))))))
  simp only[mk_append]
  exact Ev.now _
 ·have ht:impl_isTime.f t=some true:=by
   unfold impl_isTime.f;rw[within_is]
   rw[decide_eq_true h0,decide_eq_true h1];rfl
  unfold impl_WarcDate.f impl_dateText.f
  refine Ev.bind (a:=mkB (digsD 4 Y++ [45]++digsD 2 M++ [45]++digsD 2 d++ [84]++digsD 2 h++ [58]++digsD 2 mi++ [58]++digsD 2 s++ [90])) ?_ ?_
  ·simp only[ht,Option.bind_some,if_true,e45,e84,e58,e90]
   refine hi.bind ?_
   refine b1.bind (Ev.ifp (by simp only[mk_append,size_mk,List.length_append,List.length_cons,List.length_nil,z];omega) (b2.bind (Ev.ifp (by simp only[mk_append,size_mk,List.length_append,List.length_cons,List.length_nil,z];omega) (Ev.ifp (by simp only[mk_append,size_mk,List.length_append,List.length_cons,List.length_nil,z];omega)
    (b3.bind (Ev.ifp (by simp only[mk_append,size_mk,List.length_append,List.length_cons,List.length_nil,z];omega) (Ev.ifp (by simp only[mk_append,size_mk,List.length_append,List.length_cons,List.length_nil,z];omega)
    (b4.bind (Ev.ifp (by simp only[mk_append,size_mk,List.length_append,List.length_cons,List.length_nil,z];omega) (Ev.ifp (by simp only[mk_append,size_mk,List.length_append,List.length_cons,List.length_nil,z];omega)
    (b5.bind (Ev.ifp (by simp only[mk_append,size_mk,List.length_append,List.length_cons,List.length_nil,z];omega) (Ev.ifp (by simp only[mk_append,size_mk,List.length_append,List.length_cons,List.length_nil,z];omega)
    (b6.bind (Ev.ifp (by simp only[mk_append,size_mk,List.length_append,List.length_cons,List.length_nil,z];omega) (Ev.ifp (by simp only[mk_append,size_mk,List.length_append,List.length_cons,List.length_nil,z];omega) ?_))))))))))))))))
   simp only[mk_append]
   exact Ev.now _
  ·have e:digsD 4 Y++ [45]++digsD 2 M++ [45]++digsD 2 d++ [84]++digsD 2 h++ [58]++digsD 2 mi++ [58]++digsD 2 s++ [90]=digsD 4 Y++ [45]++digsD 2 M++ [45]++digsD 2 d++ [84]++(digsD 2 h++ [58]++digsD 2 mi++ [58]++digsD 2 s)++ [90]:=by simp only[List.append_assoc]
   rw[e];exact Ev.now _
theorem warc_back (t:Int) (h0:0≤t) (h1:t≤253402300799): ∃Y M d h mi s:Nat,validD Y M d h mi s∧t=secD Y ((M:Int)-1).toNat d h mi s∧Ev (fun k=>spec_WarcDate.f k t) (mkB (warcL Y M d h mi s))∧Ev (fun k=>impl_WarcDate.f k t) (mkB (warcL Y M d h mi s)):=by
 obtain⟨Y,n,d,h,mi,s,rfl,hY,hn,hd,hh,hm,hs⟩:=civil_sec t h0 h1
 have hmp:=monD_pos Y ((n:Int)+1)
 have nat: ∀x:Int,0≤x→ ∃n:Nat,x=(n:Int):=fun x q=>⟨x.toNat,by omega⟩
 obtain⟨_,b1,b2⟩:=civil_back Y n d h mi s hY hn hd hh hm hs
 obtain⟨Y,rfl⟩:=nat Y (by omega)
 obtain⟨d,rfl⟩:=nat d (by omega)
 obtain⟨h,rfl⟩:=nat h (by omega)
 obtain⟨mi,rfl⟩:=nat mi (by omega)
 obtain⟨s,rfl⟩:=nat s (by omega)
 have en:(n:Int)+1=((n+1:Nat):Int):=by omega
 rw[en]at b1 b2
 obtain⟨s1,s2⟩:=warc_of _ h0 h1 Y (n+1) d h mi s (by omega) (by omega) (by omega) (by omega) (by omega) (by omega) b1 b2
 refine⟨Y,n+1,d,h,mi,s,⟨hY.1,hY.2,by omega,by omega,hd.1,by rw[←en];exact hd.2,hh.1,hh.2,hm.1,hm.2,hs.1,hs.2⟩,?_,s1,s2⟩
 rw[show(((n+1:Nat):Int)-1).toNat=n by omega]
theorem filt_digs (c n:Nat):(digsD c n).filter isDig=digsD c n:=List.filter_eq_self.2 (List.all_eq_true.1 (digsD_dig c n))
theorem warcL_digs (Y M d h mi s:Nat):(warcL Y M d h mi s).filter isDig=stampL Y M d h mi s:=by
 unfold warcL stampL
 simp only[List.filter_append,filt_digs]
 have e1:([45]:List UInt8).filter isDig= []:=rfl
 have e2:([84]:List UInt8).filter isDig= []:=rfl
 have e3:([58]:List UInt8).filter isDig= []:=rfl
 have e4:([90]:List UInt8).filter isDig= []:=rfl
 rw[e1,e2,e3,e4]
 simp
theorem strOf_nums (l:List UInt8):strOfNums (l.map fun b=>(b.toNat:Int))=mkB l:=by
 simp[strOfNums,mkB,Function.comp_def]
theorem secR_rng (Y M d h mi s:Int) (hv:(secR Y M d h mi s).2=true):0≤(secR Y M d h mi s).1∧(secR Y M d h mi s).1≤253402300799:=by
 unfold secR at hv ⊢
 by_cases v:validD Y M d h mi s
 ·rw[if_pos v]
  obtain⟨c1,c2,c3,c4,c5,c6,c7,c8,c9,c10,c11,c12⟩:=v
  have en:(((M-1).toNat:Nat):Int)+1=M:=by omega
  exact(civil_back Y (M-1).toNat d h mi s ⟨c1,c2⟩ (by omega) (by rw[en];exact⟨c5,c6⟩) ⟨c7,c8⟩ ⟨c9,c10⟩ ⟨c11,c12⟩).1
 ·rw[if_neg v]at hv;exact absurd hv Bool.false_ne_true
theorem rsR_rng (l:List UInt8) (hv:(rsR l).2=true):0≤(rsR l).1∧(rsR l).1≤253402300799:=by
 unfold rsR at hv ⊢
 split
 ·rename_i hc;rw[if_pos hc]at hv;exact secR_rng _ _ _ _ _ _ hv
 ·rename_i hc;rw[if_neg hc]at hv;exact absurd hv Bool.false_ne_true
theorem implWD_go {r:Int×Bool} (l:List UInt8) (hl:l.length≤1000000) (hr:Ev (fun k=>(impl_ReadStamp.f k (mkB (l.filter isDig))).bind fun b=>(if b.2=true then((impl_WarcDate.f k b.1).bind fun t=>(if t.toList=(mkB l).toList then(some (b.1,true))else(some (0,false))))else(some (0,false)))) r): ∀(q pre:List UInt8),l=pre++q→
  Ev (fun k=>impl_ReadWarcDate.l0 k (mkB l) ((pre.filter isDig).map fun b=>(b.toNat:Int)) (pre.length:Int)) r
 | [],pre,he=>by
  refine Ev.step (fun k=>?_) hr
  simp only[impl_ReadWarcDate.l0]
  rw[if_neg (by rw[size_mk,he];simp),strOf_nums,he,List.append_nil]
 |b::q,pre,he=>by
  have ih:=implWD_go l hl hr q (pre++ [b]) (by rw[he];simp)
  have hlen:l.length=pre.length+(q.length+1):=by rw[he];simp
  have hb:bt (mkB l) (pre.length:Int)=(b.toNat:Int):=by rw[he];exact bt_mid pre b q
  rw[len_snoc]at ih
  have hfl:=List.length_filter_le isDig pre
  refine Ev.step (f:=fun k=>impl_ReadWarcDate.l0 k (mkB l) (((pre++ [b]).filter isDig).map fun b=>(b.toNat:Int)) ((pre.length:Int)+1)) (fun k=>?_) ih
  simp only[impl_ReadWarcDate.l0]
  rw[if_pos (by rw[size_mk];omega),if_pos (by omega),hb,implDigit_is,wrap_id (a:=(pre.length:Int)+1) (by omega) (by omega)]
  simp only[Option.bind_some]
  cases hd:isDig b
  ·rw[if_neg Bool.false_ne_true,List.filter_append]
   simp[hd]
  ·rw[if_pos rfl,if_pos (by simp;omega),List.filter_append]
   simp[hd]
theorem specWarc_no:Ev (fun k=>spec_WarcDate.f k (-1)) (⟨#[]⟩:ByteArray):=by
 have ht:spec_l2time.f (-1)=some false:=by unfold spec_l2time.f;rw[if_neg (by decide)]
 unfold spec_WarcDate.f spec_CivilOf.f
 simp only[ht,Option.bind_some,Bool.false_eq_true,if_false]
 exact Ev.now _
theorem specAt2_is (Y M d v3 v4 v5:Int) (x8 x9 c1 x10 x11 c2 x12 x13:UInt8) (h3:Ev (fun k=>spec_l2num.f k (mkB [x8,x9])) v3) (h4:Ev (fun k=>spec_l2num.f k (mkB [x10,x11])) v4) (h5:Ev (fun k=>spec_l2num.f k (mkB [x12,x13])) v5):
  Ev (fun k=>spec_l2at.f k Y M d (mkB [x8,x9,c1,x10,x11,c2,x12,x13])) (if(secR Y M d v3 v4 v5).2=true then(secR Y M d v3 v4 v5).1 else-1):=by
 have hz:(mkB [x8,x9,c1,x10,x11,c2,x12,x13]).size=8:=rfl
 have e1:(mkB [x8,x9,c1,x10,x11,c2,x12,x13]).extract 0 2=mkB [x8,x9]:=by rw[extract_mk];rfl
 have e2:(mkB [x8,x9,c1,x10,x11,c2,x12,x13]).extract 3 5=mkB [x10,x11]:=by rw[extract_mk];rfl
 have e3:(mkB [x8,x9,c1,x10,x11,c2,x12,x13]).extract 6 8=mkB [x12,x13]:=by rw[extract_mk];rfl
 unfold spec_l2at.f
 simp only[e1,e2,e3,hz]
 refine Ev.ifp (by decide) (Ev.ifp (by decide) (h3.bind (Ev.ifp (by decide) (Ev.ifp (by decide) (h4.bind (Ev.ifp (by decide) (Ev.ifp (by decide) (h5.bind ((specSec_is Y M d v3 v4 v5).bind ?_)))))))))
 cases(secR Y M d v3 v4 v5).2
 ·simp only[Bool.false_eq_true,if_false];exact Ev.now _
 ·simp only[if_true];exact Ev.now _
theorem specWD_at (l:List UInt8) (hz:l.length=20): ∃v0 v1 v2 v3 v4 v5:Int,(∀r,Ev (fun k=>(spec_WarcDate.f k (if(secR v0 v1 v2 v3 v4 v5).2=true then(secR v0 v1 v2 v3 v4 v5).1 else-1)).bind fun t=>(if t.toList=(mkB l).toList then some ((if(secR v0 v1 v2 v3 v4 v5).2=true then(secR v0 v1 v2 v3 v4 v5).1 else-1),true)else some (0,false))) r→Ev (fun k=>spec_ReadWarcDate.f k (mkB l)) r)∧
  (∀Y M d h mi s:Nat,Y<10000→M<100→d<100→h<100→mi<100→s<100→l=warcL Y M d h mi s→v0=Y∧v1=M∧v2=d∧v3=h∧v4=mi∧v5=s):=by
 match l,hz with
 | [x0,x1,x2,x3,y1,x4,x5,y2,x6,x7,y3,x8,x9,y4,x10,x11,y5,x12,x13,y6],_=>
  have hL:(mkB [x0,x1,x2,x3,y1,x4,x5,y2,x6,x7,y3,x8,x9,y4,x10,x11,y5,x12,x13,y6]).size=20:=rfl
  have e0:(mkB [x0,x1,x2,x3,y1,x4,x5,y2,x6,x7,y3,x8,x9,y4,x10,x11,y5,x12,x13,y6]).extract 0 4=mkB [x0,x1,x2,x3]:=by rw[extract_mk];rfl
  have e1:(mkB [x0,x1,x2,x3,y1,x4,x5,y2,x6,x7,y3,x8,x9,y4,x10,x11,y5,x12,x13,y6]).extract 5 7=mkB [x4,x5]:=by rw[extract_mk];rfl
  have e2:(mkB [x0,x1,x2,x3,y1,x4,x5,y2,x6,x7,y3,x8,x9,y4,x10,x11,y5,x12,x13,y6]).extract 8 10=mkB [x6,x7]:=by rw[extract_mk];rfl
  have e3:(mkB [x0,x1,x2,x3,y1,x4,x5,y2,x6,x7,y3,x8,x9,y4,x10,x11,y5,x12,x13,y6]).extract 11 19=mkB [x8,x9,y4,x10,x11,y5,x12,x13]:=by rw[extract_mk];rfl
  obtain⟨v0,n0,d0⟩:=specNum_ex [x0,x1,x2,x3] (by simp)
  obtain⟨v1,n1,d1⟩:=specNum_ex [x4,x5] (by simp)
  obtain⟨v2,n2,d2⟩:=specNum_ex [x6,x7] (by simp)
  obtain⟨v3,n3,d3⟩:=specNum_ex [x8,x9] (by simp)
  obtain⟨v4,n4,d4⟩:=specNum_ex [x10,x11] (by simp)
  obtain⟨v5,n5,d5⟩:=specNum_ex [x12,x13] (by simp)
  refine⟨v0,v1,v2,v3,v4,v5,fun r hr=>?_,?_⟩
  ·have hat:=specAt2_is v0 v1 v2 v3 v4 v5 x8 x9 y4 x10 x11 y5 x12 x13 n3 n4 n5
   unfold spec_ReadWarcDate.f
   simp only[hL,e0,e1,e2,e3]
   exact Ev.ifp (by decide) (Ev.ifp (by decide) (Ev.ifp (by decide) (n0.bind (Ev.ifp (by decide) (Ev.ifp (by decide) (n1.bind (Ev.ifp (by decide) (Ev.ifp (by decide) (n2.bind (Ev.ifp (by decide) (Ev.ifp (by decide) (hat.bind hr))))))))))))
  ·intro Y M d h mi s h0 h1 h2 h3 h4 h5 he
   have z:=digsD_len
   have part: ∀(c n:Nat) (q:List UInt8) (v:Int),q=digsD c n→n<10^c→(q.all isDig=true→v=(dval q:Int))→v=n:=by
    intro c n q v hq hn hv
    rw[hv (by rw[hq];exact digsD_dig c n),hq,dval_digs c n hn]
   have w:warcL Y M d h mi s=digsD 4 Y++(45::(digsD 2 M++(45::(digsD 2 d++(84::(digsD 2 h++(58::(digsD 2 mi++(58::(digsD 2 s++ [90])))))))))):=by unfold warcL;simp
   rw[w]at he
   have k0:=List.append_inj (s₁:= [x0,x1,x2,x3]) (s₂:=digsD 4 Y) (t₁:= [y1,x4,x5,y2,x6,x7,y3,x8,x9,y4,x10,x11,y5,x12,x13,y6]) he (by rw[z];rfl)
   have k1:=List.append_inj (s₁:= [x4,x5]) (s₂:=digsD 2 M) (t₁:= [y2,x6,x7,y3,x8,x9,y4,x10,x11,y5,x12,x13,y6]) (List.cons.inj k0.2).2 (by rw[z];rfl)
   have k2:=List.append_inj (s₁:= [x6,x7]) (s₂:=digsD 2 d) (t₁:= [y3,x8,x9,y4,x10,x11,y5,x12,x13,y6]) (List.cons.inj k1.2).2 (by rw[z];rfl)
   have k3:=List.append_inj (s₁:= [x8,x9]) (s₂:=digsD 2 h) (t₁:= [y4,x10,x11,y5,x12,x13,y6]) (List.cons.inj k2.2).2 (by rw[z];rfl)
   have k4:=List.append_inj (s₁:= [x10,x11]) (s₂:=digsD 2 mi) (t₁:= [y5,x12,x13,y6]) (List.cons.inj k3.2).2 (by rw[z];rfl)
   have k5:=List.append_inj (s₁:= [x12,x13]) (s₂:=digsD 2 s) (t₁:= [y6]) (List.cons.inj k4.2).2 (by rw[z];rfl)
   exact⟨part 4 Y _ _ k0.1 h0 d0,part 2 M _ _ k1.1 h1 d1,part 2 d _ _ k2.1 h2 d2,part 2 h _ _ k3.1 h3 d3,part 2 mi _ _ k4.1 h4 d4,part 2 s _ _ k5.1 h5 d5⟩
theorem readWD_both (l:List UInt8) (hl:l.length≤100000): ∃r:Int×Bool,Ev (fun k=>spec_ReadWarcDate.f k (mkB l)) r∧Ev (fun k=>impl_ReadWarcDate.f k (mkB l)) r:=by
 have hRS:=implRS_is (l.filter isDig) (by have:=List.length_filter_le isDig l;omega)
 have himpl: ∀r,Ev (fun k=>if(rsR (l.filter isDig)).2=true then((impl_WarcDate.f k (rsR (l.filter isDig)).1).bind fun t=>(if t.toList=(mkB l).toList then(some ((rsR (l.filter isDig)).1,true))else(some (0,false))))else(some (0,false))) r→Ev (fun k=>impl_ReadWarcDate.f k (mkB l)) r:=fun r hr=>by
  have:=implWD_go l (by omega) (hRS.bind hr) l [] rfl
  simpa [impl_ReadWarcDate.f]using this
 by_cases hx: ∃Y M d h mi s:Nat,validD Y M d h mi s∧l=warcL Y M d h mi s
 ·obtain⟨Y,M,d,h,mi,s,hv,he⟩:=hx
  have hv':=hv
  obtain⟨c1,c2,c3,c4,c5,c6,c7,c8,c9,c10,c11,c12⟩:=hv'
  have hm:=monD_pos Y M
  have hsR:secR Y M d h mi s=(secD Y ((M:Int)-1).toNat d h mi s,true):=if_pos hv
  have hrng:=secR_rng Y M d h mi s (by rw[hsR])
  rw[hsR]at hrng
  have en:((((M:Int)-1).toNat:Nat):Int)+1=M:=by omega
  obtain⟨_,b1,b2⟩:=civil_back Y ((M:Int)-1).toNat d h mi s ⟨c1,c2⟩ (by omega) (by rw[en];exact⟨c5,c6⟩) ⟨c7,c8⟩ ⟨c9,c10⟩ ⟨c11,c12⟩
  rw[en]at b1 b2
  obtain⟨w1,w2⟩:=warc_of _ hrng.1 hrng.2 Y M d h mi s (by omega) (by omega) (by omega) (by omega) (by omega) (by omega) b1 b2
  refine⟨(secD Y ((M:Int)-1).toNat d h mi s,true),?_,?_⟩
  ·obtain⟨v0,v1,v2,v3,v4,v5,hs,hp⟩:=specWD_at l (by rw[he];exact warcL_len ..)
   obtain⟨rfl,rfl,rfl,rfl,rfl,rfl⟩:=hp Y M d h mi s (by omega) (by omega) (by omega) (by omega) (by omega) (by omega) he
   refine hs _ ?_
   rw[hsR]
   simp only[if_true]
   refine w1.bind ?_
   rw[he]
   simp only[if_true];exact Ev.now _
  ·refine himpl _ ?_
   rw[he,warcL_digs,rsR_stamp Y M d h mi s hv]
   simp only[if_true]
   refine w2.bind ?_
   simp only[if_true];exact Ev.now _
 ·refine⟨(0,false),?_,?_⟩
  ·by_cases hz:l.length=20
   ·obtain⟨v0,v1,v2,v3,v4,v5,hs,_⟩:=specWD_at l hz
    refine hs _ ?_
    cases hq:(secR v0 v1 v2 v3 v4 v5).2
    ·simp only[Bool.false_eq_true,if_false]
     refine specWarc_no.bind ?_
     rw[if_neg (by rw[toList_mk,show(⟨#[]⟩:ByteArray).toList= []from toList_mk []];intro e;rw[←e]at hz;exact absurd hz (by decide))]
     exact Ev.now _
    ·simp only[if_true]
     have hrng:=secR_rng _ _ _ _ _ _ hq
     obtain⟨Y,M,d,h,mi,s,hv,ht,w1,w2⟩:=warc_back _ hrng.1 hrng.2
     refine w1.bind ?_
     rw[if_neg (by rw[toList_mk,toList_mk];intro e;exact hx ⟨Y,M,d,h,mi,s,hv,e.symm⟩)]
     exact Ev.now _
   ·unfold spec_ReadWarcDate.f
    rw[size_mk]
    simp only[if_neg (show ¬(l.length:Int)=20 by omega)]
    exact Ev.now _
  ·refine himpl _ ?_
   cases hq:(rsR (l.filter isDig)).2
   ·simp only[Bool.false_eq_true,if_false];exact Ev.now _
   ·simp only[if_true]
    have hrng:=rsR_rng _ hq
    obtain⟨Y,M,d,h,mi,s,hv,ht,w1,w2⟩:=warc_back _ hrng.1 hrng.2
    refine w2.bind ?_
    rw[if_neg (by rw[toList_mk,toList_mk];intro e;exact hx ⟨Y,M,d,h,mi,s,hv,e.symm⟩)]
    exact Ev.now _
def scanL:List UInt8→List UInt8×Nat
 | []=>([],1)
 |b::r=>if b=10 then([],2)else if b=13 then(match r with| []=>([],1)|c::_=>if c=10 then([],0)else([],2))else if(scanL r).2=0 then(b::(scanL r).1,0)else([],(scanL r).2)
theorem u8_10 (b:UInt8):(b.toNat:Int)=10↔b=10:=by rw[←UInt8.toNat_inj];show _↔b.toNat=10;omega
theorem u8_13 (b:UInt8):(b.toNat:Int)=13↔b=13:=by rw[←UInt8.toNat_inj];show _↔b.toNat=13;omega
theorem scanL_other {b:UInt8} (r:List UInt8) (h1: ¬b=10) (h2: ¬b=13):scanL (b::r)=if(scanL r).2=0 then(b::(scanL r).1,0)else([],(scanL r).2):=by
 cases r<;>simp[scanL,h1,h2]
theorem scanL_len: ∀r:List UInt8,(scanL r).2=0→(scanL r).1.length+2≤r.length
 | [],h=>by simp[scanL]at h
 |b::r,h=>by
  have ih:=scanL_len r
  unfold scanL at h ⊢
  by_cases h1:b=10
  ·simp[h1]at h
  by_cases h2:b=13
  ·rw[if_neg h1,if_pos h2]at h ⊢
   cases r with
   |nil=>simp at h
   |cons c r=>
    by_cases h3:c=10
    ·simp[h3]
    ·simp[h3]at h
  ·rw[if_neg h1,if_neg h2]at h ⊢
   by_cases h3:(scanL r).2=0
   ·rw[if_pos h3];have:=ih h3;simp;omega
   ·rw[if_neg h3]at h;exact absurd h h3
def takeLineL (t:List UInt8) (at_:Nat):ByteArray×ByteArray×Int×Int:=
 if(scanL (t.drop at_)).2=0 then(mkB (scanL (t.drop at_)).1,mkB t,((at_+(scanL (t.drop at_)).1.length+2:Nat):Int),0)else((⟨#[]⟩:ByteArray),(⟨#[]⟩:ByteArray),0,((scanL (t.drop at_)).2:Int))
theorem specTakeLine_go: ∀(r mid pre:List UInt8),(pre++(mid++r)).length≤9223372036854775000→
  Ev (fun k=>spec_TakeLine.l0 k ((pre.length:Int)+(mid.length:Int)) (mkB (pre++(mid++r))) pre.length)
   (if(scanL r).2=0 then(mkB (mid++(scanL r).1),mkB (pre++(mid++r)),((pre.length+(mid.length+(scanL r).1.length)+2:Nat):Int),0)else((⟨#[]⟩:ByteArray),(⟨#[]⟩:ByteArray),0,((scanL r).2:Int)))
 | [],mid,pre,hl=>by
  refine Ev.step (f:=fun _=>some ((⟨#[]⟩:ByteArray),(⟨#[]⟩:ByteArray),0,1)) (fun k=>?_) (by simpa [scanL]using Ev.now _)
  simp only[spec_TakeLine.l0]
  rw[if_neg (by rw[size_mk];simp)]
 |b::r,mid,pre,hl=>by
  have hl2:=hl
  simp at hl2
  have hlt:(pre.length:Int)+(mid.length:Int)<((mkB (pre++(mid++b::r))).size:Int):=by rw[size_mk];simp;omega
  have hb:=bt_mid2 pre mid b r _ rfl
  have hw:wrap64 ((pre.length:Int)+(mid.length:Int)+1)=(pre.length:Int)+(mid.length:Int)+1:=wrap_id (by omega) (by omega)
  have hw2:wrap64 ((pre.length:Int)+(mid.length:Int)+2)=(pre.length:Int)+(mid.length:Int)+2:=wrap_id (by omega) (by omega)
  by_cases h1:b=10
  ·subst h1
   refine Ev.step (f:=fun _=>some ((⟨#[]⟩:ByteArray),(⟨#[]⟩:ByteArray),0,2)) (fun k=>?_) (by simpa [scanL]using Ev.now _)
   simp only[spec_TakeLine.l0]
   rw[if_pos hlt,if_pos (by omega),hb,if_pos (by rfl)]
  by_cases h2:b=13
  ·subst h2
   cases r with
   |nil=>
    refine Ev.step (f:=fun _=>some ((⟨#[]⟩:ByteArray),(⟨#[]⟩:ByteArray),0,1)) (fun k=>?_) (by simpa [scanL]using Ev.now _)
    simp only[spec_TakeLine.l0]
    rw[if_pos hlt,if_pos (by omega),hb,if_neg (by decide),if_pos (by rfl),hw,if_pos (by rw[size_mk];simp;omega)]
   |cons c r=>
    have hc:=bt_mid2 pre (mid++ [13]) c r ((pre.length:Int)+(mid.length:Int)+1) (by simp;omega)
    have e:pre++(mid++13::c::r)=pre++((mid++ [13])++c::r):=by simp
    rw[←e]at hc
    have hne: ¬(pre.length:Int)+(mid.length:Int)+1=((mkB (pre++(mid++13::c::r))).size:Int):=by rw[size_mk];simp;omega
    have hlt2:(pre.length:Int)+(mid.length:Int)+1<((mkB (pre++(mid++13::c::r))).size:Int):=by rw[size_mk];simp;omega
    by_cases h3:c=10
    ·subst h3
     have hx:(mkB (pre++(mid++13::10::r))).extract (pre.length:Int).toNat ((pre.length:Int)+(mid.length:Int)).toNat=mkB mid:=by
      rw[extract_mk,show((pre.length:Int)+(mid.length:Int)).toNat=pre.length+mid.length by omega,Int.toNat_natCast,take_mid]
     refine Ev.step (f:=fun _=>some (mkB mid,mkB (pre++(mid++13::10::r)),(pre.length:Int)+(mid.length:Int)+2,0)) (fun k=>?_) (by simpa [scanL,Int.add_assoc]using Ev.now _)
     simp only[spec_TakeLine.l0]
     rw[if_pos hlt,if_pos (by omega),hb,if_neg (by decide),if_pos (by rfl),hw,if_neg hne,if_pos (by omega),if_pos hlt2,hc,if_pos (by rfl),if_pos (by omega),if_pos (by omega),if_pos (by omega),hx,hw2]
    ·refine Ev.step (f:=fun _=>some ((⟨#[]⟩:ByteArray),(⟨#[]⟩:ByteArray),0,2)) (fun k=>?_) (by simpa [scanL,h3]using Ev.now _)
     simp only[spec_TakeLine.l0]
     rw[if_pos hlt,if_pos (by omega),hb,if_neg (by decide),if_pos (by rfl),hw,if_neg hne,if_pos (by omega),if_pos hlt2,hc,if_neg (fun h=>h3 ((u8_10 c).1 h))]
  ·have ih:=specTakeLine_go r (mid++ [b]) pre (by simp;omega)
   have e:pre++(mid++ [b]++r)=pre++(mid++b::r):=by simp
   have e2:(pre.length:Int)+((mid++ [b]).length:Int)=(pre.length:Int)+(mid.length:Int)+1:=by simp;omega
   rw[e,e2]at ih
   have hs:scanL (b::r)=if(scanL r).2=0 then(b::(scanL r).1,0)else([],(scanL r).2):=scanL_other r h1 h2
   have er:(if(scanL (b::r)).2=0 then(mkB (mid++(scanL (b::r)).1),mkB (pre++(mid++b::r)),((pre.length+(mid.length+(scanL (b::r)).1.length)+2:Nat):Int),(0:Int))else((⟨#[]⟩:ByteArray),(⟨#[]⟩:ByteArray),0,((scanL (b::r)).2:Int)))=(if(scanL r).2=0 then(mkB (mid++ [b]++(scanL r).1),mkB (pre++(mid++b::r)),((pre.length+((mid++ [b]).length+(scanL r).1.length)+2:Nat):Int),0)else((⟨#[]⟩:ByteArray),(⟨#[]⟩:ByteArray),0,((scanL r).2:Int))):=by
    rw[hs]
    by_cases hz:(scanL r).2=0
    ·simp[hz];omega
    ·simp[hz]
   rw[er]
   refine Ev.step (fun k=>?_) ih
   simp only[spec_TakeLine.l0]
   rw[if_pos hlt,if_pos (by omega),hb,if_neg (fun h=>h1 ((u8_10 b).1 h)),if_neg (fun h=>h2 ((u8_13 b).1 h)),hw]
theorem specCurOk_is (t:List UInt8) (at_:Nat) (h:at_≤t.length):spec_CurOk.f (mkB t) (at_:Int)=some true:=by
 unfold spec_CurOk.f
 rw[if_pos (by omega),size_mk,decide_eq_true (by omega)]
theorem implCurOk_is (t:List UInt8) (at_:Nat) (h:at_≤t.length):impl_CurOk.f (mkB t) (at_:Int)=some true:=by
 unfold impl_CurOk.f
 rw[within_is,size_mk,decide_eq_true (by omega),decide_eq_true (by omega)];rfl
theorem specTakeLine_is (t:List UInt8) (at_:Nat) (h:at_≤t.length) (hl:t.length≤9223372036854775000):Ev (fun k=>spec_TakeLine.f k (mkB t) (at_:Int)) (takeLineL t at_):=by
 have hg:=specTakeLine_go (t.drop at_) [] (t.take at_) (by simpa using hl)
 have e:(t.take at_).length=at_:=by rw[List.length_take];omega
 simp only[List.nil_append,List.take_append_drop,e]at hg
 unfold spec_TakeLine.f
 rw[specCurOk_is t at_ h]
 simp only[Option.bind_some,if_true]
 simpa [takeLineL]using hg
theorem scan_index: ∀r:List UInt8,(Lib.indexAny r [13,10]= -1∧scanL r=([],1))∨(∃(mid:List UInt8) (b:UInt8) (r':List UInt8),r=mid++b::r'∧Lib.indexAny r [13,10]=(mid.length:Int)∧(b=13∨b=10)∧scanL r=(if b=10 then([],2)else match r' with| []=>([],1)|c::_=>if c=10 then(mid,0)else([],2)))
 | []=> .inl ⟨rfl,rfl⟩
 |b::r=>by
  by_cases h1:b=10
  ·subst h1;exact .inr ⟨[],10,r,rfl,by simp[Lib.indexAny],.inr rfl,by simp[scanL]⟩
  by_cases h2:b=13
  ·subst h2;exact .inr ⟨[],13,r,rfl,by simp[Lib.indexAny],.inl rfl,by simp[scanL]⟩
  have hs:scanL (b::r)=if(scanL r).2=0 then(b::(scanL r).1,0)else([],(scanL r).2):=scanL_other r h1 h2
  have hi:Lib.indexAny (b::r) [13,10]=if Lib.indexAny r [13,10]== -1 then-1 else Lib.indexAny r [13,10]+1:=by
   rw[Lib.indexAny,if_neg (by simp[h1,h2])]
  rcases scan_index r with⟨a1,a2⟩|⟨mid,c,r',a1,a2,a3,a4⟩
  ·exact .inl ⟨by rw[hi,a1];rfl,by rw[hs,a2];rfl⟩
  ·refine .inr ⟨b::mid,c,r',by rw[a1];rfl,?_,a3,?_⟩
   ·rw[hi,a2,if_neg (by simp<;>omega)];simp
   ·rw[hs,a4]
    rcases a3 with rfl|rfl
    ·cases r' with
     |nil=>simp
     |cons d r'=>by_cases hd:d=10<;>simp[hd]
    ·simp
theorem implTakeLine_is (t:List UInt8) (at_:Nat) (h:at_≤t.length) (hl:t.length≤4294967280):Ev (fun k=>impl_TakeLine.f k (mkB t) (at_:Int)) (takeLineL t at_):=by
 have hx:(mkB t).extract (at_:Int).toNat (mkB t).size=mkB (t.drop at_):=by
  rw[extract_mk,Int.toNat_natCast,size_mk,List.take_of_length_le (by simp)]
 have hia:strings_IndexAny.f (mkB (t.drop at_)) (⟨#[13,10]⟩:ByteArray)=some (Lib.indexAny (t.drop at_) [13,10]):=by
  unfold strings_IndexAny.f
  rw[if_pos ⟨by rw[size_mk];simp;omega,rfl,by decide⟩]
  simp[mkB]
 unfold impl_TakeLine.f
 rw[implCurOk_is t at_ h]
 have hat:(at_:Int)≤((mkB t).size:Int):=by rw[size_mk];omega
 simp only[Option.bind_some,if_true,hx,hia,if_pos (show(0:Int)≤(at_:Int)by omega),if_pos hat]
 have hdl:(t.drop at_).length=t.length-at_:=by simp
 generalize hr:t.drop at_=r at hdl ⊢
 rcases scan_index r with⟨a1,a2⟩|⟨mid,b,r',rfl,a2,a3,a4⟩
 ·simp only[a1,if_pos (show(-1:Int)<0 by decide)]
  have er:takeLineL t at_=((⟨#[]⟩:ByteArray),(⟨#[]⟩:ByteArray),0,1):=by unfold takeLineL;rw[hr,a2];rfl
  rw[er]
  exact Ev.step (f:=fun _=>some ((⟨#[]⟩:ByteArray),(⟨#[]⟩:ByteArray),0,1)) (fun k=>by simp only[impl_TakeLine.j0,if_true]) (Ev.now _)
 ·simp only[a2,if_neg (show ¬(mid.length:Int)<0 by omega),if_pos (show(0:Int)≤(mid.length:Int)by omega),if_pos (size_lt_mid mid b r'),bt_mid]
  have hlen:=hdl
  simp at hlen
  have hw:wrap64 ((mid.length:Int)+1)=(mid.length:Int)+1:=wrap_id (by omega) (by omega)
  rcases a3 with rfl|rfl
  ·simp only[if_pos (show(((13:UInt8).toNat:Nat):Int)=13 from rfl)]
   rw[if_neg (by decide)]at a4
   cases r' with
   |nil=>
    have hd:((mid.length:Int)==wrap64 (((mkB (mid++ [13])).size:Int)-1))=true:=by
     rw[beq_iff_eq,size_mk,wrap_id (by simp<;>omega) (by simp<;>omega)];simp
    rw[hd]
    have er:takeLineL t at_=((⟨#[]⟩:ByteArray),(⟨#[]⟩:ByteArray),0,1):=by unfold takeLineL;rw[hr,a4];rfl
    rw[er]
    exact Ev.step (f:=fun _=>some ((⟨#[]⟩:ByteArray),(⟨#[]⟩:ByteArray),0,1)) (fun k=>by simp only[impl_TakeLine.j0,if_true]) (Ev.now _)
   |cons c r'=>
    simp only[List.length_cons]at hlen
    have hd:((mid.length:Int)==wrap64 (((mkB (mid++13::c::r')).size:Int)-1))=false:=by
     rw[beq_eq_false_iff_ne,size_mk,wrap_id (by simp<;>omega) (by simp<;>omega)];simp;omega
    have hc:=bt_mid (mid++ [13]) c r'
    rw[len_snoc,←app_mid]at hc
    rw[hd]
    have hlt2:(mid.length:Int)+1<((mkB (mid++13::c::r')).size:Int):=by rw[size_mk];simp;omega
    by_cases h3:c=10
    ·subst h3
     have hx2:(mkB (mid++13::10::r')).extract 0 (mid.length:Int).toNat=mkB mid:=by rw[extract_mk];simp
     have er:takeLineL t at_=(mkB mid,mkB t,((at_+mid.length+2:Nat):Int),0):=by unfold takeLineL;rw[hr,a4];rfl
     rw[er]
     refine Ev.step (f:=fun _=>some (mkB mid,mkB t,((at_+mid.length+2:Nat):Int),0)) (fun k=>?_) (Ev.now _)
     simp only[impl_TakeLine.j0,Bool.false_eq_true,if_false]
     rw[if_pos (by omega),if_pos (size_lt_mid ..),bt_mid,if_pos (by rfl),hw,if_pos (by omega),if_pos hlt2,hc,if_pos (by rfl),if_pos (by have:=size_lt_mid mid 13 (10::r');omega),hx2,wrap_id (a:=(at_:Int)+(mid.length:Int)) (by omega) (by omega),wrap_id (by omega) (by omega)]
     congr 4
    ·have er:takeLineL t at_=((⟨#[]⟩:ByteArray),(⟨#[]⟩:ByteArray),0,2):=by unfold takeLineL;rw[hr,a4];simp[h3]
     rw[er]
     refine Ev.step (f:=fun _=>some ((⟨#[]⟩:ByteArray),(⟨#[]⟩:ByteArray),0,2)) (fun k=>?_) (Ev.now _)
     simp only[impl_TakeLine.j0,Bool.false_eq_true,if_false]
     rw[if_pos (by omega),if_pos (size_lt_mid ..),bt_mid,if_pos (by rfl),hw,if_pos (by omega),if_pos hlt2,hc,if_neg (fun h=>h3 ((u8_10 c).1 h))]
  ·simp only[if_neg (show ¬(((10:UInt8).toNat:Nat):Int)=13 by decide)]
   have er:takeLineL t at_=((⟨#[]⟩:ByteArray),(⟨#[]⟩:ByteArray),0,2):=by unfold takeLineL;rw[hr,a4];rfl
   rw[er]
   refine Ev.step (f:=fun _=>some ((⟨#[]⟩:ByteArray),(⟨#[]⟩:ByteArray),0,2)) (fun k=>?_) (Ev.now _)
   simp only[impl_TakeLine.j0,Bool.false_eq_true,if_false]
   rw[if_pos (by omega),if_pos (size_lt_mid ..),bt_mid,if_neg (by decide)]
def takeNL (t:List UInt8) (at_ n:Nat):ByteArray×ByteArray×Int×Bool:=
 if n≤t.length-at_ then(mkB ((t.drop at_).take n),mkB t,((at_+n:Nat):Int),true)else((⟨#[]⟩:ByteArray),(⟨#[]⟩:ByteArray),0,false)
theorem specTakeN_is (t:List UInt8) (at_ n:Nat) (h:at_≤t.length) (hl:t.length≤9223372036854775000) (hn:n≤1000000000):spec_TakeN.f (mkB t) (at_:Int) (n:Int)=some (takeNL t at_ n):=by
 unfold spec_TakeN.f takeNL
 rw[specCurOk_is t at_ h]
 simp only[Option.bind_some,if_true]
 have hw:wrap64 (((mkB t).size:Int)-(at_:Int))=((t.length-at_:Nat):Int):=by rw[size_mk,wrap_id (by omega) (by omega)];omega
 rw[if_neg (by omega),hw]
 by_cases hle:n≤t.length-at_
 ·rw[if_neg (by omega),if_pos hle,if_pos (by omega),wrap_id (by omega) (by omega),if_pos (by omega),if_pos (by rw[size_mk];omega),extract_mk,Int.toNat_natCast,show((at_:Int)+(n:Int)).toNat=at_+n by omega,Nat.add_sub_cancel_left,show((at_+n:Nat):Int)=(at_:Int)+(n:Int)by omega]
 ·rw[if_pos (by omega),if_neg hle]
theorem implTakeN_gen (s:ByteArray) (a n:Int) (h:impl_CurOk.f s a=some true):impl_TakeN.f s a n=(impl_within.f n 0 (wrap64 ((s.size:Int)-a))).bind fun t=>if t=true then(if 0≤a then(if a≤(wrap64 (a+n))then(if(wrap64 (a+n))≤(s.size:Int)then(some (s.extract (a:Int).toNat ((wrap64 (a+n)):Int).toNat,s,wrap64 (a+n),true))else(none))else(none))else(none))else(some ((⟨#[]⟩:ByteArray),(⟨#[]⟩:ByteArray),0,false)):=by
 unfold impl_TakeN.f
 rw[h,Option.bind_some,if_pos rfl]
theorem implTakeN_is (t:List UInt8) (at_ n:Nat) (h:at_≤t.length) (hl:t.length≤9223372036854775000) (hn:n≤1000000000):impl_TakeN.f (mkB t) (at_:Int) (n:Int)=some (takeNL t at_ n):=by
 have hw:wrap64 (((mkB t).size:Int)-(at_:Int))=((t.length-at_:Nat):Int):=by rw[size_mk,wrap_id (by omega) (by omega)];omega
 rw[implTakeN_gen _ _ _ (implCurOk_is t at_ h),hw,within_is,Option.bind_some]
 unfold takeNL
 by_cases hle:n≤t.length-at_
 ·have d:(decide ((0:Int)≤(n:Int))&&decide ((n:Int)≤((t.length-at_:Nat):Int)))=true:=by rw[decide_eq_true (show(0:Int)≤(n:Int)by omega),decide_eq_true (show(n:Int)≤((t.length-at_:Nat):Int)by omega)];rfl
  rw[d,if_pos rfl,if_pos hle,if_pos (by omega),wrap_id (by omega) (by omega),if_pos (by omega),if_pos (by rw[size_mk];omega),extract_mk,Int.toNat_natCast,show((at_:Int)+(n:Int)).toNat=at_+n by omega,Nat.add_sub_cancel_left,show((at_+n:Nat):Int)=(at_:Int)+(n:Int)by omega]
 ·have d:(decide ((0:Int)≤(n:Int))&&decide ((n:Int)≤((t.length-at_:Nat):Int)))=false:=by rw[decide_eq_false (show ¬(n:Int)≤((t.length-at_:Nat):Int)by omega),Bool.and_false]
  rw[d,if_neg Bool.false_ne_true,if_neg hle]
def lowS (s:ByteArray):ByteArray:=strOfNums ((bytesOf s).map lowI)
def lowL (l:List UInt8):List UInt8:=bl (lowS (mkB l))
theorem specFold_is (s:ByteArray) (h:s.size≤1099511627776):spec_Fold.f s=some (lowS s):=by unfold spec_Fold.f;rw[if_pos h];rfl
theorem specFoldL (l:List UInt8) (h:l.length≤1048576):spec_Fold.f (mkB l)=some (mkB (lowL l)):=by
 rw[specFold_is _ (by rw[size_mk];omega),lowL,mk_bl]
theorem implFold_is (s:ByteArray) (h:s.size≤1099511627776):impl_Fold.f s=some (lowS s):=by unfold impl_Fold.f;rw[if_pos h];rfl
theorem implFoldL (l:List UInt8) (h:l.length≤1048576):impl_Fold.f (mkB l)=some (mkB (lowL l)):=by
 rw[implFold_is _ (by rw[size_mk];omega),lowL,mk_bl]
def kT:List UInt8:= [119,97,114,99,45,116,121,112,101]
def kI:List UInt8:= [119,97,114,99,45,114,101,99,111,114,100,45,105,100]
def kD:List UInt8:= [119,97,114,99,45,100,97,116,101]
def kL:List UInt8:= [99,111,110,116,101,110,116,45,108,101,110,103,116,104]
def cN (l:List ByteArray) (k:List UInt8):Int:=((cntN l (mkB k):Nat):Int)
def cs4 (l:List ByteArray):List Int:= [cN l kT,cN l kI,cN l kD,cN l kL]
abbrev GrR:=ByteArray×Int×Bool
def GRel (t:List UInt8) (at_:Nat) (rs ri:GrR):Prop:=rs.2.2=ri.2.2∧(ri.2.2=true→rs=ri∧ ∃n:Nat,ri=(mkB t,(n:Int),true)∧at_≤n∧n≤t.length)
theorem GRel.no (t:List UInt8) (at_:Nat) (o:ByteArray) (ob:Int) (p:ByteArray) (pb:Int):GRel t at_ (o,ob,false) (p,pb,false):=⟨rfl,fun h=>absurd h Bool.false_ne_true⟩
theorem cutB_found (c:UInt8): ∀l:List UInt8,((cutB c l).2.2=true∧(cutB c l).1.length+1+(cutB c l).2.1.length=l.length∧l.drop ((cutB c l).1.length+1)=(cutB c l).2.1)∨((cutB c l).2.2=false∧(cutB c l).1=l)
 | []=> .inr ⟨rfl,rfl⟩
 |b::l=>by
  by_cases h:b=c
  ·left;rw[cutB,if_pos h];simp;omega
  ·rcases cutB_found c l with⟨h1,h2,h3⟩|⟨h1,h2⟩
   ·left;rw[cutB,if_neg h];refine⟨h1,by simp only[List.length_cons];omega,?_⟩
    simpa using h3
   ·right;rw[cutB,if_neg h];exact⟨h1,by rw[h2]⟩
theorem grTakeLine_ok {t:List UInt8} {at_:Nat} (h:(scanL (t.drop at_)).2=0):takeLineL t at_=(mkB (scanL (t.drop at_)).1,mkB t,((at_+(scanL (t.drop at_)).1.length+2:Nat):Int),0):=by unfold takeLineL;rw[if_pos h]
theorem grTakeLine_no {t:List UInt8} {at_:Nat} (h: ¬(scanL (t.drop at_)).2=0):takeLineL t at_=((⟨#[]⟩:ByteArray),(⟨#[]⟩:ByteArray),0,((scanL (t.drop at_)).2:Int)):=by unfold takeLineL;rw[if_neg h]
theorem grScan_next {t:List UInt8} {at_:Nat} (h:at_≤t.length) (h0:(scanL (t.drop at_)).2=0):at_+(scanL (t.drop at_)).1.length+2≤t.length:=by
 have:=scanL_len _ h0;rw[List.length_drop]at this;omega
theorem grTakeN (t:List UInt8) (at_ n:Nat) (h:at_≤t.length) (hl:t.length≤1048576) (hn:n≤999999999999999):spec_TakeN.f (mkB t) (at_:Int) (n:Int)=some (takeNL t at_ n)∧impl_TakeN.f (mkB t) (at_:Int) (n:Int)=some (takeNL t at_ n):=by
 by_cases hb:n≤1000000000
 ·exact⟨specTakeN_is t at_ n h (by omega) hb,implTakeN_is t at_ n h (by omega) hb⟩
 ·have hw:wrap64 (((mkB t).size:Int)-(at_:Int))=((t.length-at_:Nat):Int):=by rw[size_mk,wrap_id (by omega) (by omega)];omega
  have e:takeNL t at_ n=((⟨#[]⟩:ByteArray),(⟨#[]⟩:ByteArray),0,false):=by unfold takeNL;rw[if_neg (by omega)]
  rw[e]
  constructor
  ·unfold spec_TakeN.f
   rw[specCurOk_is t at_ h]
   simp only[Option.bind_some,if_true]
   rw[if_neg (by omega),hw,if_pos (by omega)]
  ·rw[implTakeN_gen _ _ _ (implCurOk_is t at_ h),hw,within_is,Option.bind_some]
   rw[decide_eq_false (show ¬(n:Int)≤((t.length-at_:Nat):Int)by omega),Bool.and_false,if_neg Bool.false_ne_true]
theorem grTakeN_empty:impl_TakeN.f (⟨#[]⟩:ByteArray) 0 4=some ((⟨#[]⟩:ByteArray),(⟨#[]⟩:ByteArray),0,false):=by
 have:=implTakeN_is [] 0 4 (Nat.le_refl _) (by simp) (by omega)
 simpa [takeNL,mkB]using this
theorem names4 (i:Nat) (h:i<4): ∃k:List UInt8,rdOf ByteArray.empty ([(⟨#[119,97,114,99,45,116,121,112,101]⟩:ByteArray),(⟨#[119,97,114,99,45,114,101,99,111,114,100,45,105,100]⟩:ByteArray),(⟨#[119,97,114,99,45,100,97,116,101]⟩:ByteArray),(⟨#[99,111,110,116,101,110,116,45,108,101,110,103,116,104]⟩:ByteArray)]:List ByteArray) (i:Int)=mkB k∧([kT,kI,kD,kL]:List (List UInt8))[i]?=some k:=by
 match i,h with
 |0,_=>exact⟨kT,rfl,rfl⟩
 |1,_=>exact⟨kI,rfl,rfl⟩
 |2,_=>exact⟨kD,rfl,rfl⟩
 |3,_=>exact⟨kL,rfl,rfl⟩
abbrev n4:List ByteArray:= [(⟨#[119,97,114,99,45,116,121,112,101]⟩:ByteArray),(⟨#[119,97,114,99,45,114,101,99,111,114,100,45,105,100]⟩:ByteArray),(⟨#[119,97,114,99,45,100,97,116,101]⟩:ByteArray),(⟨#[99,111,110,116,101,110,116,45,108,101,110,103,116,104]⟩:ByteArray)]
theorem l1_step (len:Int) (ns:List ByteArray) (t:ByteArray) (a:Int) (i:Nat) (hi:i<4) (k4:List UInt8) (hk:rdOf ByteArray.empty n4 (i:Int)=mkB k4) {r:GrR} (hr:if cN ns k4=1 then Ev (fun k=>impl_grammar.l1 k len ns n4 4 ((i+1:Nat):Int) t a) r else r=((⟨#[]⟩:ByteArray),0,false)):
  Ev (fun k=>impl_grammar.l1 k len ns n4 4 (i:Int) t a) r:=by
 refine Ev.step (f:=fun k=>if cN ns k4=1 then impl_grammar.l1 k len ns n4 4 ((i+1:Nat):Int) t a else some ((⟨#[]⟩:ByteArray),0,false)) (fun k=>?_) ?_
 ·simp only[impl_grammar.l1]
  rw[if_pos (by omega),if_pos (by omega),if_pos (show(i:Int)<((n4.length:Nat):Int)by show(i:Int)<4;omega),hk,wrap_id (by omega) (by omega)]
  rfl
 ·by_cases h:cN ns k4=1
  ·rw[if_pos h]at hr;simp only[if_pos h];exact hr
  ·rw[if_neg h]at hr;subst hr;simp only[if_neg h];exact Ev.now _
theorem l1_all (len:Int) (ns:List ByteArray) (t:ByteArray) (a:Int) {r:GrR} (hr:if(cN ns kT=1∧cN ns kI=1∧cN ns kD=1∧cN ns kL=1)then Ev (fun k=>impl_grammar.l1 k len ns n4 4 4 t a) r else r=((⟨#[]⟩:ByteArray),0,false)):
  Ev (fun k=>impl_grammar.l1 k len ns n4 4 0 t a) r:=by
 have s0:=@l1_step len ns t a 0 (by omega) kT rfl r
 have s1:=@l1_step len ns t a 1 (by omega) kI rfl r
 have s2:=@l1_step len ns t a 2 (by omega) kD rfl r
 have s3:=@l1_step len ns t a 3 (by omega) kL rfl r
 by_cases h0:cN ns kT=1
 ·by_cases h1:cN ns kI=1
  ·by_cases h2:cN ns kD=1
   ·by_cases h3:cN ns kL=1
    ·rw[if_pos ⟨h0,h1,h2,h3⟩]at hr
     rw[if_pos h0]at s0;rw[if_pos h1]at s1;rw[if_pos h2]at s2;rw[if_pos h3]at s3
     exact s0 (s1 (s2 (s3 hr)))
    ·rw[if_neg (fun h=>h3 h.2.2.2)]at hr
     rw[if_pos h0]at s0;rw[if_pos h1]at s1;rw[if_pos h2]at s2;rw[if_neg h3]at s3
     exact s0 (s1 (s2 (s3 hr)))
   ·rw[if_neg (fun h=>h2 h.2.2.1)]at hr
    rw[if_pos h0]at s0;rw[if_pos h1]at s1;rw[if_neg h2]at s2
    exact s0 (s1 (s2 hr))
  ·rw[if_neg (fun h=>h1 h.2.1)]at hr
   rw[if_pos h0]at s0;rw[if_neg h1]at s1
   exact s0 (s1 hr)
 ·rw[if_neg (fun h=>h0 h.1)]at hr
  rw[if_neg h0]at s0
  exact s0 hr
theorem end_both (t:List UInt8) (hl:t.length≤1048576) (o:ByteArray) (ob:Int) (ns:List ByteArray) (len nx at_:Nat) (hlen:len≤999999999999999) (hn:nx≤t.length) (ha:at_≤nx):
  ∃rs ri:GrR,Ev (fun k=>if(rd (cs4 ns) 0)=1 then(if 1<((cs4 ns).length:Int)then(if(rd (cs4 ns) 1)=1 then(if 2<((cs4 ns).length:Int)then(if(rd (cs4 ns) 2)=1 then(if 3<((cs4 ns).length:Int)then(spec_l8loose.j4 k (len:Int) ((rd (cs4 ns) 3)!=1) o ob (mkB t) (nx:Int))else(none))else(spec_l8loose.j4 k (len:Int) true o ob (mkB t) (nx:Int)))else(none))else(spec_l8loose.j4 k (len:Int) true o ob (mkB t) (nx:Int)))else(none))else(spec_l8loose.j4 k (len:Int) true o ob (mkB t) (nx:Int))) rs∧Ev (fun k=>impl_grammar.l1 k (len:Int) ns n4 4 0 (mkB t) (nx:Int)) ri∧GRel t at_ rs ri:=by
 have r0:rd (cs4 ns) 0=cN ns kT:=rfl
 have r1:rd (cs4 ns) 1=cN ns kI:=rfl
 have r2:rd (cs4 ns) 2=cN ns kD:=rfl
 have r3:rd (cs4 ns) 3=cN ns kL:=rfl
 have lc:((cs4 ns).length:Int)=4:=rfl
 simp only[r0,r1,r2,r3,lc,if_pos (show(1:Int)<4 by decide),if_pos (show(2:Int)<4 by decide),if_pos (show(3:Int)<4 by decide)]
 have hj:Ev (fun k=>spec_l8loose.j4 k (len:Int) true o ob (mkB t) (nx:Int)) (o,ob,false):=Ev.step (f:=fun _=>some (o,ob,false)) (fun k=>by simp only[spec_l8loose.j4,if_true]) (Ev.now _)
 by_cases hall:cN ns kT=1∧cN ns kI=1∧cN ns kD=1∧cN ns kL=1
 ·obtain⟨h0,h1,h2,h3⟩:=hall
  simp only[if_pos h0,if_pos h1,if_pos h2]
  rw[show((cN ns kL)!=1)=false by rw[h3];rfl]
  obtain⟨eS,eI⟩:=grTakeN t nx len hn hl hlen
  have hS: ∀r,Ev (fun k=>(spec_TakeN.f (mkB t) (nx:Int) (len:Int)).bind fun bt218=>(if bt218.2.2.2=true then((spec_TakeN.f bt218.2.1 bt218.2.2.1 4).bind fun bt222=>(if bt222.2.2.2=true then(some (bt222.2.1,bt222.2.2.1,(bt222.1.toList==([13,10,13,10]:List UInt8))))else(some (bt222.2.1,bt222.2.2.1,false))))else(some (o,ob,false)))) r→Ev (fun k=>spec_l8loose.j4 k (len:Int) false o ob (mkB t) (nx:Int)) r:=fun r hr=>Ev.step (fun k=>by simp only[spec_l8loose.j4,Bool.false_eq_true,if_false]) hr
  have hI: ∀r:GrR,Ev (fun k=>(impl_TakeN.f (mkB t) (nx:Int) (len:Int)).bind fun bt328=>((impl_TakeN.f bt328.2.1 bt328.2.2.1 4).bind fun bt332=>(if bt328.2.2.2=true then(if bt332.2.2.2=true then(some (bt332.2.1,bt332.2.2.1,(bt332.1.toList==([13,10,13,10]:List UInt8))))else(some (bt332.2.1,bt332.2.2.1,false)))else(some (bt332.2.1,bt332.2.2.1,false))))) r→Ev (fun k=>impl_grammar.l1 k (len:Int) ns n4 4 0 (mkB t) (nx:Int)) r:=fun r hr=>l1_all _ _ _ _ (by rw[if_pos ⟨h0,h1,h2,h3⟩];exact Ev.step (fun k=>by simp only[impl_grammar.l1];rw[if_neg (by decide)]) hr)
  simp only[eS,Option.bind_some]at hS
  simp only[eI,Option.bind_some]at hI
  by_cases hf:len≤t.length-nx
  ·have et:takeNL t nx len=(mkB ((t.drop nx).take len),mkB t,((nx+len:Nat):Int),true):=by unfold takeNL;rw[if_pos hf]
   obtain⟨eS2,eI2⟩:=grTakeN t (nx+len) 4 (by omega) hl (by omega)
   have e4:((4:Nat):Int)=4:=rfl
   rw[e4]at eS2 eI2
   rw[et]at hS hI
   simp only[if_true,eS2,eI2,Option.bind_some]at hS hI
   by_cases hf2:4≤t.length-(nx+len)
   ·have et2:takeNL t (nx+len) 4=(mkB ((t.drop (nx+len)).take 4),mkB t,((nx+len+4:Nat):Int),true):=by unfold takeNL;rw[if_pos hf2]
    rw[et2]at hS hI
    simp only[if_true]at hS hI
    refine⟨_,_,hS _ (Ev.now _),hI _ (Ev.now _),rfl,fun hh=>⟨rfl,nx+len+4,?_,by omega,by omega⟩⟩
    simp only at hh
    rw[hh]
   ·have et2:takeNL t (nx+len) 4=((⟨#[]⟩:ByteArray),(⟨#[]⟩:ByteArray),0,false):=by unfold takeNL;rw[if_neg hf2]
    rw[et2]at hS hI
    simp only[Bool.false_eq_true,if_false]at hS hI
    exact⟨_,_,hS _ (Ev.now _),hI _ (Ev.now _),GRel.no _ _ _ _ _ _⟩
  ·have et:takeNL t nx len=((⟨#[]⟩:ByteArray),(⟨#[]⟩:ByteArray),0,false):=by unfold takeNL;rw[if_neg hf]
   rw[et]at hS hI
   simp only[Bool.false_eq_true,if_false,grTakeN_empty,Option.bind_some]at hS hI
   exact⟨_,_,hS _ (Ev.now _),hI _ (Ev.now _),GRel.no _ _ _ _ _ _⟩
 ·refine⟨(o,ob,false),((⟨#[]⟩:ByteArray),0,false),?_,l1_all _ _ _ _ (by rw[if_neg hall]),GRel.no _ _ _ _ _ _⟩
  by_cases h0:cN ns kT=1
  ·by_cases h1:cN ns kI=1
   ·by_cases h2:cN ns kD=1
    ·have h3: ¬cN ns kL=1:=fun h3=>hall ⟨h0,h1,h2,h3⟩
     simp only[if_pos h0,if_pos h1,if_pos h2]
     rw[show((cN ns kL)!=1)=true by simpa using h3]
     exact hj
    ·simp only[if_pos h0,if_pos h1,if_neg h2];exact hj
   ·simp only[if_pos h0,if_neg h1];exact hj
  ·simp only[if_neg h0];exact hj
theorem GRel.mono {t:List UInt8} {a b:Nat} {rs ri:GrR} (h:a≤b) (g:GRel t b rs ri):GRel t a rs ri:=⟨g.1,fun hh=>by obtain⟨e,n,h1,h2,h3⟩:=g.2 hh;exact⟨e,n,h1,by omega,h3⟩⟩
theorem cntN_one (l:List ByteArray) (x s:ByteArray):cntN (l++ [x]) s=if x=s then cntN l s+1 else cntN l s:=by
 unfold cntN;rw[List.filter_append,List.length_append]
 by_cases h:x=s<;>simp[h]
theorem cN_one (l:List ByteArray) (u k:List UInt8):cN (l++ [mkB u]) k=if u=k then cN l k+1 else cN l k:=by
 unfold cN;rw[cntN_one]
 by_cases h:u=k
 ·rw[if_pos (by rw[h]),if_pos h];omega
 ·rw[if_neg (fun e=>h (mkB_inj e)),if_neg h]
theorem cN_le (l:List ByteArray) (k:List UInt8):0≤cN l k∧cN l k≤(l.length:Int):=by
 unfold cN;have:cntN l (mkB k)≤l.length:=List.length_filter_le _ _;omega
theorem cs4_other (l:List ByteArray) (u:List UInt8) (h0: ¬u=kT) (h1: ¬u=kI) (h2: ¬u=kD) (h3: ¬u=kL):cs4 (l++ [mkB u])=cs4 l:=by
 unfold cs4;rw[cN_one,cN_one,cN_one,cN_one,if_neg h0,if_neg h1,if_neg h2,if_neg h3]
theorem cs4_T (l:List ByteArray) (h:l.length≤1048576):(cs4 l).set (0:Int).toNat (wrap64 ((rd (cs4 l) 0)+1))=cs4 (l++ [mkB kT]):=by
 have e:rd (cs4 l) 0=cN l kT:=rfl
 have:=cN_le l kT
 rw[e,wrap_id (by omega) (by omega)]
 unfold cs4;rw[cN_one,cN_one,cN_one,cN_one,if_pos rfl,if_neg (by decide),if_neg (by decide),if_neg (by decide)];rfl
theorem cs4_I (l:List ByteArray) (h:l.length≤1048576):(cs4 l).set (1:Int).toNat (wrap64 ((rd (cs4 l) 1)+1))=cs4 (l++ [mkB kI]):=by
 have e:rd (cs4 l) 1=cN l kI:=rfl
 have:=cN_le l kI
 rw[e,wrap_id (by omega) (by omega)]
 unfold cs4;rw[cN_one,cN_one,cN_one,cN_one,if_neg (by decide),if_pos rfl,if_neg (by decide),if_neg (by decide)];rfl
theorem cs4_D (l:List ByteArray) (h:l.length≤1048576):(cs4 l).set (2:Int).toNat (wrap64 ((rd (cs4 l) 2)+1))=cs4 (l++ [mkB kD]):=by
 have e:rd (cs4 l) 2=cN l kD:=rfl
 have:=cN_le l kD
 rw[e,wrap_id (by omega) (by omega)]
 unfold cs4;rw[cN_one,cN_one,cN_one,cN_one,if_neg (by decide),if_neg (by decide),if_pos rfl,if_neg (by decide)];rfl
theorem cs4_L (l:List ByteArray) (h:l.length≤1048576):(cs4 l).set (3:Int).toNat (wrap64 ((rd (cs4 l) 3)+1))=cs4 (l++ [mkB kL]):=by
 have e:rd (cs4 l) 3=cN l kL:=rfl
 have:=cN_le l kL
 rw[e,wrap_id (by omega) (by omega)]
 unfold cs4;rw[cN_one,cN_one,cN_one,cN_one,if_neg (by decide),if_neg (by decide),if_neg (by decide),if_pos rfl];rfl
theorem rdec_nat (l:List UInt8):(rdec l).2=true→ ∃n:Nat,n≤999999999999999∧rdec l=((n:Int),true):=by
 unfold rdec
 by_cases h:Lib.decDigits (dval l)=l∧l.length≤15
 ·rw[if_pos h];intro _;exact⟨dval l,dval_lt15 l (by have:=(dval_dec (dval l)).2.1;rwa [h.1]at this) h.2,rfl⟩
 ·rw[if_neg h];intro h;exact absurd h Bool.false_ne_true
def Both (t:List UInt8) (at_:Nat) (o:ByteArray) (ob:Int) (nx:Nat) (ns:List ByteArray) (len:Nat):Prop:= ∃rs ri:GrR,Ev (fun k=>spec_l8loose.l0 k (cs4 ns) (len:Int) o ob (mkB t) (nx:Int)) rs∧Ev (fun k=>impl_grammar.l0 k (len:Int) ns (mkB t) (nx:Int)) ri∧GRel t at_ rs ri
def swS (p:Bool) (ns:List ByteArray) (len:Int) (v u o:ByteArray) (ob:Int) (t:ByteArray) (nx:Int) (k:Nat):Option GrR:=(if u.toList=([119,97,114,99,45,116,121,112,101]:List UInt8)then(if p=true then((spec_Token.f k v).bind fun t189=>(if 0<((cs4 ns).length:Int)then(if t189=true then(spec_l8loose.l0 k ((cs4 ns).set (0:Int).toNat (wrap64 ((rd (cs4 ns) 0)+1))) len o ob t nx)else(some (o,ob,false)))else(none)))else(if 0<((cs4 ns).length:Int)then(some (o,ob,false))else(none)))else(if u.toList=([119,97,114,99,45,114,101,99,111,114,100,45,105,100]:List UInt8)then(if p=true then(if(v.size:Int)≥3 then(if 0<(v.size:Int)then(if(bt v 0)=60 then(if 0≤(wrap64 ((v.size:Int)-1))then(if(wrap64 ((v.size:Int)-1))<(v.size:Int)then(if 1<((cs4 ns).length:Int)then(if((bt v (wrap64 ((v.size:Int)-1)))=62)then(spec_l8loose.l0 k ((cs4 ns).set (1:Int).toNat (wrap64 ((rd (cs4 ns) 1)+1))) len o ob t nx)else(some (o,ob,false)))else(none))else(none))else(none))else(if 1<((cs4 ns).length:Int)then(some (o,ob,false))else(none)))else(none))else(if 1<((cs4 ns).length:Int)then(some (o,ob,false))else(none)))else(if 1<((cs4 ns).length:Int)then(some (o,ob,false))else(none)))else(if u.toList=([119,97,114,99,45,100,97,116,101]:List UInt8)then((spec_ReadWarcDate.f k v).bind fun bt202=>(if p=true then(if 2<((cs4 ns).length:Int)then(if bt202.2=true then(spec_l8loose.l0 k ((cs4 ns).set (2:Int).toNat (wrap64 ((rd (cs4 ns) 2)+1))) len o ob t nx)else(some (o,ob,false)))else(none))else(if 2<((cs4 ns).length:Int)then(some (o,ob,false))else(none))))else(if u.toList=([99,111,110,116,101,110,116,45,108,101,110,103,116,104]:List UInt8)then((spec_ReadDec.f k v).bind fun bt208=>(if p=true then(if 3<((cs4 ns).length:Int)then(if bt208.2=true then(spec_l8loose.l0 k ((cs4 ns).set (3:Int).toNat (wrap64 ((rd (cs4 ns) 3)+1))) bt208.1 o ob t nx)else(some (o,ob,false)))else(none))else(if 3<((cs4 ns).length:Int)then(some (o,ob,false))else(none))))else(if p=true then(spec_l8loose.l0 k (cs4 ns) len o ob t nx)else(some (o,ob,false)))))))
def swI (fd:Bool) (ns:List ByteArray) (len:Int) (v u t:ByteArray) (nx:Int) (k:Nat):Option GrR:=(if u.toList=([119,97,114,99,45,116,121,112,101]:List UInt8)then((impl_Token.f k v).bind fun t318=>(if t318=true then(impl_grammar.l0 k len ns t nx)else(some ((⟨#[]⟩:ByteArray),0,false))))else(if u.toList=([119,97,114,99,45,114,101,99,111,114,100,45,105,100]:List UInt8)then(if(v.size:Int)≥3 then(if 0<(v.size:Int)then(if(bt v 0)=60 then(if 0≤(wrap64 ((v.size:Int)-1))then(if(wrap64 ((v.size:Int)-1))<(v.size:Int)then(if((bt v (wrap64 ((v.size:Int)-1)))=62)then(impl_grammar.l0 k len ns t nx)else(some ((⟨#[]⟩:ByteArray),0,false)))else(none))else(none))else(some ((⟨#[]⟩:ByteArray),0,false)))else(none))else(some ((⟨#[]⟩:ByteArray),0,false)))else(if u.toList=([119,97,114,99,45,100,97,116,101]:List UInt8)then((impl_ReadWarcDate.f k v).bind fun bt319=>(if bt319.2=true then(impl_grammar.l0 k len ns t nx)else(some ((⟨#[]⟩:ByteArray),0,false))))else(if u.toList=([99,111,110,116,101,110,116,45,108,101,110,103,116,104]:List UInt8)then((impl_ReadDec.f v).bind fun bt321=>(if bt321.2=true then(impl_grammar.l0 k bt321.1 ns t nx)else(some ((⟨#[]⟩:ByteArray),0,false))))else(if fd=true then(impl_grammar.l0 k len ns t nx)else(some ((⟨#[]⟩:ByteArray),0,false)))))))
theorem sw_true (t:List UInt8) (at_:Nat) (o:ByteArray) (ob:Int) (nx:Nat) (ns:List ByteArray) (len:Nat) (vl ul:List UInt8) (hv:vl.length≤300) (hns:ns.length≤1048576) (hlen:len≤999999999999999)
  (ih: ∀len':Nat,len'≤999999999999999→Both t at_ o ob nx (ns++ [mkB ul]) len'):
  ∃rs ri:GrR,Ev (swS true ns (len:Int) (mkB vl) (mkB ul) o ob (mkB t) (nx:Int)) rs∧Ev (swI true (ns++ [mkB ul]) (len:Int) (mkB vl) (mkB ul) (mkB t) (nx:Int)) ri∧GRel t at_ rs ri:=by
 have lc:((cs4 ns).length:Int)=4:=rfl
 have no: ∃rs ri:GrR,Ev (fun _=>some (o,ob,false)) rs∧Ev (fun _=>some ((⟨#[]⟩:ByteArray),(0:Int),false)) ri∧GRel t at_ rs ri:=⟨_,_,Ev.now _,Ev.now _,GRel.no _ _ _ _ _ _⟩
 unfold swS swI
 simp only[lc,if_pos (show(0:Int)<4 by decide),if_pos (show(1:Int)<4 by decide),if_pos (show(2:Int)<4 by decide),if_pos (show(3:Int)<4 by decide),if_true,toList_mk]
 by_cases h0:ul=kT
 ·subst h0
  simp only[kT,if_true]
  have hS:=specToken_is (mkB vl)
  have hI:=implToken_is (mkB vl)
  rw[←kT,cs4_T ns hns]
  cases hb:tokenL (bl (mkB vl))
  ·rw[hb]at hS hI
   obtain⟨rs,ri,a,b,c⟩:=no
   exact⟨rs,ri,hS.bind (by simpa using a),hI.bind (by simpa using b),c⟩
  ·rw[hb]at hS hI
   obtain⟨rs,ri,a,b,c⟩:=ih len hlen
   exact⟨rs,ri,hS.bind (by simpa using a),hI.bind (by simpa using b),c⟩
 by_cases h1:ul=kI
 ·subst h1
  simp only[kI,if_true,if_neg (show ¬([119,97,114,99,45,114,101,99,111,114,100,45,105,100]:List UInt8)= [119,97,114,99,45,116,121,112,101]by decide)]
  rw[←kI,cs4_I ns hns]
  by_cases c1:((mkB vl).size:Int)≥3
  ·have e1:wrap64 (((mkB vl).size:Int)-1)=((mkB vl).size:Int)-1:=by rw[size_mk]at c1 ⊢;exact wrap_id (by omega) (by omega)
   rw[e1]
   simp only[if_pos c1,if_pos (show 0<((mkB vl).size:Int)by omega),if_pos (show 0≤((mkB vl).size:Int)-1 by omega),if_pos (show((mkB vl).size:Int)-1<((mkB vl).size:Int)by omega)]
   by_cases c2:bt (mkB vl) 0=60
   ·simp only[if_pos c2]
    by_cases c3:bt (mkB vl) (((mkB vl).size:Int)-1)=62
    ·simp only[if_pos c3];exact ih len hlen
    ·simp only[if_neg c3];exact no
   ·simp only[if_neg c2];exact no
  ·simp only[if_neg c1];exact no
 by_cases h2:ul=kD
 ·subst h2
  simp only[kD,if_true,if_neg (show ¬([119,97,114,99,45,100,97,116,101]:List UInt8)= [119,97,114,99,45,116,121,112,101]by decide),if_neg (show ¬([119,97,114,99,45,100,97,116,101]:List UInt8)= [119,97,114,99,45,114,101,99,111,114,100,45,105,100]by decide)]
  rw[←kD,cs4_D ns hns]
  obtain⟨w,hS,hI⟩:=readWD_both vl (by omega)
  by_cases c:w.2=true
  ·obtain⟨rs,ri,a,b,g⟩:=ih len hlen
   exact⟨rs,ri,hS.bind (by simpa only[if_pos c]using a),hI.bind (by simpa only[if_pos c]using b),g⟩
  ·obtain⟨rs,ri,a,b,g⟩:=no
   exact⟨rs,ri,hS.bind (by simpa only[if_neg c]using a),hI.bind (by simpa only[if_neg c]using b),g⟩
 by_cases h3:ul=kL
 ·subst h3
  simp only[kL,if_true,if_neg (show ¬([99,111,110,116,101,110,116,45,108,101,110,103,116,104]:List UInt8)= [119,97,114,99,45,116,121,112,101]by decide),if_neg (show ¬([99,111,110,116,101,110,116,45,108,101,110,103,116,104]:List UInt8)= [119,97,114,99,45,114,101,99,111,114,100,45,105,100]by decide),if_neg (show ¬([99,111,110,116,101,110,116,45,108,101,110,103,116,104]:List UInt8)= [119,97,114,99,45,100,97,116,101]by decide)]
  rw[←kL,cs4_L ns hns]
  have hS:=specReadDec_is vl (by omega)
  rw[implReadDec_is vl (by omega)]
  simp only[Option.bind_some]
  by_cases c:(rdec vl).2=true
  ·obtain⟨n,hn,e⟩:=rdec_nat vl c
   rw[e]at hS;rw[e]
   obtain⟨rs,ri,a,b,g⟩:=ih n hn
   exact⟨rs,ri,hS.bind (by simpa using a),by simpa using b,g⟩
  ·obtain⟨rs,ri,a,b,g⟩:=no
   exact⟨rs,ri,hS.bind (by simpa only[if_neg c]using a),by simpa only[if_neg c]using b,g⟩
 ·have e0: ¬ul=([119,97,114,99,45,116,121,112,101]:List UInt8):=h0
  have e1: ¬ul=([119,97,114,99,45,114,101,99,111,114,100,45,105,100]:List UInt8):=h1
  have e2: ¬ul=([119,97,114,99,45,100,97,116,101]:List UInt8):=h2
  have e3: ¬ul=([99,111,110,116,101,110,116,45,108,101,110,103,116,104]:List UInt8):=h3
  simp only[if_neg e0,if_neg e1,if_neg e2,if_neg e3]
  have:=ih len hlen
  unfold Both at this
  rw[cs4_other ns ul h0 h1 h2 h3]at this
  exact this
theorem sw_false (t o:ByteArray) (ob nx:Int) (ns:List ByteArray) (len:Int) (vl ul:List UInt8) (hv:vl.length≤300):
  Ev (swS false ns len (mkB vl) (mkB ul) o ob t nx) (o,ob,false):=by
 have lc:((cs4 ns).length:Int)=4:=rfl
 unfold swS
 simp only[lc,if_pos (show(0:Int)<4 by decide),if_pos (show(1:Int)<4 by decide),if_pos (show(2:Int)<4 by decide),if_pos (show(3:Int)<4 by decide),Bool.false_eq_true,if_false,toList_mk]
 by_cases h0:ul=([119,97,114,99,45,116,121,112,101]:List UInt8)
 ·simp only[if_pos h0];exact Ev.now _
 by_cases h1:ul=([119,97,114,99,45,114,101,99,111,114,100,45,105,100]:List UInt8)
 ·simp only[if_neg h0,if_pos h1];exact Ev.now _
 by_cases h2:ul=([119,97,114,99,45,100,97,116,101]:List UInt8)
 ·simp only[if_neg h0,if_neg h1,if_pos h2]
  obtain⟨w,hS,hI⟩:=readWD_both vl (by omega)
  exact hS.bind (Ev.now _)
 by_cases h3:ul=([99,111,110,116,101,110,116,45,108,101,110,103,116,104]:List UInt8)
 ·simp only[if_neg h0,if_neg h1,if_neg h2,if_pos h3]
  exact(specReadDec_is vl (by omega)).bind (Ev.now _)
 ·simp only[if_neg h0,if_neg h1,if_neg h2,if_neg h3];exact Ev.now _
theorem trimB_le (l:List UInt8):(trimB l).length≤l.length:=by
 unfold trimB
 have a:=(List.dropWhile_sublist (l:=l) wh).length_le
 have b:=(List.dropWhile_sublist (l:=(l.dropWhile wh).reverse) wh).length_le
 rw[List.length_reverse]at b ⊢;omega
theorem name_both (t:List UInt8) (at_:Nat) (o:ByteArray) (ob:Int) (nx:Nat) (ns:List ByteArray) (len:Nat) (l:List UInt8) (hl:l.length≤300) (hne: ¬l= []) (hns:ns.length≤1048576) (hlen:len≤999999999999999)
  (ih: ∀(x:ByteArray) (len':Nat),len'≤999999999999999→Both t at_ o ob nx (ns++ [x]) len'):
  ∃rs ri:GrR,Ev (fun k=>spec_l8loose.j2 k (cs4 ns) (len:Int) (mkB l) false o ob (mkB t) (nx:Int)) rs∧Ev (fun k=>impl_grammar.j2 k (len:Int) ns (mkB l) false (mkB t) (nx:Int)) ri∧GRel t at_ rs ri:=by
 have hSt: ∀r,Ev (fun k=>(spec_l6upto.f k (mkB l) 58).bind fun t184=>(if(t184.size:Int)=((mkB l).size:Int)then(spec_l8loose.j3 k (cs4 ns) (len:Int) (mkB l) t184 true o ob (mkB t) (nx:Int))else((spec_Token.f k t184).bind fun t185=>(spec_l8loose.j3 k (cs4 ns) (len:Int) (mkB l) t184 (!t185) o ob (mkB t) (nx:Int))))) r→Ev (fun k=>spec_l8loose.j2 k (cs4 ns) (len:Int) (mkB l) false o ob (mkB t) (nx:Int)) r:=fun r hr=>Ev.step (fun k=>by simp only[spec_l8loose.j2,Bool.false_eq_true,if_false,toList_mk];rw[if_neg hne]) hr
 have hIt: ∀r:GrR,Ev (fun k=>(strings_Cut.f (mkB l) (⟨#[58]⟩:ByteArray)).bind fun bt308=>((impl_Trim.f k bt308.2.1).bind fun t311=>(if bt308.2.2=true then((impl_Token.f k bt308.1).bind fun t312=>(if t312=true then((impl_all__impl_isPlain.f k t311).bind fun t313=>(impl_grammar.j3 k (len:Int) ns bt308.1 t311 bt308.2.2 (!t313) (mkB t) (nx:Int)))else(impl_grammar.j3 k (len:Int) ns bt308.1 t311 bt308.2.2 true (mkB t) (nx:Int))))else(impl_grammar.j3 k (len:Int) ns bt308.1 t311 bt308.2.2 true (mkB t) (nx:Int))))) r→Ev (fun k=>impl_grammar.j2 k (len:Int) ns (mkB l) false (mkB t) (nx:Int)) r:=fun r hr=>Ev.step (fun k=>by simp only[impl_grammar.j2,Bool.false_eq_true,if_false,toList_mk];rw[if_neg hne]) hr
 have hup:=upto_is 58 (mkB l) (by rw[size_mk];omega)
 rw[bl_mk]at hup
 have hfS: ∀q,Ev (fun k=>spec_l8loose.j3 k (cs4 ns) (len:Int) (mkB l) q true o ob (mkB t) (nx:Int)) (o,ob,false):=fun q=>Ev.step (f:=fun _=>some (o,ob,false)) (fun k=>by simp only[spec_l8loose.j3,if_true]) (Ev.now _)
 have hfI: ∀q v fd,Ev (fun k=>impl_grammar.j3 k (len:Int) ns q v fd true (mkB t) (nx:Int)) ((⟨#[]⟩:ByteArray),(0:Int),false):=fun q v fd=>Ev.step (f:=fun _=>some ((⟨#[]⟩:ByteArray),(0:Int),false)) (fun k=>by simp only[impl_grammar.j3,if_true]) (Ev.now _)
 have hcut:=stringsCut_is 58 l (by omega)
 rw[hcut]at hIt
 simp only[Option.bind_some]at hIt
 have hcl:=cutB_len 58 l
 have hTr:=implTrim_is (mkB (cutB 58 l).2.1) (by rw[size_mk];omega)
 rw[bl_mk]at hTr
 rcases cutB_found 58 l with⟨h1,h2,h3⟩|⟨h1,h2⟩
 ·have hTk:=specToken_is (mkB (cutB 58 l).1)
  have hTi:=implToken_is (mkB (cutB 58 l).1)
  rw[bl_mk]at hTk hTi
  cases hb:tokenL (cutB 58 l).1
  ·rw[hb]at hTk hTi
   refine⟨_,_,hSt _ (hup.bind ?_),hIt _ (hTr.bind ?_),GRel.no _ _ o ob (⟨#[]⟩:ByteArray) 0⟩
   ·rw[size_mk,size_mk];simp only[if_neg (show ¬(((cutB 58 l).1.length:Nat):Int)=(l.length:Int)by omega)]
    exact hTk.bind (by simpa using hfS _)
   ·simp only[if_pos h1]
    exact hTi.bind (by simpa using hfI _ _ _)
  ·rw[hb]at hTk hTi
   have hpS:=specL5plain_is (mkB (trimB (cutB 58 l).2.1)) (by rw[size_mk];have:=trimB_le (cutB 58 l).2.1;omega)
   have hpI:=implAllPlain_is (mkB (trimB (cutB 58 l).2.1)) (by rw[size_mk];have:=trimB_le (cutB 58 l).2.1;omega)
   rw[bl_mk]at hpS hpI
   have hTs:=specTrim_is (mkB (cutB 58 l).2.1) (by rw[size_mk];omega)
   rw[bl_mk]at hTs
   have e1:wrap64 (((mkB (cutB 58 l).1).size:Int)+1)=(((cutB 58 l).1.length+1:Nat):Int):=by rw[size_mk,wrap_id (by omega) (by omega)];omega
   have e2:(mkB l).extract ((cutB 58 l).1.length+1) (mkB l).size=mkB (cutB 58 l).2.1:=by rw[extract_mk,size_mk,h3,List.take_of_length_le (by omega)]
   have hj3: ∀r,Ev (swS ((trimB (cutB 58 l).2.1).all plB) ns (len:Int) (mkB (trimB (cutB 58 l).2.1)) (mkB (lowL (cutB 58 l).1)) o ob (mkB t) (nx:Int)) r→Ev (fun k=>spec_l8loose.j3 k (cs4 ns) (len:Int) (mkB l) (mkB (cutB 58 l).1) false o ob (mkB t) (nx:Int)) r:=by
    intro r hr
    refine Ev.step (fun k=>spec_l8loose.j3.eq_2 ..) ?_
    simp only[Bool.false_eq_true,if_false,e1,Int.toNat_natCast,e2,specFoldL _ (show(cutB 58 l).1.length≤1048576 by omega),Option.bind_some,if_pos (show(0:Int)≤(((cutB 58 l).1.length+1:Nat):Int)by omega),if_pos (show(((cutB 58 l).1.length+1:Nat):Int)≤((mkB l).size:Int)by rw[size_mk];omega)]
    exact hTs.bind (hpS.bind hr)
   have hi3: ∀r:GrR,Ev (swI true (ns++ [mkB (lowL (cutB 58 l).1)]) (len:Int) (mkB (trimB (cutB 58 l).2.1)) (mkB (lowL (cutB 58 l).1)) (mkB t) (nx:Int)) r→Ev (fun k=>impl_grammar.j3 k (len:Int) ns (mkB (cutB 58 l).1) (mkB (trimB (cutB 58 l).2.1)) true false (mkB t) (nx:Int)) r:=by
    intro r hr
    refine Ev.step (fun k=>impl_grammar.j3.eq_2 ..) ?_
    simp only[Bool.false_eq_true,if_false,implFoldL _ (show(cutB 58 l).1.length≤1048576 by omega),Option.bind_some,if_pos (show ns.length<8796093022208 by omega)]
    exact hr
   have hne2: ¬(((cutB 58 l).1.length:Nat):Int)=(l.length:Int):=by omega
   have hvl:(trimB (cutB 58 l).2.1).length≤300:=by have:=trimB_le (cutB 58 l).2.1;omega
   cases hp:(trimB (cutB 58 l).2.1).all plB
   ·rw[hp]at hpI hj3
    refine⟨_,_,hSt _ (hup.bind ?_),hIt _ (hTr.bind ?_),GRel.no _ _ o ob (⟨#[]⟩:ByteArray) 0⟩
    ·rw[size_mk,size_mk];simp only[if_neg hne2]
     exact hTk.bind (by simpa using hj3 _ (sw_false _ _ _ _ _ _ _ _ hvl))
    ·simp only[if_pos h1]
     exact hTi.bind (by simpa using hpI.bind (by simpa using hfI _ _ _))
   ·rw[hp]at hpI hj3
    obtain⟨rs,ri,a,b,g⟩:=sw_true t at_ o ob nx ns len (trimB (cutB 58 l).2.1) (lowL (cutB 58 l).1) hvl hns hlen (fun len' h=>ih _ len' h)
    refine⟨rs,ri,hSt _ (hup.bind ?_),hIt _ (hTr.bind ?_),g⟩
    ·rw[size_mk,size_mk];simp only[if_neg hne2]
     exact hTk.bind (by simpa using hj3 _ a)
    ·simp only[if_pos h1]
     exact hTi.bind (by simpa [h1]using hpI.bind (by simpa [h1]using hi3 _ b))
 ·refine⟨_,_,hSt _ (hup.bind ?_),hIt _ (hTr.bind ?_),GRel.no _ _ o ob (⟨#[]⟩:ByteArray) 0⟩
  ·rw[h2];simp only[if_true];exact hfS _
  ·simp only[h1,Bool.false_eq_true,if_false];exact hfI _ _ _
theorem loop_step (t:List UInt8) (hl:t.length≤1048576) (o:ByteArray) (ob:Int) (at_:Nat) (ns:List ByteArray) (len:Nat) (ha:at_≤t.length) (hns:ns.length≤at_) (hlen:len≤999999999999999)
  (ih: ∀(nx:Nat) (ns':List ByteArray) (len':Nat),at_+2≤nx→nx≤t.length→ns'.length≤nx→len'≤999999999999999→Both t nx o ob nx ns' len'):Both t at_ o ob at_ ns len:=by
 have hS:=specTakeLine_is t at_ ha (by omega)
 have hI:=implTakeLine_is t at_ ha (by omega)
 have fS: ∀l q a,Ev (fun k=>spec_l8loose.j2 k (cs4 ns) (len:Int) l true o ob q a) (o,ob,false):=fun l q a=>Ev.step (f:=fun _=>some (o,ob,false)) (fun k=>by simp only[spec_l8loose.j2,if_true]) (Ev.now _)
 have fI: ∀l q a,Ev (fun k=>impl_grammar.j2 k (len:Int) ns l true q a) ((⟨#[]⟩:ByteArray),(0:Int),false):=fun l q a=>Ev.step (f:=fun _=>some ((⟨#[]⟩:ByteArray),(0:Int),false)) (fun k=>by simp only[impl_grammar.j2,if_true]) (Ev.now _)
 have gS: ∀r,Ev (fun k=>if(takeLineL t at_).2.2.2=0 then spec_l8loose.j2 k (cs4 ns) (len:Int) (takeLineL t at_).1 (decide (((takeLineL t at_).1.size:Int)>300)) o ob (takeLineL t at_).2.1 (takeLineL t at_).2.2.1 else spec_l8loose.j2 k (cs4 ns) (len:Int) (takeLineL t at_).1 true o ob (takeLineL t at_).2.1 (takeLineL t at_).2.2.1) r→Ev (fun k=>spec_l8loose.l0 k (cs4 ns) (len:Int) o ob (mkB t) (at_:Int)) r:=fun r hr=>Ev.step (fun k=>spec_l8loose.l0.eq_2 ..) (hS.bind hr)
 have gI: ∀r:GrR,Ev (fun k=>if(takeLineL t at_).2.2.2=0 then impl_grammar.j2 k (len:Int) ns (takeLineL t at_).1 (decide (((takeLineL t at_).1.size:Int)>300)) (takeLineL t at_).2.1 (takeLineL t at_).2.2.1 else impl_grammar.j2 k (len:Int) ns (takeLineL t at_).1 true (takeLineL t at_).2.1 (takeLineL t at_).2.2.1) r→Ev (fun k=>impl_grammar.l0 k (len:Int) ns (mkB t) (at_:Int)) r:=fun r hr=>Ev.step (fun k=>impl_grammar.l0.eq_2 ..) (hI.bind hr)
 by_cases h0:(scanL (t.drop at_)).2=0
 ·have hn:=grScan_next ha h0
  rw[grTakeLine_ok h0]at gS gI
  simp only[if_true,size_mk]at gS gI
  by_cases hbig:(scanL (t.drop at_)).1.length>300
  ·rw[decide_eq_true (show(((scanL (t.drop at_)).1.length:Nat):Int)>300 by omega)]at gS gI
   exact⟨_,_,gS _ (fS _ _ _),gI _ (fI _ _ _),GRel.no _ _ _ _ _ _⟩
  ·rw[decide_eq_false (show ¬(((scanL (t.drop at_)).1.length:Nat):Int)>300 by omega)]at gS gI
   by_cases he:(scanL (t.drop at_)).1= []
   ·obtain⟨rs,ri,a,b,g⟩:=end_both t hl o ob ns len (at_+(scanL (t.drop at_)).1.length+2) at_ hlen hn (by omega)
    refine⟨rs,ri,gS _ (Ev.step (fun k=>spec_l8loose.j2.eq_2 ..) ?_),gI _ (Ev.step (fun k=>impl_grammar.j2.eq_2 ..) ?_),g⟩
    ·simp only[Bool.false_eq_true,if_false,toList_mk,if_pos he,if_pos (show(0:Int)<((cs4 ns).length:Int)from by show(0:Int)<4;decide)]
     exact a
    ·simp only[Bool.false_eq_true,if_false,toList_mk,if_pos he,Option.bind_some]
     exact b
   ·obtain⟨rs,ri,a,b,g⟩:=name_both t at_ o ob (at_+(scanL (t.drop at_)).1.length+2) ns len (scanL (t.drop at_)).1 (by omega) he (by omega) hlen (fun x len' h=>by
     obtain⟨rs,ri,a,b,g⟩:=ih (at_+(scanL (t.drop at_)).1.length+2) (ns++ [x]) len' (by omega) hn (by rw[List.length_append];simp;omega) h
     exact⟨rs,ri,a,b,g.mono (by omega)⟩)
    exact⟨rs,ri,gS _ a,gI _ b,g⟩
 ·rw[grTakeLine_no h0]at gS gI
  simp only[if_neg (show ¬(((scanL (t.drop at_)).2:Nat):Int)=0 by omega)]at gS gI
  exact⟨_,_,gS _ (fS _ _ _),gI _ (fI _ _ _),GRel.no _ _ _ _ _ _⟩
theorem loop_both (t:List UInt8) (hl:t.length≤1048576) (o:ByteArray) (ob:Int): ∀(m at_:Nat) (ns:List ByteArray) (len:Nat),t.length-at_≤m→at_≤t.length→ns.length≤at_→len≤999999999999999→Both t at_ o ob at_ ns len
 |0,at_,ns,len,hm,ha,hns,hlen=>loop_step t hl o ob at_ ns len ha hns hlen (fun nx ns' len' h1 h2 h3 h4=>by omega)
 |m+1,at_,ns,len,hm,ha,hns,hlen=>loop_step t hl o ob at_ ns len ha hns hlen (fun nx ns' len' h1 h2 h3 h4=>loop_both t hl o ob m nx ns' len' (by omega) h2 h3 h4)
theorem record_both (t:List UInt8) (hl:t.length≤1048576) (at_:Nat) (ha:at_≤t.length):
  ∃rs ri:GrR,Ev (fun k=>spec_l8loose.f k (mkB t) (at_:Int)) rs∧Ev (fun k=>impl_grammar.f k (mkB t) (at_:Int)) ri∧GRel t (at_+2) rs ri:=by
 have hS:=specTakeLine_is t at_ ha (by omega)
 have hI:=implTakeLine_is t at_ ha (by omega)
 have fS: ∀q a,Ev (fun k=>spec_l8loose.j0 k true (mkB t) (at_:Int) q a) (mkB t,(at_:Int),false):=fun q a=>Ev.step (f:=fun _=>some (mkB t,(at_:Int),false)) (fun k=>by simp only[spec_l8loose.j0,if_true]) (Ev.now _)
 have fI: ∀q a,Ev (fun k=>impl_grammar.j0 k true q a) ((⟨#[]⟩:ByteArray),(0:Int),false):=fun q a=>Ev.step (f:=fun _=>some ((⟨#[]⟩:ByteArray),(0:Int),false)) (fun k=>by simp only[impl_grammar.j0,if_true]) (Ev.now _)
 have gS: ∀r,Ev (fun k=>if(takeLineL t at_).2.2.2=0 then spec_l8loose.j0 k ((takeLineL t at_).1.toList !=([87,65,82,67,47,49,46,49]:List UInt8)) (mkB t) (at_:Int) (takeLineL t at_).2.1 (takeLineL t at_).2.2.1 else spec_l8loose.j0 k true (mkB t) (at_:Int) (takeLineL t at_).2.1 (takeLineL t at_).2.2.1) r→Ev (fun k=>spec_l8loose.f k (mkB t) (at_:Int)) r:=fun r hr=>by
  unfold spec_l8loose.f;exact hS.bind hr
 have gI: ∀r:GrR,Ev (fun k=>if(takeLineL t at_).2.2.2=0 then impl_grammar.j0 k ((takeLineL t at_).1.toList !=([87,65,82,67,47,49,46,49]:List UInt8)) (takeLineL t at_).2.1 (takeLineL t at_).2.2.1 else impl_grammar.j0 k true (takeLineL t at_).2.1 (takeLineL t at_).2.2.1) r→Ev (fun k=>impl_grammar.f k (mkB t) (at_:Int)) r:=fun r hr=>by
  unfold impl_grammar.f;exact hI.bind hr
 by_cases h0:(scanL (t.drop at_)).2=0
 ·have hn:=grScan_next ha h0
  rw[grTakeLine_ok h0]at gS gI
  simp only[if_true,toList_mk]at gS gI
  cases he:((scanL (t.drop at_)).1 !=([87,65,82,67,47,49,46,49]:List UInt8))
  ·rw[he]at gS gI
   obtain⟨rs,ri,a,b,g⟩:=loop_both t hl (mkB t) (at_:Int) t.length (at_+(scanL (t.drop at_)).1.length+2) [] 0 (by omega) hn (by simp) (by omega)
   refine⟨rs,ri,gS _ (Ev.step (fun k=>spec_l8loose.j0.eq_2 ..) ?_),gI _ (Ev.step (fun k=>impl_grammar.j0.eq_2 ..) ?_),g.mono (by omega)⟩
   ·simp only[Bool.false_eq_true,if_false,if_pos (show 4≤35184372088832 by decide)]
    exact a
   ·simp only[Bool.false_eq_true,if_false]
    exact b
  ·rw[he]at gS gI
   exact⟨_,_,gS _ (fS _ _),gI _ (fI _ _),GRel.no _ _ _ _ _ _⟩
 ·rw[grTakeLine_no h0]at gS gI
  simp only[if_neg (show ¬(((scanL (t.drop at_)).2:Nat):Int)=0 by omega)]at gS gI
  exact⟨_,_,gS _ (fS _ _),gI _ (fI _ _),GRel.no _ _ _ _ _ _⟩
theorem all_both (t:List UInt8) (hl:t.length≤1048576): ∀(m at_ n:Nat),t.length-at_≤m→at_≤t.length→n≤at_→ ∃r:Int,Ev (fun k=>spec_Grammar.l0 k (mkB t) (n:Int) (mkB t) (at_:Int)) r∧Ev (fun k=>impl_Grammar.l0 k (mkB t) (n:Int) (mkB t) (at_:Int)) r:=by
 intro m
 induction m with
 |zero=>
  intro at_ n hm ha hn
  refine⟨(n:Int),Ev.step (fun k=>spec_Grammar.l0.eq_2 ..) ?_,Ev.step (fun k=>impl_Grammar.l0.eq_2 ..) ?_⟩
  ·simp only[size_mk,if_neg (show ¬(at_:Int)<(t.length:Int)by omega)];exact Ev.now _
  ·simp only[size_mk,if_neg (show ¬(at_:Int)<(t.length:Int)by omega)];exact Ev.now _
 |succ m ih=>
  intro at_ n hm ha hn
  by_cases hlt:at_<t.length
  ·obtain⟨rs,ri,a,b,g⟩:=record_both t hl at_ ha
   have e:(at_:Int)<((mkB t).size:Int):=by rw[size_mk];omega
   by_cases hb:ri.2.2=true
   ·obtain⟨e1,nx,e2,h1,h2⟩:=g.2 hb
    obtain⟨r,c,d⟩:=ih nx (n+1) (by omega) h2 (by omega)
    have hw:wrap64 ((n:Int)+1)=((n+1:Nat):Int):=by rw[wrap_id (by omega) (by omega)];omega
    refine⟨r,Ev.step (fun k=>spec_Grammar.l0.eq_2 ..) ?_,Ev.step (fun k=>impl_Grammar.l0.eq_2 ..) ?_⟩
    ·simp only[if_pos e]
     refine a.bind ?_
     rw[e1,e2,hw];simpa using c
    ·simp only[if_pos e]
     refine b.bind ?_
     rw[e2,hw];simpa using d
   ·refine⟨-1,Ev.step (fun k=>spec_Grammar.l0.eq_2 ..) ?_,Ev.step (fun k=>impl_Grammar.l0.eq_2 ..) ?_⟩
    ·simp only[if_pos e]
     refine a.bind ?_
     rw[g.1];simp only[if_neg hb];exact Ev.now _
    ·simp only[if_pos e]
     refine b.bind ?_
     simp only[if_neg hb];exact Ev.now _
  ·refine⟨(n:Int),Ev.step (fun k=>spec_Grammar.l0.eq_2 ..) ?_,Ev.step (fun k=>impl_Grammar.l0.eq_2 ..) ?_⟩
   ·simp only[size_mk,if_neg (show ¬(at_:Int)<(t.length:Int)by omega)];exact Ev.now _
   ·simp only[size_mk,if_neg (show ¬(at_:Int)<(t.length:Int)by omega)];exact Ev.now _
theorem FnExactGrammar:laws_FnExactGrammar.Pure:=by
 intro b hb
 have key: ∃r,Ev (fun k=>laws_FnExactGrammar.f k b) r∧r=true:=by
  refine⟨true,?_,rfl⟩
  unfold laws_FnExactGrammar.f
  by_cases h:(b.size:Int)>1048576
  ·simp only[if_pos h];exact Ev.now _
  ·simp only[if_neg h]
   have hsz:(bl b).length≤1048576:=by rw[size_bl];omega
   have two: ∃r:Int,Ev (fun k=>spec_Grammar.f k b) r∧Ev (fun k=>impl_Grammar.f k b) r:=by
    unfold spec_Grammar.f impl_Grammar.f
    by_cases h6:(b.size:Int)>60000
    ·simp only[if_pos h6];exact⟨_,Ev.now _,Ev.now _⟩
    ·simp only[if_neg h6]
     obtain⟨r,c,d⟩:=all_both (bl b) hsz (bl b).length 0 0 (by omega) (by omega) (by omega)
     rw[mk_bl]at c d
     exact⟨r,c,d⟩
   obtain⟨r,c,d⟩:=two
   refine c.bind (d.bind ?_)
   simp only[if_true];exact Ev.now _
 obtain⟨r,⟨K,hK⟩,e⟩:=key
 exact⟨K,(hK K (Nat.le_refl _)).trans (by rw[e])⟩
end Go.Proofs.YtnilblnhlpnpgaaGreatDoor.Pure
