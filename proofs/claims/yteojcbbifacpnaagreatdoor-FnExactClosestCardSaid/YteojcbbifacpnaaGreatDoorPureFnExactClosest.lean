/- Closest of the program and of the reference agree, and the call returns true and leaves the list as it was, for every list of lines, key, side, method and time. No condition. -/
import Derived.Test.YteojcbbifacpnaaGreatDoorGFnExactClosestx28
import Derived.Laws.BitsLemmas
import Derived.Laws.Strings
import Derived.Lib.AtoiAll
import Derived.Lib.Index
import Derived.Lib.IndexAny
import Derived.Lib.IndexMore
import Derived.Lib.ItoaNum
import Derived.Lib.Join
import Derived.Lib.SplitLaws
import Derived.OpenShut
namespace Go.Proofs.YteojcbbifacpnaaGreatDoor.Pure
open Go.RowKit Go.Proofs.YteojcbbifacpnaaGreatDoor.GFnExactClosest Go.Proofs.YteojcbbifacpnaaGreatDoorW.PrintWords Go.Proofs.YteojcbbifacpnaaGreatDoorW.PrintLast Go.Proofs.YteojcbbifacpnaaGreatDoorW.PrintMore
set_option linter.unusedVariables false
set_option linter.unusedSimpArgs false
theorem Ev.mono1 {α:Type} {g:Nat→Option α} {r:α} (K:Nat) (h: ∀k,g (k+K)=some r):Ev g r:=
 ⟨K,fun k hk=>by obtain⟨m,rfl⟩: ∃m,k=m+K:=⟨k-K,by omega⟩;exact h m⟩
theorem toList_inj {a b:ByteArray} (h:a.toList=b.toList):a=b:=by
 rw[ByteArray.toList_eq,ByteArray.toList_eq]at h
 cases a;cases b;simp_all
theorem getD_mid {α:Type} (pre:List α) (x:α) (r:List α) (z:α):(pre++x::r).getD ((pre.length:Int).toNat) z=x:=by simp[List.getD]
theorem wrap_id {a:Int} (h1: -9223372036854775808≤a) (h2:a≤9223372036854775807):wrap64 a=a:=by unfold wrap64;omega
theorem len_mid {α:Type} (pre:List α) (x:α) (r:List α):(pre.length:Int)<((pre++x::r).length:Int):=by simp;omega
theorem app_mid {α:Type} (pre:List α) (x:α) (r:List α):pre++x::r=(pre++ [x])++r:=by simp
theorem len_snoc {α:Type} (pre:List α) (x:α):((pre++ [x]).length:Int)=(pre.length:Int)+1:=by simp
theorem size_strOf (xs:List Int):(strOfNums xs).size=xs.length:=by
 show(strOfNums xs).data.size=_
 simp[strOfNums]
theorem less_irrefl: ∀l:List UInt8,Op.bytesLess l l=false
 | []=>rfl
 |a::l=>by simp[Op.bytesLess,less_irrefl l]
theorem less_total: ∀l m:List UInt8,l≠m→Op.bytesLess l m=!Op.bytesLess m l
 | [],[],h=>absurd rfl h
 | [],_::_,_=>rfl
 |_::_,[],_=>rfl
 |a::l,b::m,h=>by
  by_cases e:a=b
  ·subst e
   have:=less_total l m (fun e=>h (by rw[e]))
   simp[Op.bytesLess,this]
  ·have hne:(a==b)=false:=by simpa using e
   have hne':(b==a)=false:=by simpa using fun x=>e x.symm
   simp only[Op.bytesLess,hne,hne',Bool.false_and,Bool.or_false]
   rcases Nat.lt_trichotomy a.toNat b.toNat with h1|h1|h1
   ·have x1:a<b:=UInt8.lt_iff_toNat_lt.2 h1
    have x2: ¬b<a:=fun x=>by have:=UInt8.lt_iff_toNat_lt.1 x;omega
    simp[x1,x2]
   ·exact absurd (UInt8.toNat_inj.1 h1) e
   ·have x1:b<a:=UInt8.lt_iff_toNat_lt.2 h1
    have x2: ¬a<b:=fun x=>by have:=UInt8.lt_iff_toNat_lt.1 x;omega
    simp[x1,x2]
theorem toS_loop {α β:Type} (F:Nat→List α→List β→Int→Option (List β)) (z:α) (zb:β) (c:α→β)
  (hF: ∀k l acc (i:Int),0≤i→i<(l.length:Int)→i<(acc.length:Int)→F (k+1) l acc i=F k l (acc.set i.toNat (c (l.getD i.toNat z))) (wrap64 (i+1)))
  (hE: ∀k l acc,F (k+1) l acc (l.length:Int)=some acc):
  ∀(r pre:List α) (acc:List β),acc.length=pre.length→(pre++r).length≤1048576→Ev (fun k=>F k (pre++r) (acc++List.replicate r.length zb) pre.length) (acc++r.map c)
 | [],pre,acc,ha,_=>Ev.step (f:=fun _=>some (acc++([]:List α).map c)) (fun k=>by simpa using hE k pre acc) (Ev.now _)
 |x::r,pre,acc,ha,hl=>by
  have ih:=toS_loop F z zb c hF hE r (pre++ [x]) (acc++ [c x]) (by simp[ha]) (by rw[←app_mid];exact hl)
  rw[←app_mid,len_snoc]at ih
  have e:acc++(x::r).map c=(acc++ [c x])++r.map c:=by simp
  rw[e]
  refine Ev.step (fun k=>?_) ih
  simp at hl
  rw[hF k _ _ _ (by omega) (len_mid ..) (by simp[ha];omega),getD_mid,wrap_id (by omega) (by omega)]
  have e2:(acc++List.replicate (x::r).length zb).set ((pre.length:Int).toNat) (c x)=(acc++ [c x])++List.replicate r.length zb:=by
   rw[show((pre.length:Int).toNat)=acc.length by omega,List.length_cons,List.replicate_succ]
   simp
  rw[e2]
theorem toS_ev {α β:Type} (F:Nat→List α→List β→Int→Option (List β)) (z:α) (zb:β) (c:α→β)
  (hF: ∀k l acc (i:Int),0≤i→i<(l.length:Int)→i<(acc.length:Int)→F (k+1) l acc i=F k l (acc.set i.toNat (c (l.getD i.toNat z))) (wrap64 (i+1)))
  (hE: ∀k l acc,F (k+1) l acc (l.length:Int)=some acc) (l:List α) (hl:l.length≤1048576):Ev (fun k=>F k l (List.replicate l.length zb) 0) (l.map c):=by
 have:=toS_loop F z zb c hF hE l [] [] rfl (by simpa using hl)
 simpa using this
theorem eqS_loop {β:Type} (F:Nat→List β→List β→Int→Option Bool) (hF: ∀k l (i:Int),0≤i→i<(l.length:Int)→F (k+1) l l i=F k l l (wrap64 (i+1)))
  (hE: ∀k l,F (k+1) l l (l.length:Int)=some true) (L:List β) (hL:L.length≤1048576): ∀(r pre:List β),pre++r=L→Ev (fun k=>F k L L pre.length) true
 | [],pre,hp=>by
  have e:pre=L:=by simpa using hp
  exact Ev.step (f:=fun _=>some true) (fun k=>by rw[e];exact hE k L) (Ev.now _)
 |x::r,pre,hp=>by
  have ih:=eqS_loop F hF hE L hL r (pre++ [x]) (by rw[←hp];simp)
  rw[len_snoc]at ih
  have hlm:=len_mid pre x r
  rw[hp]at hlm
  exact Ev.step (fun k=>by rw[hF k L _ (by omega) hlm,wrap_id (by omega) (by omega)]) ih
theorem eqS_ev {β:Type} (F:Nat→List β→List β→Int→Option Bool) (hF: ∀k l (i:Int),0≤i→i<(l.length:Int)→F (k+1) l l i=F k l l (wrap64 (i+1)))
  (hE: ∀k l,F (k+1) l l (l.length:Int)=some true) (l:List β) (hl:l.length≤1048576):Ev (fun k=>F k l l 0) true:=by
 simpa using eqS_loop F hF hE l hl l [] rfl
theorem szS_loop {α:Type} (F:Nat→List α→Int→Int→Option Int) (g:α→Int→Option Int) (wt:α→Nat) (okp:α→Prop) (z:α)
  (hg: ∀x (n:Int),okp x→0≤n→n≤1048576→g x n=some (if n<wt x then-1 else n-wt x))
  (hF: ∀k l n (i:Int),0≤i→i<(l.length:Int)→F (k+1) l n i=(g (l.getD i.toNat z) n).bind fun t=>if t<0 then some (-1)else F k l t (wrap64 (i+1)))
  (hE: ∀k l n,F (k+1) l n (l.length:Int)=some n):
  ∀(r pre:List α) (n:Int),(∀x∈r,okp x)→(pre++r).length≤1048576→0≤n→n≤1048576→
  ∃q,Ev (fun k=>F k (pre++r) n pre.length) q∧q≤n∧(0≤q→(((r.map wt).sum:Nat):Int)≤n-q)
 | [],pre,n,_,_,h0,_=>⟨n,Ev.step (f:=fun _=>some n) (fun k=>by simpa using hE k pre n) (Ev.now _),by omega,fun _=>by simp⟩
 |x::r,pre,n,hb,hl,h0,h1=>by
  have hs:=hg x n (hb x (by simp)) h0 h1
  by_cases hn:n<wt x
  ·rw[if_pos hn]at hs
   refine⟨-1,Ev.step (f:=fun _=>some (-1)) (fun k=>?_) (Ev.now _),by omega,fun h=>by omega⟩
   rw[hF k _ _ _ (by omega) (len_mid ..),getD_mid,hs];simp
  ·rw[if_neg hn]at hs
   obtain⟨q,hq,hle,ht⟩:=szS_loop F g wt okp z hg hF hE r (pre++ [x]) (n-wt x) (fun y hy=>hb y (List.mem_cons_of_mem _ hy)) (by rw[←app_mid];exact hl) (by omega) (by omega)
   rw[←app_mid,len_snoc]at hq
   refine⟨q,Ev.step (fun k=>?_) hq,by omega,fun h=>?_⟩
   ·simp at hl
    rw[hF k _ _ _ (by omega) (len_mid ..),getD_mid,hs]
    simp only[Option.bind_some]
    rw[if_neg (by omega),wrap_id (by omega) (by omega)]
   ·have:=ht h
    simp only[List.map_cons,List.sum_cons]
    omega
theorem szS_ev {α:Type} (F:Nat→List α→Int→Int→Option Int) (g:α→Int→Option Int) (wt:α→Nat) (okp:α→Prop) (z:α)
  (hg: ∀x (n:Int),okp x→0≤n→n≤1048576→g x n=some (if n<wt x then-1 else n-wt x))
  (hF: ∀k l n (i:Int),0≤i→i<(l.length:Int)→F (k+1) l n i=(g (l.getD i.toNat z) n).bind fun t=>if t<0 then some (-1)else F k l t (wrap64 (i+1)))
  (hE: ∀k l n,F (k+1) l n (l.length:Int)=some n) (l:List α) (n:Int) (hb: ∀x∈l,okp x) (hl:l.length≤9223372036854775807) (h0:0≤n) (h1:n≤1048576):
  ∃q,Ev (fun k=>if wrap64 (n-(l.length:Int))<0 then some (-1)else F k l (wrap64 (n-(l.length:Int))) 0) q∧q≤n∧(0≤q→(l.length:Int)+(((l.map wt).sum:Nat):Int)≤n-q):=by
 rw[wrap_id (by omega) (by omega)]
 by_cases h:n-(l.length:Int)<0
 ·refine⟨-1,?_,by omega,fun h=>by omega⟩
  simp only[if_pos h];exact Ev.now _
 ·simp only[if_neg h]
  obtain⟨q,hq,hle,ht⟩:=szS_loop F g wt okp z hg hF hE l [] (n-l.length) hb (by simp;omega) (by omega) (by omega)
  exact⟨q,by simpa using hq,by omega,fun hh=>by have:=ht hh;omega⟩
theorem szLine_is (a b c:ByteArray) (ha:a.size≤9223372036854775807) (hb:b.size≤9223372036854775807) (hc:c.size≤9223372036854775807) (x0 x1 x2 x4 x5 x6:Int) (r:Bool) (l:Int) (h0:0≤l) (h1:l≤1048576):
  laws_szLine.f a x0 x1 b x2 c r x4 x5 x6 l=some (if l<a.size+b.size+c.size then-1 else l-a.size-b.size-c.size):=by
 unfold laws_szLine.f
 have w1:wrap64 (l-(a.size:Int))=l-(a.size:Int):=wrap_id (by omega) (by omega)
 rw[w1]
 by_cases c1:l-(a.size:Int)<0
 ·rw[if_pos c1,if_pos (by omega)]
 ·rw[if_neg c1,wrap_id (a:=l-(a.size:Int)-(b.size:Int)) (by omega) (by omega)]
  by_cases c2:l-(a.size:Int)-(b.size:Int)<0
  ·rw[if_pos c2,if_pos (by omega)]
  ·rw[if_neg c2,wrap_id (a:=l-(a.size:Int)-(b.size:Int)-(c.size:Int)) (by omega) (by omega)]
   by_cases c3:l-(a.size:Int)-(b.size:Int)-(c.size:Int)<0
   ·rw[if_pos c3,if_pos (by omega)]
   ·rw[if_neg c3,if_neg (by omega)]
abbrev LLn:=S23
abbrev ILn:=S26
def cLn (x:LLn):ILn:=⟨x.f0,x.f1,x.f2,x.f3,x.f4,x.f5,x.f6,x.f7,x.f8,x.f9⟩
def wLn (x:LLn):Nat:=x.f0.size+x.f3.size+x.f5.size
def smallLn (x:ILn):Prop:=x.f0.size≤1048576∧x.f3.size≤1048576∧x.f5.size≤1048576
theorem szLineS_is (l:List LLn) (n:Int) (hb: ∀x∈l,ok23 x) (hl:l.length≤9223372036854775807) (h0:0≤n) (h1:n≤1048576):
  ∃q,Ev (fun k=>laws_szLineS.f k l n) q∧q≤n∧(0≤q→(l.length:Int)+(((l.map wLn).sum:Nat):Int)≤n-q):=by
 refine szS_ev laws_szLineS.l0 (fun x n=>laws_szLine.f x.f0 x.f1 x.f2 x.f3 x.f4 x.f5 x.f6 x.f7 x.f8 x.f9 n) wLn ok23 z23 ?_ ?_ ?_ l n hb hl h0 h1
 ·intro x n hx h0 h1
  rw[szLine_is x.f0 x.f3 x.f5 hx.1 hx.2.2.2.1 hx.2.2.2.2.2.1 _ _ _ _ _ _ _ n h0 h1];congr 1
  have hw:(wLn x:Int)=(x.f0.size:Int)+(x.f3.size:Int)+(x.f5.size:Int):=by simp[wLn]
  by_cases hh:n<(x.f0.size:Int)+(x.f3.size:Int)+(x.f5.size:Int)
  ·rw[if_pos hh,if_pos (by omega)]
  ·rw[if_neg hh,if_neg (by omega)];omega
 ·intro k l n i h0 h1;simp only[laws_szLineS.l0];rw[if_pos h1,if_pos h0];rfl
 ·intro k l n;simp only[laws_szLineS.l0];rw[if_neg (by omega)]
theorem toLineS_is (l:List LLn) (hl:l.length≤1048576):Ev (fun k=>laws_toLineS.f k l) (l.map cLn):=by
 unfold laws_toLineS.f
 simp only[if_pos (show 0≤(l.length:Int)by omega),if_pos (show(l.length:Int).toNat≤2706490160679 by omega)]
 refine toS_ev laws_toLineS.l0 z23 z26 cLn ?_ ?_ l hl
 ·intro k l acc i h0 h1 h2
  simp only[laws_toLineS.l0]
  rw[if_pos h1,if_pos h0]
  simp only[laws_toLine.f,Option.bind_some]
  rw[if_pos h2];rfl
 ·intro k l acc;simp only[laws_toLineS.l0];rw[if_neg (by omega)]
theorem eqLineS_is (l:List ILn) (hl:l.length≤1048576):Ev (fun k=>laws_eqLineS.f k l l) true:=by
 unfold laws_eqLineS.f
 simp only[if_true]
 refine eqS_ev laws_eqLineS.l0 ?_ ?_ l hl
 ·intro k l i h0 h1
  simp only[laws_eqLineS.l0]
  rw[if_pos h1,if_pos h0,if_pos h1]
  simp[laws_eqLine.f]
 ·intro k l;simp only[laws_eqLineS.l0];rw[if_neg (by omega)]
theorem small_of (l:List LLn) (h:(((l.map wLn).sum:Nat):Int)≤1048576): ∀x∈l.map cLn,smallLn x:=by
 intro y hy
 obtain⟨x,hx,rfl⟩:=List.mem_map.1 hy
 have:wLn x≤(l.map wLn).sum:=by
  clear h hy
  induction l with
  |nil=>cases hx
  |cons a r ih=>
   rw[List.map_cons,List.sum_cons]
   rcases List.mem_cons.1 hx with rfl|hx
   ·omega
   ·have:=ih hx;omega
 have hw:wLn x=x.f0.size+x.f3.size+x.f5.size:=rfl
 exact⟨by show x.f0.size≤_;omega,by show x.f3.size≤_;omega,by show x.f5.size≤_;omega⟩
def mkB (l:List UInt8):ByteArray:=⟨l.toArray⟩
def bl (s:ByteArray):List UInt8:=s.data.toList
theorem mk_bl (s:ByteArray):mkB (bl s)=s:=by cases s;simp[mkB,bl]
theorem bl_mk (l:List UInt8):bl (mkB l)=l:=by simp[mkB,bl]
theorem size_mk (l:List UInt8):(mkB l).size=l.length:=by show(mkB l).data.size=_;simp[mkB]
theorem size_bl (s:ByteArray):(bl s).length=s.size:=by rw[bl,Array.length_toList];rfl
theorem toList_bl (s:ByteArray):s.toList=bl s:=ByteArray.toList_eq s
theorem toList_mk (l:List UInt8):(mkB l).toList=l:=by rw[toList_bl,bl_mk]
theorem getB (l:List UInt8) (i:Nat) (h:i<(mkB l).size):(mkB l)[i]'h=l[i]'(by rwa [size_mk]at h):=by
 show(mkB l).data[i]'h=_
 simp[mkB]
theorem bt_at_ (l:List UInt8) (i:Nat) (h:i<l.length):bt (mkB l) (i:Int)=((l[i]'h).toNat:Int):=by
 unfold bt
 rw[dif_pos (by rw[size_mk];simpa using h),getB]
 simp
theorem bt_mid (pre:List UInt8) (b:UInt8) (r:List UInt8):bt (mkB (pre++b::r)) (pre.length:Int)=(b.toNat:Int):=by
 rw[bt_at_ _ _ (by simp)]
 simp
theorem extract_mk (l:List UInt8) (i j:Nat):(mkB l).extract i j=mkB ((l.drop i).take (j-i)):=by
 apply toList_inj
 rw[toList_mk,toList_bl,bl,ByteArray.data_extract,Array.toList_extract]
 simp[mkB,List.extract]
theorem drop_mid (pre:List UInt8) (b:UInt8) (r:List UInt8):(pre++b::r).drop (pre.length+1)=r:=by
 rw[app_mid,List.drop_left' (by simp)]
theorem size_lt_mid (pre:List UInt8) (b:UInt8) (r:List UInt8):(pre.length:Int)<((mkB (pre++b::r)).size:Int):=by rw[size_mk];exact len_mid ..
theorem u8_lt (b:UInt8):(b.toNat:Int)<256:=by have:=b.toNat_lt;omega
theorem toUInt8_toNat (b:UInt8):((b.toNat:Int)).toNat.toUInt8=b:=by simp
theorem all_loop (F:Nat→ByteArray→Int→Option Bool) (G:Nat→Int→Option Bool) (p:UInt8→Bool) (hG: ∀b:UInt8,Ev (fun k=>G k b.toNat) (p b))
  (hF: ∀k s i,F (k+1) s i=if i<(s.size:Int)then(if 0≤i then(G k (bt s i)).bind fun t=>(if t=true then F k s (wrap64 (i+1))else some false)else none)else some true):
  ∀(r pre:List UInt8),(pre++r).length≤9223372036854775806→Ev (fun k=>F k (mkB (pre++r)) pre.length) (r.all p)
 | [],pre,_=>Ev.step (f:=fun _=>some true) (fun k=>by rw[hF,size_mk];simp) (Ev.now _)
 |b::r,pre,hl=>by
  have ih:=all_loop F G p hG hF r (pre++ [b]) (by rw[←app_mid];exact hl)
  rw[←app_mid,len_snoc]at ih
  simp at hl
  refine Ev.step (f:=fun k=>(G k b.toNat).bind fun t=>(if t=true then F k (mkB (pre++b::r)) (pre.length+1)else some false)) (fun k=>?_) ?_
  ·rw[hF,if_pos (size_lt_mid ..),if_pos (by omega),bt_mid,wrap_id (by omega) (by omega)]
  refine(hG b).bind ?_
  cases hp:p b
  ·simpa [List.all_cons,hp]using Ev.now false
  ·simpa [List.all_cons,hp]using ih
theorem all_ev (F:Nat→ByteArray→Int→Option Bool) (G:Nat→Int→Option Bool) (p:UInt8→Bool) (hG: ∀b:UInt8,Ev (fun k=>G k b.toNat) (p b))
  (hF: ∀k s i,F (k+1) s i=if i<(s.size:Int)then(if 0≤i then(G k (bt s i)).bind fun t=>(if t=true then F k s (wrap64 (i+1))else some false)else none)else some true)
  (s:ByteArray) (hs:s.size≤9223372036854775806):Ev (fun k=>F k s 0) ((bl s).all p):=by
 have:=all_loop F G p hG hF (bl s) [] (by simpa [size_bl]using hs)
 simpa [mk_bl]using this
theorem Ev.const {α:Type} {x:Option α} {r:α} (h:x=some r):Ev (fun _=>x) r:=⟨0,fun _ _=>h⟩
def wn (b:Nat) (l:List Nat):Nat:=l.foldl (fun a c=>a*b+c) 0
theorem wn_snoc (b:Nat) (l:List Nat) (x:Nat):wn b (l++ [x])=wn b l*b+x:=by simp[wn]
theorem wn_inj (b:Nat) (hb:0<b): ∀(n:Nat) (l m:List Nat),l.length=n→m.length=n→(∀x∈l,x<b)→(∀x∈m,x<b)→wn b l=wn b m→l=m:=by
 intro n
 induction n with
 |zero=>intro l m hl hm _ _ _;rw[List.length_eq_zero_iff.1 hl,List.length_eq_zero_iff.1 hm]
 |succ n ih=>
  intro l m hl hm h1 h2 h
  rcases List.eq_nil_or_concat l with rfl|⟨l',x,rfl⟩
  ·cases hl
  rcases List.eq_nil_or_concat m with rfl|⟨m',y,rfl⟩
  ·cases hm
  rw[List.concat_eq_append]at*
  rw[List.concat_eq_append]at*
  rw[wn_snoc,wn_snoc]at h
  have hx:x<b:=h1 x (by simp)
  have hy:y<b:=h2 y (by simp)
  have e1:x=y:=by
   have:=congrArg (· %b) h
   simp only[Nat.mul_add_mod_self_right,Nat.mod_eq_of_lt hx,Nat.mod_eq_of_lt hy]at this
   exact this
  have e2:wn b l'=wn b m':=by
   rw[e1]at h
   exact Nat.eq_of_mul_eq_mul_right hb (Nat.add_right_cancel h)
  rw[ih l' m' (by simp at hl;exact hl) (by simp at hm;exact hm) (fun z hz=>h1 z (by simp[hz])) (fun z hz=>h2 z (by simp[hz])) e2,e1]
def letV (b:UInt8):Int:=if 65≤b.toNat∧b.toNat≤90 then(b.toNat:Int)-65 else if 50≤b.toNat∧b.toNat≤55 then(b.toNat:Int)-24 else-1
def letN (b:UInt8):Nat:=(letV b).toNat
def letOk (b:UInt8):Bool:=decide (0≤letV b)
def letC (v:Nat):UInt8:=if v<26 then UInt8.ofNat (65+v)else UInt8.ofNat (24+v)
theorem letV_facts (b:UInt8):(letOk b=true→letC (letN b)=b∧letN b<32∧letV b=(letN b:Int))∧(letOk b=false→letV b= -1):=by
 have key: ∀n:Fin 256,(letOk (UInt8.ofNat n.val)=true→letC (letN (UInt8.ofNat n.val))=UInt8.ofNat n.val∧letN (UInt8.ofNat n.val)<32∧letV (UInt8.ofNat n.val)=(letN (UInt8.ofNat n.val):Int))∧(letOk (UInt8.ofNat n.val)=false→letV (UInt8.ofNat n.val)= -1):=by decide+kernel
 have:=key ⟨b.toNat,b.toNat_lt⟩
 simp only[UInt8.ofNat_toNat]at this
 exact this
def LETB:ByteArray:=⟨#[65,66,67,68,69,70,71,72,73,74,75,76,77,78,79,80,81,82,83,84,85,86,87,88,89,90,50,51,52,53,54,55]⟩
theorem bt_let (v:Nat) (hv:v<32):bt LETB (v:Int)=((letC v).toNat:Int):=by
 have key: ∀n:Fin 32,bt LETB (n.val:Int)=((letC n.val).toNat:Int):=by decide+kernel
 exact key ⟨v,hv⟩
theorem let_map (l:List UInt8) (h:l.all letOk=true):(l.map letN).map letC=l:=by
 rw[List.map_map]
 conv=>rhs;rw[←List.map_id l]
 refine List.map_congr_left fun b hb=>?_
 exact((letV_facts b).1 (List.all_eq_true.1 h b hb)).1
theorem strOf_let (J:List Nat):strOfNums (J.map fun v=>((letC v).toNat:Int))=mkB (J.map letC):=by simp[strOfNums,mkB,Function.comp_def]
def wb (l:List UInt8):Nat:=wn 32 (l.map letN)
theorem wb_snoc (l:List UInt8) (b:UInt8):wb (l++ [b])=wb l*32+letN b:=by unfold wb;rw[List.map_append];exact wn_snoc _ _ _
theorem toI_snoc (A:List Nat) (x:Nat):(A++ [x]).map (fun v:Nat=>(v:Int))=A.map (fun v:Nat=>(v:Int))++ [(x:Int)]:=by simp
theorem strOf_nat (A:List Nat):strOfNums (A.map fun v:Nat=>(v:Int))=mkB (A.map fun v=>UInt8.ofNat v):=by
 simp[strOfNums,mkB,Function.comp_def]
theorem bt_nat (A R:List Nat) (x:Nat) (hx:x<256):bt (mkB ((A++x::R).map fun v=>UInt8.ofNat v)) (A.length:Int)=(x:Int):=by
 rw[List.map_append,List.map_cons]
 have:=bt_mid (A.map fun v=>UInt8.ofNat v) (UInt8.ofNat x) (R.map fun v=>UInt8.ofNat v)
 rw[List.length_map]at this
 rw[this]
 simp;omega
theorem or5 (x d:Int) (hx:0≤x) (hx1:x<4096) (hd:0≤d) (hd1:d<32):Go.bits .or .i64 (x*32) d=x*32+d:=
 bits_join .i64 62 (by decide) (fun n h0 h1=>by rw[IntKind.wrap_i64];omega) 5 (x*32) d (by omega) (by omega) (by omega) hd (by omega) (by omega)
theorem or8 (x d:Int) (hx:0≤x) (hx1:x<4096) (hd:0≤d) (hd1:d<256):Go.bits .or .i64 (x*256) d=x*256+d:=
 bits_join .i64 62 (by decide) (fun n h0 h1=>by rw[IntKind.wrap_i64];omega) 8 (x*256) d (by omega) (by omega) (by omega) hd (by omega) (by omega)
theorem and4095 (x:Int) (hx:0≤x) (hx1:x<1000000):Go.bits .and .i64 x 4095=x%4096:=
 bits_mask .i64 62 (by decide) (fun n h0 h1=>by rw[IntKind.wrap_i64];omega) 12 (by decide) x hx (by omega)
theorem and31 (x:Int) (hx:0≤x) (hx1:x<1000000):Go.bits .and .i64 x 31=x%32:=
 bits_mask .i64 62 (by decide) (fun n h0 h1=>by rw[IntKind.wrap_i64];omega) 5 (by decide) x hx (by omega)
theorem shr_nat (x c:Nat) (hc:c≤63):shr .i64 (x:Int) (c:Int)=((x/2^c:Nat):Int):=by
 unfold shr
 have e:min ((c:Int)).toNat IntKind.i64.bits=c:=by rw[Int.toNat_natCast];exact Nat.min_eq_left (by show c≤64;omega)
 rw[e];simp
theorem dec_step1 (V W c d:Nat) (hW:W=V/2^c) (hc:c+5<8) (hd:d<32):W=(V*32+d)/2^(c+5):=by
 have h:c=0∨c=1∨c=2:=by omega
 rcases h with rfl|rfl|rfl<;>simp only[Nat.reduceAdd,Nat.reducePow]at* <;>omega
theorem dec_step2 (V W c d:Nat) (hW:W=V/2^(c+3)) (hc:c<5) (hd:d<32):W*256+((V%4096*32+d)%4096/2^c)%256=(V*32+d)/2^c:=by
 have h:c=0∨c=1∨c=2∨c=3∨c=4:=by omega
 rcases h with rfl|rfl|rfl|rfl|rfl<;>simp only[Nat.reduceAdd,Nat.reducePow]at* <;>omega
theorem enc_step (T W c:Nat) (hW:W=T/2^(c+5)) (hc:c<8):W*32+(T%8192/2^c)%32=T/2^c:=by
 have h:c=0∨c=1∨c=2∨c=3∨c=4∨c=5∨c=6∨c=7:=by omega
 rcases h with rfl|rfl|rfl|rfl|rfl|rfl|rfl|rfl<;>simp only[Nat.reduceAdd,Nat.reducePow]at* <;>omega
theorem and31n (Q:Nat) (h:Q≤8191):Go.bits .and .i64 (Q:Int) 31=((Q%32:Nat):Int):=by rw[and31 _ (by omega) (by omega)];omega
theorem mod256n (Q:Nat):(Q:Int)%256=((Q%256:Nat):Int):=by omega
def letJ (J:List Nat):List Int:=J.map fun v=>((letC v).toNat:Int)
theorem implB32_in (D:List Nat) (T i:Nat) (res:ByteArray) (hi:i≤1000):
  ∀(c:Nat) (J:List Nat),c<13→wn 32 J=T/2^c→(∀x∈J,x<32)→5*J.length+c≤50000→
  (∀(c':Nat) (J':List Nat),c'<5→wn 32 J'=T/2^c'→(∀x∈J',x<32)→5*J'.length+c'=5*J.length+c→
   Ev (fun k=>impl_base32.l0 k (mkB (D.map fun v=>UInt8.ofNat v)) (letJ J') ((T%32:Nat):Int) (c':Int) ((i+1:Nat):Int)) res)→
  Ev (fun k=>impl_base32.l1 k (mkB (D.map fun v=>UInt8.ofNat v)) (letJ J) ((T%8192:Nat):Int) (c:Int) (i:Int)) res:=by
 intro c
 induction c using Nat.strongRecOn with
 |_ c ih=>
  intro J hc hw hJ hl hK
  have h31:Go.bits .and .i64 ((T%8192:Nat):Int) 31=((T%32:Nat):Int):=by rw[and31 _ (by omega) (by omega)];omega
  by_cases h5:c<5
  ·refine Ev.step (fun k=>?_) (hK c J h5 hw hJ rfl)
   have ec:((i+1:Nat):Int)=(i:Int)+1:=by omega
   rw[impl_base32.l1,if_neg (by omega),h31,wrap_id (a:=(i:Int)+1) (by omega) (by omega),ec]
  ·obtain⟨e,rfl⟩: ∃e,c=e+5:=⟨c-5,by omega⟩
   have hst:=enc_step T (wn 32 J) e hw (by omega)
   have hlt:(T%8192/2^e)%32<32:=Nat.mod_lt _ (by decide)
   have hih:=ih e (by omega) (J++ [(T%8192/2^e)%32]) (by omega) (by rw[wn_snoc];exact hst) (by
    intro x hx
    rcases List.mem_append.1 hx with hx|hx
    ·exact hJ x hx
    ·simp at hx;omega) (by rw[List.length_append,List.length_singleton];omega) (fun c' J' h1 h2 h3 h4=>hK c' J' h1 h2 h3 (by rw[List.length_append,List.length_singleton]at h4;omega))
   refine Ev.step (fun k=>?_) hih
   have hw5:wrap64 (((e+5:Nat):Int)-5)=(e:Int):=by rw[wrap_id (by omega) (by omega)];omega
   have hsh:shr .i64 ((T%8192:Nat):Int) (e:Int)=((T%8192/2^e:Nat):Int):=shr_nat _ _ (by omega)
   have hdl:T%8192/2^e≤T%8192:=Nat.div_le_self _ _
   have hm:Go.bits .and .i64 ((T%8192/2^e:Nat):Int) 31=(((T%8192/2^e)%32:Nat):Int):=and31n _ (by omega)
   rw[impl_base32.l1,if_pos (by omega),hw5,hsh,hm,if_pos (by omega),if_pos (by omega),if_pos (by omega),if_pos (by unfold letJ;rw[List.length_map];omega)]
   have hbt:=bt_let _ hlt
   unfold LETB at hbt
   rw[hbt]
   unfold letJ
   rw[List.map_append]
   rfl
theorem enc_begin (W x c:Nat) (hx:x<256) (hc:c<5):W/2^c=(W*256+x)/2^(c+8):=by
 have h:c=0∨c=1∨c=2∨c=3∨c=4:=by omega
 rcases h with rfl|rfl|rfl|rfl|rfl<;>simp only[Nat.reduceAdd,Nat.reducePow]<;>omega
theorem implB32_go (D:List Nat) (hD: ∀x∈D,x<256) (h20:D.length=20) (l:List UInt8) (hl:l.all letOk=true) (h32:l.length=32) (hv:wb l=wn 256 D):
  ∀(R A:List Nat) (c:Nat) (J:List Nat),D=A++R→c<5→wn 32 J=wn 256 A/2^c→(∀x∈J,x<32)→5*J.length+c=8*A.length→
  Ev (fun k=>impl_base32.l0 k (mkB (D.map fun v=>UInt8.ofNat v)) (letJ J) ((wn 256 A%32:Nat):Int) (c:Int) (A.length:Int)) (mkB l)
 | [],A,c,J,hA,hc,hw,hJ,hn=>by
  rw[List.append_nil]at hA
  subst hA
  have hc0:c=0:=by omega
  have hJ32:J.length=32:=by omega
  subst hc0
  rw[Nat.pow_zero,Nat.div_one,←hv]at hw
  have e:J=l.map letN:=wn_inj 32 (by decide) 32 J (l.map letN) hJ32 (by rw[List.length_map];exact h32) hJ (by
   intro x hx
   obtain⟨b,hb,rfl⟩:=List.mem_map.1 hx
   exact((letV_facts b).1 (List.all_eq_true.1 hl b hb)).2.1) hw
  refine Ev.step (f:=fun _=>some (mkB l)) (fun k=>?_) (Ev.now _)
  rw[impl_base32.l0,if_neg (by rw[size_mk,List.length_map];omega),if_neg (by omega)]
  unfold letJ
  rw[strOf_let,e,let_map l hl]
 |x::R,A,c,J,hA,hc,hw,hJ,hn=>by
  have hx:x<256:=hD x (by rw[hA];simp)
  have hAl:A.length<20:=by have:=congrArg List.length hA;simp at this;omega
  have e1:wn 256 (A++ [x])=wn 256 A*256+x:=wn_snoc _ _ _
  have hin:=implB32_in D (wn 256 A*256+x) A.length (mkB l) (by omega) (c+8) J (by omega) (by rw[hw];exact enc_begin _ _ _ hx hc) hJ (by omega) (by
   intro c' J' h1 h2 h3 h4
   have ih:=implB32_go D hD h20 l hl h32 hv R (A++ [x]) c' J' (by rw[hA];simp) h1 (by rw[e1];exact h2) h3 (by rw[List.length_append,List.length_singleton];omega)
   rw[e1,List.length_append,List.length_singleton]at ih
   exact ih)
  refine Ev.step (fun k=>?_) hin
  have hb:bt (mkB (D.map fun v=>UInt8.ofNat v)) (A.length:Int)=(x:Int):=by rw[hA];exact bt_nat A R x hx
  have ho:Go.bits .or .i64 (wrap64 (((wn 256 A%32:Nat):Int)*256)) (wrap64 (x:Int))=(((wn 256 A*256+x)%8192:Nat):Int):=by
   rw[wrap_id (a:=(x:Int)) (by omega) (by omega),wrap_id (a:=((wn 256 A%32:Nat):Int)*256) (by omega) (by omega),or8 _ _ (by omega) (by omega) (by omega) (by omega)]
   omega
  have ec:((c+8:Nat):Int)=(c:Int)+8:=by omega
  rw[impl_base32.l0,if_pos (by rw[size_mk,List.length_map];omega),if_pos (by omega),hb,ho,wrap_id (a:=(c:Int)+8) (by omega) (by omega),ec]
theorem implB32_is (D:List Nat) (hD: ∀x∈D,x<256) (h20:D.length=20) (l:List UInt8) (hl:l.all letOk=true) (h32:l.length=32) (hv:wb l=wn 256 D):
  Ev (fun k=>impl_base32.f k (strOfNums (D.map fun v:Nat=>(v:Int)))) (mkB l):=by
 rw[strOf_nat]
 exact implB32_go D hD h20 l hl h32 hv D [] 0 [] rfl (by decide) rfl (by simp) rfl
theorem idx_is (b:UInt8):strings_IndexByte.f LETB (b.toNat:Int)=some (letV b):=by
 have key: ∀n:Fin 256,Lib.indexByte LETB.data.toList (UInt8.ofNat n.val)=letV (UInt8.ofNat n.val):=by decide+kernel
 have:=key ⟨b.toNat,b.toNat_lt⟩
 simp only[UInt8.ofNat_toNat]at this
 unfold strings_IndexByte.f
 rw[←this]
 simp
theorem implRB32_cell (k:Nat) (L:ByteArray) (X:List Int) (bits c i d bits' c' i':Int) (hi:i<(L.size:Int)) (h0:0≤i) (hx:strings_IndexByte.f (⟨#[65,66,67,68,69,70,71,72,73,74,75,76,77,78,79,80,81,82,83,84,85,86,87,88,89,90,50,51,52,53,54,55]⟩:ByteArray) (bt L i)=some d) (hd: ¬d<0)
  (hb:Go.bits .and .i64 (Go.bits .or .i64 (wrap64 (bits*32)) d) 4095=bits') (hc:wrap64 (c+5)=c') (hi':wrap64 (i+1)=i') (h8: ¬c'≥8):
  impl_ReadBase32.l0 (k+1) L X bits c i=impl_ReadBase32.l0 k L X bits' c' i':=by
 rw[impl_ReadBase32.l0,if_pos hi,if_pos h0,hx,Option.bind_some,if_neg hd,hb,hc,if_neg h8,hi']
theorem implRB32_cell8 (k:Nat) (L:ByteArray) (X:List Int) (bits c i d bits' c' i' c'' q:Int) (hi:i<(L.size:Int)) (h0:0≤i) (hx:strings_IndexByte.f (⟨#[65,66,67,68,69,70,71,72,73,74,75,76,77,78,79,80,81,82,83,84,85,86,87,88,89,90,50,51,52,53,54,55]⟩:ByteArray) (bt L i)=some d) (hd: ¬d<0)
  (hb:Go.bits .and .i64 (Go.bits .or .i64 (wrap64 (bits*32)) d) 4095=bits') (hc:wrap64 (c+5)=c') (hi':wrap64 (i+1)=i') (h8:c'≥8) (hc8:wrap64 (c'-8)=c'') (h0'':0≤c'') (hX:X.length<140737488355328) (hq:shr .i64 bits' c''%256=q):
  impl_ReadBase32.l0 (k+1) L X bits c i=impl_ReadBase32.l0 k L (X++ [q]) bits' c'' i':=by
 rw[impl_ReadBase32.l0,if_pos hi,if_pos h0,hx,Option.bind_some,if_neg hd,hb,hc,if_pos h8,hc8,if_pos h0'',if_pos hX,hq,hi']
theorem implRB32_no (k:Nat) (L:ByteArray) (X:List Int) (bits c i d:Int) (hi:i<(L.size:Int)) (h0:0≤i) (hx:strings_IndexByte.f (⟨#[65,66,67,68,69,70,71,72,73,74,75,76,77,78,79,80,81,82,83,84,85,86,87,88,89,90,50,51,52,53,54,55]⟩:ByteArray) (bt L i)=some d) (hd:d<0):
  impl_ReadBase32.l0 (k+1) L X bits c i=some ((⟨#[]⟩:ByteArray),false):=by
 rw[impl_ReadBase32.l0,if_pos hi,if_pos h0,hx,Option.bind_some,if_pos hd]
theorem wrap_plus (a b:Nat) (h:a+b≤1000000):wrap64 ((a:Int)+(b:Int))=((a+b:Nat):Int):=by rw[wrap_id (by omega) (by omega)];omega
theorem wrap_less (a b:Nat) (h:a+b≤1000000):wrap64 (((a+b:Nat):Int)-(b:Int))=(a:Int):=by rw[wrap_id (by omega) (by omega)];omega
theorem bits5n (N d:Nat) (hN:N<4096) (hd:d<32):Go.bits .and .i64 (Go.bits .or .i64 (wrap64 ((N:Int)*32)) (d:Int)) 4095=(((N*32+d)%4096:Nat):Int):=by
 rw[wrap_id (by omega) (by omega),or5 _ _ (by omega) (by omega) (by omega) (by omega),and4095 _ (by omega) (by omega)]
 omega
theorem implRB32_go (l:List UInt8) (h32:l.length=32): ∀(r pre:List UInt8) (A:List Nat) (c:Nat),l=pre++r→pre.all letOk=true→c<8→wn 256 A=wb pre/2^c→(∀x∈A,x<256)→8*A.length+c=5*pre.length→
  ∃x,Ev (fun k=>impl_ReadBase32.l0 k (mkB l) (A.map fun v:Nat=>(v:Int)) ((wb pre%4096:Nat):Int) (c:Int) (pre.length:Int)) (x,r.all letOk)
 | [],pre,A,c,hl,ha,hc,hw,hA,hn=>by
  rw[List.append_nil]at hl
  subst hl
  have hc0:c=0:=by omega
  subst hc0
  rw[Nat.pow_zero,Nat.div_one]at hw
  refine⟨strOfNums (A.map fun v:Nat=>(v:Int)),Ev.step (f:=fun k=>(impl_base32.f k (strOfNums (A.map fun v:Nat=>(v:Int)))).bind fun t377=>(if t377.toList=(mkB l).toList then(some (strOfNums (A.map fun v:Nat=>(v:Int)),true))else(some ((⟨#[]⟩:ByteArray),false)))) (fun k=>by
   rw[impl_ReadBase32.l0,if_neg (by rw[size_mk];omega),if_neg (by rw[List.length_map];omega)]) ?_⟩
  refine(implB32_is A hA (by omega) l ha h32 hw.symm).bind ?_
  rw[if_pos rfl]
  exact Ev.now _
 |b::r,pre,A,c,hl,ha,hc,hw,hA,hn=>by
  have hpl:pre.length<32:=by have:=congrArg List.length hl;simp at this;omega
  have hbt:bt (mkB l) (pre.length:Int)=(b.toNat:Int):=by rw[hl];exact bt_mid pre b r
  have hsz:(pre.length:Int)<((mkB l).size:Int):=by rw[size_mk];omega
  have h0p:(0:Int)≤(pre.length:Int):=by omega
  have hix:=idx_is b
  rw[←hbt]at hix
  cases hok:letOk b
  ·have hv:=(letV_facts b).2 hok
   refine⟨(⟨#[]⟩:ByteArray),Ev.step (f:=fun _=>some ((⟨#[]⟩:ByteArray),false)) (fun k=>implRB32_no k _ _ _ _ _ _ hsz h0p hix (by rw[hv];decide)) ?_⟩
   rw[List.all_cons,hok];exact Ev.now _
  ·obtain⟨_,hd,hv⟩:=(letV_facts b).1 hok
   have ha2:(pre++ [b]).all letOk=true:=by rw[List.all_append,ha];simp[hok]
   have hwb:=wb_snoc pre b
   have hN:wb pre%4096<4096:=Nat.mod_lt _ (by decide)
   have e4:(wb pre%4096*32+letN b)%4096=wb (pre++ [b])%4096:=by rw[hwb];omega
   have hdn: ¬letV b<0:=by rw[hv];omega
   rw[List.all_cons,hok,Bool.true_and]
   by_cases h8:c+5<8
   ·obtain⟨x,hx⟩:=implRB32_go l h32 r (pre++ [b]) A (c+5) (by rw[hl];simp) ha2 h8 (by rw[hw,hwb];exact dec_step1 _ _ c _ rfl h8 hd) hA (by rw[List.length_append,List.length_singleton];omega)
    rw[len_snoc]at hx
    have hn8: ¬((c+5:Nat):Int)≥8:=by omega
    have hbits:=bits5n (wb pre%4096) (letN b) hN hd
    rw[e4,←hv]at hbits
    exact⟨x,Ev.step (fun k=>implRB32_cell k _ _ _ _ _ _ _ _ _ hsz h0p hix hdn hbits (wrap_plus c 5 (by omega)) (wrap_plus pre.length 1 (by omega)) hn8) hx⟩
   ·obtain⟨e,rfl⟩: ∃e,c=e+3:=⟨c-3,by omega⟩
    have hst:=dec_step2 (wb pre) (wn 256 A) e (letN b) hw (by omega) hd
    rw[e4]at hst
    have hs:shr .i64 ((wb (pre++ [b])%4096:Nat):Int) (e:Int)=((wb (pre++ [b])%4096/2^e:Nat):Int):=shr_nat _ _ (by omega)
    generalize wb (pre++ [b])%4096/2^e=Q at hst hs
    have hQ:Q%256<256:=Nat.mod_lt _ (by decide)
    obtain⟨x,hx⟩:=implRB32_go l h32 r (pre++ [b]) (A++ [Q%256]) e (by rw[hl];simp) ha2 (by omega) (by rw[wn_snoc,hst,hwb]) (by
     intro y hy
     rcases List.mem_append.1 hy with hy|hy
     ·exact hA y hy
     ·simp at hy;omega) (by rw[List.length_append,List.length_append,List.length_singleton,List.length_singleton];omega)
    rw[len_snoc,toI_snoc]at hx
    have h8e:((e+8:Nat):Int)≥8:=by omega
    have h0e:(0:Int)≤(e:Int):=by omega
    have hal:((A.map fun v:Nat=>(v:Int)).length)<140737488355328:=by rw[List.length_map];omega
    have hq:shr .i64 ((wb (pre++ [b])%4096:Nat):Int) (e:Int)%256=((Q%256:Nat):Int):=by rw[hs];exact mod256n Q
    have hbits:=bits5n (wb pre%4096) (letN b) hN hd
    rw[e4,←hv]at hbits
    exact⟨x,Ev.step (fun k=>implRB32_cell8 k _ _ _ _ _ _ _ _ _ _ _ hsz h0p hix hdn hbits (wrap_plus (e+3) 5 (by omega)) (wrap_plus pre.length 1 (by omega)) h8e (wrap_less e 8 (by omega)) h0e hal hq) hx⟩
theorem implRB32_is (l:List UInt8) (h32:l.length=32): ∃x,Ev (fun k=>impl_ReadBase32.f k (mkB l)) (x,l.all letOk):=
 implRB32_go l h32 l [] [] 0 rfl rfl (by decide) rfl (by simp) rfl
theorem shrs_nat (x c:Nat) (hc:c≤63):shr .i64 (x:Int) (c:Int)=((x/2^c:Nat):Int):=by
 unfold shr
 have e:min ((c:Int)).toNat IntKind.i64.bits=c:=by rw[Int.toNat_natCast];exact Nat.min_eq_left (by show c≤64;omega)
 rw[e];simp
theorem and1n (Q:Nat) (h:Q≤1000000):Go.bits .and .i64 (Q:Int) 1=((Q%2:Nat):Int):=by
 have:=bits_mask .i64 62 (by decide) (fun n h0 h1=>by rw[IntKind.wrap_i64];omega) 1 (by decide) (Q:Int) (by omega) (by omega)
 have e:((2:Int)^1-1)=1:=by decide
 rw[e]at this
 rw[this];omega
theorem wn_append (b:Nat) (l:List Nat): ∀m:List Nat,wn b (l++m)=wn b l*b^m.length+wn b m:=by
 intro m
 generalize hn:m.length=n
 induction n generalizing m with
 |zero=>rw[List.length_eq_zero_iff.1 hn];simp[wn]
 |succ n ih=>
  rcases List.eq_nil_or_concat m with rfl|⟨m',x,rfl⟩
  ·cases hn
  ·rw[List.concat_eq_append]at*
   rw[←List.append_assoc,wn_snoc,wn_snoc,ih m' (by simp at hn;exact hn),Nat.pow_succ,Nat.add_mul,Nat.mul_assoc];omega
theorem wn_lt (b:Nat) (hb:0<b): ∀m:List Nat,(∀x∈m,x<b)→wn b m<b^m.length:=by
 intro m
 generalize hn:m.length=n
 induction n generalizing m with
 |zero=>intro _;rw[List.length_eq_zero_iff.1 hn];simp[wn]
 |succ n ih=>
  intro h
  rcases List.eq_nil_or_concat m with rfl|⟨m',x,rfl⟩
  ·cases hn
  ·rw[List.concat_eq_append]at*
   have h1:=ih m' (by simp at hn;exact hn) (fun y hy=>h y (by simp[hy]))
   have h2:x<b:=h x (by simp)
   rw[wn_snoc,Nat.pow_succ]
   calc wn b m'*b+x<wn b m'*b+b:=by omega
    _=(wn b m'+1)*b:=by rw[Nat.add_mul,Nat.one_mul]
    _≤b^n*b:=Nat.mul_le_mul_right _ h1
theorem half_step (N m:Nat):N/2^m=2*(N/2^(m+1))+N/2^m%2:=by
 rw[Nat.pow_succ,←Nat.div_div_eq_div_mul];omega
theorem bit_of (W b r:Nat) (hb:b<256) (hr:r<8):(W*256+b)/2^(7-r)%2=b/2^(7-r)%2:=by
 have h:r=0∨r=1∨r=2∨r=3∨r=4∨r=5∨r=6∨r=7:=by omega
 rcases h with rfl|rfl|rfl|rfl|rfl|rfl|rfl|rfl<;>simp only[Nat.reduceSub,Nat.reducePow]<;>omega
theorem wrap_nat (q:Nat) (h:q≤1000000):wrap64 (q:Int)=(q:Int):=wrap_id (by omega) (by omega)
theorem wrap_seven (r:Nat) (h:r<8):wrap64 (7-(r:Int))=((7-r:Nat):Int):=by rw[wrap_id (by omega) (by omega)];omega
theorem l1bit_is (D:List Nat) (hD: ∀x∈D,x<256) (h20:D.length=20) (at_:Nat) (ha:at_<160):
  spec_l1bit.f (mkB (D.map fun v=>UInt8.ofNat v)) (at_:Int)=some ((wn 256 D/2^(159-at_)%2:Nat):Int):=by
 obtain⟨q,r,hr,rfl⟩: ∃q r,r<8∧at_=8*q+r:=⟨at_/8,at_%8,by omega,by omega⟩
 have hq:q<20:=by omega
 obtain⟨A,b,R,hAR,hA⟩: ∃A b R,D=A++b::R∧A.length=q:=by
  refine⟨D.take q,D[q],D.drop (q+1),?_,by rw[List.length_take];omega⟩
  rw[←List.drop_eq_getElem_cons (by omega),List.take_append_drop]
 have hb:b<256:=hD b (by rw[hAR];simp)
 have hR:R.length=19-q:=by have:=congrArg List.length hAR;simp at this;omega
 have hRl:=wn_lt 256 (by decide) R (fun x hx=>hD x (by rw[hAR];simp[hx]))
 have hbt:bt (mkB (D.map fun v=>UInt8.ofNat v)) (q:Int)=(b:Int):=by rw[←hA,hAR];exact bt_nat A R b hb
 have hw:wn 256 D/2^(159-(8*q+r))%2=b/2^(7-r)%2:=by
  have e1:159-(8*q+r)=8*R.length+(7-r):=by omega
  have e2:D=(A++ [b])++R:=by rw[hAR];simp
  have e3:(2:Nat)^(8*R.length)=256^R.length:=by rw[Nat.pow_mul]
  rw[e1,Nat.pow_add,e3,←Nat.div_div_eq_div_mul,e2,wn_append,Nat.mul_comm (wn 256 (A++ [b])),Nat.mul_add_div (Nat.pow_pos (by decide)),Nat.div_eq_of_lt hRl,Nat.add_zero,wn_snoc]
  exact bit_of _ b r hb hr
 have t1:Int.tdiv ((8*q+r:Nat):Int) 8=(q:Int):=by rw[Int.tdiv_eq_ediv_of_nonneg (by omega)];omega
 have t2:Int.tmod ((8*q+r:Nat):Int) 8=(r:Int):=by rw[Int.tmod_eq_emod_of_nonneg (by omega)];omega
 have hs:=shrs_nat b (7-r) (by omega)
 have hm:=and1n (b/2^(7-r)) (by have:=Nat.div_le_self b (2^(7-r));omega)
 have hsz:((mkB (D.map fun v=>UInt8.ofNat v)).size:Int)=20:=by rw[size_mk,List.length_map,h20];rfl
 have c1: ¬(q:Int)≥20:=by omega
 have c2:(0:Int)≤(q:Int):=by omega
 have c3:(q:Int)<20:=by omega
 have c4:(0:Int)≤((7-r:Nat):Int):=by omega
 have w1:=wrap_nat q (by omega)
 have w2:=wrap_seven r hr
 have w3:=wrap_nat b (Nat.le_trans (Nat.le_of_lt hb) (by decide))
 rw[hw]
 unfold spec_l1bit.f
 rw[t1,t2,w1,w2,hsz,hbt,w3,hs,hm,if_neg c1,if_pos c2,if_pos c3,if_pos c4]
theorem specB32_cell (k:Nat) (L:ByteArray) (X:List Int) (i v j t v' j' n:Int) (hj:j<5) (hn:wrap64 (i+j)=n) (ht:spec_l1bit.f L n=some t) (hv:wrap64 ((wrap64 (2*v))+t)=v') (hj':wrap64 (j+1)=j'):
  spec_Base32.l1 (k+1) L X i v j=spec_Base32.l1 k L X i v' j':=by
 rw[spec_Base32.l1,if_pos hj,hn,ht,Option.bind_some,hv,hj']
theorem specB32_put (k:Nat) (L:ByteArray) (X:List Int) (i v c i':Int) (h0:0≤v) (h32:v<32) (hX:X.length<140737488355328) (hc:bt (⟨#[65,66,67,68,69,70,71,72,73,74,75,76,77,78,79,80,81,82,83,84,85,86,87,88,89,90,50,51,52,53,54,55]⟩:ByteArray) v=c) (hi:wrap64 (i+5)=i'):
  spec_Base32.l1 (k+1) L X i v 5=spec_Base32.l0 k L (X++ [c]) i':=by
 rw[spec_Base32.l1,if_neg (by decide),if_pos h0,if_pos h32,if_pos hX,hc,hi]
theorem wrap_pluss (a b:Nat) (h:a+b≤1000000):wrap64 ((a:Int)+(b:Int))=((a+b:Nat):Int):=by rw[wrap_id (by omega) (by omega)];omega
theorem wrap_two (v t:Nat) (h:v≤1000) (ht:t≤1):wrap64 ((wrap64 (2*(v:Int)))+(t:Int))=((2*v+t:Nat):Int):=by
 rw[wrap_id (a:=2*(v:Int)) (by omega) (by omega),wrap_id (by omega) (by omega)];omega
theorem specB32_letter (D:List Nat) (hD: ∀x∈D,x<256) (h20:D.length=20) (X:List Int) (hX:X.length<1000) (i:Nat) (hi:i+5≤160) (res:ByteArray)
  (hK: ∀v:Nat,v<32→wn 256 D/2^(160-(i+5))=32*(wn 256 D/2^(160-i))+v→Ev (fun k=>spec_Base32.l0 k (mkB (D.map fun v=>UInt8.ofNat v)) (X++ [((letC v).toNat:Int)]) ((i+5:Nat):Int)) res):
  Ev (fun k=>spec_Base32.l1 k (mkB (D.map fun v=>UInt8.ofNat v)) X (i:Int) 0 0) res:=by
 have hb:=fun(a:Nat) (h:a<160)=>l1bit_is D hD h20 a h
 have hh: ∀a,a<160→wn 256 D/2^(160-(a+1))=2*(wn 256 D/2^(160-a))+wn 256 D/2^(159-a)%2:=by
  intro a ha
  have:=half_step (wn 256 D) (159-a)
  rw[show 159-a+1=160-a by omega]at this
  rw[show 160-(a+1)=159-a by omega];exact this
 have b0:=hb (i+0) (by omega)
 have b1:=hb (i+1) (by omega)
 have b2:=hb (i+2) (by omega)
 have b3:=hb (i+3) (by omega)
 have b4:=hb (i+4) (by omega)
 have s0:=hh i (by omega)
 have s1:=hh (i+1) (by omega)
 have s2:=hh (i+1+1) (by omega)
 have s3:=hh (i+1+1+1) (by omega)
 have s4:=hh (i+1+1+1+1) (by omega)
 rw[Nat.add_zero]at b0
 simp only[Nat.add_assoc,Nat.reduceAdd]at s1 s2 s3 s4
 have l0:wn 256 D/2^(159-i)%2<2:=Nat.mod_lt _ (by decide)
 have l1:wn 256 D/2^(159-(i+1))%2<2:=Nat.mod_lt _ (by decide)
 have l2:wn 256 D/2^(159-(i+2))%2<2:=Nat.mod_lt _ (by decide)
 have l3:wn 256 D/2^(159-(i+3))%2<2:=Nat.mod_lt _ (by decide)
 have l4:wn 256 D/2^(159-(i+4))%2<2:=Nat.mod_lt _ (by decide)
 generalize wn 256 D/2^(159-i)%2=t0 at*
 generalize wn 256 D/2^(159-(i+1))%2=t1 at*
 generalize wn 256 D/2^(159-(i+2))%2=t2 at*
 generalize wn 256 D/2^(159-(i+3))%2=t3 at*
 generalize wn 256 D/2^(159-(i+4))%2=t4 at*
 have hfin:=hK (2*(2*(2*(2*(2*0+t0)+t1)+t2)+t3)+t4) (by omega) (by omega)
 have hlt:2*(2*(2*(2*(2*0+t0)+t1)+t2)+t3)+t4<32:=by omega
 have hbt:=bt_let _ hlt
 unfold LETB at hbt
 refine Ev.step (fun k=>specB32_cell k _ _ _ _ _ _ _ _ _ (by decide) (wrap_pluss i 0 (by omega)) b0 (wrap_two 0 t0 (by omega) (by omega)) (wrap_pluss 0 1 (by decide))) ?_
 refine Ev.step (fun k=>specB32_cell k _ _ _ _ _ _ _ _ _ (by decide) (wrap_pluss i 1 (by omega)) b1 (wrap_two _ t1 (by omega) (by omega)) (wrap_pluss 1 1 (by decide))) ?_
 refine Ev.step (fun k=>specB32_cell k _ _ _ _ _ _ _ _ _ (by decide) (wrap_pluss i 2 (by omega)) b2 (wrap_two _ t2 (by omega) (by omega)) (wrap_pluss 2 1 (by decide))) ?_
 refine Ev.step (fun k=>specB32_cell k _ _ _ _ _ _ _ _ _ (by decide) (wrap_pluss i 3 (by omega)) b3 (wrap_two _ t3 (by omega) (by omega)) (wrap_pluss 3 1 (by decide))) ?_
 refine Ev.step (fun k=>specB32_cell k _ _ _ _ _ _ _ _ _ (by decide) (wrap_pluss i 4 (by omega)) b4 (wrap_two _ t4 (by omega) (by omega)) (wrap_pluss 4 1 (by decide))) ?_
 exact Ev.step (fun k=>specB32_put k _ _ _ _ _ _ (by omega) (by omega) (by omega) hbt (wrap_pluss i 5 (by omega))) hfin
def letJs (J:List Nat):List Int:=J.map fun v=>((letC v).toNat:Int)
theorem specB32_go (D:List Nat) (hD: ∀x∈D,x<256) (h20:D.length=20) (l:List UInt8) (hl:l.all letOk=true) (h32:l.length=32) (hv:wb l=wn 256 D):
  ∀(n i:Nat) (J:List Nat),i+n=32→J.length=i→(∀x∈J,x<32)→wn 32 J=wn 256 D/2^(160-5*i)→
  Ev (fun k=>spec_Base32.l0 k (mkB (D.map fun v=>UInt8.ofNat v)) (letJs J) ((5*i:Nat):Int)) (mkB l):=by
 have hsz:wrap64 (8*((mkB (D.map fun v=>UInt8.ofNat v)).size:Int))=160:=by rw[size_mk,List.length_map,h20,wrap_id (by decide) (by decide)];rfl
 intro n
 induction n with
 |zero=>
  intro i J hi hJl hJ hw
  obtain rfl:i=32:=by omega
  rw[Nat.sub_self,Nat.pow_zero,Nat.div_one,←hv]at hw
  have e:J=l.map letN:=wn_inj 32 (by decide) 32 J (l.map letN) hJl (by rw[List.length_map];exact h32) hJ (by
   intro x hx
   obtain⟨b,hb,rfl⟩:=List.mem_map.1 hx
   exact((letV_facts b).1 (List.all_eq_true.1 hl b hb)).2.1) hw
  refine Ev.step (f:=fun _=>some (mkB l)) (fun k=>?_) (Ev.now _)
  rw[spec_Base32.l0,hsz,if_neg (by decide)]
  unfold letJs
  rw[strOf_let,e,let_map l hl]
 |succ n ih=>
  intro i J hi hJl hJ hw
  refine Ev.step (fun k=>?_) (specB32_letter D hD h20 (letJs J) (by unfold letJs;rw[List.length_map];omega) (5*i) (by omega) (mkB l) (fun v hv32 hvv=>?_))
  ·have c1:((5*i:Nat):Int)<160:=by omega
   rw[spec_Base32.l0,hsz,if_pos c1]
  ·have:=ih (i+1) (J++ [v]) (by omega) (by rw[List.length_append,List.length_singleton];omega) (by
    intro x hx
    rcases List.mem_append.1 hx with hx|hx
    ·exact hJ x hx
    ·simp at hx;omega) (by rw[wn_snoc,hw,show 160-5*(i+1)=160-(5*i+5)by omega,hvv,Nat.mul_comm])
   rw[show 5*(i+1)=5*i+5 by omega]at this
   have e:letJs (J++ [v])=letJs J++ [((letC v).toNat:Int)]:=by unfold letJs;rw[List.map_append];rfl
   rw[e]at this
   exact this
theorem specB32_is (D:List Nat) (hD: ∀x∈D,x<256) (h20:D.length=20) (l:List UInt8) (hl:l.all letOk=true) (h32:l.length=32) (hv:wb l=wn 256 D):
  Ev (fun k=>spec_Base32.f k (strOfNums (D.map fun v:Nat=>(v:Int)))) (mkB l):=by
 rw[strOf_nat]
 unfold spec_Base32.f
 simp only[if_neg (show ¬((mkB (D.map fun v=>UInt8.ofNat v)).size:Int)>4000 by rw[size_mk,List.length_map];omega)]
 refine specB32_go D hD h20 l hl h32 hv 32 0 [] rfl rfl (by simp) ?_
 have hlt:=wn_lt 256 (by decide) D hD
 rw[h20]at hlt
 have e:(256:Nat)^20=2^(160-5*0):=by decide
 rw[e]at hlt
 rw[Nat.div_eq_of_lt hlt];rfl
def PB (acc:List Int) (at_ X:Nat):Prop:= ∃(A:List Nat) (r Y n:Nat),acc=A.map (fun v:Nat=>(v:Int))++(if n=0 then []else((Y*2^(8-r):Nat):Int)::List.replicate (n-1) 0)∧8*A.length+r=at_∧A.length+n=20∧r<8∧Y<2^r∧(∀x∈A,x<256)∧wn 256 A*2^r+Y=X
theorem PB_step (acc:List Int) (at_ X t:Nat) (h:PB acc at_ X) (ha:at_<160) (ht:t≤1):
  PB (if t=1 then acc.set (at_/8) ((rd acc ((at_/8:Nat):Int)+((2^(7-at_%8):Nat):Int))%256)else acc) (at_+1) (2*X+t)∧acc.length=20:=by
 obtain⟨A,r,Y,n,hacc,h1,h2,h3,h4,h5,h6⟩:=h
 have hn:n≠0:=by omega
 obtain⟨m,rfl⟩: ∃m,n=m+1:=⟨n-1,by omega⟩
 have hq:at_/8=A.length:=by omega
 have hr:at_%8=r:=by omega
 rw[if_neg hn,Nat.add_sub_cancel]at hacc
 have hlen:acc.length=20:=by rw[hacc];simp;omega
 refine⟨?_,hlen⟩
 rw[hq,hr]
 have hrd:rd acc (A.length:Int)=((Y*2^(8-r):Nat):Int):=by
  rw[hacc]
  show(A.map _++_).getD (A.length:Int).toNat 0=_
  rw[Int.toNat_natCast,List.getD_eq_getElem?_getD,List.getElem?_append_right (by simp)]
  simp
 have hset: ∀z:Int,acc.set A.length z=A.map (fun v:Nat=>(v:Int))++z::List.replicate m 0:=by
  intro z
  rw[hacc,List.set_append_right _ _ (by simp)]
  simp
 have hb:Y*2^(8-r)+2^(7-r)<256∧(2*Y+1)*2^(7-r)=Y*2^(8-r)+2^(7-r)∧2*Y*2^(7-r)=Y*2^(8-r):=by
  have h:r=0∨r=1∨r=2∨r=3∨r=4∨r=5∨r=6∨r=7:=by omega
  rcases h with rfl|rfl|rfl|rfl|rfl|rfl|rfl|rfl<;>simp only[Nat.reduceSub,Nat.reducePow]at* <;>omega
 obtain⟨hb1,hb2,hb3⟩:=hb
 have hacc2:(if t=1 then acc.set A.length ((rd acc (A.length:Int)+((2^(7-r):Nat):Int))%256)else acc)=A.map (fun v:Nat=>(v:Int))++(((2*Y+t)*2^(7-r):Nat):Int)::List.replicate m 0:=by
  by_cases ht1:t=1
  ·rw[if_pos ht1,hset,hrd,ht1,hb2]
   congr 2
   omega
  ·have ht0:t=0:=by omega
   rw[if_neg ht1,ht0,Nat.add_zero,hb3,hacc]
 rw[hacc2]
 by_cases h7:r=7
 ·subst h7
  refine⟨A++ [2*Y+t],0,0,m,?_,by rw[List.length_append,List.length_singleton];omega,by rw[List.length_append,List.length_singleton];omega,by decide,by decide,?_,by rw[wn_snoc,←h6];simp only[Nat.reducePow];omega⟩
  ·rw[toI_snoc,List.append_assoc]
   congr 1
   simp only[Nat.sub_self,Nat.pow_zero,Nat.mul_one,Nat.zero_mul,List.singleton_append]
   congr 1
   cases m with
   |zero=>rfl
   |succ m=>rw[if_neg (by omega),Nat.add_sub_cancel];rfl
  ·intro x hx
   rcases List.mem_append.1 hx with hx|hx
   ·exact h5 x hx
   ·simp at hx
    simp only[Nat.reducePow]at h4
    omega
 ·refine⟨A,r+1,2*Y+t,m+1,?_,by omega,h2,by omega,by rw[Nat.pow_succ];omega,h5,by rw[Nat.pow_succ,←h6,←Nat.mul_assoc];omega⟩
  rw[if_neg (by omega),Nat.add_sub_cancel,show 8-(r+1)=7-r by omega]
theorem PB_zero:PB (List.replicate 20 0) 0 0:=⟨[],0,0,20,by simp[List.replicate],rfl,rfl,by decide,by decide,by simp,rfl⟩
theorem PB_end (acc:List Int) (X:Nat) (h:PB acc 160 X): ∃A:List Nat,acc=A.map (fun v:Nat=>(v:Int))∧A.length=20∧(∀x∈A,x<256)∧wn 256 A=X:=by
 obtain⟨A,r,Y,n,hacc,h1,h2,h3,h4,h5,h6⟩:=h
 have hn:n=0:=by omega
 have hr:r=0:=by omega
 subst hn;subst hr
 rw[if_pos rfl,List.append_nil]at hacc
 rw[Nat.pow_zero]at h4
 refine⟨A,hacc,by omega,h5,?_⟩
 rw[Nat.pow_zero,Nat.mul_one]at h6;omega
theorem specRB32_set (k:Nat) (L:ByteArray) (X:List Int) (i d j n q e s g j':Int) (hj:j<5) (hn:wrap64 ((wrap64 (5*i))+j)=n) (hq:wrap64 (Int.tdiv n 8)=q) (hl:q<(X.length:Int)) (hs:wrap64 (4-j)=s) (h0s:0≤s) (hb:Go.bits .and .i64 (shr .i64 d s) 1=1) (h0q:0≤q) (he:wrap64 (7-(Int.tmod n 8))=e) (h0e:0≤e) (hg:(rd X q+shl .u8 1 e)%256=g) (hj':wrap64 (j+1)=j'):
  spec_ReadBase32.l1 (k+1) L X i d j=spec_ReadBase32.l1 k L (X.set q.toNat g) i d j':=by
 rw[spec_ReadBase32.l1,if_pos hj,hn,hq,if_pos hl,hs,if_pos h0s,if_pos hb,if_pos h0q,he,if_pos h0e,hg,hj']
theorem specRB32_skip (k:Nat) (L:ByteArray) (X:List Int) (i d j n q s j':Int) (hj:j<5) (hn:wrap64 ((wrap64 (5*i))+j)=n) (hq:wrap64 (Int.tdiv n 8)=q) (hl:q<(X.length:Int)) (hs:wrap64 (4-j)=s) (h0s:0≤s) (hb: ¬Go.bits .and .i64 (shr .i64 d s) 1=1) (hj':wrap64 (j+1)=j'):
  spec_ReadBase32.l1 (k+1) L X i d j=spec_ReadBase32.l1 k L X i d j':=by
 rw[spec_ReadBase32.l1,if_pos hj,hn,hq,if_pos hl,hs,if_pos h0s,if_neg hb,hj']
theorem shl_u8 (e:Nat) (he:e<8):shl .u8 1 (e:Int)=((2^e:Nat):Int):=by
 have h:e=0∨e=1∨e=2∨e=3∨e=4∨e=5∨e=6∨e=7:=by omega
 rcases h with rfl|rfl|rfl|rfl|rfl|rfl|rfl|rfl<;>decide
theorem specRB32_bit (L:ByteArray) (acc:List Int) (i d j X:Nat) (hi:i<32) (hj:j<5) (hd:d<32) (hP:PB acc (5*i+j) X) (ok:Bool)
  (hK: ∀acc',PB acc' (5*i+(j+1)) (2*X+d/2^(4-j)%2)→ ∃x:ByteArray,Ev (fun k=>spec_ReadBase32.l1 k L acc' (i:Int) (d:Int) ((j+1:Nat):Int)) (x,ok)):
  ∃x:ByteArray,Ev (fun k=>spec_ReadBase32.l1 k L acc (i:Int) (d:Int) (j:Int)) (x,ok):=by
 have ht:d/2^(4-j)%2≤1:=by have:=Nat.mod_lt (d/2^(4-j)) (show 0<2 by decide);omega
 obtain⟨hP',hlen⟩:=PB_step acc (5*i+j) X (d/2^(4-j)%2) hP (by omega) ht
 obtain⟨x,hk⟩:=hK _ hP'
 have hsh:=shrs_nat d (4-j) (by omega)
 have hm:=and1n (d/2^(4-j)) (by have:=Nat.div_le_self d (2^(4-j));omega)
 have hdiv:Int.tdiv ((5*i+j:Nat):Int) 8=(((5*i+j)/8:Nat):Int):=by rw[Int.tdiv_eq_ediv_of_nonneg (by omega)];omega
 have hmod:Int.tmod ((5*i+j:Nat):Int) 8=(((5*i+j)%8:Nat):Int):=by rw[Int.tmod_eq_emod_of_nonneg (by omega)];omega
 have hql:(((5*i+j)/8:Nat):Int)<(acc.length:Int):=by rw[hlen];omega
 have h0s:(0:Int)≤((4-j:Nat):Int):=by omega
 have h0q:(0:Int)≤(((5*i+j)/8:Nat):Int):=by omega
 have h0e:(0:Int)≤((7-(5*i+j)%8:Nat):Int):=by omega
 have hj5:(j:Int)<5:=by omega
 have hshl:=shl_u8 (7-(5*i+j)%8) (by omega)
 have W1:wrap64 ((wrap64 (5*(i:Int)))+(j:Int))=((5*i+j:Nat):Int):=by
  rw[wrap_id (a:=5*(i:Int)) (by omega) (by omega),wrap_id (by omega) (by omega)];omega
 have W2:wrap64 (((5*i+j)/8:Nat):Int)=(((5*i+j)/8:Nat):Int):=by clear W1;exact wrap_id (by omega) (by omega)
 have W3:wrap64 (4-(j:Int))=((4-j:Nat):Int):=by clear W1 W2;rw[wrap_id (by omega) (by omega)];omega
 have W4:wrap64 (7-(((5*i+j)%8:Nat):Int))=((7-(5*i+j)%8:Nat):Int):=by clear W1 W2 W3;rw[wrap_id (by omega) (by omega)];omega
 have W5:wrap64 ((j:Int)+1)=((j+1:Nat):Int):=by clear W1 W2 W3 W4;exact wrap_pluss j 1 (by omega)
 rw[←hdiv]at W2
 rw[←hmod]at W4
 rw[hdiv]at W2
 by_cases h1:d/2^(4-j)%2=1
 ·rw[if_pos h1]at hk
  refine⟨x,Ev.step (fun k=>?_) hk⟩
  have e:=specRB32_set k L acc (i:Int) (d:Int) (j:Int) _ _ _ _ _ _ hj5 W1 (by rw[hdiv];exact W2) hql W3 h0s (by rw[hsh,hm,h1];rfl) h0q W4 h0e rfl W5
  rw[e,hshl,Int.toNat_natCast]
 ·rw[if_neg h1]at hk
  refine⟨x,Ev.step (fun k=>?_) hk⟩
  exact specRB32_skip k L acc (i:Int) (d:Int) (j:Int) _ _ _ _ hj5 W1 (by rw[hdiv];exact W2) hql W3 h0s (by rw[hsh,hm];intro hh;exact h1 (Int.ofNat_inj.1 hh)) W5
theorem specFive_is (b:UInt8):Ev (fun k=>spec_l1five.f k (b.toNat:Int)) (letV b):=by
 have hb:b.toNat<256:=b.toNat_lt
 unfold spec_l1five.f letV
 by_cases h65:(b.toNat:Int)≥65
 ·simp only[if_pos h65]
  by_cases h90:(b.toNat:Int)≤90
  ·rw[if_pos (by omega)]
   refine Ev.step (f:=fun _=>some ((b.toNat:Int)-65)) (fun k=>?_) (Ev.now _)
   rw[spec_l1five.j0,if_pos (decide_eq_true h90)]
   congr 1;omega
  ·rw[if_neg (by omega),if_neg (by omega)]
   refine Ev.step (f:=fun _=>some (-1)) (fun k=>?_) (Ev.now _)
   rw[spec_l1five.j0,if_neg (by rw[decide_eq_false h90];exact Bool.false_ne_true),if_pos (by omega),if_neg (by omega)]
 ·simp only[if_neg h65]
  rw[if_neg (by omega)]
  by_cases h50:50≤b.toNat∧b.toNat≤55
  ·rw[if_pos h50]
   refine Ev.step (f:=fun _=>some ((b.toNat:Int)-24)) (fun k=>?_) (Ev.now _)
   rw[spec_l1five.j0,if_neg Bool.false_ne_true,if_pos (by omega),if_pos (by omega)]
   congr 1;omega
  ·rw[if_neg h50]
   refine Ev.step (f:=fun _=>some (-1)) (fun k=>?_) (Ev.now _)
   rw[spec_l1five.j0,if_neg Bool.false_ne_true]
   by_cases h:(b.toNat:Int)≥50
   ·rw[if_pos h,if_neg (by omega)]
   ·rw[if_neg h]
theorem five_sum (V d:Nat) (hd:d<32):2*(2*(2*(2*(2*V+d/2^(4-0)%2)+d/2^(4-1)%2)+d/2^(4-2)%2)+d/2^(4-3)%2)+d/2^(4-4)%2=V*32+d:=by
 simp only[Nat.reduceSub,Nat.reducePow];omega
theorem specRB32_go (l:List UInt8) (h32:l.length=32): ∀(r pre:List UInt8) (acc:List Int),l=pre++r→pre.all letOk=true→PB acc (5*pre.length) (wb pre)→
  ∃x,Ev (fun k=>spec_ReadBase32.l0 k (mkB l) acc (pre.length:Int)) (x,r.all letOk)
 | [],pre,acc,hl,ha,hP=>by
  rw[List.append_nil]at hl
  subst hl
  rw[h32]at hP
  obtain⟨A,hA,hA20,hA256,hw⟩:=PB_end acc _ hP
  subst hA
  refine⟨strOfNums (A.map fun v:Nat=>(v:Int)),Ev.step (f:=fun k=>(spec_Base32.f k (strOfNums (A.map fun v:Nat=>(v:Int)))).bind fun t212=>(if t212.toList=(mkB l).toList then(some (strOfNums (A.map fun v:Nat=>(v:Int)),true))else(some ((⟨#[]⟩:ByteArray),false)))) (fun k=>by
   rw[spec_ReadBase32.l0,if_neg (by rw[size_mk];omega)]) ?_⟩
  refine(specB32_is A hA256 hA20 l ha h32 hw.symm).bind ?_
  rw[if_pos rfl]
  exact Ev.now _
 |b::r,pre,acc,hl,ha,hP=>by
  have hpl:pre.length<32:=by have:=congrArg List.length hl;simp at this;omega
  have hbt:bt (mkB l) (pre.length:Int)=(b.toNat:Int):=by rw[hl];exact bt_mid pre b r
  have hsz:(pre.length:Int)<((mkB l).size:Int):=by rw[size_mk];omega
  have h0p:(0:Int)≤(pre.length:Int):=by omega
  have hstep: ∀k,spec_ReadBase32.l0 (k+1) (mkB l) acc (pre.length:Int)=(spec_l1five.f k (b.toNat:Int)).bind fun t213=>(if t213<0 then(some ((⟨#[]⟩:ByteArray),false))else(spec_ReadBase32.l1 k (mkB l) acc (pre.length:Int) t213 0)):=by
   intro k
   rw[spec_ReadBase32.l0,if_pos hsz,if_pos h0p,hbt]
  cases hok:letOk b
  ·have hv:=(letV_facts b).2 hok
   refine⟨(⟨#[]⟩:ByteArray),Ev.step hstep ((specFive_is b).bind ?_)⟩
   rw[hv,List.all_cons,hok]
   exact Ev.now _
  ·obtain⟨_,hd,hv⟩:=(letV_facts b).1 hok
   have ha2:(pre++ [b]).all letOk=true:=by rw[List.all_append,ha];simp[hok]
   rw[List.all_cons,hok,Bool.true_and]
   have key: ∀acc',PB acc' (5*pre.length+(4+1)) (2*(2*(2*(2*(2*wb pre+letN b/2^(4-0)%2)+letN b/2^(4-1)%2)+letN b/2^(4-2)%2)+letN b/2^(4-3)%2)+letN b/2^(4-4)%2)→ ∃x,Ev (fun k=>spec_ReadBase32.l1 k (mkB l) acc' (pre.length:Int) (letN b:Int) ((4+1:Nat):Int)) (x,r.all letOk):=by
    intro acc' hP'
    rw[five_sum _ _ hd,←wb_snoc]at hP'
    have e5:5*pre.length+(4+1)=5*(pre++ [b]).length:=by rw[List.length_append,List.length_singleton];omega
    rw[e5]at hP'
    obtain⟨x,hx⟩:=specRB32_go l h32 r (pre++ [b]) acc' (by rw[hl];simp) ha2 hP'
    rw[len_snoc]at hx
    refine⟨x,Ev.step (fun k=>?_) hx⟩
    rw[spec_ReadBase32.l1,if_neg (by decide),wrap_id (a:=(pre.length:Int)+1) (by omega) (by omega)]
   obtain⟨x,hx⟩:=specRB32_bit (mkB l) acc pre.length (letN b) 0 (wb pre) hpl (by decide) hd hP (r.all letOk) (fun a1 p1=>
    specRB32_bit (mkB l) a1 pre.length (letN b) 1 _ hpl (by decide) hd p1 (r.all letOk) (fun a2 p2=>
     specRB32_bit (mkB l) a2 pre.length (letN b) 2 _ hpl (by decide) hd p2 (r.all letOk) (fun a3 p3=>
      specRB32_bit (mkB l) a3 pre.length (letN b) 3 _ hpl (by decide) hd p3 (r.all letOk) (fun a4 p4=>
       specRB32_bit (mkB l) a4 pre.length (letN b) 4 _ hpl (by decide) hd p4 (r.all letOk) key))))
   refine⟨x,Ev.step hstep ((specFive_is b).bind ?_)⟩
   have hnn: ¬(letN b:Int)<0:=by omega
   rw[hv]
   simp only[if_neg hnn]
   exact hx
theorem specRB32_is (l:List UInt8) (h32:l.length=32): ∃x,Ev (fun k=>spec_ReadBase32.f k (mkB l)) (x,l.all letOk):=by
 obtain⟨x,hx⟩:=specRB32_go l h32 l [] (List.replicate 20 0) rfl rfl PB_zero
 refine⟨x,?_⟩
 have hz:((mkB l).size:Int)=32:=by rw[size_mk,h32];rfl
 have hw:wrap64 (Int.tdiv (wrap64 ((32:Int)*5)) 8)=20:=by
  have e:Int.tdiv ((32:Int)*5) 8=20:=by decide
  rw[wrap_id (a:=(32:Int)*5) (by decide) (by decide),e];exact wrap_id (by decide) (by decide)
 unfold spec_ReadBase32.f
 rw[hz,hw]
 simp only[if_neg (show ¬(32:Int)>6400 by decide),if_pos (show(0:Int)≤20 by decide),if_pos (show(20:Int).toNat≤281474976710656 by decide)]
 exact hx
theorem index_bound: ∀(l sub:List UInt8),Lib.index l sub= -1∨(0≤Lib.index l sub∧Lib.index l sub+sub.length≤l.length)
 | [],sub=>by cases sub<;>simp[Lib.index]
 |b::l,sub=>by
  unfold Lib.index
  by_cases hp:sub.isPrefixOf (b::l)=true
  ·have:=(List.isPrefixOf_iff_prefix.1 hp).length_le
   rw[if_pos hp];right;simp at this ⊢;omega
  ·rw[if_neg hp]
   rcases index_bound l sub with h|h
   ·left;simp[h]
   ·right
    have:(Lib.index l sub== -1)=false:=by simp;omega
    rw[this];simp;omega
def splitL (c:UInt8):List UInt8→List (List UInt8)
 | []=> [[]]
 |b::r=>if b=c then []::splitL c r else((splitL c r).headD []|>(b:: ·))::(splitL c r).tail
theorem splitL_ne (c:UInt8): ∀l,splitL c l≠ []
 | []=>by simp[splitL]
 |b::r=>by unfold splitL;split<;>simp
theorem splitL_none (c:UInt8): ∀l:List UInt8,(∀b∈l,b≠c)→splitL c l= [l]
 | [],_=>rfl
 |b::r,h=>by
  have ih:=splitL_none c r (fun x hx=>h x (List.mem_cons_of_mem _ hx))
  rw[splitL,if_neg (h b (by simp)),ih];rfl
theorem splitL_hit (c:UInt8): ∀(mid r:List UInt8),(∀b∈mid,b≠c)→splitL c (mid++c::r)=mid::splitL c r
 | [],r,_=>by simp[splitL]
 |b::mid,r,h=>by
  have ih:=splitL_hit c mid r (fun x hx=>h x (List.mem_cons_of_mem _ hx))
  rw[List.cons_append,splitL,if_neg (h b (by simp)),ih];rfl
theorem split_dec (c:UInt8): ∀l:List UInt8,(∀b∈l,b≠c)∨ ∃mid r,l=mid++c::r∧ ∀b∈mid,b≠c
 | []=> .inl (by simp)
 |b::r=>by
  by_cases h:b=c
  ·subst h;exact .inr ⟨[],r,rfl,by simp⟩
  ·rcases split_dec c r with h1|⟨mid,r',rfl,h1⟩
   ·exact .inl (by intro x hx;rcases List.mem_cons.1 hx with rfl|hx;exact h;exact h1 x hx)
   ·exact .inr ⟨b::mid,r',rfl,by intro x hx;rcases List.mem_cons.1 hx with rfl|hx;exact h;exact h1 x hx⟩
theorem index_mid (c:UInt8): ∀(mid r:List UInt8),(∀b∈mid,b≠c)→Lib.index (mid++c::r) [c]=(mid.length:Int)
 | [],r,_=>by simp[Lib.index]
 |b::mid,r,h=>by
  have ih:=index_mid c mid r (fun x hx=>h x (List.mem_cons_of_mem _ hx))
  have hc:(c==b)=false:=by simpa using fun x=>h b (by simp) x.symm
  simp only[List.cons_append,Lib.index,List.isPrefixOf,hc,Bool.false_and,Bool.false_eq_true,if_false,ih]
  rw[if_neg (by simp<;>omega)];simp
theorem splitK_is (c:UInt8): ∀(n:Nat) (l:List UInt8),l.count c=n→Lib.splitK [c] 0 n l=splitL c l
 |0,l,h=>by
  have: ∀b∈l,b≠c:=fun b hb e=>by subst e;exact(List.count_eq_zero.1 h) hb
  rw[splitL_none c l this];rfl
 |n+1,l,h=>by
  rcases split_dec c l with h1|⟨mid,r,rfl,h1⟩
  ·have:l.count c=0:=List.count_eq_zero.2 (fun hm=>h1 c hm rfl)
   omega
  ·have hm:mid.count c=0:=List.count_eq_zero.2 (fun hm=>h1 c hm rfl)
   have hr:r.count c=n:=by simp[List.count_append,hm]at h;exact h
   rw[Lib.splitK,index_mid c mid r h1,if_neg (by simp<;>omega),splitL_hit c mid r h1]
   simp only[Int.toNat_natCast,Nat.add_zero,List.length_singleton]
   rw[List.take_left' rfl,show(mid++c::r).drop (mid.length+1)=r from drop_mid mid c r,splitK_is c n r hr]
theorem map_bl_mk (X:List ByteArray) (Y:List (List UInt8)) (h:X.map (·.data.toList)=Y):X=Y.map mkB:=by
 rw[←h,List.map_map]
 have:(mkB ∘ fun x:ByteArray=>x.data.toList)=id:=by funext x;exact mk_bl x
 rw[this,List.map_id]
theorem stringsSplit_is (l:List UInt8) (c:UInt8) (h:l.length≤1048576):strings_Split.f (mkB l) (⟨#[c]⟩:ByteArray)=some ((splitL c l).map mkB):=by
 unfold strings_Split.f
 rw[if_pos ⟨by rw[size_mk];omega,Nat.le_refl _⟩]
 congr 1
 apply map_bl_mk
 rw[Lib.splitB_data]
 have e1:(⟨#[c]⟩:ByteArray).data.toList= [c]:=rfl
 have e2:(mkB l).data.toList=l:=bl_mk l
 show Lib.splitK _ 0 (Lib.count (mkB l).data.toList (⟨#[c]⟩:ByteArray).data.toList) _=_
 rw[e1,e2,Lib.count_one]
 exact splitK_is c _ l rfl
theorem take_mid (pre m suf:List UInt8):((pre++(m++suf)).drop pre.length).take (pre.length+m.length-pre.length)=m:=by simp
theorem bt_mid2 (pre m:List UInt8) (b:UInt8) (suf:List UInt8) (i:Int) (hi:i=(pre.length:Int)+(m.length:Int)):bt (mkB (pre++(m++b::suf))) i=(b.toNat:Int):=by
 have:=bt_mid (pre++m) b suf
 rw[List.append_assoc]at this
 rw[hi,←this];simp
theorem u8_nat (b c:UInt8):(b.toNat:Int)=(c.toNat:Int)↔b=c:=by rw[←UInt8.toNat_inj];omega
theorem spec7split_go (c:UInt8): ∀(r mid done:List UInt8) (acc:List ByteArray),(∀b∈mid,b≠c)→(done++(mid++r)).length≤1048576→acc.length≤done.length→
  Ev (fun k=>spec_l7split.l0 k (mkB (done++(mid++r))) (c.toNat:Int) acc (done.length:Int) ((done.length:Int)+(mid.length:Int))) (acc++(splitL c (mid++r)).map mkB)
 | [],mid,done,acc,hm,hl,ha=>by
  simp only[List.append_nil]at hl ⊢
  have hl2:=hl
  simp at hl2
  rw[splitL_none c mid hm]
  have hx:(mkB (done++mid)).extract (done.length:Int).toNat ((done.length:Int)+(mid.length:Int)).toNat=mkB mid:=by
   have:=take_mid done mid []
   rw[List.append_nil]at this
   rw[extract_mk,Int.toNat_natCast,show((done.length:Int)+(mid.length:Int)).toNat=done.length+mid.length by omega,this]
  have hw:wrap64 ((done.length:Int)+(mid.length:Int)+1)=(done.length:Int)+(mid.length:Int)+1:=wrap_id (by omega) (by omega)
  refine Ev.step (f:=fun k=>spec_l7split.l0 k (mkB (done++mid)) (c.toNat:Int) (acc++ [mkB mid]) ((done.length:Int)+(mid.length:Int)+1) ((done.length:Int)+(mid.length:Int)+1)) (fun k=>?_) ?_
  ·simp only[spec_l7split.l0]
   rw[if_pos (by rw[size_mk];simp),if_pos (by rw[size_mk];simp),if_pos (by omega),if_pos (by omega),if_pos (by omega),hx,hw]
  ·refine Ev.step (f:=fun _=>some (acc++ [mkB mid])) (fun k=>?_) (Ev.now _)
   simp only[spec_l7split.l0]
   rw[if_neg (by rw[size_mk];simp;omega)]
 |b::r,mid,done,acc,hm,hl,ha=>by
  have hl2:=hl
  simp at hl2
  have hw:wrap64 ((done.length:Int)+(mid.length:Int)+1)=(done.length:Int)+(mid.length:Int)+1:=wrap_id (by omega) (by omega)
  have hle:(done.length:Int)+(mid.length:Int)≤((mkB (done++(mid++b::r))).size:Int):=by rw[size_mk];simp;omega
  have hne: ¬(done.length:Int)+(mid.length:Int)=((mkB (done++(mid++b::r))).size:Int):=by rw[size_mk];simp;omega
  have hlt:(done.length:Int)+(mid.length:Int)<((mkB (done++(mid++b::r))).size:Int):=by rw[size_mk];simp;omega
  have hb:=bt_mid2 done mid b r _ rfl
  by_cases h:b=c
  ·subst h
   have ih:=spec7split_go b r [] (done++mid++ [b]) (acc++ [mkB mid]) (by simp) (by simp;omega) (by simp;omega)
   have e:(done++mid++ [b])++([]++r)=done++(mid++b::r):=by simp
   have e2:((done++mid++ [b]).length:Int)=(done.length:Int)+(mid.length:Int)+1:=by simp;omega
   rw[e,e2]at ih
   simp only[List.nil_append,List.length_nil,Int.natCast_zero,Int.add_zero]at ih
   rw[splitL_hit b mid r hm,List.map_cons]
   have hx:(mkB (done++(mid++b::r))).extract (done.length:Int).toNat ((done.length:Int)+(mid.length:Int)).toNat=mkB mid:=by
    rw[extract_mk,Int.toNat_natCast,show((done.length:Int)+(mid.length:Int)).toNat=done.length+mid.length by omega,take_mid]
   rw[show acc++mkB mid::(splitL b r).map mkB=acc++ [mkB mid]++(splitL b r).map mkB by simp]
   refine Ev.step (fun k=>?_) ih
   simp only[spec_l7split.l0]
   rw[if_pos hle,if_neg hne,if_pos (by omega),if_pos hlt,hb,if_pos rfl,if_pos (by omega),if_pos (by omega),if_pos (by omega),hx,hw]
  ·have ih:=spec7split_go c r (mid++ [b]) done acc (by intro x hx;rcases List.mem_append.1 hx with h'|h';exact hm x h';simp at h';subst h';exact h) (by simp;omega) ha
   have e:done++(mid++ [b]++r)=done++(mid++b::r):=by simp
   have e2:(done.length:Int)+((mid++ [b]).length:Int)=(done.length:Int)+(mid.length:Int)+1:=by simp;omega
   have e3:mid++ [b]++r=mid++b::r:=by simp
   rw[e,e2,e3]at ih
   refine Ev.step (fun k=>?_) ih
   simp only[spec_l7split.l0]
   rw[if_pos hle,if_neg hne,if_pos (by omega),if_pos hlt,hb,if_neg (fun e=>h ((u8_nat b c).1 e)),hw]
theorem spec7split_is (c:UInt8) (l:List UInt8) (h:l.length≤1048576):Ev (fun k=>spec_l7split.f k (mkB l) (c.toNat:Int)) ((splitL c l).map mkB):=by
 have:=spec7split_go c l [] [] [] (by simp) (by simpa using h) (by simp)
 simpa [spec_l7split.f]using this
def lowB (b:UInt8):Bool:=decide (97≤b.toNat)&&decide (b.toNat≤122)
def uppB (b:UInt8):Bool:=decide (65≤b.toNat)&&decide (b.toNat≤90)
def digB (b:UInt8):Bool:=decide (48≤b.toNat)&&decide (b.toNat≤57)
theorem isLower_is (b:UInt8):impl_isLower.f (b.toNat:Int)=some (lowB b):=by
 unfold impl_isLower.f lowB
 by_cases h:97≤b.toNat
 ·rw[if_pos (by omega)];congr 1;rw[Bool.eq_iff_iff];simp[h];omega
 ·rw[if_neg (by omega)];simp[h]
theorem isUpper_is (b:UInt8):impl_isUpper.f (b.toNat:Int)=some (uppB b):=by
 unfold impl_isUpper.f uppB
 by_cases h:65≤b.toNat
 ·rw[if_pos (by omega)];congr 1;rw[Bool.eq_iff_iff];simp[h];omega
 ·rw[if_neg (by omega)];simp[h]
theorem isDigit_is (b:UInt8):impl_isDigit.f (b.toNat:Int)=some (digB b):=by
 unfold impl_isDigit.f digB
 by_cases h:48≤b.toNat
 ·rw[if_pos (by omega)];congr 1;rw[Bool.eq_iff_iff];simp[h];omega
 ·rw[if_neg (by omega)];simp[h]
theorem l1digit_is (b:UInt8):spec_l1digit.f (b.toNat:Int)=some (digB b):=isDigit_is b
theorem has_go (c:Int): ∀(r pre:List UInt8),(pre++r).length≤9223372036854775806→Ev (fun k=>spec_l1has.l0 k (mkB (pre++r)) c pre.length) (r.any fun x=>decide ((x.toNat:Int)=c))
 | [],pre,hl=>Ev.step (f:=fun _=>some false) (fun k=>by simp only[spec_l1has.l0];rw[if_neg (by rw[size_mk];simp)]) (Ev.now _)
 |b::r,pre,hl=>by
  have ih:=has_go c r (pre++ [b]) (by rw[←app_mid];exact hl)
  rw[←app_mid,len_snoc]at ih
  simp at hl
  by_cases h:(b.toNat:Int)=c
  ·refine Ev.step (f:=fun _=>some true) (fun k=>?_) (by simpa [h]using Ev.now true)
   simp only[spec_l1has.l0]
   rw[if_pos (size_lt_mid ..),if_pos (by omega),bt_mid,if_pos h]
  ·refine Ev.step (fun k=>?_) (by simpa [h]using ih)
   simp only[spec_l1has.l0]
   rw[if_pos (size_lt_mid ..),if_pos (by omega),bt_mid,if_neg h,wrap_id (by omega) (by omega)]
theorem has_is (set:List UInt8) (b:UInt8) (h:set.length≤9223372036854775806):Ev (fun k=>spec_l1has.f k (mkB set) (b.toNat:Int)) (set.contains b):=by
 have:=has_go (b.toNat:Int) set [] (by simpa using h)
 have e:(set.any fun x=>decide ((x.toNat:Int)=(b.toNat:Int)))=set.contains b:=by
  rw[←List.any_beq]
  congr 1
  funext x
  rw[Bool.eq_iff_iff]
  simp only[decide_eq_true_eq,beq_iff_eq]
  constructor
  ·intro h;exact(UInt8.toNat_inj.1 (by omega)).symm
  ·intro h;rw[h]
 rw[e]at this
 simpa [spec_l1has.f]using this
def hexV (b:UInt8):Int:=if digB b=true then(b.toNat:Int)-48 else if 97≤b.toNat∧b.toNat≤102 then(b.toNat:Int)-87 else if 65≤b.toNat∧b.toNat≤70 then(b.toNat:Int)-55 else-1
def readHexL:List UInt8→Int→Int×Bool
 | [],n=>(n,true)
 |b::r,n=>if hexV b<0 then(0,false)else readHexL r (16*n+hexV b)
def hexBnd:Nat→Int
 |0=>268435456
 |m+1=>hexBnd m/16
theorem hexBnd_le: ∀m,0≤hexBnd m∧hexBnd m≤268435456
 |0=>by simp[hexBnd]
 |m+1=>by have:=hexBnd_le m;unfold hexBnd;omega
theorem hexV_lt (b:UInt8):hexV b<16:=by
 unfold hexV digB
 by_cases h:48≤b.toNat∧b.toNat≤57
 ·simp[h];omega
 ·rw[if_neg (by simp;omega)];split
  ·omega
  ·split<;>omega
theorem specHexLow (b:UInt8): ∃c:Int,spec_l1lower.f (b.toNat:Int)=some c∧0≤c∧c<256∧(65≤b.toNat∧b.toNat≤90→c=(b.toNat:Int)+32)∧(¬(65≤b.toNat∧b.toNat≤90)→c=(b.toNat:Int)):=by
 have:=u8_lt b
 unfold spec_l1lower.f
 by_cases h1:65≤b.toNat
 ·rw[if_pos (by omega)]
  by_cases h2:b.toNat≤90
  ·rw[if_pos (by omega)];exact⟨_,rfl,by omega,by omega,fun _=>by omega,fun h=>absurd ⟨h1,h2⟩ h⟩
  ·rw[if_neg (by omega)];exact⟨_,rfl,by omega,by omega,fun h=>absurd h.2 h2,fun _=>rfl⟩
 ·rw[if_neg (by omega)];exact⟨_,rfl,by omega,by omega,fun h=>absurd h.1 h1,fun _=>rfl⟩
theorem l1digit_at (c:Int):spec_l1digit.f c=some (decide (48≤c)&&decide (c≤57)):=by
 unfold spec_l1digit.f
 by_cases h:c≥48
 ·rw[if_pos h,decide_eq_true (show 48≤c from h)];rfl
 ·rw[if_neg h,decide_eq_false (show ¬48≤c from h)];rfl
theorem specReadHex_go: ∀(r pre:List UInt8) (n:Int),0≤n→n<hexBnd r.length→(pre++r).length≤1000→Ev (fun k=>spec_ReadHex.l0 k (mkB (pre++r)) n pre.length) (readHexL r n)
 | [],pre,n,_,_,_=>Ev.step (f:=fun _=>some (n,true)) (fun k=>by simp only[spec_ReadHex.l0];rw[if_neg (by rw[size_mk];simp)]) (Ev.now _)
 |b::r,pre,n,h0,h1,hl=>by
  have hb:=hexBnd_le r.length
  have hv:=hexV_lt b
  have h1':n<hexBnd r.length/16:=h1
  simp at hl
  have ih:=specReadHex_go r (pre++ [b]) (16*n+hexV b)
  rw[←app_mid,len_snoc]at ih
  have hw:wrap64 ((pre.length:Int)+1)=(pre.length:Int)+1:=wrap_id (by omega) (by omega)
  have hw0:wrap64 (n*16)=n*16:=wrap_id (by omega) (by omega)
  obtain⟨c,hc,c0,c1,c2,c3⟩:=specHexLow b
  have hcell: ∀k,spec_ReadHex.l0 (k+1) (mkB (pre++b::r)) n pre.length=if hexV b<0 then some (0,false)else spec_ReadHex.l0 k (mkB (pre++b::r)) (16*n+hexV b) ((pre.length:Int)+1):=by
   intro k
   simp only[spec_ReadHex.l0]
   rw[if_pos (size_lt_mid ..),if_pos (by omega),bt_mid,hc]
   simp only[Option.bind_some,l1digit_at,hw,hw0]
   by_cases hd:48≤c∧c≤57
   ·have hbd:48≤b.toNat∧b.toNat≤57:=by
     by_cases hu:65≤b.toNat∧b.toNat≤90
     ·have:=c2 hu;omega
     ·have:=c3 hu;omega
    have e:=c3 (by omega)
    have hval:hexV b=c-48:=by unfold hexV digB;rw[if_pos (by simp[hbd])];omega
    rw[if_pos (by simp[hd]),if_neg (by omega),show(c-48)%256=c-48 by omega,wrap_id (by omega) (by omega),hval,show n*16+(c-48)=16*n+(c-48)by omega]
   ·rw[if_neg (by simp;omega)]
    have hnd:digB b=false:=by
     unfold digB
     by_cases hu:65≤b.toNat∧b.toNat≤90
     ·simp;omega
     ·have:=c3 hu;simp;omega
    by_cases h97:c≥97
    ·rw[if_pos h97]
     by_cases h102:c≤102
     ·have hval:hexV b=c-87:=by
       unfold hexV;rw[hnd,if_neg (by decide)]
       by_cases hu:65≤b.toNat∧b.toNat≤90
       ·have:=c2 hu;rw[if_neg (by omega),if_pos (by omega)];omega
       ·have:=c3 hu;rw[if_pos (by omega)];omega
      rw[if_pos h102,if_neg (by omega),show(c-97)%256=c-97 by omega,wrap_id (a:=n*16+(c-97)) (by omega) (by omega),wrap_id (by omega) (by omega),hval,show n*16+(c-97)+10=16*n+(c-87)by omega]
     ·have hval:hexV b= -1:=by
       unfold hexV;rw[hnd,if_neg (by decide)]
       by_cases hu:65≤b.toNat∧b.toNat≤90
       ·have:=c2 hu;rw[if_neg (by omega),if_neg (by omega)]
       ·have:=c3 hu;rw[if_neg (by omega),if_neg (by omega)]
      rw[if_neg h102,hval,if_pos (by decide)]
    ·have hval:hexV b= -1:=by
      unfold hexV;rw[hnd,if_neg (by decide)]
      by_cases hu:65≤b.toNat∧b.toNat≤90
      ·have:=c2 hu;omega
      ·have:=c3 hu;rw[if_neg (by omega),if_neg (by omega)]
     rw[if_neg h97,hval,if_pos (by decide)]
  by_cases hneg:hexV b<0
  ·refine Ev.step (f:=fun _=>some (0,false)) (fun k=>by rw[hcell,if_pos hneg]) (by simpa [readHexL,hneg]using Ev.now _)
  ·have er:readHexL (b::r) n=readHexL r (16*n+hexV b):=by simp[readHexL,hneg]
   rw[er]
   exact Ev.step (fun k=>by rw[hcell,if_neg hneg]) (ih (by omega) (by omega) (by simp;omega))
def readHexT (l:List UInt8):Int×Bool:=if l.length=0∨7<l.length then(0,false)else readHexL l 0
theorem hexBnd_pos (m:Nat) (h:m≤7):0<hexBnd m:=by
 have:m=0∨m=1∨m=2∨m=3∨m=4∨m=5∨m=6∨m=7:=by omega
 rcases this with rfl|rfl|rfl|rfl|rfl|rfl|rfl|rfl<;>decide
theorem specReadHex_is (l:List UInt8):Ev (fun k=>spec_ReadHex.f k (mkB l)) (readHexT l):=by
 have hj: ∀l:List UInt8,Ev (fun k=>spec_ReadHex.j0 k (mkB l) true) ((0:Int),false):=fun l=>Ev.step (f:=fun _=>some (0,false)) (fun k=>by simp only[spec_ReadHex.j0,if_true]) (Ev.now _)
 unfold spec_ReadHex.f readHexT
 by_cases h0:l.length=0
 ·simp only[if_pos (show((mkB l).size:Int)=0 by rw[size_mk];omega),if_pos (show l.length=0∨7<l.length from .inl h0)]
  exact hj l
 ·simp only[if_neg (show ¬((mkB l).size:Int)=0 by rw[size_mk];omega)]
  by_cases h7:7<l.length
  ·simp only[decide_eq_true (show((mkB l).size:Int)>7 by rw[size_mk];omega),if_pos (show l.length=0∨7<l.length from .inr h7)]
   exact hj l
  ·have hg:=specReadHex_go l [] 0 (by omega) (hexBnd_pos _ (by omega)) (by simp;omega)
   simp only[decide_eq_false (show ¬((mkB l).size:Int)>7 by rw[size_mk];omega),if_neg (show ¬(l.length=0∨7<l.length)by omega)]
   refine Ev.step (f:=fun k=>spec_ReadHex.l0 k (mkB l) 0 0) (fun k=>by simp only[spec_ReadHex.j0,Bool.false_eq_true,if_false]) ?_
   simpa using hg
theorem hexOf_is (b:UInt8):Ev (fun k=>impl_hexOf.f k (b.toNat:Int)) (hexV b):=by
 have hlt:=u8_lt b
 unfold impl_hexOf.f
 rw[isDigit_is]
 simp only[Option.bind_some]
 unfold hexV
 cases hd:digB b
 ·have hnd: ¬(48≤b.toNat∧b.toNat≤57):=by intro h;rw[digB]at hd;simp[h]at hd
  simp only[Bool.false_eq_true,if_false]
  have hf:Ev (fun k=>impl_hexOf.j0 k (b.toNat:Int) false) (if 65≤b.toNat∧b.toNat≤70 then(b.toNat:Int)-55 else-1):=by
   refine Ev.step (f:=fun _=>some (if 65≤b.toNat∧b.toNat≤70 then(b.toNat:Int)-55 else-1)) (fun k=>?_) (Ev.now _)
   simp only[impl_hexOf.j0,Bool.false_eq_true,if_false]
   by_cases h1:65≤b.toNat
   ·rw[if_pos (by omega)]
    by_cases h2:b.toNat≤70
    ·rw[if_pos (by omega),if_pos ⟨h1,h2⟩];congr 1;omega
    ·rw[if_neg (by omega),if_neg (by omega)]
   ·rw[if_neg (by omega),if_neg (by omega)]
  by_cases h1:97≤b.toNat
  ·simp only[if_pos (show(b.toNat:Int)≥97 by omega)]
   by_cases h2:b.toNat≤102
   ·simp only[decide_eq_true (show(b.toNat:Int)≤102 by omega),if_pos (show 97≤b.toNat∧b.toNat≤102 from⟨h1,h2⟩)]
    refine Ev.step (f:=fun _=>some ((b.toNat:Int)-87)) (fun k=>?_) (Ev.now _)
    simp only[impl_hexOf.j0,if_true];congr 1;omega
   ·simp only[decide_eq_false (show ¬(b.toNat:Int)≤102 by omega),if_neg (show ¬(97≤b.toNat∧b.toNat≤102)by omega)]
    exact hf
  ·simp only[if_neg (show ¬(b.toNat:Int)≥97 by omega),if_neg (show ¬(97≤b.toNat∧b.toNat≤102)by omega)]
   exact hf
 ·have hdd:48≤b.toNat∧b.toNat≤57:=by simpa [digB]using hd
  simp only[if_true]
  rw[show((b.toNat:Int)-48)%256=(b.toNat:Int)-48 by omega]
  exact Ev.now _
def hostB (b:UInt8):Bool:=lowB b||digB b||decide (b=45)
def hostP (p:List UInt8):Bool:=!p.isEmpty&&p.all hostB
def hostL (l:List UInt8):Bool:=decide (1≤l.length)&&decide (l.length≤60)&&(splitL 46 l).all hostP
theorem u8_45 (b:UInt8):(b.toNat:Int)=45↔b=45:=by rw[←UInt8.toNat_inj];show _↔b.toNat=45;omega
theorem rdOf_mid (pre:List (List UInt8)) (x:List UInt8) (r:List (List UInt8)):rdOf ByteArray.empty ((pre++x::r).map mkB) (pre.length:Int)=mkB x:=by
 rw[List.map_append,List.map_cons,rdOf,show(pre.length:Int)=((pre.map mkB).length:Int)by simp,getD_mid]
theorem specHost_in (P:List ByteArray) (i:Int) (x:List UInt8) (hx:rdOf ByteArray.empty P i=mkB x) (hi:0≤i) (hi2:i<(P.length:Int)) (hP:P.length≤1000000) (hl:x.length≤1000000) (res:Bool) (hres:Ev (fun k=>spec_l7host.l0 k P (i+1)) res):
  ∀(r pre:List UInt8),x=pre++r→Ev (fun k=>spec_l7host.l1 k P i (pre.length:Int)) (r.all hostB&&res)
 | [],pre,hp=>by
  refine Ev.step (fun k=>?_) (by simpa using hres)
  simp only[spec_l7host.l1]
  rw[if_pos hi,if_pos hi2,hx,if_neg (by rw[size_mk,hp];simp),wrap_id (by omega) (by omega)]
 |b::r,pre,hp=>by
  have ih:=specHost_in P i x hx hi hi2 hP hl res hres r (pre++ [b]) (by rw[hp];simp)
  rw[len_snoc]at ih
  have hxl:x.length=pre.length+(r.length+1):=by rw[hp];simp
  have hb:bt (mkB x) (pre.length:Int)=(b.toNat:Int):=by rw[hp];exact bt_mid pre b r
  have hcell: ∀k,spec_l7host.l1 (k+1) P i (pre.length:Int)=if hostB b=true then spec_l7host.l1 k P i ((pre.length:Int)+1)else some false:=by
   intro k
   simp only[spec_l7host.l1]
   rw[if_pos hi,if_pos hi2,hx,if_pos (by rw[size_mk];omega),if_pos (by omega),hb,l1digit_is,wrap_id (by omega) (by omega)]
   simp only[Option.bind_some]
   unfold hostB
   by_cases h1:97≤b.toNat
   ·rw[if_pos (by omega)]
    by_cases h2:b.toNat≤122
    ·rw[if_pos (by omega),if_pos (by simp[lowB,h1,h2])]
    ·have e:lowB b=false:=by simp[lowB,h2]
     rw[if_neg (by omega),e]
     cases digB b
     ·by_cases h45:b=45
      ·rw[if_neg Bool.false_ne_true,if_pos ((u8_45 b).2 h45),if_pos (by simp[h45])]
      ·rw[if_neg Bool.false_ne_true,if_neg (fun h=>h45 ((u8_45 b).1 h)),if_neg (by simp[h45])]
     ·rw[if_pos rfl,if_pos (by simp)]
   ·have e:lowB b=false:=by simp[lowB,h1]
    rw[if_neg (by omega),e]
    cases digB b
    ·by_cases h45:b=45
     ·rw[if_neg Bool.false_ne_true,if_pos ((u8_45 b).2 h45),if_pos (by simp[h45])]
     ·rw[if_neg Bool.false_ne_true,if_neg (fun h=>h45 ((u8_45 b).1 h)),if_neg (by simp[h45])]
    ·rw[if_pos rfl,if_pos (by simp)]
  cases hh:hostB b
  ·exact Ev.step (f:=fun _=>some false) (fun k=>by rw[hcell,if_neg (by rw[hh];decide)]) (by simpa [hh]using Ev.now false)
  ·exact Ev.step (fun k=>by rw[hcell,if_pos hh]) (by simpa [hh]using ih)
theorem specHost_go (S:List (List UInt8)) (hS:S.length≤1000000) (hx: ∀x∈S,x.length≤1000000): ∀(r pre:List (List UInt8)),S=pre++r→Ev (fun k=>spec_l7host.l0 k (S.map mkB) (pre.length:Int)) (r.all hostP)
 | [],pre,hp=>Ev.step (f:=fun _=>some true) (fun k=>by simp only[spec_l7host.l0];rw[if_neg (by rw[hp];simp)]) (Ev.now _)
 |x::r,pre,hp=>by
  have ih:=specHost_go S hS hx r (pre++ [x]) (by rw[hp];simp)
  rw[len_snoc]at ih
  have hlen:S.length=pre.length+(r.length+1):=by rw[hp];simp
  have hrd:rdOf ByteArray.empty (S.map mkB) (pre.length:Int)=mkB x:=by rw[hp];exact rdOf_mid pre x r
  have hlt:(pre.length:Int)<((S.map mkB).length:Int):=by simp;omega
  by_cases he:x= []
  ·refine Ev.step (f:=fun _=>some false) (fun k=>?_) (by simpa [hostP,he]using Ev.now false)
   simp only[spec_l7host.l0]
   rw[if_pos hlt,if_pos (by omega),hrd,toList_mk,if_pos he]
  ·have hin:=specHost_in (S.map mkB) (pre.length:Int) x hrd (by omega) hlt (by simpa using hS) (hx x (by rw[hp];simp)) _ ih x [] rfl
   refine Ev.step (f:=fun k=>spec_l7host.l1 k (S.map mkB) (pre.length:Int) 0) (fun k=>?_) ?_
   ·simp only[spec_l7host.l0]
    rw[if_pos hlt,if_pos (by omega),hrd,toList_mk,if_neg he]
   ·have hne:x.isEmpty=false:=by cases x with|nil=>exact absurd rfl he|cons _ _=>rfl
    simpa [hostP,hne]using hin
theorem splitL_len (c:UInt8): ∀l:List UInt8,(splitL c l).length≤l.length+1∧ ∀x∈splitL c l,x.length≤l.length
 | []=>by simp[splitL]
 |b::r=>by
  have ih:=splitL_len c r
  unfold splitL
  by_cases h:b=c
  ·rw[if_pos h]
   refine⟨by simp;omega,fun x hx=>?_⟩
   rcases List.mem_cons.1 hx with rfl|hx
   ·simp
   ·have:=ih.2 x hx;simp;omega
  ·rw[if_neg h]
   cases hs:splitL c r with
   |nil=>exact absurd hs (splitL_ne c r)
   |cons a t=>
    rw[hs]at ih
    refine⟨by simp at ih ⊢;omega,fun x hx=>?_⟩
    rcases List.mem_cons.1 hx with rfl|hx
    ·have:=ih.2 a (by simp);simp;omega
    ·have:=ih.2 x (List.mem_cons_of_mem _ hx);simp;omega
theorem specHost_is (s:ByteArray) (hs:s.size≤1048576):Ev (fun k=>spec_l7host.f k s) (hostL (bl s)):=by
 have hj:Ev (fun k=>spec_l7host.j0 k s true) false:=Ev.step (f:=fun _=>some false) (fun k=>by simp only[spec_l7host.j0,if_true]) (Ev.now _)
 obtain⟨l,rfl⟩: ∃l,s=mkB l:=⟨bl s,(mk_bl s).symm⟩
 rw[bl_mk]
 rw[size_mk]at hs
 unfold spec_l7host.f hostL
 rw[size_mk]
 by_cases h0:l.length=0
 ·simp only[if_pos (show(l.length:Int)=0 by omega),decide_eq_false (show ¬1≤l.length by omega),Bool.false_and];exact hj
 ·simp only[if_neg (show ¬(l.length:Int)=0 by omega),decide_eq_true (show 1≤l.length by omega),Bool.true_and]
  by_cases h60:l.length≤60
  ·simp only[decide_eq_false (show ¬(l.length:Int)>60 by omega),decide_eq_true h60,Bool.true_and]
   have hsl:=splitL_len 46 l
   have:=specHost_go (splitL 46 l) (by omega) (fun x hx=>by have:=hsl.2 x hx;omega) (splitL 46 l) [] rfl
   refine Ev.step (f:=fun k=>(spec_l7split.f k (mkB l) 46).bind fun t=>spec_l7host.l0 k t 0) (fun k=>by simp only[spec_l7host.j0,Bool.false_eq_true,if_false]) ?_
   exact(spec7split_is 46 l hs).bind this
  ·simp only[decide_eq_true (show(l.length:Int)>60 by omega),decide_eq_false h60,Bool.false_and];exact hj
theorem split_all (c:UInt8) (p q:UInt8→Bool) (hq: ∀b,q b=(p b||decide (b=c))): ∀l:List UInt8,(splitL c l).all (fun x=>x.all p)=true↔l.all q=true
 | []=>by simp[splitL]
 |b::r=>by
  have ih:=split_all c p q hq r
  have hb:=hq b
  unfold splitL
  by_cases h:b=c
  ·rw[if_pos h,List.all_cons,List.all_nil,Bool.true_and,ih,List.all_cons,hb];simp[h]
  ·rw[if_neg h]
   cases hs:splitL c r with
   |nil=>exact absurd hs (splitL_ne c r)
   |cons a t=>
    rw[hs]at ih
    simp only[List.headD_cons,List.tail_cons,List.all_cons,Bool.and_eq_true]at ih ⊢
    rw[hb,decide_eq_false h,Bool.or_false,←ih]
    constructor
    ·rintro⟨⟨h1,h2⟩,h3⟩;exact⟨h1,h2,h3⟩
    ·rintro⟨h1,h2,h3⟩;exact⟨⟨h1,h2⟩,h3⟩
theorem hostL_is (l:List UInt8):hostL l=(decide (1≤l.length)&&decide (l.length≤60)&&l.all (fun b=>hostB b||decide (b=46))&&!(splitL 46 l).contains []):=by
 unfold hostL
 rw[Bool.and_assoc (decide _&&decide _)]
 congr 1
 rw[Bool.eq_iff_iff,Bool.and_eq_true,←split_all 46 hostB (fun b=>hostB b||decide (b=46)) (fun _=>rfl) l]
 simp only[List.all_eq_true,hostP,Bool.and_eq_true,Bool.not_eq_true',List.contains_eq_mem,decide_eq_false_iff_not]
 constructor
 ·intro h
  exact⟨fun x hx=>(h x hx).2,fun hm=>by have:=(h [] hm).1;simp at this⟩
 ·rintro⟨h1,h2⟩ x hx
  refine⟨?_,h1 x hx⟩
  cases x with
  |nil=>exact absurd hx h2
  |cons _ _=>rfl
theorem strOf_digit (n:Nat) (h:n<10):strOfNums [(wrap64 (48+(n:Int)))%256]=mkB [UInt8.ofNat (48+n)]:=by
 have e:(wrap64 (48+(n:Int)))%256=((48+n:Nat):Int):=by rw[wrap_id (by omega) (by omega)];omega
 rw[e]
 show(⟨(([((48+n:Nat):Int)]:List Int).map fun n=>UInt8.ofNat n.toNat).toArray⟩:ByteArray)=_
 rw[List.map_cons,List.map_nil,Int.toNat_natCast]
 rfl
theorem mk_append (a b:List UInt8):mkB a++mkB b=mkB (a++b):=by
 cases h:mkB a++mkB b with|mk d=>
 have h3:(mkB a++mkB b).data.toList=a++b:=by simp[mkB]
 rw[h]at h3
 simp only[mkB,ByteArray.mk.injEq]
 apply Array.toList_inj.1
 rw[h3]
theorem nDigits_le15 (n:Nat) (h:n≤999999999999999):Lib.nDigits n≤15:=by
 by_cases h1:Lib.nDigits n≤15
 ·exact h1
 ·have hk: ∀k u:Nat,u<10^(k+1)→Lib.nDigits u≤k+1:=by
   intro k
   induction k with
   |zero=>intro u hu;rw[Lib.nDigits_small (by simpa using hu)];omega
   |succ k ih=>
    intro u hu
    by_cases h10:u<10
    ·rw[Lib.nDigits_small h10];omega
    ·rw[Lib.nDigits_big h10]
     have:=ih (u/10) (by rw[Nat.pow_succ]at hu;omega)
     omega
  exact hk 14 n (by omega)
theorem specDec_is (n:Nat) (h:n≤999999999999999):Ev (fun k=>spec_DecText.f k (n:Int)) (mkB (Lib.decDigits n)):=by
 induction n using Nat.strongRecOn with
 |_ n ih=>
  have hd:decide ((n:Int)>999999999999999)=false:=decide_eq_false (by omega)
  refine Ev.step (f:=fun k=>spec_DecText.j0 k (n:Int) false) (fun k=>by simp only[spec_DecText.f];rw[if_neg (by omega),hd]) ?_
  by_cases h10:n<10
  ·refine Ev.step (f:=fun _=>some (mkB (Lib.decDigits n))) (fun k=>?_) (Ev.now _)
   simp only[spec_DecText.j0,Bool.false_eq_true,if_false]
   rw[if_pos (by omega),strOf_digit n h10,Lib.decDigits,dif_pos h10]
  ·have ih':=ih (n/10) (by omega) (by omega)
   have hlen:(mkB (Lib.decDigits (n/10))).size≤15:=by rw[size_mk,Lib.decDigits_length];exact nDigits_le15 _ (by omega)
   have e1:wrap64 (Int.tdiv (n:Int) 10)=((n/10:Nat):Int):=by
    rw[Int.tdiv_eq_ediv_of_nonneg (by omega),wrap_id (by omega) (by omega)];rfl
   have e2:Int.tmod (n:Int) 10=((n%10:Nat):Int):=by rw[Int.tmod_eq_emod_of_nonneg (by omega)];rfl
   refine Ev.step (f:=fun k=>(spec_DecText.f k ((n/10:Nat):Int)).bind fun t=>if t.size+(mkB [UInt8.ofNat (48+n%10)]).size≤9223372036854775807 then some (t++mkB [UInt8.ofNat (48+n%10)])else none) (fun k=>?_) ?_
   ·simp only[spec_DecText.j0,Bool.false_eq_true,if_false]
    rw[if_neg (by omega),e1,e2]
    simp only[Option.bind_some,strOf_digit (n%10) (show n%10<10 by omega)]
   ·refine ih'.bind ?_
    have hs:(mkB [UInt8.ofNat (48+n%10)]).size=1:=by rw[size_mk];rfl
    have hdd:Lib.decDigits n=Lib.decDigits (n/10)++ [UInt8.ofNat (48+n%10)]:=by rw[Lib.decDigits,dif_neg h10]
    rw[if_pos (by omega),mk_append,hdd]
    exact Ev.now _
theorem itoa_is (n:Nat) (h:n≤999999999999999):strconv_Itoa.f (n:Int)=some (mkB (Lib.decDigits n)):=by
 unfold strconv_Itoa.f
 rw[if_pos ⟨by omega,by omega⟩]
 unfold Lib.itoa
 rw[if_neg (by omega)]
 rfl
def portL (p:Nat):List UInt8:=if p=80 then []else 58::Lib.decDigits p
def queryL (q:List UInt8) (h:Bool):List UInt8:=if h=true then 63::q else []
def httpB:List UInt8:= [104,116,116,112,58,47,47]
def urlL (h:List UInt8) (p:Nat) (path q:List UInt8) (hq:Bool):List UInt8:=httpB++h++portL p++path++queryL q hq
theorem decDigits_short (p:Nat) (h:p≤999999999999999):(Lib.decDigits p).length≤15:=by rw[Lib.decDigits_length];exact nDigits_le15 _ h
theorem portL_len (p:Nat) (h:p≤999999999999999):(portL p).length≤16:=by
 have:=decDigits_short p h
 unfold portL;split
 ·simp
 ·simp;omega
theorem queryL_len (q:List UInt8) (h:Bool):(queryL q h).length≤q.length+1:=by unfold queryL;split<;>simp
theorem specPort_is (a:ByteArray) (p:Nat) (b c:ByteArray) (d:Bool) (h:p≤999999999999999):Ev (fun k=>spec_l7port.f k a (p:Int) b c d) (mkB (portL p)):=by
 unfold spec_l7port.f portL
 by_cases h80:p=80
 ·simp only[if_pos (show(p:Int)=80 by omega),if_pos h80];exact Ev.now _
 ·simp only[if_neg (show ¬(p:Int)=80 by omega),if_neg h80]
  refine(specDec_is p h).bind ?_
  have:=decDigits_short p h
  rw[if_pos (by rw[size_mk];omega),show(⟨#[58]⟩:ByteArray)=mkB [58]from rfl,mk_append]
  exact Ev.now _
theorem implPort_is (a:ByteArray) (p:Nat) (b c:ByteArray) (d:Bool) (h:p≤999999999999999):impl_portText.f a (p:Int) b c d=some (mkB (portL p)):=by
 unfold impl_portText.f portL
 by_cases h80:p=80
 ·rw[if_pos (show(p:Int)=80 by omega),if_pos h80];rfl
 ·have:=decDigits_short p h
  rw[if_neg (show ¬(p:Int)=80 by omega),if_neg h80,itoa_is p h,Option.bind_some,if_pos (by rw[size_mk];omega),show(⟨#[58]⟩:ByteArray)=mkB [58]from rfl,mk_append]
  rfl
theorem specQuery_is (a:ByteArray) (p:Int) (b:ByteArray) (c:List UInt8) (d:Bool) (h:c.length≤1000000000):spec_l7query.f a p b (mkB c) d=some (mkB (queryL c d)):=by
 unfold spec_l7query.f queryL
 cases d
 ·rfl
 ·rw[if_pos rfl,if_pos rfl,if_pos (by rw[size_mk];omega),show(⟨#[63]⟩:ByteArray)=mkB [63]from rfl,mk_append];rfl
theorem implPath_is (a:ByteArray) (p:Int) (b c:List UInt8) (d:Bool) (hb:b.length≤1000000000) (h:c.length≤1000000000):impl_pathText.f a p (mkB b) (mkB c) d=some (mkB (b++queryL c d)):=by
 unfold impl_pathText.f queryL
 cases d
 ·simp
 ·rw[if_pos rfl,if_pos rfl,show(⟨#[63]⟩:ByteArray)=mkB [63]from rfl,mk_append,if_pos (by rw[size_mk];omega),if_pos (by rw[size_mk,size_mk];simp;omega),mk_append]
  simp
theorem specText_is (a:List UInt8) (p:Nat) (b c:List UInt8) (d:Bool) (h:p≤999999999999999) (ha:a.length≤1000000000) (hb:b.length≤1000000000) (hc:c.length≤1000000000):Ev (fun k=>spec_l7text.f k (mkB a) (p:Int) (mkB b) (mkB c) d) (mkB (urlL a p b c d)):=by
 have h1:=portL_len p h
 have h2:=queryL_len c d
 have e0:(⟨#[104,116,116,112,58,47,47]⟩:ByteArray)=mkB httpB:=rfl
 have e1:httpB.length=7:=rfl
 unfold spec_l7text.f urlL
 simp only[e0,mk_append,size_mk]
 simp only[if_pos (show 7+a.length≤9223372036854775807 by omega)]
 refine(specPort_is _ p _ _ d h).bind ?_
 rw[mk_append,size_mk]
 rw[if_pos (by rw[List.length_append];omega),if_pos (by rw[size_mk];simp only[List.length_append];omega),specQuery_is _ _ _ _ _ hc,Option.bind_some,mk_append,size_mk,size_mk,if_pos (by simp only[List.length_append];omega),mk_append]
 exact Ev.now _
theorem implText_is (a:List UInt8) (p:Nat) (b c:List UInt8) (d:Bool) (h:p≤999999999999999) (ha:a.length≤1000000000) (hb:b.length≤1000000000) (hc:c.length≤1000000000):impl_urlText.f (mkB a) (p:Int) (mkB b) (mkB c) d=some (mkB (urlL a p b c d)):=by
 have h1:=portL_len p h
 have h2:=queryL_len c d
 have e0:(⟨#[104,116,116,112,58,47,47]⟩:ByteArray)=mkB httpB:=rfl
 have e1:httpB.length=7:=rfl
 unfold impl_urlText.f urlL
 rw[e0,mk_append,if_pos (by rw[size_mk];omega),implPort_is _ p _ _ d h,Option.bind_some,if_pos (by rw[size_mk,size_mk];simp only[List.length_append];omega),implPath_is _ _ _ _ _ hb hc,Option.bind_some,mk_append,if_pos (by rw[size_mk,size_mk];simp only[List.length_append];omega),mk_append]
 simp only[List.append_assoc]
def freeB (b:UInt8):Bool:=lowB b||uppB b||digB b|| [45,46,95,126].contains b
theorem implFree_is (b:UInt8):impl_isFree.f (b.toNat:Int)=some (freeB b):=by
 have key: ∀n:Fin 256,impl_isFree.f ((UInt8.ofNat n.val).toNat:Int)=some (freeB (UInt8.ofNat n.val)):=by decide+kernel
 have:=key ⟨b.toNat,b.toNat_lt⟩
 simpa using this
theorem spec7free_is (b:UInt8):Ev (fun k=>spec_l7free.f k (b.toNat:Int)) (freeB b):=by
 have hh:Ev (fun k=>spec_l1has.f k (⟨#[45,46,95,126]⟩:ByteArray) (b.toNat:Int)) ([45,46,95,126].contains b):=has_is [45,46,95,126] b (by decide)
 have rest:Ev (fun k=>if digB b=true then some true else(spec_l1has.f k (⟨#[45,46,95,126]⟩:ByteArray) (b.toNat:Int)).bind fun t=>some t) (digB b|| [45,46,95,126].contains b):=by
  cases hd:digB b
  ·simpa using hh.bind (f:=fun _ (t:Bool)=>some t) (Ev.now _)
  ·simpa using Ev.now true
 obtain⟨c,hc,c0,c1,c2,c3⟩:=specHexLow b
 unfold spec_l7free.f
 simp only[l1digit_is,hc,Option.bind_some]
 unfold freeB
 by_cases hU:65≤b.toNat∧b.toNat≤90
 ·have e:=c2 hU
  have e1:uppB b=true:=by simp[uppB,hU]
  simp only[if_pos (show c≥97 by omega),if_pos (show c≤122 by omega)]
  simpa [e1]using Ev.now true
 ·have e:=c3 hU
  have e1:uppB b=false:=by simp[uppB];omega
  by_cases hL:97≤b.toNat
  ·by_cases hL2:b.toNat≤122
   ·have e2:lowB b=true:=by simp[lowB,hL,hL2]
    simp only[if_pos (show c≥97 by omega),if_pos (show c≤122 by omega)]
    simpa [e2]using Ev.now true
   ·have e2:lowB b=false:=by simp[lowB,hL2]
    simp only[if_pos (show c≥97 by omega),if_neg (show ¬c≤122 by omega)]
    simpa [e1,e2]using rest
  ·have e2:lowB b=false:=by simp[lowB,hL]
   simp only[if_neg (show ¬c≥97 by omega)]
   simpa [e1,e2]using rest
def upI (b:UInt8):Int:=if 97≤b.toNat∧b.toNat≤122 then(b.toNat:Int)-32 else(b.toNat:Int)
theorem spec7upper_is (b:UInt8):spec_l7upper.f (b.toNat:Int)=some (upI b):=by
 have:=u8_lt b
 unfold spec_l7upper.f upI
 by_cases h:97≤b.toNat
 ·rw[if_pos (by omega)]
  by_cases h2:b.toNat≤122
  ·rw[if_pos (by omega),if_pos ⟨h,h2⟩];congr 1;omega
  ·rw[if_neg (by omega),if_neg (by omega)]
 ·rw[if_neg (by omega),if_neg (by omega)]
theorem hexUp (b:UInt8) (h: ¬hexV b<0):bt (⟨#[48,49,50,51,52,53,54,55,56,57,65,66,67,68,69,70]⟩:ByteArray) (hexV b)=upI b:=by
 have key: ∀n:Fin 256,hexV (UInt8.ofNat n.val)<0∨bt (⟨#[48,49,50,51,52,53,54,55,56,57,65,66,67,68,69,70]⟩:ByteArray) (hexV (UInt8.ofNat n.val))=upI (UInt8.ofNat n.val):=by decide+kernel
 have:=key ⟨b.toNat,b.toNat_lt⟩
 simp only[UInt8.ofNat_toNat]at this
 exact this.resolve_left h
theorem and15 (v:Int) (h0:0≤v) (h1:v<256):Go.bits .and .u8 v 15=v%16:=by
 have key: ∀n:Fin 256,Go.bits .and .u8 (n.val:Int) 15=(n.val:Int)%16:=by decide+kernel
 have:=key ⟨v.toNat,by omega⟩
 simpa [Int.toNat_of_nonneg h0]using this
def pct:List UInt8→Option (UInt8×UInt8×List UInt8)
 |c::d::r=>if hexV c<0∨hexV d<0 then none else some (c,d,r)
 |_=>none
def pctB (c d:UInt8):UInt8:=UInt8.ofNat (16*hexV c+hexV d).toNat
def pctOut (c d:UInt8):List Int:=if freeB (pctB c d)=true then [((pctB c d).toNat:Int)]else [37,upI c,upI d]
def unescI:Nat→List UInt8→List Int
 |0,_=> []
 |_+1,[]=> []
 |n+1,b::r=>if b=37 then(match pct r with|none=>37::unescI n r|some (c,d,r')=>pctOut c d++unescI n r')else(b.toNat:Int)::unescI n r
theorem u8_37 (b:UInt8):(b.toNat:Int)=37↔b=37:=by rw[←UInt8.toNat_inj];show _↔b.toNat=37;omega
theorem pctB_val (c d:UInt8) (hc: ¬hexV c<0) (hd: ¬hexV d<0):((pctB c d).toNat:Int)=16*hexV c+hexV d:=by
 have h1:=hexV_lt c
 have h2:=hexV_lt d
 unfold pctB
 rw[UInt8.toNat_ofNat']
 omega
theorem pctOut_len (c d:UInt8):(pctOut c d).length≤3:=by unfold pctOut;split<;>simp
theorem unescI_len: ∀(n:Nat) (r:List UInt8),r.length≤n→(unescI n r).length≤r.length
 |0,[],_=>by simp[unescI]
 |n+1,[],_=>by simp[unescI]
 |n+1,b::r,h=>by
  simp at h
  unfold unescI
  by_cases hb:b=37
  ·rw[if_pos hb]
   cases hp:pct r with
   |none=>have:=unescI_len n r h;simp;omega
   |some q=>
    obtain⟨c,d,r'⟩:=q
    have hr:r=c::d::r':=by
     unfold pct at hp
     split at hp
     ·split at hp
      ·cases hp
      ·injection hp with hp;injection hp with h1 h2;injection h2 with h2 h3;subst h1;subst h2;subst h3;rfl
     ·cases hp
    subst hr
    simp at h
    have:=unescI_len n r' (by omega)
    have:=pctOut_len c d
    simp;omega
  ·rw[if_neg hb];have:=unescI_len n r h;simp;omega
theorem pct_short (r:List UInt8) (h:r.length≤1):pct r=none:=by
 match r,h with
 | [],_=>rfl
 | [_],_=>rfl
theorem readHexT_two (c d:UInt8):readHexT [c,d]=if hexV c<0∨hexV d<0 then(0,false)else(16*hexV c+hexV d,true):=by
 unfold readHexT
 rw[if_neg (by simp)]
 simp only[readHexL]
 by_cases h1:hexV c<0
 ·simp[h1]
 ·by_cases h2:hexV d<0
  ·simp[h1,h2]
  ·simp[h1,h2]
theorem two_of: ∀r:List UInt8,¬r.length≤1→ ∃c d r',r=c::d::r'
 | [],h=>absurd (by simp) h
 | [_],h=>absurd (by simp) h
 |c::d::r',_=>⟨c,d,r',rfl⟩
theorem specPct_cell (k:Nat) (s:ByteArray) (acc:List Int) (i:Int) (c d:UInt8) (h0:0≤i) (h3:i+3≤(s.size:Int)) (hs:s.size≤2000000) (ha:acc.length≤2000000) (hb1:bt s (i+1)=(c.toNat:Int)) (hb2:bt s (i+2)=(d.toNat:Int)) (hx:s.extract (i+1).toNat (i+3).toNat=mkB [c,d]):
  spec_l7percent.j1 (k+1) s acc i false=(spec_ReadHex.f k (mkB [c,d])).bind fun q=>if q.2=true then((spec_l7free.f k (q.1%256)).bind fun t=>if t=true then spec_l7percent.l0 k s (acc++ [q.1%256]) (i+3)else spec_l7percent.l0 k s (acc++ [37,upI c,upI d]) (i+3))else spec_l7percent.l0 k s (acc++ [bt s i]) (i+1):=by
 have hw1:wrap64 (i+1)=i+1:=wrap_id (by omega) (by omega)
 have hw2:wrap64 (i+2)=i+2:=wrap_id (by omega) (by omega)
 have hw3:wrap64 (i+3)=i+3:=wrap_id (by omega) (by omega)
 have hw4:wrap64 (i+2+1)=i+3:=by rw[wrap_id (by omega) (by omega)];omega
 have g1:(0:Int)≤i+1:=by omega
 have g2:i+1≤i+3:=by omega
 have g3:acc.length<140737488355328:=by omega
 have g4:i+1<(s.size:Int):=by omega
 have g5:(0:Int)≤i+2:=by omega
 have g6:i+2<(s.size:Int):=by omega
 have g7:i<(s.size:Int):=by omega
 have g8:acc.length+ [(37:Int),upI c,upI d].length<140737488355328:=by simp only[List.length_cons,List.length_nil];omega
 rw[spec_l7percent.j1,if_neg Bool.false_ne_true,hw1,hw3,if_pos g1,if_pos g2,if_pos h3,hx]
 congr 1
 funext q
 by_cases hq:q.2=true
 ·rw[if_pos hq,if_pos hq]
  congr 1
  funext t
  by_cases ht:t=true
  ·rw[if_pos ht,if_pos ht,if_pos g3,hw2,hw4]
  ·rw[if_neg ht,if_neg ht,if_pos g4,hb1,spec7upper_is,Option.bind_some,hw2,if_pos g5,if_pos g6,hb2,spec7upper_is,Option.bind_some,Option.bind_some,if_pos g8,hw4]
 ·rw[if_neg hq,if_neg hq,if_pos h0,if_pos g7,if_pos g3]
theorem specPct_go: ∀(n:Nat) (r pre:List UInt8) (acc:List Int),r.length≤n→(pre++r).length≤1048576→acc.length≤pre.length→
  Ev (fun k=>spec_l7percent.l0 k (mkB (pre++r)) acc (pre.length:Int)) (strOfNums (acc++unescI n r)):=by
 intro n
 induction n with
 |zero=>
  intro r pre acc hr hl ha
  obtain rfl:r= []:=List.length_eq_zero_iff.1 (by omega)
  refine Ev.step (f:=fun _=>some (strOfNums acc)) (fun k=>?_) (by simpa [unescI]using Ev.now _)
  simp only[spec_l7percent.l0];rw[if_neg (by rw[size_mk];simp)]
 |succ n ih=>
  intro r pre acc hr hl ha
  cases r with
  |nil=>
   refine Ev.step (f:=fun _=>some (strOfNums acc)) (fun k=>?_) (by simpa [unescI]using Ev.now _)
   simp only[spec_l7percent.l0];rw[if_neg (by rw[size_mk];simp)]
  |cons b r=>
   have hl2:=hl
   simp at hl2 hr
   have one: ∀z,unescI (n+1) (b::r)=z::unescI n r→z=(b.toNat:Int)→Ev (fun k=>spec_l7percent.l0 k (mkB (pre++b::r)) (acc++ [bt (mkB (pre++b::r)) pre.length]) (wrap64 ((pre.length:Int)+1))) (strOfNums (acc++unescI (n+1) (b::r))):=by
    intro z hz hzb
    have ih':=ih r (pre++ [b]) (acc++ [(b.toNat:Int)]) hr (by rw[←app_mid];exact hl) (by simp;omega)
    rw[←app_mid,len_snoc]at ih'
    rw[bt_mid,wrap_id (by omega) (by omega),hz,hzb]
    simpa using ih'
   have two: ∀x,x=true→(∃z,unescI (n+1) (b::r)=z::unescI n r∧z=(b.toNat:Int))→Ev (fun k=>spec_l7percent.j1 k (mkB (pre++b::r)) acc (pre.length:Int) x) (strOfNums (acc++unescI (n+1) (b::r))):=by
    rintro x rfl ⟨z,hz,hzb⟩
    refine Ev.step (fun k=>?_) (one z hz hzb)
    simp only[spec_l7percent.j1,if_true]
    rw[if_pos (by omega),if_pos (size_lt_mid ..),if_pos (by omega)]
   by_cases hb:b=37
   ·subst hb
    have hu:unescI (n+1) (37::r)=match pct r with|none=>37::unescI n r|some (c,d,r')=>pctOut c d++unescI n r':=by rw[unescI,if_pos rfl]
    have hcell: ∀k,spec_l7percent.l0 (k+1) (mkB (pre++37::r)) acc pre.length=spec_l7percent.j1 k (mkB (pre++37::r)) acc pre.length (decide (r.length≤1)):=by
     intro k
     simp only[spec_l7percent.l0]
     rw[if_pos (size_lt_mid ..),if_pos (by omega),bt_mid,if_pos (by rfl),wrap_id (by omega) (by omega)]
     congr 1
     rw[size_mk]
     exact decide_eq_decide.2 (by simp;omega)
    refine Ev.step hcell ?_
    by_cases hs:r.length≤1
    ·simp only[decide_eq_true hs]
     exact two true rfl ⟨37,by rw[hu,pct_short r hs],rfl⟩
    ·simp only[decide_eq_false hs]
     obtain⟨c,d,r',rfl⟩:=two_of r hs
     ·skip
      simp at hl2 hr
      have hx:(mkB (pre++37::c::d::r')).extract ((pre.length:Int)+1).toNat ((pre.length:Int)+3).toNat=mkB [c,d]:=by
       rw[extract_mk,show((pre.length:Int)+1).toNat=pre.length+1 by omega,show((pre.length:Int)+3).toNat=pre.length+3 by omega,show pre.length+3-(pre.length+1)=2 by omega,drop_mid];rfl
      have hw1:wrap64 ((pre.length:Int)+1)=(pre.length:Int)+1:=wrap_id (by omega) (by omega)
      have hw2:wrap64 ((pre.length:Int)+2)=(pre.length:Int)+2:=wrap_id (by omega) (by omega)
      have hw3:wrap64 ((pre.length:Int)+3)=(pre.length:Int)+3:=wrap_id (by omega) (by omega)
      have hw4:wrap64 ((pre.length:Int)+2+1)=(pre.length:Int)+3:=by rw[wrap_id (by omega) (by omega)];omega
      have hb1:bt (mkB (pre++37::c::d::r')) ((pre.length:Int)+1)=(c.toNat:Int):=by
       have:=bt_mid (pre++ [37]) c (d::r');rw[len_snoc,←app_mid]at this;exact this
      have hb2:bt (mkB (pre++37::c::d::r')) ((pre.length:Int)+2)=(d.toNat:Int):=by
       have:=bt_mid (pre++ [37]++ [c]) d r'
       simp only[List.length_append,List.length_singleton,List.append_assoc,List.singleton_append]at this
       simpa [Int.add_assoc]using this
      have hsz:((mkB (pre++37::c::d::r')).size:Int)=(pre.length:Int)+3+r'.length:=by rw[size_mk];simp;omega
      refine Ev.step (fun k=>specPct_cell k _ acc _ c d (by omega) (by omega) (by omega) (by omega) hb1 hb2 hx) ?_
      refine(specReadHex_is [c,d]).bind ?_
      rw[readHexT_two]
      by_cases hh:hexV c<0∨hexV d<0
      ·simp only[if_pos hh,Bool.false_eq_true,if_false]
       have:=one 37 (by rw[hu];simp[pct,hh]) rfl
       rw[hw1]at this
       exact this
      ·simp only[if_neg hh,if_true]
       have hc: ¬hexV c<0:=fun h=>hh (.inl h)
       have hd: ¬hexV d<0:=fun h=>hh (.inr h)
       have hv:=pctB_val c d hc hd
       have hlt:=u8_lt (pctB c d)
       rw[show(16*hexV c+hexV d)%256=((pctB c d).toNat:Int)by omega]
       refine(spec7free_is (pctB c d)).bind ?_
       have e1:pre++37::c::d::r'=(pre++ [37,c,d])++r':=by simp
       have e2:((pre++ [37,c,d]).length:Int)=(pre.length:Int)+3:=by simp
       have hu2:unescI (n+1) (37::c::d::r')=pctOut c d++unescI n r':=by rw[hu];simp[pct,hh]
       rw[hu2]
       cases hf:freeB (pctB c d)
       ·have ih':=ih r' (pre++ [37,c,d]) (acc++ [37,upI c,upI d]) (by omega) (by rw[←e1];exact hl) (by simp;omega)
        rw[←e1,e2]at ih'
        simp only[Bool.false_eq_true,if_false]
        simpa [pctOut,hf]using ih'
       ·have ih':=ih r' (pre++ [37,c,d]) (acc++ [((pctB c d).toNat:Int)]) (by omega) (by rw[←e1];exact hl) (by simp;omega)
        rw[←e1,e2]at ih'
        simp only[if_true]
        simpa [pctOut,hf]using ih'
   ·have hcell: ∀k,spec_l7percent.l0 (k+1) (mkB (pre++b::r)) acc pre.length=spec_l7percent.j1 k (mkB (pre++b::r)) acc pre.length true:=by
     intro k
     simp only[spec_l7percent.l0]
     rw[if_pos (size_lt_mid ..),if_pos (by omega),bt_mid,if_neg (fun h=>hb ((u8_37 b).1 h))]
    refine Ev.step hcell ?_
    exact two true rfl ⟨(b.toNat:Int),by rw[unescI,if_neg hb],rfl⟩
theorem implPct_go: ∀(n:Nat) (r pre:List UInt8) (acc:List Int),r.length≤n→(pre++r).length≤1048576→acc.length≤pre.length→
  Ev (fun k=>impl_unescaped.l0 k (mkB (pre++r)) acc (pre.length:Int)) (strOfNums (acc++unescI n r)):=by
 intro n
 induction n with
 |zero=>
  intro r pre acc hr hl ha
  obtain rfl:r= []:=List.length_eq_zero_iff.1 (by omega)
  refine Ev.step (f:=fun _=>some (strOfNums acc)) (fun k=>?_) (by simpa [unescI]using Ev.now _)
  simp only[impl_unescaped.l0];rw[if_neg (by rw[size_mk];simp)]
 |succ n ih=>
  intro r pre acc hr hl ha
  cases r with
  |nil=>
   refine Ev.step (f:=fun _=>some (strOfNums acc)) (fun k=>?_) (by simpa [unescI]using Ev.now _)
   simp only[impl_unescaped.l0];rw[if_neg (by rw[size_mk];simp)]
  |cons b r=>
   have hl2:=hl
   simp at hl2 hr
   have two:(∃z,unescI (n+1) (b::r)=z::unescI n r∧z=(b.toNat:Int))→Ev (fun k=>impl_unescaped.j1 k (mkB (pre++b::r)) acc (pre.length:Int) true) (strOfNums (acc++unescI (n+1) (b::r))):=by
    rintro⟨z,hz,hzb⟩
    have ih':=ih r (pre++ [b]) (acc++ [(b.toNat:Int)]) hr (by rw[←app_mid];exact hl) (by simp;omega)
    rw[←app_mid,len_snoc]at ih'
    rw[hz,hzb]
    refine Ev.step (fun k=>?_) (by simpa using ih')
    simp only[impl_unescaped.j1,if_true]
    rw[if_pos (by omega),if_pos (size_lt_mid ..),if_pos (by omega),bt_mid,wrap_id (by omega) (by omega)]
   by_cases hb:b=37
   ·subst hb
    have hu:unescI (n+1) (37::r)=match pct r with|none=>37::unescI n r|some (c,d,r')=>pctOut c d++unescI n r':=by rw[unescI,if_pos rfl]
    have hw2:wrap64 ((pre.length:Int)+2)=(pre.length:Int)+2:=wrap_id (by omega) (by omega)
    by_cases hs:r.length≤1
    ·refine Ev.step (f:=fun k=>impl_unescaped.j1 k (mkB (pre++37::r)) acc (pre.length:Int) true) (fun k=>?_) (two ⟨37,by rw[hu,pct_short r hs],rfl⟩)
     simp only[impl_unescaped.l0]
     rw[if_pos (size_lt_mid ..),if_pos (by omega),bt_mid,if_pos (by rfl),hw2,if_pos (by rw[size_mk];simp;omega)]
    ·obtain⟨c,d,r',rfl⟩:=two_of r hs
     ·skip
      simp at hl2 hr
      have hw1:wrap64 ((pre.length:Int)+1)=(pre.length:Int)+1:=wrap_id (by omega) (by omega)
      have hw4:wrap64 ((pre.length:Int)+2+1)=(pre.length:Int)+3:=by rw[wrap_id (by omega) (by omega)];omega
      have hb1:bt (mkB (pre++37::c::d::r')) ((pre.length:Int)+1)=(c.toNat:Int):=by
       have:=bt_mid (pre++ [37]) c (d::r');rw[len_snoc,←app_mid]at this;exact this
      have hb2:bt (mkB (pre++37::c::d::r')) ((pre.length:Int)+2)=(d.toNat:Int):=by
       have:=bt_mid (pre++ [37]++ [c]) d r'
       simp only[List.length_append,List.length_singleton,List.append_assoc,List.singleton_append]at this
       simpa [Int.add_assoc]using this
      have hsz:((mkB (pre++37::c::d::r')).size:Int)=(pre.length:Int)+3+r'.length:=by rw[size_mk];simp;omega
      have hc16:=hexV_lt c
      have hd16:=hexV_lt d
      have hcell: ∀k,impl_unescaped.l0 (k+1) (mkB (pre++37::c::d::r')) acc pre.length=(impl_hexOf.f k (c.toNat:Int)).bind fun t=>if t<0 then impl_unescaped.j1 k (mkB (pre++37::c::d::r')) acc (pre.length:Int) true else(impl_hexOf.f k (d.toNat:Int)).bind fun u=>impl_unescaped.j1 k (mkB (pre++37::c::d::r')) acc (pre.length:Int) (decide (u<0)):=by
       intro k
       simp only[impl_unescaped.l0,hw1,hw2,hb1,hb2]
       rw[bt_mid]
       simp only[hsz,if_pos (show(((37:UInt8).toNat:Nat):Int)=37 from rfl),if_pos (show(pre.length:Int)<(pre.length:Int)+3+r'.length by omega),if_pos (show(0:Int)≤(pre.length:Int)by omega),if_neg (show ¬(pre.length:Int)+2≥(pre.length:Int)+3+r'.length by omega),if_pos (show(0:Int)≤(pre.length:Int)+1 by omega),if_pos (show(pre.length:Int)+1<(pre.length:Int)+3+r'.length by omega),if_pos (show(0:Int)≤(pre.length:Int)+2 by omega),if_pos (show(pre.length:Int)+2<(pre.length:Int)+3+r'.length by omega)]
      refine Ev.step hcell ?_
      refine(hexOf_is c).bind ?_
      by_cases hc:hexV c<0
      ·simp only[if_pos hc]
       exact two ⟨37,by rw[hu];simp[pct,hc],rfl⟩
      simp only[if_neg hc]
      refine(hexOf_is d).bind ?_
      by_cases hd:hexV d<0
      ·simp only[decide_eq_true hd]
       exact two ⟨37,by rw[hu];simp[pct,hd],rfl⟩
      simp only[decide_eq_false hd]
      have hv:=pctB_val c d hc hd
      have hlt:=u8_lt (pctB c d)
      have hval:wrap64 (wrap64 (16*hexV c)+hexV d)%256=((pctB c d).toNat:Int):=by
       rw[wrap_id (a:=16*hexV c) (by omega) (by omega),wrap_id (by omega) (by omega)];omega
      have hdiv:((pctB c d).toNat:Int)/16=hexV c:=by omega
      have hmod:Go.bits .and .u8 ((pctB c d).toNat:Int) 15=hexV d:=by rw[and15 _ (by omega) hlt];omega
      have hcell2: ∀k,impl_unescaped.j1 (k+1) (mkB (pre++37::c::d::r')) acc pre.length false=(impl_hexOf.f k (c.toNat:Int)).bind fun t=>(impl_hexOf.f k (d.toNat:Int)).bind fun u=>(impl_isFree.f ((wrap64 ((wrap64 (16*t))+u))%256)).bind fun q=>if q=true then impl_unescaped.l0 k (mkB (pre++37::c::d::r')) (acc++ [(wrap64 ((wrap64 (16*t))+u))%256]) ((pre.length:Int)+3)else(if 0≤(((wrap64 ((wrap64 (16*t))+u))%256)/16)then(if(((wrap64 ((wrap64 (16*t))+u))%256)/16)<16 then(if 0≤(Go.bits .and .u8 ((wrap64 ((wrap64 (16*t))+u))%256) 15)then(if(Go.bits .and .u8 ((wrap64 ((wrap64 (16*t))+u))%256) 15)<16 then impl_unescaped.l0 k (mkB (pre++37::c::d::r')) (acc++ [37,bt (⟨#[48,49,50,51,52,53,54,55,56,57,65,66,67,68,69,70]⟩:ByteArray) (((wrap64 ((wrap64 (16*t))+u))%256)/16),bt (⟨#[48,49,50,51,52,53,54,55,56,57,65,66,67,68,69,70]⟩:ByteArray) (Go.bits .and .u8 ((wrap64 ((wrap64 (16*t))+u))%256) 15)]) ((pre.length:Int)+3)else none)else none)else none)else none):=by
       intro k
       simp only[impl_unescaped.j1,Bool.false_eq_true,if_false,hw1,hw2,hw4,hb1,hb2,hsz,Option.bind_some]
       have l3: ∀x y z:Int,acc.length+ [x,y,z].length<140737488355328:=by intro x y z;simp;omega
       simp only[if_pos (show(0:Int)≤(pre.length:Int)+1 by omega),if_pos (show(pre.length:Int)+1<(pre.length:Int)+3+r'.length by omega),if_pos (show(0:Int)≤(pre.length:Int)+2 by omega),if_pos (show(pre.length:Int)+2<(pre.length:Int)+3+r'.length by omega),if_pos (show acc.length<140737488355328 by omega),if_pos (l3 _ _ _)]
      refine Ev.step hcell2 ?_
      refine(hexOf_is c).bind ?_
      refine(hexOf_is d).bind ?_
      simp only[hval,implFree_is,Option.bind_some,hdiv,hmod,hexUp c hc,hexUp d hd]
      simp only[if_pos (show 0≤hexV c by omega),if_pos hc16,if_pos (show 0≤hexV d by omega),if_pos hd16]
      have e1:pre++37::c::d::r'=(pre++ [37,c,d])++r':=by simp
      have e2:((pre++ [37,c,d]).length:Int)=(pre.length:Int)+3:=by simp
      have hu2:unescI (n+1) (37::c::d::r')=pctOut c d++unescI n r':=by rw[hu];simp[pct,hc,hd]
      rw[hu2]
      cases hf:freeB (pctB c d)
      ·have ih':=ih r' (pre++ [37,c,d]) (acc++ [37,upI c,upI d]) (by omega) (by rw[←e1];exact hl) (by simp;omega)
       rw[←e1,e2]at ih'
       simp only[Bool.false_eq_true,if_false]
       simpa [pctOut,hf]using ih'
      ·have ih':=ih r' (pre++ [37,c,d]) (acc++ [((pctB c d).toNat:Int)]) (by omega) (by rw[←e1];exact hl) (by simp;omega)
       rw[←e1,e2]at ih'
       simp only[if_true]
       simpa [pctOut,hf]using ih'
   ·refine Ev.step (f:=fun k=>impl_unescaped.j1 k (mkB (pre++b::r)) acc (pre.length:Int) true) (fun k=>?_) (two ⟨(b.toNat:Int),by rw[unescI,if_neg hb],rfl⟩)
    simp only[impl_unescaped.l0]
    rw[if_pos (size_lt_mid ..),if_pos (by omega),bt_mid,if_neg (fun h=>hb ((u8_37 b).1 h))]
def visB (b:UInt8):Bool:=decide (33≤b.toNat)&&decide (b.toNat≤126)
theorem implVis_is (b:UInt8):impl_isVisible.f (b.toNat:Int)=some (visB b):=by
 unfold impl_isVisible.f visB
 by_cases h:33≤b.toNat
 ·rw[if_pos (by omega),decide_eq_true h,Bool.true_and];congr 1;exact decide_eq_decide.2 (by omega)
 ·rw[if_neg (by omega),decide_eq_false h,Bool.false_and]
theorem implAllVis_is (s:ByteArray) (hs:s.size≤9223372036854775806):Ev (fun k=>impl_all__impl_isVisible.f k s) ((bl s).all visB):=
 all_ev impl_all__impl_isVisible.l0 (fun _ x=>impl_isVisible.f x) visB (fun b=>Ev.const (implVis_is b))
  (fun k s i=>by simp only[impl_all__impl_isVisible.l0]) s hs
theorem specVisible_go: ∀(r pre:List UInt8),(pre++r).length≤9223372036854775806→Ev (fun k=>spec_l6visible.l0 k (mkB (pre++r)) pre.length) (r.all visB&&decide (1≤(pre++r).length))
 | [], pre, _ => Ev.step (f := fun _ => some (decide (1 ≤ (pre ++ []).length))) (fun k => by
   simp only[spec_l6visible.l0]
   rw[if_neg (by rw[size_mk];simp),size_mk]
   congr 1;exact decide_eq_decide.2 (by omega)) (by simpa using Ev.now _)
 |b::r,pre,hl=>by
  have ih:=specVisible_go r (pre++ [b]) (by rw[←app_mid];exact hl)
  rw[←app_mid,len_snoc]at ih
  have hw:wrap64 ((pre.length:Int)+1)=(pre.length:Int)+1:=by simp at hl;exact wrap_id (by omega) (by omega)
  have hcell: ∀k,spec_l6visible.l0 (k+1) (mkB (pre++b::r)) pre.length=if visB b=true then spec_l6visible.l0 k (mkB (pre++b::r)) (pre.length+1)else some false:=by
   intro k
   simp only[spec_l6visible.l0]
   rw[if_pos (size_lt_mid ..),if_pos (by omega),bt_mid,hw]
   by_cases h1:(b.toNat:Int)<33
   ·rw[if_pos h1,if_neg];simp[visB];omega
   ·by_cases h2:(b.toNat:Int)>126
    ·rw[if_neg h1,if_pos h2,if_neg];simp[visB];omega
    ·rw[if_neg h1,if_neg h2,if_pos];simp[visB];omega
  by_cases hv:visB b=true
  ·refine Ev.step (fun k=>by rw[hcell,if_pos hv]) ?_
   simpa [hv]using ih
  ·refine Ev.step (f:=fun _=>some false) (fun k=>by rw[hcell,if_neg hv]) ?_
   simpa [hv]using Ev.now false
theorem specVisible_is (s:ByteArray) (hs:s.size≤9223372036854775806):Ev (fun k=>spec_l6visible.f k s) ((bl s).all visB&&decide (1≤s.size)):=by
 have:=specVisible_go (bl s) [] (by simpa [size_bl]using hs)
 simpa [spec_l6visible.f,mk_bl,size_bl]using this
def cleanK:List (List UInt8)→List (List UInt8)→List (List UInt8)
 |kept,[]=>kept
 |kept,s::r=>if s= [46]then(if r= []then kept++ [[]]else cleanK kept r)else if s= [46,46]then(if r= []then kept.dropLast++ [[]]else cleanK kept.dropLast r)else cleanK (kept++ [s]) r
def foldS (kept:List (List UInt8)) (s:List UInt8):List (List UInt8):=if s= [46]then kept else if s= [46,46]then kept.dropLast else kept++ [s]
def dotS (s:List UInt8):Bool:=decide (s= [46])||decide (s= [46,46])
theorem cleanK_last: ∀(segs kept:List (List UInt8)) (h:segs≠ []),cleanK kept segs=if dotS (segs.getLast h)=true then segs.foldl foldS kept++ [[]]else segs.foldl foldS kept
 | [s],kept,_=>by
  by_cases h1:s= [46]
  ·subst h1;simp[cleanK,dotS,foldS]
  ·by_cases h2:s= [46,46]
   ·subst h2;simp[cleanK,dotS,foldS]
   ·simp[cleanK,dotS,foldS,h1,h2]
 |s::t::r,kept,_=>by
  have e:(s::t::r).getLast (by simp)=(t::r).getLast (by simp):=by simp
  rw[e,List.foldl_cons,←cleanK_last (t::r) (foldS kept s) (by simp)]
  unfold foldS
  rw[cleanK]
  by_cases h1:s= [46]
  ·simp[h1]
  ·by_cases h2:s= [46,46]
   ·simp[h1,h2]
   ·simp[h1,h2]
def flatS (l:List (List UInt8)):List UInt8:=l.flatMap (47:: ·)
theorem flatS_app (a b:List (List UInt8)):flatS (a++b)=flatS a++flatS b:=by simp[flatS]
theorem flatS_one (s:List UInt8):flatS [s]=47::s:=by simp[flatS]
theorem flatS_cons (s:List UInt8) (r:List (List UInt8)):flatS (s::r)=47::s++flatS r:=by simp[flatS]
theorem flatS_drop (l:List (List UInt8)):(flatS l.dropLast).length≤(flatS l).length:=by
 rcases List.eq_nil_or_concat l with rfl|⟨a,b,rfl⟩
 ·simp
 ·rw[List.concat_eq_append,List.dropLast_concat,flatS_app];simp
theorem flatS_split: ∀l:List UInt8,flatS (splitL 47 l)=47::l
 | []=>by simp[splitL,flatS]
 |b::r=>by
  have ih:=flatS_split r
  by_cases h:b=47
  ·subst h;rw[splitL,if_pos rfl,flatS_cons,ih];simp
  ·rw[splitL,if_neg h,flatS_cons]
   have hne:=splitL_ne 47 r
   cases hs:splitL 47 r with
   |nil=>exact absurd hs hne
   |cons x y=>rw[hs,flatS_cons]at ih;simp at ih;simp[ih]
theorem flatS_len (l:List (List UInt8)):l.length≤(flatS l).length:=by
 induction l with
 |nil=>simp
 |cons s r ih=>rw[flatS_cons];simp;omega
def pathOf (l:List (List UInt8)):List UInt8:=if flatS l= []then [47]else flatS l
theorem join_flat (l:List (List UInt8)):47::Lib.join l [47]=pathOf l:=by
 unfold pathOf
 cases l with
 |nil=>simp[Lib.join_nil,flatS]
 |cons s r=>
  rw[if_neg (by simp[flatS]),Lib.join_cons,flatS_cons]
  simp[Lib.joinTail,flatS,List.flatMap]
theorem rdOf_map (pre:List (List UInt8)) (x:List UInt8) (r:List (List UInt8)):rdOf ByteArray.empty ((pre++x::r).map mkB) (pre.length:Int)=mkB x:=by
 rw[List.map_append,List.map_cons,rdOf,show(pre.length:Int)=((pre.map mkB).length:Int)by simp,getD_mid]
theorem mkApp (a b:List UInt8):mkB a++mkB b=mkB (a++b):=by apply toList_inj;rw[toList_mk,toList_bl,bl,ByteArray.data_append];simp[mkB]
theorem specClean_end: ∀(r pre:List (List UInt8)) (acc:List UInt8),(pre++r).length≤1048576→acc.length+(flatS r).length≤1048576→
  Ev (fun k=>spec_CleanPath.l2 k ((pre++r).map mkB) (mkB acc) (pre.length:Int)) (mkB (if acc++flatS r= []then [47]else acc++flatS r))
 | [],pre,acc,hl,ha=>by
  refine Ev.step (f:=fun _=>some (mkB (if acc= []then [47]else acc))) (fun k=>?_) (by simpa [flatS]using Ev.now _)
  simp only[spec_CleanPath.l2]
  rw[if_neg (by simp),toList_mk]
  by_cases h:acc= []
  ·rw[if_pos h,if_pos h];rfl
  ·rw[if_neg h,if_neg h]
 |x::r,pre,acc,hl,ha=>by
  rw[flatS_cons]at ha
  simp at ha hl
  have ih:=specClean_end r (pre++ [x]) (acc++47::x) (by simp;omega) (by simp;omega)
  rw[←app_mid,len_snoc]at ih
  have e:acc++flatS (x::r)=acc++47::x++flatS r:=by rw[flatS_cons];simp
  rw[e]
  refine Ev.step (fun k=>?_) ih
  simp only[spec_CleanPath.l2]
  rw[rdOf_map,show(⟨#[47]⟩:ByteArray)=mkB [47]from rfl,mkApp,mkApp,if_pos (by simp;omega),if_pos (by rw[size_mk];omega),if_pos (by omega),if_pos (by rw[size_mk,size_mk];simp;omega),wrap_id (by omega) (by omega)]
  simp
theorem specClean_seg: ∀(r pre kept:List (List UInt8)),(pre++r).length≤1048576→kept.length≤pre.length→(flatS kept).length+(flatS r).length≤1000000→
  Ev (fun k=>spec_CleanPath.l1 k ((pre++r).map mkB) (kept.map mkB) (pre.length:Int)) (mkB (pathOf (cleanK kept r)))
 | [],pre,kept,hl,hk,ha=>by
  have:=specClean_end kept [] [] (by simp at hl ⊢;omega) (by simp;omega)
  refine Ev.step (f:=fun k=>spec_CleanPath.l2 k (kept.map mkB) (⟨#[]⟩:ByteArray) 0) (fun k=>by simp only[spec_CleanPath.l1];rw[if_neg (by simp)]) ?_
  show Ev (fun k=>spec_CleanPath.l2 k (kept.map mkB) (⟨#[]⟩:ByteArray) 0) (mkB (pathOf kept))
  exact this
 |s::r,pre,kept,hl,hk,ha=>by
  have hl2:=hl
  simp at hl2
  rw[flatS_cons]at ha
  simp at ha
  have hd:=flatS_drop kept
  have hw:wrap64 ((pre.length:Int)+1)=(pre.length:Int)+1:=wrap_id (by omega) (by omega)
  have hlen:(((pre++s::r).map mkB).length:Int)=(pre.length:Int)+1+r.length:=by simp;omega
  have hk1: ∀kept':List (List UInt8),kept'.length≤kept.length+1→(kept'.map mkB).length<8796093022208:=by intro kept' h;simp;omega
  have dots: ∀kept':List (List UInt8),kept'.length≤kept.length→(flatS kept').length≤(flatS kept).length→Ev (fun k=>spec_CleanPath.j5 k ((pre++s::r).map mkB) (kept'.map mkB) (pre.length:Int) true) (mkB (pathOf (if r= []then kept'++ [[]]else cleanK kept' r))):=by
   intro kept' h1 h2
   by_cases hr:r= []
   ·subst hr
    rw[if_pos rfl]
    have ih:=specClean_seg [] (pre++ [s]) (kept'++ [[]]) (by simpa using hl2) (by simp;omega) (by rw[flatS_app,flatS_one];simp[flatS]at ha h2 ⊢;omega)
    rw[List.append_nil,len_snoc]at ih
    simp only[cleanK]at ih
    refine Ev.step (fun k=>?_) ih
    simp only[spec_CleanPath.j5,if_true]
    rw[hw,hlen,if_pos (by simp),if_pos (hk1 _ (by omega))]
    simp[mkB]
   ·rw[if_neg hr]
    have ih:=specClean_seg r (pre++ [s]) kept' (by simp;omega) (by simp;omega) (by omega)
    rw[←app_mid,len_snoc]at ih
    refine Ev.step (fun k=>?_) ih
    have:1≤r.length:=List.length_pos_iff.2 hr
    simp only[spec_CleanPath.j5,if_true]
    rw[hw,hlen,if_neg (by omega)]
  have h0:(0:Int)≤(pre.length:Int):=by omega
  have hlt:(pre.length:Int)<(((pre++s::r).map mkB).length:Int):=by rw[hlen];omega
  have hread: ∀t:List UInt8,((mkB s).toList=t)↔s=t:=fun t=>by rw[toList_mk]
  by_cases h1:s= [46]
  ·rw[cleanK,if_pos h1]
   refine Ev.step (f:=fun k=>spec_CleanPath.j3 k ((pre++s::r).map mkB) (kept.map mkB) (pre.length:Int) true) (fun k=>by simp only[spec_CleanPath.l1];rw[if_pos hlt,if_pos h0,rdOf_map,if_pos ((hread _).2 h1)]) ?_
   refine Ev.step (f:=fun k=>spec_CleanPath.j4 k ((pre++s::r).map mkB) (kept.map mkB) (pre.length:Int) true false) (fun k=>by simp only[spec_CleanPath.j3];rw[if_pos h0,if_pos hlt,rdOf_map,if_neg (fun h=>by have:=(hread _).1 h;rw[h1]at this;cases this)]) ?_
   refine Ev.step (f:=fun k=>spec_CleanPath.j5 k ((pre++s::r).map mkB) (kept.map mkB) (pre.length:Int) true) (fun k=>by simp only[spec_CleanPath.j4,Bool.false_eq_true,if_false]) ?_
   exact dots kept (Nat.le_refl _) (Nat.le_refl _)
  ·rw[cleanK,if_neg h1]
   by_cases h2:s= [46,46]
   ·rw[if_pos h2]
    have hbq:((mkB s).toList==([46,46]:List UInt8))=true:=by rw[toList_mk];exact beq_iff_eq.2 h2
    refine Ev.step (f:=fun k=>spec_CleanPath.j3 k ((pre++s::r).map mkB) (kept.map mkB) (pre.length:Int) true) (fun k=>by simp only[spec_CleanPath.l1];rw[if_pos hlt,if_pos h0,rdOf_map,if_neg (fun h=>h1 ((hread _).1 h)),hbq]) ?_
    refine Ev.step (f:=fun k=>spec_CleanPath.j4 k ((pre++s::r).map mkB) (kept.map mkB) (pre.length:Int) true (decide (((kept.map mkB).length:Int)>0))) (fun k=>by simp only[spec_CleanPath.j3];rw[if_pos h0,if_pos hlt,rdOf_map,if_pos ((hread _).2 h2)]) ?_
    by_cases hk0:kept= []
    ·subst hk0
     refine Ev.step (f:=fun k=>spec_CleanPath.j5 k ((pre++s::r).map mkB) (([]:List (List UInt8)).map mkB) (pre.length:Int) true) (fun k=>by simp[spec_CleanPath.j4]) ?_
     exact dots [] (Nat.le_refl _) (Nat.le_refl _)
    ·have hkl:1≤kept.length:=List.length_pos_iff.2 hk0
     have hwk:wrap64 (((kept.map mkB).length:Int)-1)=((kept.length-1:Nat):Int):=by rw[wrap_id (by simp;omega) (by simp;omega)];simp;omega
     have htake:(kept.map mkB).take (kept.length-1)=kept.dropLast.map mkB:=by rw[List.map_dropLast,List.dropLast_eq_take];simp
     refine Ev.step (f:=fun k=>spec_CleanPath.j5 k ((pre++s::r).map mkB) (kept.dropLast.map mkB) (pre.length:Int) true) (fun k=>?_) (dots kept.dropLast (by simp) hd)
     simp only[spec_CleanPath.j4]
     rw[if_pos (decide_eq_true (by simp<;>omega)),hwk,if_pos (by omega),if_pos (by simp<;>omega),Int.toNat_natCast,htake]
   ·rw[if_neg h2]
    have hbq:((mkB s).toList==([46,46]:List UInt8))=false:=by rw[toList_mk];exact beq_eq_false_iff_ne.2 h2
    refine Ev.step (f:=fun k=>spec_CleanPath.j3 k ((pre++s::r).map mkB) (kept.map mkB) (pre.length:Int) false) (fun k=>by simp only[spec_CleanPath.l1];rw[if_pos hlt,if_pos h0,rdOf_map,if_neg (fun h=>h1 ((hread _).1 h)),hbq]) ?_
    refine Ev.step (f:=fun k=>spec_CleanPath.j4 k ((pre++s::r).map mkB) (kept.map mkB) (pre.length:Int) false false) (fun k=>by simp only[spec_CleanPath.j3];rw[if_pos h0,if_pos hlt,rdOf_map,if_neg (fun h=>h2 ((hread _).1 h))]) ?_
    refine Ev.step (f:=fun k=>spec_CleanPath.j5 k ((pre++s::r).map mkB) (kept.map mkB) (pre.length:Int) false) (fun k=>by simp only[spec_CleanPath.j4,Bool.false_eq_true,if_false]) ?_
    have ih:=specClean_seg r (pre++ [s]) (kept++ [s]) (by simp;omega) (by simp;omega) (by rw[flatS_app,flatS_one];simp;omega)
    rw[←app_mid,len_snoc,show(kept++ [s]).map mkB=kept.map mkB++ [mkB s]by simp]at ih
    refine Ev.step (fun k=>?_) ih
    simp only[spec_CleanPath.j5,Bool.false_eq_true,if_false]
    rw[if_pos h0,if_pos hlt,if_pos (hk1 _ (by omega)),rdOf_map,hw]
theorem join_map (l:List (List UInt8)):(l.map mkB).map (·.data.toList)=l:=by
 rw[List.map_map]
 have:((fun x:ByteArray=>x.data.toList) ∘ mkB)=id:=by funext x;exact bl_mk x
 rw[this,List.map_id]
theorem stringsJoin_slash (l:List (List UInt8)) (h:(flatS l).length≤1048576): ∃j,strings_Join.f (l.map mkB) (⟨#[47]⟩:ByteArray)=some j∧j.size≤1048576∧(⟨#[47]⟩:ByteArray)++j=mkB (pathOf l):=by
 have hj:=join_flat l
 have hln:(47::Lib.join l [47]).length≤1048577:=by
  rw[hj];unfold pathOf;split
  ·simp
  ·omega
 simp at hln
 have hl:=flatS_len l
 refine⟨mkB (Lib.join l [47]),?_,by rw[size_mk];omega,?_⟩
 ·unfold strings_Join.f
  rw[join_map]
  have e:(⟨#[47]⟩:ByteArray).data.toList= [47]:=rfl
  rw[e,if_pos ⟨by simp;omega,by omega⟩];rfl
 ·rw[show(⟨#[47]⟩:ByteArray)=mkB [47]from rfl,mkApp,←hj];rfl
theorem implClean_seg (S:List (List UInt8)) (hS:S≠ []): ∀(r pre out:List (List UInt8)),S=pre++r→S.length≤1000000→out.length≤pre.length→(flatS out).length+(flatS r).length≤1000000→
  Ev (fun k=>impl_CleanPath.l0 k (out.map mkB) (S.map mkB) (S.map mkB) (S.length:Int) (pre.length:Int)) (mkB (pathOf (if dotS (S.getLast hS)=true then r.foldl foldS out++ [[]]else r.foldl foldS out)))
 | [],pre,out,hp,hl,ho,ha=>by
  have hS1:1≤S.length:=List.length_pos_iff.2 hS
  have hw:wrap64 (((S.map mkB).length:Int)-1)=((S.length-1:Nat):Int):=by rw[wrap_id (by simp;omega) (by simp;omega)];simp;omega
  have hrd:rdOf ByteArray.empty (S.map mkB) ((S.length-1:Nat):Int)=mkB (S.getLast hS):=by
   have e:S.dropLast++S.getLast hS:: []=S:=List.dropLast_concat_getLast hS
   have:=rdOf_map S.dropLast (S.getLast hS) []
   rw[e,List.length_dropLast]at this
   exact this
  have hon:(out.map mkB).length<8796093022208:=by simp;subst hp;simp at hl;omega
  have hpl:S.length=pre.length:=by rw[hp];simp
  have hcell: ∀k,impl_CleanPath.l0 (k+1) (out.map mkB) (S.map mkB) (S.map mkB) (S.length:Int) (pre.length:Int)=if dotS (S.getLast hS)=true then(strings_Join.f (out.map mkB++ [(⟨#[]⟩:ByteArray)]) (⟨#[47]⟩:ByteArray)).bind fun t=>if 1+t.size≤9223372036854775807 then some ((⟨#[47]⟩:ByteArray)++t)else none else(strings_Join.f (out.map mkB) (⟨#[47]⟩:ByteArray)).bind fun t=>if 1+t.size≤9223372036854775807 then some ((⟨#[47]⟩:ByteArray)++t)else none:=by
   intro k
   simp only[impl_CleanPath.l0,hw,hrd,toList_mk]
   rw[if_neg (by omega),if_pos (by omega),if_pos (by simp;omega)]
   unfold dotS
   by_cases h1:S.getLast hS= [46]
   ·rw[if_pos h1,if_pos hon,if_pos (by simp[h1])]
   ·rw[if_neg h1]
    by_cases h2:S.getLast hS= [46,46]
    ·rw[if_pos h2,if_pos hon,if_pos (by simp[h2])]
    ·rw[if_neg h2,if_neg (by simp[h1,h2])]
  refine Ev.step (f:=fun _=>some (mkB (pathOf (if dotS (S.getLast hS)=true then out++ [[]]else out)))) (fun k=>?_) (Ev.now _)
  rw[hcell]
  simp[flatS]at ha
  by_cases hd:dotS (S.getLast hS)=true
  ·obtain⟨j,e1,e2,e3⟩:=stringsJoin_slash (out++ [[]]) (by rw[flatS_app,flatS_one];simp[flatS];omega)
   rw[List.map_append,List.map_singleton,show mkB []=(⟨#[]⟩:ByteArray)from rfl]at e1
   rw[if_pos hd,if_pos hd,e1,Option.bind_some,if_pos (by omega),e3]
  ·obtain⟨j,e1,e2,e3⟩:=stringsJoin_slash out (by simp[flatS];omega)
   rw[if_neg hd,if_neg hd,e1,Option.bind_some,if_pos (by omega),e3]
 |s::r,pre,out,hp,hl,ho,ha=>by
  have hd:=flatS_drop out
  rw[flatS_cons]at ha
  simp at ha
  have hlen:S.length=pre.length+(r.length+1):=by rw[hp];simp
  have hw:wrap64 ((pre.length:Int)+1)=(pre.length:Int)+1:=wrap_id (by omega) (by omega)
  have hrd:rdOf ByteArray.empty (S.map mkB) (pre.length:Int)=mkB s:=by rw[hp];exact rdOf_map pre s r
  have ih:=fun out' h1 h2=>implClean_seg S hS r (pre++ [s]) out' (by rw[hp];simp) hl h1 h2
  simp only[len_snoc]at ih
  have hlt:(pre.length:Int)<(S.length:Int):=by omega
  have hlt2:(pre.length:Int)<((S.map mkB).length:Int):=by simp;omega
  rw[List.foldl_cons]
  by_cases h1:s= [46]
  ·have ih':=ih out (by simp;omega) (by omega)
   have e:foldS out s=out:=by simp[foldS,h1]
   rw[e]
   refine Ev.step (fun k=>?_) ih'
   simp only[impl_CleanPath.l0]
   rw[if_pos hlt,if_pos (by omega),if_pos hlt2,hrd,toList_mk,if_pos h1,hw]
  ·by_cases h2:s= [46,46]
   ·have ih':=ih out.dropLast (by simp;omega) (by omega)
    have e:foldS out s=out.dropLast:=by simp[foldS,h2]
    rw[e]
    refine Ev.step (fun k=>?_) ih'
    have hmx:mx 0 (wrap64 (((out.map mkB).length:Int)-1))=((out.length-1:Nat):Int):=by
     rw[wrap_id (by simp;omega) (by simp;omega)];unfold mx;simp;split<;>omega
    have htake:(out.map mkB).take (out.length-1)=out.dropLast.map mkB:=by rw[List.map_dropLast,List.dropLast_eq_take];simp
    simp only[impl_CleanPath.l0]
    rw[if_pos hlt,if_pos (by omega),if_pos hlt2,hrd,toList_mk,if_neg h1,if_pos h2,hmx,if_pos (by omega),if_pos (by simp<;>omega),Int.toNat_natCast,htake,hw]
   ·have ih':=ih (out++ [s]) (by simp;omega) (by rw[flatS_app,flatS_one];simp;omega)
    have e:foldS out s=out++ [s]:=by simp[foldS,h1,h2]
    rw[e]
    rw[List.map_append,List.map_singleton]at ih'
    refine Ev.step (fun k=>?_) ih'
    simp only[impl_CleanPath.l0]
    rw[if_pos hlt,if_pos (by omega),if_pos hlt2,hrd,toList_mk,if_neg h1,if_neg h2,if_pos (by simp;omega),hw]
def cleanL (p:List UInt8):List UInt8:=
 if p.length≤200∧p.head?=some 47∧p.all visB=true∧(p.any fun b=>decide (b=35)||decide (b=63))=false then pathOf (cleanK [] (splitL 47 ((strOfNums (unescI p.length p)).data.toList.drop 1)))else []
theorem unesc_head (r:List UInt8):(strOfNums (unescI (47::r).length (47::r))).data.toList=47::(strOfNums (unescI r.length r)).data.toList:=by
 rw[List.length_cons,unescI,if_neg (by decide)];simp[strOfNums]
theorem unesc_size (l:List UInt8):(strOfNums (unescI l.length l)).size≤l.length:=by
 rw[size_strOf];exact unescI_len _ _ (Nat.le_refl _)
theorem u8_35 (b:UInt8):(b.toNat:Int)=35↔b=35:=by rw[←UInt8.toNat_inj];show _↔b.toNat=35;omega
theorem u8_63 (b:UInt8):(b.toNat:Int)=63↔b=63:=by rw[←UInt8.toNat_inj];show _↔b.toNat=63;omega
theorem u8_47 (b:UInt8):(b.toNat:Int)=47↔b=47:=by rw[←UInt8.toNat_inj];show _↔b.toNat=47;omega
theorem specClean_hash (P:List UInt8) (hP:P.length≤1000) (res:ByteArray)
  (hres:Ev (fun k=>(spec_l7percent.f k (mkB P)).bind fun t135=>(if 1≤(t135.size:Int)then((spec_l7split.f k (t135.extract 1 t135.size) 47).bind fun t136=>(spec_CleanPath.l1 k t136 ([]:List ByteArray) 0))else(none))) res):
  ∀(r pre:List UInt8),P=pre++r→Ev (fun k=>spec_CleanPath.l0 k (mkB P) (pre.length:Int)) (if(r.any fun b=>decide (b=35)||decide (b=63))=true then(⟨#[]⟩:ByteArray)else res)
 | [],pre,hp=>by
  refine Ev.step (fun k=>?_) (by simpa using hres)
  simp only[spec_CleanPath.l0]
  rw[if_neg (by rw[size_mk,hp];simp)]
 |b::r,pre,hp=>by
  have ih:=specClean_hash P hP res hres r (pre++ [b]) (by rw[hp];simp)
  rw[len_snoc]at ih
  have hlen:P.length=pre.length+(r.length+1):=by rw[hp];simp
  have hb:bt (mkB P) (pre.length:Int)=(b.toNat:Int):=by rw[hp];exact bt_mid pre b r
  have hlt:(pre.length:Int)<((mkB P).size:Int):=by rw[size_mk];omega
  by_cases h1:b=35
  ·refine Ev.step (f:=fun _=>some (⟨#[]⟩:ByteArray)) (fun k=>?_) (by simpa [h1]using Ev.now _)
   simp only[spec_CleanPath.l0]
   rw[if_pos hlt,if_pos (by omega),hb,if_pos ((u8_35 b).2 h1)]
  by_cases h2:b=63
  ·refine Ev.step (f:=fun _=>some (⟨#[]⟩:ByteArray)) (fun k=>?_) (by simpa [h2]using Ev.now _)
   simp only[spec_CleanPath.l0]
   rw[if_pos hlt,if_pos (by omega),hb,if_neg (fun h=>h1 ((u8_35 b).1 h)),if_pos ((u8_63 b).2 h2)]
  refine Ev.step (fun k=>?_) (by simpa [h1,h2]using ih)
  simp only[spec_CleanPath.l0]
  rw[if_pos hlt,if_pos (by omega),hb,if_neg (fun h=>h1 ((u8_35 b).1 h)),if_neg (fun h=>h2 ((u8_63 b).1 h)),wrap_id (by omega) (by omega)]
theorem indexAny_any (l:List UInt8):decide (Lib.indexAny l [35,63]≥0)=(l.any fun b=>decide (b=35)||decide (b=63)):=by
 induction l with
 |nil=>rfl
 |cons b r ih=>
  have hg:=Lib.indexAny_ge [35,63] r
  rw[Lib.indexAny,List.any_cons]
  by_cases h1:b=35
  ·simp[h1]
  by_cases h2:b=63
  ·simp[h2]
  rw[if_neg (by simp[h1,h2])]
  simp only[h1,h2,decide_false,Bool.or_false,Bool.false_or]
  rw[←ih]
  by_cases hm:Lib.indexAny r [35,63]= -1
  ·simp[hm]
  ·rw[if_neg (by simpa using hm)]
   exact decide_eq_decide.2 (by omega)
theorem unesc_cut (r:List UInt8):(strOfNums (unescI (47::r).length (47::r))).extract 1 (strOfNums (unescI (47::r).length (47::r))).size=mkB ((strOfNums (unescI (47::r).length (47::r))).data.toList.drop 1):=by
 have e:=unesc_head r
 have e2:strOfNums (unescI (47::r).length (47::r))=mkB (47::(strOfNums (unescI r.length r)).data.toList):=by rw[←mk_bl (strOfNums _),bl,e]
 rw[e,e2,extract_mk,size_mk,List.take_of_length_le (by simp)]
theorem seg_bound (r:List UInt8) (h:r.length≤1000):(splitL 47 ((strOfNums (unescI (47::r).length (47::r))).data.toList.drop 1)).length≤2000∧(flatS (splitL 47 ((strOfNums (unescI (47::r).length (47::r))).data.toList.drop 1))).length≤2000∧((strOfNums (unescI (47::r).length (47::r))).data.toList.drop 1).length≤2000:=by
 have hz:(strOfNums (unescI (47::r).length (47::r))).data.toList.length≤1001:=by
  rw[Array.length_toList];exact Nat.le_trans (unesc_size (47::r)) (by simp;omega)
 generalize (strOfNums (unescI (47::r).length (47::r))).data.toList=L at hz ⊢
 have hf:=flatS_split (L.drop 1)
 have hl:=flatS_len (splitL 47 (L.drop 1))
 have hd:(L.drop 1).length≤1001:=by rw[List.length_drop];omega
 rw[hf]at hl ⊢
 simp only[List.length_cons]at hl ⊢
 omega
theorem specCleanPath_is (s:ByteArray) (hs:s.size≤1048576):Ev (fun k=>spec_CleanPath.f k s) (mkB (cleanL (bl s))):=by
 have hj:Ev (fun k=>spec_CleanPath.j0 k s true) (mkB []):=Ev.step (f:=fun _=>some (⟨#[]⟩:ByteArray)) (fun k=>by simp only[spec_CleanPath.j0,if_true]) (Ev.now _)
 obtain⟨p,rfl⟩: ∃p,s=mkB p:=⟨bl s,(mk_bl s).symm⟩
 rw[bl_mk]
 unfold spec_CleanPath.f cleanL
 rw[size_mk]
 cases p with
 |nil=>simpa using hj
 |cons b r=>
  simp only[if_neg (show ¬((b::r).length:Int)=0 by simp;omega)]
  by_cases hl:(b::r).length≤200
  ·simp only[if_neg (show ¬((b::r).length:Int)>200 by omega),if_pos (show(0:Int)<((b::r).length:Int)by simp<;>omega)]
   have hb:bt (mkB (b::r)) 0=(b.toNat:Int):=by simpa using bt_mid [] b r
   rw[hb]
   by_cases h47:b=47
   ·subst h47
    simp only[if_pos (show(((47:UInt8).toNat:Nat):Int)=47 from rfl)]
    refine(specVisible_is (mkB (47::r)) (by rw[size_mk];omega)).bind ?_
    rw[bl_mk,size_mk,decide_eq_true (show 1≤(47::r).length by simp),Bool.and_true]
    cases hv:(47::r).all visB
    ·simpa [hv]using hj
    ·have hsb:=seg_bound r (by simp at hl;omega)
     simp only[Bool.not_true]
     have hseg:=specClean_seg (splitL 47 ((strOfNums (unescI (47::r).length (47::r))).data.toList.drop 1)) [] [] (by rw[List.nil_append];omega) (by simp) (by have e0:(flatS ([]:List (List UInt8))).length=0:=rfl;omega)
     have hP:=specPct_go (47::r).length (47::r) [] [] (Nat.le_refl _) (by simp at hl ⊢;omega) (by simp)
     have hres:Ev (fun k=>(spec_l7percent.f k (mkB (47::r))).bind fun t135=>(if 1≤(t135.size:Int)then((spec_l7split.f k (t135.extract 1 t135.size) 47).bind fun t136=>(spec_CleanPath.l1 k t136 ([]:List ByteArray) 0))else(none))) (mkB (pathOf (cleanK [] (splitL 47 ((strOfNums (unescI (47::r).length (47::r))).data.toList.drop 1))))):=by
      refine Ev.bind (a:=strOfNums (unescI (47::r).length (47::r))) (by simpa [spec_l7percent.f]using hP) ?_
      have h1:1≤((strOfNums (unescI (47::r).length (47::r))).size:Int):=by
       have:(strOfNums (unescI (47::r).length (47::r))).size=(strOfNums (unescI (47::r).length (47::r))).data.toList.length:=by rw[Array.length_toList];rfl
       rw[this,unesc_head];simp;omega
      simp only[if_pos h1,unesc_cut]
      refine(spec7split_is 47 _ (by omega)).bind ?_
      simpa using hseg
     have hh:=specClean_hash (47::r) (by omega) _ hres (47::r) [] rfl
     refine Ev.step (f:=fun k=>spec_CleanPath.l0 k (mkB (47::r)) 0) (fun k=>by simp only[spec_CleanPath.j0,Bool.false_eq_true,if_false]) ?_
     cases ha:(47::r).any fun b=>decide (b=35)||decide (b=63)
     ·rw[ha]at hh
      rw[if_pos (by refine⟨hl,rfl,?_,?_⟩<;>first|trivial|rfl|assumption)]
      simpa using hh
     ·rw[ha]at hh
      rw[if_neg (fun h=>by cases h.2.2.2)]
      simpa [mkB]using hh
   ·simp only[if_neg (fun h=>h47 ((u8_47 b).1 h))]
    rw[if_neg (fun h=>h47 (by simpa using h.2.1))]
    exact hj
  ·simp only[if_pos (show((b::r).length:Int)>200 by omega)]
   rw[if_neg (fun h=>hl h.1)]
   exact hj
theorem implCleanPath_is (s:ByteArray) (hs:s.size≤1048576):Ev (fun k=>impl_CleanPath.f k s) (mkB (cleanL (bl s))):=by
 have hj:Ev (fun k=>impl_CleanPath.j0 k s true) (mkB []):=Ev.step (f:=fun _=>some (⟨#[]⟩:ByteArray)) (fun k=>by simp only[impl_CleanPath.j0,if_true]) (Ev.now _)
 obtain⟨p,rfl⟩: ∃p,s=mkB p:=⟨bl s,(mk_bl s).symm⟩
 rw[bl_mk]
 have hpre:strings_HasPrefix.f (mkB p) (⟨#[47]⟩:ByteArray)=some (decide (p.head?=some 47)):=by
  unfold strings_HasPrefix.f stringslite_HasPrefix.f
  rw[show(⟨#[47]⟩:ByteArray)=mkB [47]from rfl,size_mk,size_mk]
  cases p with
  |nil=>rfl
  |cons b r=>
   rw[if_pos (by simp;omega),if_pos (by simp),if_pos (by simp;omega),extract_mk,toList_mk,toList_mk]
   simp
   rw[Bool.eq_iff_iff];simp
 have hca:strings_ContainsAny.f (mkB p) (⟨#[35,63]⟩:ByteArray)=some (p.any fun b=>decide (b=35)||decide (b=63)):=by
  unfold strings_ContainsAny.f strings_IndexAny.f
  rw[if_pos ⟨by rw[size_mk]at*;omega,rfl,by decide⟩,Option.bind_some]
  have e1:(⟨#[35,63]⟩:ByteArray).data.toList= [35,63]:=rfl
  have e2:(mkB p).data.toList=p:=bl_mk p
  rw[e1,e2,indexAny_any]
 unfold impl_CleanPath.f cleanL
 rw[hpre]
 simp only[Option.bind_some,decide_eq_true_eq]
 by_cases h47:p.head?=some 47
 ·simp only[if_pos h47,size_mk]
  by_cases hl:p.length≤200
  ·simp only[if_neg (show ¬(p.length:Int)>200 by omega)]
   refine(implAllVis_is (mkB p) (by rw[size_mk];omega)).bind ?_
   rw[bl_mk]
   cases hv:p.all visB
   ·simpa [hv]using hj
   ·simp only[if_true,hca,Option.bind_some]
    cases ha:p.any fun b=>decide (b=35)||decide (b=63)
    ·rw[if_pos (by refine⟨hl,h47,?_,?_⟩<;>first|trivial|rfl|assumption)]
     obtain⟨r,rfl⟩: ∃r,p=47::r:=by
      cases p with
      |nil=>cases h47
      |cons b r=>simp at h47;subst h47;exact⟨r,rfl⟩
     have hsb:=seg_bound r (by simp at hl;omega)
     have hne:=splitL_ne 47 ((strOfNums (unescI (47::r).length (47::r))).data.toList.drop 1)
     have hseg:=implClean_seg (splitL 47 ((strOfNums (unescI (47::r).length (47::r))).data.toList.drop 1)) hne _ [] [] rfl (by omega) (by simp) (by have e0:(flatS ([]:List (List UInt8))).length=0:=rfl;omega)
     rw[←cleanK_last _ [] hne]at hseg
     have hP:=implPct_go (47::r).length (47::r) [] [] (Nat.le_refl _) (by simp at hl ⊢;omega) (by simp)
     refine Ev.step (f:=fun k=>(impl_unescaped.f k (mkB (47::r))).bind fun t180=>(if 1≤(t180.size:Int)then((strings_Split.f (t180.extract 1 t180.size) (⟨#[47]⟩:ByteArray)).bind fun t181=>(impl_CleanPath.l0 k ([]:List ByteArray) t181 t181 (t181.length:Int) 0))else(none))) (fun k=>by simp only[impl_CleanPath.j0,Bool.false_eq_true,if_false]) ?_
     refine Ev.bind (a:=strOfNums (unescI (47::r).length (47::r))) (by simpa [impl_unescaped.f]using hP) ?_
     have h1:1≤((strOfNums (unescI (47::r).length (47::r))).size:Int):=by
      have:(strOfNums (unescI (47::r).length (47::r))).size=(strOfNums (unescI (47::r).length (47::r))).data.toList.length:=by rw[Array.length_toList];rfl
      rw[this,unesc_head];simp;omega
     simp only[if_pos h1,unesc_cut]
     simp only[stringsSplit_is _ 47 (show((strOfNums (unescI (47::r).length (47::r))).data.toList.drop 1).length≤1048576 by omega),Option.bind_some,List.length_map]
     simpa using hseg
    ·rw[if_neg (fun h=>by cases h.2.2.2)];exact hj
  ·simp only[if_pos (show(p.length:Int)>200 by omega)]
   rw[if_neg (fun h=>hl h.1)];exact hj
 ·simp only[if_neg h47]
  rw[if_neg (fun h=>h47 h.2.1)];exact hj
theorem within_is (n a b:Int):impl_within.f n a b=some (decide (a≤n)&&decide (n≤b)):=by
 unfold impl_within.f
 by_cases h:a≤n<;>simp[h]
def cutB (c:UInt8):List UInt8→List UInt8×List UInt8×Bool
 | []=>([],[],false)
 |b::l=>if b=c then([],l,true)else(b::(cutB c l).1,(cutB c l).2)
theorem cut_is (c:UInt8): ∀l:List UInt8,Lib.cut l [c]=cutB c l
 | []=>by simp[Lib.cut,Lib.index,cutB]
 |b::l=>by
  have ih:=cut_is c l
  have hb:=index_bound l [c]
  unfold Lib.cut at ih ⊢
  by_cases h:b=c
  ·subst h
   have hi:Lib.index (b::l) [b]=0:=by simp[Lib.index]
   rw[hi];simp[cutB]
  ·have hi:Lib.index (b::l) [c]=if Lib.index l [c]= -1 then-1 else Lib.index l [c]+1:=by
    have hc:(c==b)=false:=by simpa using fun x=>h x.symm
    simp only[Lib.index,List.isPrefixOf,hc,Bool.false_and,Bool.false_eq_true,if_false]
    by_cases hm:Lib.index l [c]= -1<;>simp[hm]
   rw[hi,cutB,if_neg h]
   by_cases hm:Lib.index l [c]= -1
   ·rw[hm]at ih
    rw[if_pos hm]
    rw[if_neg (by omega)]at ih ⊢
    rw[←ih]
   ·rw[if_neg hm]
    rw[if_pos (by omega)]at ih
    rw[if_pos (by omega),←ih]
    have e:(Lib.index l [c]+1).toNat=(Lib.index l [c]).toNat+1:=by omega
    rw[e]
    simp[Nat.add_right_comm]
theorem cutB_app (c:UInt8): ∀(pre r:List UInt8),(∀b∈pre,b≠c)→cutB c (pre++r)=(pre++(cutB c r).1,(cutB c r).2)
 | [],r,_=>rfl
 |b::pre,r,h=>by
  have ih:=cutB_app c pre r (fun x hx=>h x (List.mem_cons_of_mem _ hx))
  rw[List.cons_append,cutB,if_neg (h b (by simp)),ih];rfl
theorem cutB_len (c:UInt8): ∀l:List UInt8,(cutB c l).1.length+(cutB c l).2.1.length≤l.length
 | []=>by simp[cutB]
 |b::l=>by
  have ih:=cutB_len c l
  unfold cutB;split
  ·simp
  ·simp;omega
theorem upto_go (c:UInt8): ∀(r pre:List UInt8),(∀b∈pre,b≠c)→(pre++r).length≤9223372036854775806→Ev (fun k=>spec_l6upto.l0 k (mkB (pre++r)) (c.toNat:Int) pre.length) (mkB (cutB c (pre++r)).1)
 | [],pre,hp,hl=>by
  have e:(cutB c (pre++ [])).1=pre++ []:=by rw[cutB_app c pre [] hp];simp[cutB]
  rw[e]
  exact Ev.step (f:=fun _=>some (mkB (pre++ []))) (fun k=>by simp only[spec_l6upto.l0];rw[if_neg (by rw[size_mk];simp)]) (Ev.now _)
 |b::r,pre,hp,hl=>by
  simp at hl
  by_cases h:b=c
  ·subst h
   have e:(cutB b (pre++b::r)).1=pre:=by rw[cutB_app b pre _ hp];simp[cutB]
   rw[e]
   refine Ev.step (f:=fun _=>some (mkB pre)) (fun k=>?_) (Ev.now _)
   simp only[spec_l6upto.l0]
   rw[if_pos (size_lt_mid ..),if_pos (by omega),bt_mid,if_pos rfl,if_pos (by have:=size_lt_mid pre b r;omega),extract_mk]
   simp
  ·have ih:=upto_go c r (pre++ [b]) (by intro x hx;rcases List.mem_append.1 hx with h'|h';exact hp x h';simp at h';subst h';exact h) (by simp;omega)
   rw[←app_mid,len_snoc]at ih
   refine Ev.step (fun k=>?_) ih
   simp only[spec_l6upto.l0]
   rw[if_pos (size_lt_mid ..),if_pos (by omega),bt_mid,if_neg (fun e=>h ((u8_nat b c).1 e)),wrap_id (by omega) (by omega)]
theorem upto_is (c:UInt8) (s:ByteArray) (h:s.size≤9223372036854775806):Ev (fun k=>spec_l6upto.f k s (c.toNat:Int)) (mkB (cutB c (bl s)).1):=by
 have:=upto_go c (bl s) [] (by simp) (by simpa [size_bl]using h)
 simpa [mk_bl,spec_l6upto.f]using this
theorem hostLit_is (b:UInt8):impl_isHost_1.f (b.toNat:Int)=some (hostB b||decide (b=46)):=by
 have key: ∀n:Fin 256,impl_isHost_1.f ((UInt8.ofNat n.val).toNat:Int)=some (hostB (UInt8.ofNat n.val)||decide (UInt8.ofNat n.val=46)):=by decide+kernel
 have:=key ⟨b.toNat,b.toNat_lt⟩
 simpa using this
theorem slIndex_go (S:List (List UInt8)) (hS:S.length≤1000000): ∀(r pre:List (List UInt8)),S=pre++r→ ∃v:Int,Ev (fun k=>slices_Index_string_string.l0 k (S.map mkB) (⟨#[]⟩:ByteArray) (S.length:Int) (pre.length:Int)) v∧decide (v≥0)=r.contains []
 | [],pre,hp=>⟨-1,Ev.step (f:=fun _=>some (-1)) (fun k=>by rw[slices_Index_string_string.l0,if_neg (by rw[hp];simp)]) (Ev.now _),by decide⟩
 |x::r,pre,hp=>by
  have hlen:S.length=pre.length+(r.length+1):=by rw[hp];simp
  have hrd:rdOf ByteArray.empty (S.map mkB) (pre.length:Int)=mkB x:=by rw[hp];exact rdOf_mid pre x r
  have hlt:(pre.length:Int)<(S.length:Int):=by omega
  have hlt2:(pre.length:Int)<((S.map mkB).length:Int):=by rw[List.length_map];exact hlt
  have e0:(⟨#[]⟩:ByteArray).toList= []:=toList_mk []
  by_cases hx:x= []
  ·refine⟨(pre.length:Int),Ev.step (f:=fun _=>some (pre.length:Int)) (fun k=>?_) (Ev.now _),?_⟩
   ·rw[slices_Index_string_string.l0,if_pos hlt,if_pos (by omega),if_pos hlt2,hrd,toList_mk,e0,if_pos hx.symm]
   ·rw[decide_eq_true (by omega),hx];simp
  ·obtain⟨v,h1,h2⟩:=slIndex_go S hS r (pre++ [x]) (by rw[hp];simp)
   rw[len_snoc]at h1
   refine⟨v,Ev.step (fun k=>?_) h1,?_⟩
   ·rw[slices_Index_string_string.l0,if_pos hlt,if_pos (by omega),if_pos hlt2,hrd,toList_mk,e0,if_neg (fun h=>hx h.symm),wrap_id (by omega) (by omega)]
   ·rw[h2,List.contains_cons]
    have:(([]:List UInt8)==x)=false:=beq_eq_false_iff_ne.2 (fun h=>hx h.symm)
    rw[this,Bool.false_or]
theorem implHost_is (l:List UInt8) (hl:l.length≤1048576):Ev (fun k=>impl_isHost.f k (mkB l)) (hostL l):=by
 have hj:Ev (fun k=>impl_isHost.j0 k (mkB l) true) false:=Ev.step (f:=fun _=>some false) (fun k=>by rw[impl_isHost.j0,if_pos rfl]) (Ev.now _)
 unfold impl_isHost.f
 rw[hostL_is,within_is,size_mk]
 simp only[Option.bind_some]
 by_cases hb:1≤l.length∧l.length≤60
 ·have d:(decide ((1:Int)≤(l.length:Int))&&decide ((l.length:Int)≤60))=true:=by rw[decide_eq_true (show(1:Int)≤(l.length:Int)by omega),decide_eq_true (show(l.length:Int)≤60 by omega)];rfl
  simp only[d,if_true,decide_eq_true hb.1,decide_eq_true hb.2,Bool.true_and]
  have ha:=all_ev impl_all__impl_isHost_1.l0 (fun _ x=>impl_isHost_1.f x) (fun b=>hostB b||decide (b=46)) (fun b=>Ev.const (hostLit_is b)) (fun k s i=>by rw[impl_all__impl_isHost_1.l0]) (mkB l) (by rw[size_mk];omega)
  rw[bl_mk]at ha
  refine Ev.bind (a:=l.all fun b=>hostB b||decide (b=46)) (by simpa [impl_all__impl_isHost_1.f]using ha) ?_
  cases hall:l.all fun b=>hostB b||decide (b=46)
  ·simpa using hj
  ·simp only[Bool.not_true,Bool.true_and]
   have hsl:=splitL_len 46 l
   obtain⟨v,h1,h2⟩:=slIndex_go (splitL 46 l) (by omega) (splitL 46 l) [] rfl
   refine Ev.step (f:=fun k=>(slices_Contains_string_string.f k ((splitL 46 l).map mkB) (⟨#[]⟩:ByteArray)).bind fun t=>some (!t)) (fun k=>by rw[impl_isHost.j0,if_neg Bool.false_ne_true,stringsSplit_is l 46 hl,Option.bind_some]) ?_
   have hc:Ev (fun k=>slices_Contains_string_string.f k ((splitL 46 l).map mkB) (⟨#[]⟩:ByteArray)) ((splitL 46 l).contains []):=by
    unfold slices_Contains_string_string.f slices_Index_string_string.f
    rw[List.length_map]
    refine h1.bind ?_
    rw[h2];exact Ev.now _
   exact hc.bind (Ev.now _)
 ·have d:(decide ((1:Int)≤(l.length:Int))&&decide ((l.length:Int)≤60))=false:=by
   by_cases h1:1≤l.length
   ·rw[decide_eq_false (show ¬(l.length:Int)≤60 by omega),Bool.and_false]
   ·rw[decide_eq_false (show ¬(1:Int)≤(l.length:Int)by omega),Bool.false_and]
  have d2:(decide (1≤l.length)&&decide (l.length≤60))=false:=by
   by_cases h1:1≤l.length
   ·rw[decide_eq_false (show ¬l.length≤60 by omega),Bool.and_false]
   ·rw[decide_eq_false h1,Bool.false_and]
  simp only[d,d2,Bool.false_eq_true,if_false,Bool.false_and]
  exact hj
theorem cutB_whole (c:UInt8): ∀l:List UInt8,decide ((cutB c l).1=l)=!l.contains c
 | []=>rfl
 |b::r=>by
  have ih:=cutB_whole c r
  by_cases h:b=c
  ·subst h;simp[cutB]
  ·have hc:(c==b)=false:=beq_eq_false_iff_ne.2 (fun e=>h e.symm)
   rw[cutB,if_neg h,List.contains_cons,hc,Bool.false_or,←ih]
   exact decide_eq_decide.2 (by simp)
theorem index_has (c:UInt8): ∀l:List UInt8,decide (Lib.index l [c]≥0)=l.contains c
 | []=>by simp[Lib.index]
 |b::r=>by
  have ih:=index_has c r
  have hb:=index_bound r [c]
  by_cases h:b=c
  ·subst h;simp[Lib.index]
  ·have hc:(c==b)=false:=beq_eq_false_iff_ne.2 (fun e=>h e.symm)
   rw[List.contains_cons,hc,Bool.false_or,←ih]
   simp only[Lib.index,List.isPrefixOf,hc,Bool.false_and,Bool.false_eq_true,if_false]
   by_cases hm:Lib.index r [c]= -1
   ·simp[hm]
   ·rw[if_neg (by simpa using hm)];exact decide_eq_decide.2 (by omega)
def tailL (h:List UInt8) (p:Nat) (path q:List UInt8) (hq:Bool):Bool:=q.all visB&&!q.contains 35&&decide ((urlL h p path q hq).length≤200)
def urlOkL (h:List UInt8) (p:Int) (path q:List UInt8) (hq:Bool):Bool:=
 hostL h&&(decide (1≤p)&&decide (p≤65535))&&(decide (path≠ [])&&decide (cleanL path=path))&&(hq||decide (q= []))&&tailL h p.toNat path q hq
theorem upto35 (q:List UInt8) (hq:q.length≤1048576):Ev (fun k=>spec_l6upto.f k (mkB q) 35) (mkB (cutB 35 q).1):=by
 have:=upto_is 35 (mkB q) (by rw[size_mk];omega)
 rw[bl_mk]at this
 exact this
theorem specTail_is (h:List UInt8) (p:Nat) (path q:List UInt8) (hq:Bool) (hp:p≤65535) (h1:h.length≤1048576) (h2:path.length≤1048576) (h3:q.length≤1048576) (hok:hq=true∨q= []):
  Ev (fun k=>spec_UrlOk.j0 k false (mkB h) (p:Int) (mkB path) (mkB q) hq) (tailL h p path q hq):=by
 have ht:Ev (fun k=>(spec_l7text.f k (mkB h) (p:Int) (mkB path) (mkB q) hq).bind fun t=>some (decide ((t.size:Int)≤200))) (decide ((urlL h p path q hq).length≤200)):=by
  refine(specText_is h p path q hq (by omega) (by omega) (by omega) (by omega)).bind ?_
  rw[size_mk,show decide (((urlL h p path q hq).length:Int)≤200)=decide ((urlL h p path q hq).length≤200)from decide_eq_decide.2 (by omega)]
  exact Ev.now _
 have hu:Ev (fun k=>(spec_l6upto.f k (mkB q) 35).bind fun t=>(if t.toList=(mkB q).toList then((spec_l7text.f k (mkB h) (p:Int) (mkB path) (mkB q) hq).bind fun t179=>(some (decide ((t179.size:Int)≤200))))else(some false))) (!q.contains 35&&decide ((urlL h p path q hq).length≤200)):=by
  refine(upto35 q h3).bind ?_
  rw[toList_mk,toList_mk,←cutB_whole 35 q]
  by_cases hc:(cutB 35 q).1=q
  ·simp only[if_pos hc,decide_eq_true hc,Bool.true_and];exact ht
  ·simp only[if_neg hc,decide_eq_false hc,Bool.false_and];exact Ev.now _
 by_cases hbig:q.length>200
 ·have hq1:hq=true:=hok.resolve_right (fun e=>by rw[e]at hbig;simp at hbig)
  have hlen: ¬(urlL h p path q hq).length≤200:=by
   rw[hq1];unfold urlL queryL;rw[if_pos rfl];simp only[List.length_append,List.length_cons];omega
  have e:tailL h p path q hq=false:=by unfold tailL;rw[decide_eq_false hlen,Bool.and_false]
  rw[e]
  exact Ev.step (f:=fun _=>some false) (fun k=>by rw[spec_UrlOk.j0,if_neg Bool.false_ne_true,if_pos (by rw[size_mk];omega)]) (Ev.now _)
 ·by_cases h0:q= []
  ·have e:tailL h p path q hq=(!q.contains 35&&decide ((urlL h p path q hq).length≤200)):=by unfold tailL;rw[h0];rfl
   rw[e]
   exact Ev.step (fun k=>by rw[spec_UrlOk.j0,if_neg Bool.false_ne_true,if_neg (by rw[size_mk];omega),if_pos (by rw[toList_mk];exact h0)]) hu
  ·refine Ev.step (f:=fun k=>(spec_l6visible.f k (mkB q)).bind fun t180=>(if t180=true then((spec_l6upto.f k (mkB q) 35).bind fun t=>(if t.toList=(mkB q).toList then((spec_l7text.f k (mkB h) (p:Int) (mkB path) (mkB q) hq).bind fun t179=>(some (decide ((t179.size:Int)≤200))))else(some false)))else(some false))) (fun k=>by rw[spec_UrlOk.j0,if_neg Bool.false_ne_true,if_neg (by rw[size_mk];omega),if_neg (by rw[toList_mk];exact h0)]) ?_
   refine(specVisible_is (mkB q) (by rw[size_mk];omega)).bind ?_
   have hl1:1≤q.length:=List.length_pos_iff.2 h0
   rw[bl_mk,size_mk,decide_eq_true hl1,Bool.and_true]
   unfold tailL
   cases hv:q.all visB
   ·simpa using Ev.now false
   ·simpa using hu
theorem implTail_is (h:List UInt8) (p:Nat) (path q:List UInt8) (hq:Bool) (hp:p≤65535) (h1:h.length≤1048576) (h2:path.length≤1048576) (h3:q.length≤1048576):
  Ev (fun k=>impl_UrlOk.j0 k false (mkB h) (p:Int) (mkB path) (mkB q) hq) ((hq||decide (q= []))&&tailL h p path q hq):=by
 have hx:(impl_urlText.f (mkB h) (p:Int) (mkB path) (mkB q) hq).bind (fun t=>some (decide ((t.size:Int)≤200)))=some (decide ((urlL h p path q hq).length≤200)):=by
  rw[implText_is h p path q hq (by omega) (by omega) (by omega) (by omega),Option.bind_some,size_mk,show decide (((urlL h p path q hq).length:Int)≤200)=decide ((urlL h p path q hq).length≤200)from decide_eq_decide.2 (by omega)]
 have hc:strings_Contains.f (mkB q) (⟨#[35]⟩:ByteArray)=some (q.contains 35):=by
  unfold strings_Contains.f strings_Index.f
  rw[if_pos (by rw[size_mk];omega),Option.bind_some]
  have e1:(⟨#[35]⟩:ByteArray).data.toList= [35]:=rfl
  have e2:(mkB q).data.toList=q:=bl_mk q
  rw[e1,e2,index_has]
 refine Ev.step (f:=fun k=>(impl_all__impl_isVisible.f k (mkB q)).bind fun t256=>(if t256=true then(if q.contains 35=true then(some false)else(if hq=true then some (decide ((urlL h p path q hq).length≤200))else(if q= []then some (decide ((urlL h p path q hq).length≤200))else(some false))))else(some false))) (fun k=>?_) ?_
 ·rw[impl_UrlOk.j0,if_neg Bool.false_ne_true]
  simp only[hc,hx,Option.bind_some,toList_mk]
 ·refine(implAllVis_is (mkB q) (by rw[size_mk];omega)).bind ?_
  rw[bl_mk]
  unfold tailL
  cases hv:q.all visB
  ·simpa using Ev.now false
  ·simp only[if_true,Bool.true_and]
   cases hcc:q.contains 35
   ·simp only[Bool.false_eq_true,if_false,Bool.not_false,Bool.true_and]
    cases hq
    ·by_cases h0:q= []
     ·simp only[Bool.false_eq_true,if_false,if_pos h0,decide_eq_true h0,Bool.false_or,Bool.true_and];exact Ev.now _
     ·simp only[Bool.false_eq_true,if_false,if_neg h0,decide_eq_false h0,Bool.false_or,Bool.false_and];exact Ev.now _
    ·simp only[if_true,Bool.true_or,Bool.true_and];exact Ev.now _
   ·simp only[if_true,Bool.not_true,Bool.false_and,Bool.and_false];exact Ev.now _
theorem specUrlOk_is (h:List UInt8) (p:Int) (path q:List UInt8) (hq:Bool) (h1:h.length≤1048576) (h2:path.length≤1048576) (h3:q.length≤1048576):
  Ev (fun k=>spec_UrlOk.f k (mkB h) p (mkB path) (mkB q) hq) (urlOkL h p path q hq):=by
 have hj:Ev (fun k=>spec_UrlOk.j0 k true (mkB h) p (mkB path) (mkB q) hq) false:=Ev.step (f:=fun _=>some false) (fun k=>by rw[spec_UrlOk.j0,if_pos rfl]) (Ev.now _)
 unfold spec_UrlOk.f urlOkL
 have hh:=specHost_is (mkB h) (by rw[size_mk];exact h1)
 rw[bl_mk]at hh
 refine hh.bind ?_
 cases hhv:hostL h
 ·simpa using hj
 simp only[if_true,Bool.true_and]
 by_cases p1:p<1
 ·simp only[if_pos p1,decide_eq_false (show ¬1≤p by omega),Bool.false_and];exact hj
 by_cases p2:p>65535
 ·simp only[if_neg p1,if_pos p2,decide_eq_false (show ¬p≤65535 by omega),Bool.and_false,Bool.false_and];exact hj
 obtain⟨n,rfl⟩: ∃n:Nat,p=n:=⟨p.toNat,by omega⟩
 simp only[if_neg p1,if_neg p2,decide_eq_true (show 1≤(n:Int)by omega),decide_eq_true (show(n:Int)≤65535 by omega),Bool.and_self,Bool.true_and,toList_mk,Int.toNat_natCast]
 by_cases h0:path= []
 ·simp only[if_pos h0,decide_eq_false (show ¬path≠ []from fun x=>x h0),Bool.false_and];exact hj
 simp only[if_neg h0,decide_eq_true (show path≠ []from h0),Bool.true_and]
 have hc:=specCleanPath_is (mkB path) (by rw[size_mk];exact h2)
 rw[bl_mk]at hc
 refine hc.bind ?_
 rw[toList_mk]
 by_cases he:cleanL path=path
 ·simp only[if_pos he,decide_eq_true he,Bool.true_and]
  cases hq
  ·simp only[Bool.false_eq_true,if_false,Bool.false_or]
   by_cases hq0:q= []
   ·have e:(q !=([]:List UInt8))=false:=by rw[hq0];rfl
    simp only[e,decide_eq_true hq0,Bool.true_and]
    exact specTail_is h n path q false (by omega) h1 h2 h3 (.inr hq0)
   ·have e:(q !=([]:List UInt8))=true:=bne_iff_ne.2 hq0
    simp only[e,decide_eq_false hq0,Bool.false_and]
    exact hj
  ·simp only[if_true,Bool.true_or,Bool.true_and]
   exact specTail_is h n path q true (by omega) h1 h2 h3 (.inl rfl)
 ·simp only[if_neg he,decide_eq_false he,Bool.false_and];exact hj
theorem implUrlOk_is (h:List UInt8) (p:Int) (path q:List UInt8) (hq:Bool) (h1:h.length≤1048576) (h2:path.length≤1048576) (h3:q.length≤1048576):
  Ev (fun k=>impl_UrlOk.f k (mkB h) p (mkB path) (mkB q) hq) (urlOkL h p path q hq):=by
 have hj:Ev (fun k=>impl_UrlOk.j0 k true (mkB h) p (mkB path) (mkB q) hq) false:=Ev.step (f:=fun _=>some false) (fun k=>by rw[impl_UrlOk.j0,if_pos rfl]) (Ev.now _)
 unfold impl_UrlOk.f urlOkL
 refine(implHost_is h h1).bind ?_
 cases hhv:hostL h
 ·simpa using hj
 simp only[if_true,Bool.true_and,within_is,Option.bind_some]
 by_cases hp:1≤p∧p≤65535
 ·obtain⟨n,rfl⟩: ∃n:Nat,p=n:=⟨p.toNat,by omega⟩
  simp only[decide_eq_true hp.1,decide_eq_true hp.2,Bool.and_self,if_true,Bool.true_and,toList_mk,Int.toNat_natCast]
  by_cases h0:path= []
  ·simp only[if_pos h0,decide_eq_false (show ¬path≠ []from fun x=>x h0),Bool.false_and];exact hj
  simp only[if_neg h0,decide_eq_true (show path≠ []from h0),Bool.true_and]
  have hc:=implCleanPath_is (mkB path) (by rw[size_mk];exact h2)
  rw[bl_mk]at hc
  refine hc.bind ?_
  rw[toList_mk]
  by_cases he:cleanL path=path
  ·have e:(cleanL path !=path)=false:=by rw[he];simp
   simp only[e,decide_eq_true he,Bool.true_and]
   exact implTail_is h n path q hq (by omega) h1 h2 h3
  ·have e:(cleanL path !=path)=true:=bne_iff_ne.2 he
   simp only[e,decide_eq_false he,Bool.false_and];exact hj
 ·have d:(decide (1≤p)&&decide (p≤65535))=false:=by
   by_cases h1:1≤p
   ·rw[decide_eq_false (show ¬p≤65535 by omega),Bool.and_false]
   ·rw[decide_eq_false h1,Bool.false_and]
  simp only[d,Bool.false_eq_true,if_false,Bool.false_and];exact hj
theorem urlOkL_port {h:List UInt8} {p:Int} {path q:List UInt8} {hq:Bool} (hu:urlOkL h p path q hq=true): ∃n:Nat,p=n∧n≤65535∧hostL h=true∧path.length≤200∧q.length≤200:=by
 unfold urlOkL tailL at hu
 simp only[Bool.and_eq_true,decide_eq_true_eq]at hu
 refine⟨p.toNat,by omega,by omega,hu.1.1.1.1,?_,?_⟩
 ·have:=hu.2.2
  unfold urlL at this
  simp only[List.length_append]at this
  omega
 ·have:=hu.2.2
  have h4:=hu.1.2
  unfold urlL queryL at this
  cases hq
  ·simp at h4;rw[h4];simp
  ·rw[if_pos rfl]at this
   simp only[List.length_append,List.length_cons]at this
   omega
theorem host_pieces {h:List UInt8} (hh:hostL h=true):h.length≤60∧ ∀x∈splitL 46 h,x≠ []:=by
 unfold hostL at hh
 simp only[Bool.and_eq_true,decide_eq_true_eq,List.all_eq_true]at hh
 refine⟨hh.1.2,fun x hx e=>?_⟩
 have:=hh.2 x hx
 rw[e]at this
 simp[hostP]at this
def stepT (sep acc x:List UInt8):List UInt8:=if acc= []then x else acc++sep++x
def sumL (l:List (List UInt8)):Nat:=(l.map (fun x=>x.length+1)).sum
theorem fold_join (sep:List UInt8): ∀(r:List (List UInt8)) (acc:List UInt8),acc≠ []→(∀x∈r,x≠ [])→r.foldl (stepT sep) acc=acc++Lib.joinTail sep r
 | [],acc,_,_=>by simp[Lib.joinTail]
 |x::r,acc,ha,hr=>by
  have hx:x≠ []:=hr x (by simp)
  have ih:=fold_join sep r (acc++sep++x) (by simp[ha]) (fun y hy=>hr y (List.mem_cons_of_mem _ hy))
  rw[List.foldl_cons,show stepT sep acc x=acc++sep++x by unfold stepT;rw[if_neg ha],ih]
  simp[Lib.joinTail]
theorem fold_is (sep:List UInt8) (l:List (List UInt8)) (hl: ∀x∈l,x≠ []):l.foldl (stepT sep) []=Lib.join l sep:=by
 cases l with
 |nil=>rfl
 |cons x r=>
  rw[List.foldl_cons,show stepT sep [] x=x from rfl,fold_join sep r x (hl x (by simp)) (fun y hy=>hl y (List.mem_cons_of_mem _ hy)),Lib.join_cons]
theorem implReverse_go: ∀(n:Nat) (A M B:List ByteArray),M.length≤n→(A++M++B).length≤100000000→
  Ev (fun k=>slices_Reverse_string_string.l0 k (A++M++B) (A.length:Int) ((A.length:Int)+(M.length:Int)-1)) (A++M.reverse++B):=by
 intro n
 induction n using Nat.strongRecOn with
 |_ n ih=>
  intro A M B hn hl
  by_cases h2:M.length≤1
  ·have hr:M.reverse=M:=by
    match M,h2 with
    | [],_=>rfl
    | [_],_=>rfl
   rw[hr]
   exact Ev.step (f:=fun _=>some (A++M++B)) (fun k=>by rw[slices_Reverse_string_string.l0,if_neg (by omega)]) (Ev.now _)
  ·obtain⟨x,M',y,rfl⟩: ∃x M' y,M=x::(M'++ [y]):=by
    cases M with
    |nil=>simp at h2
    |cons x r=>
     rcases List.eq_nil_or_concat r with rfl|⟨a,b,rfl⟩
     ·simp at h2
     ·exact⟨x,a,b,by simp⟩
   have hl2:=hl
   simp at hl2
   have hn2:M'.length+2≤n:=by simpa using hn
   have ih':=ih M'.length (by omega) (A++ [y]) M' ([x]++B) (Nat.le_refl _) (by simp;omega)
   have e1:A++ [y]++M'++([x]++B)=A++y::(M'++x::B):=by simp
   have e2:A++ [y]++M'.reverse++([x]++B)=A++(x::(M'++ [y])).reverse++B:=by simp
   have e3:(((A++ [y]).length:Int))=(A.length:Int)+1:=by simp
   have e4:(((A++ [y]).length:Int)+(M'.length:Int)-1)=(A.length:Int)+((x::(M'++ [y])).length:Int)-1-1:=by simp;omega
   rw[e1,e2,e3]at ih'
   rw[e3]at e4
   rw[e4]at ih'
   have e0:A++x::(M'++ [y])++B=A++x::(M'++y::B):=by simp
   have hj:(A.length:Int)+((x::(M'++ [y])).length:Int)-1=((A.length+M'.length+1:Nat):Int):=by simp;omega
   rw[e0]
   rw[hj]at ih' ⊢
   have hzl:(A++x::(M'++y::B)).length=A.length+M'.length+2+B.length:=by simp;omega
   have r1:rdOf ByteArray.empty (A++x::(M'++y::B)) (A.length:Int)=x:=by rw[rdOf,getD_mid]
   have r2:rdOf ByteArray.empty (A++x::(M'++y::B)) ((A.length+M'.length+1:Nat):Int)=y:=by
    have:=getD_mid (A++x::M') y B ByteArray.empty
    rw[rdOf]
    rw[show A++x::(M'++y::B)=(A++x::M')++y::B by simp]
    rw[show((A.length+M'.length+1:Nat):Int)=(((A++x::M').length:Nat):Int)by simp;omega]
    exact this
   have s1:(A++x::(M'++y::B)).set A.length y=A++y::(M'++y::B):=by simp[List.set_append]
   have s2:(A++y::(M'++y::B)).set (A.length+M'.length+1) x=A++y::(M'++x::B):=by
    rw[show A++y::(M'++y::B)=(A++y::M')++y::B by simp,show A.length+M'.length+1=(A++y::M').length by simp;omega]
    rw[List.set_append_right _ _ (Nat.le_refl _)]
    simp
   refine Ev.step (fun k=>?_) ih'
   rw[slices_Reverse_string_string.l0,if_pos (by omega),if_pos (by omega),if_pos (by rw[hzl];omega),if_pos (by omega),if_pos (by rw[hzl];omega),r1,r2,Int.toNat_natCast,Int.toNat_natCast,s1,s2,wrap_id (a:=(A.length:Int)+1) (by omega) (by omega),wrap_id (by omega) (by omega)]
theorem implReverse_is (l:List ByteArray) (hl:l.length≤100000000):Ev (fun k=>slices_Reverse_string_string.f k l) l.reverse:=by
 have:=implReverse_go l.length [] l [] (Nat.le_refl _) (by simpa using hl)
 unfold slices_Reverse_string_string.f
 rw[wrap_id (by omega) (by omega)]
 simpa using this
theorem implTurned_is (l:List ByteArray) (hl:l.length≤100000000):Ev (fun k=>impl_turned.f k l) l.reverse:=by
 unfold impl_turned.f
 simp only[Option.bind_some,List.nil_append,List.length_nil,Nat.zero_add,if_pos (show l.length<8796093022208 by omega)]
 refine(implReverse_is l hl).bind ?_
 exact Ev.now _
theorem join_sum (sep:List UInt8) (l:List (List UInt8)):(Lib.join l sep).length≤(sep.length+1)*sumL l:=by
 have ht: ∀r:List (List UInt8),(Lib.joinTail sep r).length≤(sep.length+1)*sumL r:=by
  intro r
  induction r with
  |nil=>simp[Lib.joinTail]
  |cons y r ih=>
   have e:Lib.joinTail sep (y::r)=sep++y++Lib.joinTail sep r:=by simp[Lib.joinTail]
   have e2:sumL (y::r)=y.length+1+sumL r:=by simp[sumL]
   rw[e,e2]
   simp only[List.length_append]
   have h3:(sep.length+1)*(y.length+1+sumL r)=(sep.length+1)*sumL r+(sep.length+1)*(y.length+1):=by rw[Nat.mul_add,Nat.add_comm]
   have h4:(sep.length+1)*(y.length+1)=sep.length*y.length+sep.length+y.length+1:=by simp[Nat.add_mul,Nat.mul_add];omega
   omega
 cases l with
 |nil=>simp[Lib.join_nil]
 |cons x r=>
  have:=ht r
  have e2:sumL (x::r)=x.length+1+sumL r:=by simp[sumL]
  rw[Lib.join_cons,e2,List.length_append]
  have h3:(sep.length+1)*(x.length+1+sumL r)=(sep.length+1)*sumL r+(sep.length+1)*(x.length+1):=by rw[Nat.mul_add,Nat.add_comm]
  have h4:(sep.length+1)*(x.length+1)=sep.length*x.length+sep.length+x.length+1:=by simp[Nat.add_mul,Nat.mul_add];omega
  omega
theorem sumL_split (c:UInt8): ∀l:List UInt8,sumL (splitL c l)=l.length+1
 | []=>rfl
 |b::r=>by
  have ih:=sumL_split c r
  unfold splitL
  by_cases h:b=c
  ·rw[if_pos h];simp[sumL]at ih ⊢;omega
  ·rw[if_neg h]
   cases hs:splitL c r with
   |nil=>exact absurd hs (splitL_ne c r)
   |cons a t=>rw[hs]at ih;simp[sumL]at ih ⊢;omega
theorem sumL_rev (l:List (List UInt8)):sumL l.reverse=sumL l:=by simp[sumL]
def revH (h:List UInt8):List UInt8:=Lib.join (splitL 46 h).reverse [44]
def surtL (h:List UInt8) (p:Int) (path q:List UInt8) (hq:Bool):List UInt8:=if urlOkL h p path q hq=true then revH h++portL p.toNat++ [41]++path++queryL q hq else []
theorem revH_len (h:List UInt8):(revH h).length≤2*(h.length+1):=by
 have:=join_sum [44] (splitL 46 h).reverse
 rw[sumL_rev,sumL_split]at this
 exact this
theorem implSurt_is (h:List UInt8) (p:Int) (path q:List UInt8) (hq:Bool) (h1:h.length≤1048576) (h2:path.length≤1048576) (h3:q.length≤1048576):
  Ev (fun k=>impl_Surt.f k (mkB h) p (mkB path) (mkB q) hq) (mkB (surtL h p path q hq)):=by
 unfold impl_Surt.f surtL
 refine(implUrlOk_is h p path q hq h1 h2 h3).bind ?_
 cases hu:urlOkL h p path q hq
 ·simp only[Bool.false_eq_true,if_false];exact Ev.now _
 ·obtain⟨n,rfl,hn,hh,hpl,hql⟩:=urlOkL_port hu
  obtain⟨hhl,hne⟩:=host_pieces hh
  have hpo:=portL_len n (by omega)
  have hqu:=queryL_len q hq
  have hrv:=revH_len h
  have hsl:=splitL_len 46 h
  simp only[if_true,Int.toNat_natCast,stringsSplit_is h 46 (show h.length≤1048576 by omega),Option.bind_some]
  refine(implTurned_is _ (by rw[List.length_map];omega)).bind ?_
  have hj:strings_Join.f ((splitL 46 h).map mkB).reverse (⟨#[44]⟩:ByteArray)=some (mkB (revH h)):=by
   unfold strings_Join.f
   rw[←List.map_reverse,join_map]
   have e:(⟨#[44]⟩:ByteArray).data.toList= [44]:=rfl
   rw[e,if_pos ⟨by rw[List.length_map,List.length_reverse];omega,by have:=hrv;unfold revH at this;omega⟩]
   rfl
  rw[hj,Option.bind_some,implPort_is _ n _ _ hq (by omega),Option.bind_some,implPath_is _ _ path q hq (by omega) (by omega),show(⟨#[41]⟩:ByteArray)=mkB [41]from rfl]
  simp only[Option.bind_some,mk_append,size_mk]
  rw[if_pos (by omega),if_pos (by simp only[List.length_append];omega),if_pos (by simp only[List.length_append,List.length_singleton];omega),←List.append_assoc]
  exact Ev.now _
def isDig (c:UInt8):Bool:=decide (48≤c.toNat)&&decide (c.toNat≤57)
def dvalF (acc:Nat) (l:List UInt8):Nat:=l.foldl (fun a c=>a*10+(c.toNat-48)) acc
def dval (l:List UInt8):Nat:=dvalF 0 l
theorem dvalF_append (acc:Nat) (l m:List UInt8):dvalF acc (l++m)=dvalF (dvalF acc l) m:=by simp[dvalF]
theorem digit_toNat (d:Nat) (h:d<10):(UInt8.ofNat (48+d)).toNat=48+d:=by simp;omega
theorem dval_dec (n:Nat):dval (Lib.decDigits n)=n∧(Lib.decDigits n).all isDig=true∧Lib.decDigits n≠ []:=by
 induction n using Nat.strongRecOn with
 |_ n ih=>
  by_cases h:n<10
  ·rw[Lib.decDigits,dif_pos h]
   refine⟨?_,?_,by simp⟩
   ·simp only[dval,dvalF,List.foldl_cons,List.foldl_nil,digit_toNat n h];omega
   ·simp only[List.all_cons,List.all_nil,isDig,digit_toNat n h];simp;omega
  ·obtain⟨h1,h2,h3⟩:=ih (n/10) (by omega)
   rw[Lib.decDigits,dif_neg h]
   refine⟨?_,?_,by simp⟩
   ·rw[dval,dvalF_append,←dval,h1]
    simp only[dvalF,List.foldl_cons,List.foldl_nil,digit_toNat (n%10) (by omega)];omega
   ·rw[List.all_append,h2]
    simp only[List.all_cons,List.all_nil,isDig,digit_toNat (n%10) (show n%10<10 by omega)];simp;omega
theorem dvalF_lt: ∀(l:List UInt8) (acc m:Nat),l.all isDig=true→acc<10^m→dvalF acc l<10^(m+l.length)
 | [],acc,m,_,h=>by simpa [dvalF]using h
 |c::r,acc,m,ha,h=>by
  simp only[List.all_cons,Bool.and_eq_true,isDig,decide_eq_true_eq]at ha
  have:=dvalF_lt r (acc*10+(c.toNat-48)) (m+1) ha.2 (by rw[Nat.pow_succ];omega)
  rw[List.length_cons,show m+(r.length+1)=m+1+r.length by omega]
  exact this
theorem dval_lt15 (l:List UInt8) (hd:l.all isDig=true) (hl:l.length≤15):dval l≤999999999999999:=by
 have h1:=dvalF_lt l 0 0 hd (by decide)
 have h2:10^(0+l.length)≤10^15:=Nat.pow_le_pow_right (by decide) (by omega)
 have h3:(10:Nat)^15=1000000000000000:=by decide
 unfold dval
 omega
def rdec (l:List UInt8):Int×Bool:=if Lib.decDigits (dval l)=l∧l.length≤15 then((dval l:Int),true)else(0,false)
theorem l1digit_dig (c:UInt8):spec_l1digit.f (c.toNat:Int)=some (isDig c):=by
 have:c.toNat<256:=c.toNat_lt
 unfold spec_l1digit.f isDig
 by_cases h1:48≤c.toNat
 ·rw[if_pos (by omega),decide_eq_true h1,Bool.true_and];congr 1;exact decide_eq_decide.2 (by omega)
 ·rw[if_neg (by omega),decide_eq_false h1,Bool.false_and]
theorem specReadDec_go: ∀(r pre:List UInt8) (acc:Nat),acc<10^pre.length→(pre++r).length≤15→r.all isDig=true→
  Ev (fun k=>spec_ReadDec.l0 k (mkB (pre++r)) (acc:Int) pre.length) (if Lib.decDigits (dvalF acc r)=pre++r then((dvalF acc r:Int),true)else(0,false))
 | [],pre,acc,ha,hl,_=>by
  have h15:(10:Nat)^pre.length≤10^15:=Nat.pow_le_pow_right (by decide) (by simpa using hl)
  have h3:(10:Nat)^15=1000000000000000:=by decide
  have hd:=(specDec_is acc (by omega)).bind (f:=fun _ (t:ByteArray)=>if t.toList=(mkB (pre++ [])).toList then some ((acc:Int),true)else some ((0:Int),false)) (r:=if Lib.decDigits acc=pre++ []then((acc:Int),true)else((0:Int),false)) (by
   simp only[toList_mk]
   split<;>exact Ev.now _)
  refine Ev.step (fun k=>?_) hd
  simp only[spec_ReadDec.l0]
  rw[if_neg (by rw[size_mk];simp)]
 |c::r,pre,acc,ha,hl,hd=>by
  simp only[List.all_cons,Bool.and_eq_true]at hd
  have hc:48≤c.toNat∧c.toNat≤57:=by have:=hd.1;simpa [isDig]using this
  have hl':pre.length<15:=by simp at hl;omega
  have h15:(10:Nat)^pre.length≤10^14:=Nat.pow_le_pow_right (by decide) (by omega)
  have h3:(10:Nat)^14=100000000000000:=by decide
  have ih:=specReadDec_go r (pre++ [c]) (acc*10+(c.toNat-48)) (by rw[List.length_append,List.length_singleton,Nat.pow_succ];omega) (by rw[←app_mid];exact hl) hd.2
  rw[←app_mid,len_snoc]at ih
  have e:dvalF acc (c::r)=dvalF (acc*10+(c.toNat-48)) r:=rfl
  rw[e]
  refine Ev.step (fun k=>?_) ih
  simp only[spec_ReadDec.l0]
  rw[if_pos (size_lt_mid ..),if_pos (by omega),bt_mid,l1digit_dig,hd.1]
  simp only[Option.bind_some,if_true]
  rw[wrap_id (a:=(acc:Int)*10) (by omega) (by omega),wrap_id (by omega) (by omega),wrap_id (a:=(pre.length:Int)+1) (by omega) (by omega)]
  congr 1
  omega
theorem specReadDec_bad: ∀(r pre:List UInt8) (acc:Int),(pre++r).length≤15→r.all isDig=false→Ev (fun k=>spec_ReadDec.l0 k (mkB (pre++r)) acc pre.length) ((0:Int),false)
 | [],pre,acc,_,hd=>by simp at hd
 |c::r,pre,acc,hl,hd=>by
  have hw:wrap64 ((pre.length:Int)+1)=(pre.length:Int)+1:=by simp at hl;exact wrap_id (by omega) (by omega)
  by_cases hc:isDig c=true
  ·have ih:=fun acc'=>specReadDec_bad r (pre++ [c]) acc' (by rw[←app_mid];exact hl) (by simpa [hc]using hd)
   simp only[←app_mid,len_snoc]at ih
   refine Ev.step (fun k=>?_) (ih (wrap64 ((wrap64 (acc*10))+(((c.toNat:Int)-48)%256))))
   simp only[spec_ReadDec.l0]
   rw[if_pos (size_lt_mid ..),if_pos (by omega),bt_mid,l1digit_dig,hc,hw]
   simp only[Option.bind_some,if_true]
  ·refine Ev.step (f:=fun _=>some ((0:Int),false)) (fun k=>?_) (Ev.now _)
   simp only[spec_ReadDec.l0]
   rw[if_pos (size_lt_mid ..),if_pos (by omega),bt_mid,l1digit_dig]
   simp only[Option.bind_some,if_neg hc]
theorem specReadDec_is (l:List UInt8) (hl:l.length≤1099511627776):Ev (fun k=>spec_ReadDec.f k (mkB l)) (rdec l):=by
 have hj:Ev (fun k=>spec_ReadDec.j0 k (mkB l) true) ((0:Int),false):=Ev.step (f:=fun _=>some ((0:Int),false)) (fun k=>by simp[spec_ReadDec.j0]) (Ev.now _)
 unfold spec_ReadDec.f
 by_cases h0:l= []
 ·have:rdec l=(0,false):=by unfold rdec;rw[if_neg (by rintro⟨h,_⟩;subst h0;exact(dval_dec _).2.2 h)]
  have hz:((mkB l).size:Int)=0:=by rw[size_mk,h0];rfl
  rw[this]
  simp only[if_pos hz];exact hj
 ·have h1:1≤l.length:=List.length_pos_iff.2 h0
  have hz: ¬((mkB l).size:Int)=0:=by rw[size_mk];omega
  simp only[if_neg hz]
  by_cases h15:l.length≤15
  ·have e:decide (((mkB l).size:Int)>15)=false:=decide_eq_false (by rw[size_mk];omega)
   rw[e]
   refine Ev.step (f:=fun k=>spec_ReadDec.l0 k (mkB l) 0 0) (fun k=>by simp[spec_ReadDec.j0]) ?_
   by_cases hd:l.all isDig=true
   ·have:=specReadDec_go l [] 0 (by decide) (by simpa using h15) hd
    have e2:rdec l=if Lib.decDigits (dvalF 0 l)= []++l then((dvalF 0 l:Int),true)else(0,false):=by
     unfold rdec dval
     simp only[List.nil_append]
     by_cases hh:Lib.decDigits (dvalF 0 l)=l
     ·rw[if_pos ⟨hh,h15⟩,if_pos hh]
     ·rw[if_neg (fun q=>hh q.1),if_neg hh]
    rw[e2];exact this
   ·have e2:rdec l=(0,false):=by
     unfold rdec
     rw[if_neg]
     rintro⟨hh,_⟩
     exact hd (by have:=(dval_dec (dval l)).2.1;rwa [hh]at this)
    rw[e2]
    exact specReadDec_bad l [] 0 (by simpa using h15) (by simpa using hd)
  ·have e:decide (((mkB l).size:Int)>15)=true:=decide_eq_true (by rw[size_mk];omega)
   have e2:rdec l=(0,false):=by unfold rdec;rw[if_neg (fun q=>h15 q.2)]
   rw[e,e2];exact hj
theorem parse_digits: ∀(l:List UInt8) (acc m:Nat),l.all isDig=true→acc<10^m→m+l.length≤15→Lib.parseUint10 acc l= .ok (dvalF acc l)
 | [],acc,m,_,_,_=>rfl
 |c::r,acc,m,hd,ha,hm=>by
  simp only[List.all_cons,Bool.and_eq_true]at hd
  have hc:48≤c.toNat∧c.toNat≤57:=by have:=hd.1;simpa [isDig]using this
  simp only[List.length_cons]at hm
  have h15:(10:Nat)^m≤10^14:=Nat.pow_le_pow_right (by decide) (by omega)
  have h3:(10:Nat)^14=100000000000000:=by decide
  rw[Lib.parseUint10,if_pos hc,if_neg (by omega),if_neg (by omega),parse_digits r _ (m+1) hd.2 (by rw[Nat.pow_succ];omega) (by omega)]
  rfl
theorem implReadDec_ok (l:List UInt8):impl_ReadDec.ok l=rdec l:=by
 unfold impl_ReadDec.ok
 by_cases h:Lib.decDigits (dval l)=l∧l.length≤15
 ·obtain⟨h1,h2⟩:=h
  have hall:l.all isDig=true:=by have:=(dval_dec (dval l)).2.1;rwa [h1]at this
  have hne:l≠ []:=by have:=(dval_dec (dval l)).2.2;rwa [h1]at this
  have hlt:=dval_lt15 l hall h2
  have hp:Lib.parseMag l= .ok (dval l):=by
   unfold Lib.parseMag
   rw[if_neg hne,parse_digits l 0 0 hall (by decide) (by omega)];rfl
  have hat:Lib.atoiAll l= .ok (dval l:Int):=by
   cases l with
   |nil=>exact absurd rfl hne
   |cons c r=>
    have hc:48≤c.toNat∧c.toNat≤57:=by
     simp only[List.all_cons,Bool.and_eq_true]at hall
     have:=hall.1;simpa [isDig]using this
    unfold Lib.atoiAll
    simp only[if_neg (show ¬(c.toNat=43∨c.toNat=45)by omega),hp]
    rw[if_neg (by omega),if_neg (by omega),if_neg (by omega)]
  rw[hat,rdec,if_pos ⟨h1,h2⟩]
  simp only[]
  rw[if_pos ⟨by omega,by omega,by unfold Lib.itoa;rw[if_neg (by omega),Int.toNat_natCast];exact h1⟩]
 ·have hr:rdec l=(0,false):=by unfold rdec;rw[if_neg h]
  rw[hr]
  cases hA:Lib.atoiAll l with
  | «syntax» =>rfl
  |range=>rfl
  |ok v=>
   simp only[]
   rw[if_neg]
   rintro⟨h0,h1,h2⟩
   obtain⟨n,rfl⟩: ∃n:Nat,v=n:=⟨v.toNat,by omega⟩
   have h3:Lib.decDigits n=l:=by rw[←h2];unfold Lib.itoa;rw[if_neg (by omega),Int.toNat_natCast]
   have h4:dval l=n:=by rw[←h3];exact(dval_dec n).1
   exact h ⟨by rw[h4,h3],by rw[←h3,Lib.decDigits_length];exact nDigits_le15 n (by omega)⟩
theorem implReadDec_is (l:List UInt8) (hl:l.length≤1099511627776):impl_ReadDec.f (mkB l)=some (rdec l):=by
 unfold impl_ReadDec.f
 rw[if_pos (by rw[size_mk];exact hl),←implReadDec_ok]
 rfl
theorem cutB_false (c:UInt8): ∀l:List UInt8,(cutB c l).2.2=false→(cutB c l).1=l∧(cutB c l).2.1= []
 | [],_=>⟨rfl,rfl⟩
 |x::l,h=>by
  by_cases hx:x=c
  ·rw[cutB,if_pos hx]at h;cases h
  ·rw[cutB,if_neg hx]at h ⊢
   obtain⟨h1,h2⟩:=cutB_false c l h
   exact⟨by rw[h1],h2⟩
theorem cutB_true (c:UInt8): ∀l:List UInt8,(cutB c l).2.2=true→l=(cutB c l).1++c::(cutB c l).2.1
 | [],h=>by cases h
 |x::l,h=>by
  by_cases hx:x=c
  ·rw[cutB,if_pos hx];simp[hx]
  ·rw[cutB,if_neg hx]at h ⊢
   have:=cutB_true c l h
   simp[←this]
theorem cutB_1len (c:UInt8) (l:List UInt8):(cutB c l).1.length<l.length↔(cutB c l).2.2=true:=by
 cases h:(cutB c l).2.2
 ·have:=(cutB_false c l h).1;rw[this];simp
 ·have:=cutB_true c l h
  have e:=congrArg List.length this
  simp at e;simp;omega
theorem cutB_drop (c:UInt8) (l:List UInt8) (h:(cutB c l).2.2=true):l.drop ((cutB c l).1.length+1)=(cutB c l).2.1:=by
 have:=cutB_true c l h
 generalize (cutB c l).1=a at this ⊢
 generalize (cutB c l).2.1=b at this ⊢
 subst this
 simp
theorem joinTail_cons (sep y:List UInt8) (r:List (List UInt8)):Lib.joinTail sep (y::r)=sep++y++Lib.joinTail sep r:=by simp[Lib.joinTail]
theorem join_len1 (c:UInt8) (l:List (List UInt8)) (h:l≠ []):(Lib.join l [c]).length+1=sumL l:=by
 have ht: ∀r:List (List UInt8),(Lib.joinTail [c] r).length=sumL r:=by
  intro r
  induction r with
  |nil=>rfl
  |cons y r ih=>
   have e2:sumL (y::r)=y.length+1+sumL r:=by simp[sumL]
   rw[joinTail_cons,e2];simp only[List.length_append,List.length_singleton];omega
 cases l with
 |nil=>exact absurd rfl h
 |cons x r=>
  have e2:sumL (x::r)=x.length+1+sumL r:=by simp[sumL]
  rw[Lib.join_cons,e2,List.length_append,ht];omega
theorem splitL_join (c:UInt8): ∀(r:List (List UInt8)) (x:List UInt8),(∀b∈x,b≠c)→(∀y∈r,∀b∈y,b≠c)→splitL c (x++Lib.joinTail [c] r)=x::r
 | [],x,hx,_=>by simpa [Lib.joinTail]using splitL_none c x hx
 |y::r,x,hx,hr=>by
  rw[joinTail_cons,show x++([c]++y++Lib.joinTail [c] r)=x++c::(y++Lib.joinTail [c] r)by simp,splitL_hit c x _ hx,splitL_join c r y (hr y (by simp)) (fun z hz=>hr z (List.mem_cons_of_mem _ hz))]
theorem splitL_of_join (c:UInt8) (l:List (List UInt8)) (h:l≠ []) (hl: ∀y∈l,∀b∈y,b≠c):splitL c (Lib.join l [c])=l:=by
 cases l with
 |nil=>exact absurd rfl h
 |cons x r=>rw[Lib.join_cons];exact splitL_join c r x (hl x (by simp)) (fun y hy=>hl y (List.mem_cons_of_mem _ hy))
theorem join_splitL (c:UInt8) (l:List UInt8):Lib.join (splitL c l) [c]=l:=by
 generalize hn:l.length=n
 induction n using Nat.strongRecOn generalizing l with
 |_ n ih=>
  rcases split_dec c l with h|⟨mid,r,rfl,h⟩
  ·rw[splitL_none c l h,Lib.join_one]
  ·rw[splitL_hit c mid r h,Lib.join_cons]
   have hr:=ih r.length (by simp at hn;omega) r rfl
   have hne:=splitL_ne c r
   generalize splitL c r=t at hr hne ⊢
   cases t with
   |nil=>exact absurd rfl hne
   |cons y t=>rw[Lib.join_cons]at hr;rw[joinTail_cons,←hr];simp
theorem mem_join (sep:List UInt8) (l:List (List UInt8)) (b:UInt8) (hb:b∈Lib.join l sep):(∃x∈l,b∈x)∨b∈sep:=by
 cases l with
 |nil=>simp[Lib.join_nil]at hb
 |cons x r=>
  rw[Lib.join_cons]at hb
  rcases List.mem_append.1 hb with h|h
  ·exact .inl ⟨x,by simp,h⟩
  ·unfold Lib.joinTail at h
   rw[List.mem_flatten]at h
   obtain⟨y,hy,h⟩:=h
   obtain⟨z,hz,rfl⟩:=List.mem_map.1 hy
   rcases List.mem_append.1 h with h|h
   ·exact .inr h
   ·exact .inl ⟨z,List.mem_cons_of_mem _ hz,h⟩
theorem cutB_none (c:UInt8) (l:List UInt8) (h: ∀b∈l,b≠c):cutB c l=(l,[],false):=by
 have:=cutB_app c l [] h
 simpa [cutB]using this
theorem cutB_hit (c:UInt8) (a b:List UInt8) (h: ∀x∈a,x≠c):cutB c (a++c::b)=(a,b,true):=by
 rw[cutB_app c a _ h];simp[cutB]
theorem hostB_ne (b:UInt8) (h:hostB b=true):b≠41∧b≠44∧b≠58∧b≠46:=by
 refine⟨?_,?_,?_,?_⟩<;>(rintro rfl;revert h;decide)
theorem host_bytes {h:List UInt8} (hh:hostL h=true): ∀x∈splitL 46 h,x≠ []∧ ∀b∈x,hostB b=true:=by
 intro x hx
 have h1:=(host_pieces hh).2 x hx
 unfold hostL at hh
 simp only[Bool.and_eq_true,decide_eq_true_eq,List.all_eq_true]at hh
 have h2:=hh.2 x hx
 unfold hostP at h2
 simp only[Bool.and_eq_true,List.all_eq_true]at h2
 exact⟨h1,h2.2⟩
theorem revH_bytes {h:List UInt8} (hh:hostL h=true): ∀b∈revH h,b≠41∧b≠58:=by
 intro b hb
 rcases mem_join _ _ _ hb with⟨x,hx,hbx⟩|hb
 ·have:=hostB_ne b ((host_bytes hh x (by simpa using hx)).2 b hbx)
  exact⟨this.1,this.2.2.1⟩
 ·simp at hb;subst hb;decide
theorem dec_bytes (n:Nat): ∀b∈Lib.decDigits n,b≠41∧b≠58∧b≠32:=by
 intro b hb
 have:=List.all_eq_true.1 (dval_dec n).2.1 b hb
 refine⟨?_,?_,?_⟩<;>(rintro rfl;revert this;decide)
theorem portL_bytes (p:Nat): ∀b∈portL p,b≠41:=by
 intro b hb
 unfold portL at hb
 split at hb
 ·simp at hb
 ·rcases List.mem_cons.1 hb with rfl|hb
  ·decide
  ·exact(dec_bytes p b hb).1
theorem cut_port (a:List UInt8) (p:Nat) (ha: ∀b∈a,b≠58):(cutB 58 (a++portL p)).1=a:=by
 unfold portL
 split
 ·rw[List.append_nil,cutB_none 58 a ha]
 ·rw[cutB_hit 58 a _ ha]
theorem split_revH {h:List UInt8} (hh:hostL h=true):splitL 44 (revH h)=(splitL 46 h).reverse:=by
 unfold revH
 refine splitL_of_join 44 _ (by simpa using splitL_ne 46 h) ?_
 intro y hy b hb
 exact(hostB_ne b ((host_bytes hh y (by simpa using hy)).2 b hb)).2.1
theorem revH_len1 (h:List UInt8):(revH h).length=h.length:=by
 have:=join_len1 44 (splitL 46 h).reverse (by simpa using splitL_ne 46 h)
 rw[sumL_rev,sumL_split]at this
 unfold revH;omega
def labI (s:List UInt8):List UInt8:=Lib.join (splitL 44 s).reverse [46]
def labS (s:List UInt8):List UInt8:=(splitL 44 s).reverse.foldl (stepT [46]) []
theorem labI_len (s:List UInt8):(labI s).length=s.length:=by
 have:=join_len1 46 (splitL 44 s).reverse (by simpa using splitL_ne 44 s)
 rw[sumL_rev,sumL_split]at this
 unfold labI;omega
theorem lab_rev {h:List UInt8} (hh:hostL h=true):labI (revH h)=h∧labS (revH h)=h:=by
 have e:labI (revH h)=h:=by unfold labI;rw[split_revH hh,List.reverse_reverse,join_splitL]
 refine⟨e,?_⟩
 unfold labS
 rw[split_revH hh,List.reverse_reverse,fold_is [46] _ (fun x hx=>(host_bytes hh x hx).1),join_splitL]
theorem surt_back {h:List UInt8} {p:Int} {path q:List UInt8} {hq:Bool} (hu:urlOkL h p path q hq=true):
  cutB 41 (surtL h p path q hq)=(revH h++portL p.toNat,path++queryL q hq,true)∧(cutB 58 (revH h++portL p.toNat)).1=revH h∧(surtL h p path q hq).length≤194:=by
 obtain⟨n,rfl,hn,hh,hpl,hql⟩:=urlOkL_port hu
 unfold surtL
 rw[if_pos hu,Int.toNat_natCast]
 have hb:=revH_bytes hh
 refine⟨?_,cut_port _ n (fun b hb'=>(hb b hb').2),?_⟩
 ·rw[show revH h++portL n++ [41]++path++queryL q hq=(revH h++portL n)++41::(path++queryL q hq)by simp]
  refine cutB_hit 41 _ _ ?_
  intro x hx
  rcases List.mem_append.1 hx with hx|hx
  ·exact(hb x hx).1
  ·exact portL_bytes n x hx
 ·have h2:(urlL h n path q hq).length≤200:=by
   unfold urlOkL tailL at hu
   simp only[Bool.and_eq_true,decide_eq_true_eq,Int.toNat_natCast]at hu
   exact hu.2.2
  unfold urlL at h2
  simp only[List.length_append,revH_len1,List.length_singleton,show httpB.length=7 from rfl]at h2 ⊢
  omega
theorem surt_hosts {s:List UInt8} {h:List UInt8} {p:Int} {path q:List UInt8} {hq:Bool} (hs:surtL h p path q hq=s) (h0:s≠ []):
  labI (cutB 58 (cutB 41 s).1).1=h∧labS (cutB 58 (cutB 41 s).1).1=h∧s.length≤200∧urlOkL h p path q hq=true:=by
 have hu:urlOkL h p path q hq=true:=by
  by_cases hu:urlOkL h p path q hq=true
  ·exact hu
  ·unfold surtL at hs;rw[if_neg hu]at hs;exact absurd hs.symm h0
 obtain⟨h1,h2,h3⟩:=surt_back hu
 obtain⟨n,hn0,hn,hh,hpl,hql⟩:=urlOkL_port hu
 obtain⟨h4,h5⟩:=lab_rev hh
 rw[←hs,h1]
 refine⟨by rw[h2,h4],by rw[h2,h5],by omega,hu⟩
abbrev UrlR:=ByteArray×Int×ByteArray×ByteArray×Bool×Bool
def noUrl:UrlR:=((⟨#[]⟩:ByteArray),0,(⟨#[]⟩:ByteArray),(⟨#[]⟩:ByteArray),false,false)
theorem cutB_lens (c:UInt8) (l:List UInt8):(cutB c l).1.length≤l.length∧(cutB c l).2.1.length≤l.length:=by
 have:=cutB_len c l;omega
theorem stringsCut_is (c:UInt8) (l:List UInt8) (h:l.length≤1048576):strings_Cut.f (mkB l) (⟨#[c]⟩:ByteArray)=some (mkB (cutB c l).1,mkB (cutB c l).2.1,(cutB c l).2.2):=by
 unfold strings_Cut.f
 rw[if_pos (by rw[size_mk];omega),show(⟨#[c]⟩:ByteArray).data.toList= [c]from rfl,show(mkB l).data.toList=l from bl_mk l,cut_is]
 rfl
theorem drop_mk (l:List UInt8) (n:Nat):(mkB l).extract n (mkB l).size=mkB (l.drop n):=by rw[extract_mk,size_mk,List.take_of_length_le (by simp)]
theorem implReadPath_is (b:List UInt8) (hb:b.length≤1048576):impl_readPath.f (mkB b)=some ((⟨#[]⟩:ByteArray),0,mkB (cutB 63 b).1,mkB (cutB 63 b).2.1,(cutB 63 b).2.2):=by
 unfold impl_readPath.f
 rw[stringsCut_is 63 b hb];rfl
def surtIf (h:List UInt8) (p:Int) (path q:List UInt8) (hq:Bool) (s:List UInt8):UrlR:=if surtL h p path q hq=s then(mkB h,p,mkB path,mkB q,hq,true)else noUrl
def portU (a:List UInt8):Int:=if(cutB 58 a).2.2=true then(rdec (cutB 58 a).2.1).1 else 80
def unsurtR (s:List UInt8):UrlR:=
 if(cutB 41 s).2.2=true then surtIf (labI (cutB 58 (cutB 41 s).1).1) (portU (cutB 41 s).1) (cutB 63 (cutB 41 s).2.1).1 (cutB 63 (cutB 41 s).2.1).2.1 (cutB 63 (cutB 41 s).2.1).2.2 s else noUrl
theorem cutB_ne (c:UInt8) (s:List UInt8) (h:(cutB c s).2.2=true):s≠ []:=by
 rintro rfl;cases h
theorem implUnsurt_j0 (s h:List UInt8) (p:Int) (path q:List UInt8) (hq:Bool) (h0:s≠ []) (h1:h.length≤1048576) (h2:path.length≤1048576) (h3:q.length≤1048576):
  Ev (fun k=>impl_Unsurt.j0 k (mkB s) (mkB h) p (mkB path) (mkB q) hq) (surtIf h p path q hq s):=by
 refine Ev.step (f:=fun k=>(impl_UrlOk.f k (mkB h) p (mkB path) (mkB q) hq).bind fun t331=>(if t331=true then((impl_Surt.f k (mkB h) p (mkB path) (mkB q) hq).bind fun t332=>(if t332.toList=(mkB s).toList then(some (mkB h,p,mkB path,mkB q,hq,true))else(some noUrl)))else(some noUrl))) (fun k=>by rw[impl_Unsurt.j0];rfl) ?_
 refine(implUrlOk_is h p path q hq h1 h2 h3).bind ?_
 unfold surtIf
 cases hu:urlOkL h p path q hq
 ·have e:surtL h p path q hq= []:=by unfold surtL;rw[if_neg (by rw[hu];exact Bool.false_ne_true)]
  simp only[Bool.false_eq_true,if_false]
  rw[e,if_neg (fun e=>h0 e.symm)]
  exact Ev.now _
 ·simp only[if_true]
  refine(implSurt_is h p path q hq h1 h2 h3).bind ?_
  rw[toList_mk,toList_mk]
  split<;>exact Ev.now _
theorem implUnsurt_is (s:List UInt8) (hs:s.length≤1048576):Ev (fun k=>impl_Unsurt.f k (mkB s)) (unsurtR s):=by
 unfold impl_Unsurt.f unsurtR
 have c1:=cutB_lens 41 s
 rw[stringsCut_is 41 s hs]
 simp only[Option.bind_some]
 cases hf:(cutB 41 s).2.2
 ·simp only[Bool.false_eq_true,if_false];exact Ev.now _
 ·have h0:=cutB_ne 41 s hf
  have c2:=cutB_lens 58 (cutB 41 s).1
  have c3:=cutB_lens 63 (cutB 41 s).2.1
  have hlab:=labI_len (cutB 58 (cutB 41 s).1).1
  have hsl:=splitL_len 44 (cutB 58 (cutB 41 s).1).1
  simp only[if_true,stringsCut_is 58 (cutB 41 s).1 (show(cutB 41 s).1.length≤1048576 by omega),Option.bind_some,implReadPath_is (cutB 41 s).2.1 (show(cutB 41 s).2.1.length≤1048576 by omega),stringsSplit_is (cutB 58 (cutB 41 s).1).1 44 (show(cutB 58 (cutB 41 s).1).1.length≤1048576 by omega)]
  refine(implTurned_is _ (by rw[List.length_map];omega)).bind ?_
  have hj:strings_Join.f ((splitL 44 (cutB 58 (cutB 41 s).1).1).map mkB).reverse (⟨#[46]⟩:ByteArray)=some (mkB (labI (cutB 58 (cutB 41 s).1).1)):=by
   unfold strings_Join.f
   rw[←List.map_reverse,join_map]
   have e:(⟨#[46]⟩:ByteArray).data.toList= [46]:=rfl
   rw[e,if_pos ⟨by rw[List.length_map,List.length_reverse];omega,by unfold labI at hlab;omega⟩]
   rfl
  rw[hj]
  simp only[Option.bind_some]
  unfold portU
  cases hp:(cutB 58 (cutB 41 s).1).2.2
  ·simp only[Bool.false_eq_true,if_false]
   exact implUnsurt_j0 s _ 80 _ _ _ h0 (by omega) (by omega) (by omega)
  ·simp only[if_true,implReadDec_is _ (show(cutB 58 (cutB 41 s).1).2.1.length≤1099511627776 by omega),Option.bind_some]
   exact implUnsurt_j0 s _ _ _ _ _ h0 (by omega) (by omega) (by omega)
theorem specTurned_go (sep:List UInt8) (hsep:sep.length≤10) (L:List (List UInt8)) (hL:L.length≤100000): ∀(n:Nat) (xs rest:List (List UInt8)) (acc:List UInt8),xs.length=n→L=xs++rest→acc.length+20*sumL xs≤100000000→
  Ev (fun k=>spec_l7turned.l0 k (mkB sep) (L.map mkB) (mkB acc) ((xs.length:Int)-1)) (mkB (xs.reverse.foldl (stepT sep) acc)):=by
 intro n
 induction n with
 |zero=>
  intro xs rest acc hn hp ha
  obtain rfl:=List.length_eq_zero_iff.1 hn
  exact Ev.step (f:=fun _=>some (mkB acc)) (fun k=>by rw[spec_l7turned.l0,if_neg (by simp)]) (Ev.now _)
 |succ n ih=>
  intro xs rest acc hn hp ha
  obtain⟨ys,x,rfl⟩: ∃ys x,xs=ys++ [x]:=by
   rcases List.eq_nil_or_concat xs with rfl|⟨a,b,rfl⟩
   ·cases hn
   ·exact⟨a,b,by simp⟩
  have hyn:ys.length=n:=by simp at hn;exact hn
  have hrd:rdOf ByteArray.empty (L.map mkB) (ys.length:Int)=mkB x:=by rw[hp,List.append_assoc];exact rdOf_mid ys x rest
  have hlen:L.length=ys.length+1+rest.length:=by rw[hp];simp;omega
  have hi:(((ys++ [x]).length:Int)-1)=(ys.length:Int):=by simp
  have hw:wrap64 ((ys.length:Int)-1)=(ys.length:Int)-1:=wrap_id (by omega) (by omega)
  have hsum:sumL (ys++ [x])=sumL ys+(x.length+1):=by simp[sumL]
  rw[hsum]at ha
  have hlt:(ys.length:Int)<((L.map mkB).length:Int):=by rw[List.length_map];omega
  rw[hi,List.reverse_append,List.reverse_singleton,List.singleton_append,List.foldl_cons]
  by_cases h0:acc= []
  ·have ih':=ih ys (x::rest) x hyn (by rw[hp];simp) (by omega)
   rw[show stepT sep acc x=x by unfold stepT;rw[if_pos h0]]
   refine Ev.step (fun k=>?_) ih'
   rw[spec_l7turned.l0,if_pos (by omega),toList_mk,if_pos h0,if_pos (by omega),if_pos hlt,hrd,if_pos (by rw[size_mk,size_mk];omega),hw,h0]
   rfl
  ·have ih':=ih ys (x::rest) (acc++sep++x) hyn (by rw[hp];simp) (by simp only[List.length_append];omega)
   rw[show stepT sep acc x=acc++sep++x by unfold stepT;rw[if_neg h0]]
   refine Ev.step (fun k=>?_) ih'
   rw[spec_l7turned.l0,if_pos (by omega),toList_mk,if_neg h0,if_pos (by rw[size_mk,size_mk];omega),if_pos (by omega),if_pos hlt,hrd,mk_append,if_pos (by rw[size_mk,size_mk];simp only[List.length_append];omega),hw,mk_append]
theorem specSurt_is (h:List UInt8) (p:Int) (path q:List UInt8) (hq:Bool) (h1:h.length≤1048576) (h2:path.length≤1048576) (h3:q.length≤1048576):
  Ev (fun k=>spec_Surt.f k (mkB h) p (mkB path) (mkB q) hq) (mkB (surtL h p path q hq)):=by
 unfold spec_Surt.f surtL
 refine(specUrlOk_is h p path q hq h1 h2 h3).bind ?_
 cases hu:urlOkL h p path q hq
 ·simp only[Bool.false_eq_true,if_false];exact Ev.now _
 ·obtain⟨n,rfl,hn,hh,hpl,hql⟩:=urlOkL_port hu
  obtain⟨hhl,hne⟩:=host_pieces hh
  have hpo:=portL_len n (by omega)
  have hqu:=queryL_len q hq
  have hrv:=revH_len h
  have hsl:=splitL_len 46 h
  simp only[if_true,Int.toNat_natCast]
  have ht:Ev (fun k=>spec_l7turned.f k (mkB h) 46 (⟨#[44]⟩:ByteArray)) (mkB (revH h)):=by
   unfold spec_l7turned.f
   refine(spec7split_is 46 h (by omega)).bind ?_
   have hg:=specTurned_go [44] (by simp) (splitL 46 h) (by omega) _ (splitL 46 h) [] [] rfl (by simp) (by rw[sumL_split];simp;omega)
   rw[fold_is [44] _ (fun x hx=>hne x (by simpa using hx))]at hg
   rw[List.length_map,wrap_id (by omega) (by omega)]
   exact hg
  refine ht.bind ?_
  refine(specPort_is (mkB h) n (mkB path) (mkB q) hq (by omega)).bind ?_
  rw[specQuery_is _ _ _ _ _ (by omega),show(⟨#[41]⟩:ByteArray)=mkB [41]from rfl]
  simp only[Option.bind_some,mk_append,size_mk]
  rw[if_pos (by omega),if_pos (by simp only[List.length_append];omega),if_pos (by simp only[List.length_append,List.length_singleton];omega),if_pos (by simp only[List.length_append,List.length_singleton];omega)]
  exact Ev.now _
theorem uptoL (c:UInt8) (l:List UInt8) (h:l.length≤1048576):Ev (fun k=>spec_l6upto.f k (mkB l) (c.toNat:Int)) (mkB (cutB c l).1):=by
 have:=upto_is c (mkB l) (by rw[size_mk];omega)
 rw[bl_mk]at this
 exact this
theorem specTurned_is (c d:UInt8) (l:List UInt8) (h:l.length≤1000):Ev (fun k=>spec_l7turned.f k (mkB l) (c.toNat:Int) (mkB [d])) (mkB ((splitL c l).reverse.foldl (stepT [d]) [])):=by
 have hsl:=splitL_len c l
 unfold spec_l7turned.f
 refine(spec7split_is c l (by omega)).bind ?_
 have hg:=specTurned_go [d] (by simp) (splitL c l) (by omega) _ (splitL c l) [] [] rfl (by simp) (by rw[sumL_split];simp;omega)
 rw[List.length_map,wrap_id (by omega) (by omega)]
 exact hg
theorem labS_len (s:List UInt8): ∀(r:List (List UInt8)) (acc:List UInt8),(r.foldl (stepT [46]) acc).length≤acc.length+sumL r
 | [],acc=>by simp[sumL]
 |x::r,acc=>by
  have ih:=labS_len s r (stepT [46] acc x)
  have e2:sumL (x::r)=x.length+1+sumL r:=by simp[sumL]
  have e3:(stepT [46] acc x).length≤acc.length+(x.length+1):=by
   unfold stepT
   split
   ·omega
   ·simp only[List.length_append,List.length_singleton];omega
  rw[List.foldl_cons,e2];omega
theorem surtIf_same (s:List UInt8) (p:Int) (path q:List UInt8) (hq:Bool) (h0:s≠ []):
  surtIf (labS (cutB 58 (cutB 41 s).1).1) p path q hq s=surtIf (labI (cutB 58 (cutB 41 s).1).1) p path q hq s:=by
 unfold surtIf
 by_cases h1:surtL (labS (cutB 58 (cutB 41 s).1).1) p path q hq=s
 ·have:=(surt_hosts h1 h0).1
  rw[this]
 ·by_cases h2:surtL (labI (cutB 58 (cutB 41 s).1).1) p path q hq=s
  ·have:=(surt_hosts h2 h0).2.1
   rw[this]
  ·rw[if_neg h1,if_neg h2]
theorem specUnsurt_j0 (s h:List UInt8) (p:Int) (hs:s.length≤200) (hf:(cutB 41 s).2.2=true) (h1:h.length≤1048576):
  Ev (fun k=>spec_Unsurt.j0 k (mkB s) (mkB (cutB 41 s).1) (mkB (cutB 63 (cutB 41 s).2.1).1) (mkB h) p (mkB (cutB 63 (cutB 41 s).2.1).1) (⟨#[]⟩:ByteArray) false) (surtIf h p (cutB 63 (cutB 41 s).2.1).1 (cutB 63 (cutB 41 s).2.1).2.1 (cutB 63 (cutB 41 s).2.1).2.2 s):=by
 have h0:=cutB_ne 41 s hf
 have hsp:=cutB_true 41 s hf
 have hsl:=congrArg List.length hsp
 simp only[List.length_append,List.length_cons]at hsl
 have c3:=cutB_lens 63 (cutB 41 s).2.1
 have hw1:wrap64 (((cutB 41 s).1.length:Int)+1)=((cutB 41 s).1.length:Int)+1:=wrap_id (by omega) (by omega)
 have hw2:wrap64 (((cutB 41 s).1.length:Int)+1+((cutB 63 (cutB 41 s).2.1).1.length:Int))=(((cutB 41 s).1.length+1+(cutB 63 (cutB 41 s).2.1).1.length:Nat):Int):=by rw[wrap_id (by omega) (by omega)];omega
 have hd1:s.drop ((cutB 41 s).1.length+1+(cutB 63 (cutB 41 s).2.1).1.length)=(cutB 41 s).2.1.drop (cutB 63 (cutB 41 s).2.1).1.length:=by
  rw[←List.drop_drop,cutB_drop 41 s hf]
 have hn:(s= [])=False:=eq_false h0
 have hS:=specSurt_is h p (cutB 63 (cutB 41 s).2.1).1 (cutB 63 (cutB 41 s).2.1).2.1 (cutB 63 (cutB 41 s).2.1).2.2 h1 (by omega) (by omega)
 have hend: ∀(q:List UInt8) (b:Bool),Ev (fun k=>spec_Surt.f k (mkB h) p (mkB (cutB 63 (cutB 41 s).2.1).1) (mkB q) b) (mkB (surtL h p (cutB 63 (cutB 41 s).2.1).1 q b))→Ev (fun k=>(spec_Surt.f k (mkB h) p (mkB (cutB 63 (cutB 41 s).2.1).1) (mkB q) b).bind fun t204=>(if t204.toList=s then(some (mkB h,p,mkB (cutB 63 (cutB 41 s).2.1).1,mkB q,b,true))else(some noUrl))) (surtIf h p (cutB 63 (cutB 41 s).2.1).1 q b s):=by
  intro q b hq
  refine hq.bind ?_
  unfold surtIf
  rw[toList_mk]
  split<;>exact Ev.now _
 cases hq:(cutB 63 (cutB 41 s).2.1).2.2
 ·obtain⟨e1,e2⟩:=cutB_false 63 _ hq
  rw[hq,e2]at hS
  rw[e2]
  refine Ev.step (fun k=>?_) (hend [] false hS)
  rw[spec_Unsurt.j0,size_mk,size_mk,hw1,hw2,if_pos (by omega),if_pos (by rw[size_mk];omega),Int.toNat_natCast,drop_mk,hd1,toList_mk,toList_mk]
  rw[if_pos (by rw[e1];simp)]
  simp only[hn,if_false]
  rfl
 ·have e1:=cutB_true 63 _ hq
  have e3:(cutB 41 s).2.1.drop (cutB 63 (cutB 41 s).2.1).1.length=63::(cutB 63 (cutB 41 s).2.1).2.1:=by
   conv=>lhs;arg 2;rw[e1]
   rw[List.drop_left]
  rw[hq]at hS
  refine Ev.step (fun k=>?_) (hend _ true hS)
  rw[spec_Unsurt.j0,size_mk,size_mk,hw1,hw2,if_pos (by omega),if_pos (by rw[size_mk];omega),Int.toNat_natCast,drop_mk,hd1,toList_mk,toList_mk,e3]
  rw[if_neg (by simp),if_pos (by rw[size_mk];simp<;>omega),drop_mk]
  simp only[hn,if_false,List.drop_succ_cons,List.drop_zero]
  rfl
theorem specUnsurt_is (s:List UInt8) (hs:s.length≤1048576):Ev (fun k=>spec_Unsurt.f k (mkB s)) (unsurtR s):=by
 unfold spec_Unsurt.f
 by_cases h200:s.length≤200
 ·have c1:=cutB_lens 41 s
  have hlt:=cutB_1len 41 s
  simp only[size_mk,if_neg (show ¬(s.length:Int)>200 by omega)]
  refine(uptoL 41 s hs).bind ?_
  simp only[size_mk]
  unfold unsurtR
  cases hf:(cutB 41 s).2.2
  ·rw[(cutB_false 41 s hf).1]
   simp only[if_true,Bool.false_eq_true,if_false];exact Ev.now _
  ·rw[hf]at hlt
   have hlt':=hlt.2 rfl
   have h0:=cutB_ne 41 s hf
   have hw:wrap64 (((cutB 41 s).1.length:Int)+1)=(((cutB 41 s).1.length+1:Nat):Int):=by rw[wrap_id (by omega) (by omega)];omega
   have hx:(mkB s).extract ((cutB 41 s).1.length+1) s.length=mkB (cutB 41 s).2.1:=by
    have:=drop_mk s ((cutB 41 s).1.length+1)
    rw[size_mk]at this;rw[this,cutB_drop 41 s hf]
   have c2:=cutB_lens 58 (cutB 41 s).1
   have c3:=cutB_lens 63 (cutB 41 s).2.1
   simp only[if_neg (show ¬((cutB 41 s).1.length:Int)=(s.length:Int)by omega),if_true]
   refine(uptoL 58 (cutB 41 s).1 (by omega)).bind ?_
   simp only[hw,if_pos (show(0:Int)≤(((cutB 41 s).1.length+1:Nat):Int)by omega),if_pos (show(((cutB 41 s).1.length+1:Nat):Int)≤(s.length:Int)by omega),Int.toNat_natCast,hx]
   refine(uptoL 63 (cutB 41 s).2.1 (by omega)).bind ?_
   refine(specTurned_is 44 46 (cutB 58 (cutB 41 s).1).1 (by omega)).bind ?_
   have hls:=labS_len [] (splitL 44 (cutB 58 (cutB 41 s).1).1).reverse []
   rw[sumL_rev,sumL_split]at hls
   simp only[List.length_nil]at hls
   rw[←surtIf_same s _ _ _ _ h0]
   have e:(splitL 44 (cutB 58 (cutB 41 s).1).1).reverse.foldl (stepT [46]) []=labS (cutB 58 (cutB 41 s).1).1:=rfl
   rw[e]at hls ⊢
   have hlt2:=cutB_1len 58 (cutB 41 s).1
   unfold portU
   simp only[size_mk]
   cases hp:(cutB 58 (cutB 41 s).1).2.2
   ·rw[hp]at hlt2
    have hn2: ¬(cutB 58 (cutB 41 s).1).1.length<(cutB 41 s).1.length:=fun h=>Bool.false_ne_true (hlt2.1 h)
    simp only[if_neg (show ¬((cutB 58 (cutB 41 s).1).1.length:Int)<((cutB 41 s).1.length:Int)by omega),Bool.false_eq_true,if_false]
    exact specUnsurt_j0 s _ 80 h200 hf (by omega)
   ·rw[hp]at hlt2
    have hlt3:=hlt2.2 rfl
    have hw3:wrap64 (((cutB 58 (cutB 41 s).1).1.length:Int)+1)=(((cutB 58 (cutB 41 s).1).1.length+1:Nat):Int):=by rw[wrap_id (by omega) (by omega)];omega
    have hx3:(mkB (cutB 41 s).1).extract ((cutB 58 (cutB 41 s).1).1.length+1) (cutB 41 s).1.length=mkB (cutB 58 (cutB 41 s).1).2.1:=by
     have:=drop_mk (cutB 41 s).1 ((cutB 58 (cutB 41 s).1).1.length+1)
     rw[size_mk]at this;rw[this,cutB_drop 58 _ hp]
    simp only[if_pos (show((cutB 58 (cutB 41 s).1).1.length:Int)<((cutB 41 s).1.length:Int)by omega),hw3,if_pos (show(0:Int)≤(((cutB 58 (cutB 41 s).1).1.length+1:Nat):Int)by omega),if_pos (show(((cutB 58 (cutB 41 s).1).1.length+1:Nat):Int)≤((cutB 41 s).1.length:Int)by omega),Int.toNat_natCast,hx3,if_true]
    refine(specReadDec_is _ (by omega)).bind ?_
    exact specUnsurt_j0 s _ _ h200 hf (by omega)
 ·simp only[size_mk,if_pos (show(s.length:Int)>200 by omega)]
  have e:unsurtR s=noUrl:=by
   unfold unsurtR surtIf
   split
   ·rename_i hf
    rw[if_neg]
    intro hh
    have:=(surt_hosts hh (cutB_ne 41 s hf)).2.2.1
    omega
   ·rfl
  rw[e];exact Ev.now _
def tokOdd:List UInt8:= [33,35,36,37,38,39,42,43,45,46,94,95,124,126]
def tokB (b:UInt8):Bool:=lowB b||uppB b||digB b||decide (b.toNat=96)||tokOdd.contains b
theorem indexByte_pos: ∀(l:List UInt8) (c:UInt8),Lib.indexByte l c≥0↔l.contains c=true
 | [],c=>by simp[Lib.indexByte]
 |b::l,c=>by
  have ih:=indexByte_pos l c
  have lo: -1≤Lib.indexByte l c:=Lib.indexByte_ge l c
  unfold Lib.indexByte
  by_cases h:b=c
  ·subst h;simp
  ·have hb:(b==c)=false:=by simpa using h
   have hc:(c==b)=false:=by simpa using fun x=>h x.symm
   rw[hb]
   simp only[Bool.false_eq_true,if_false,List.contains_cons,hc,Bool.false_or]
   rw[←ih]
   by_cases h2:Lib.indexByte l c= -1
   ·simp[h2]
   ·have:(Lib.indexByte l c== -1)=false:=by simpa using h2
    rw[this];simp;omega
theorem isTokenByte_is (b:UInt8):impl_isTokenByte.f (b.toNat:Int)=some (tokB b):=by
 have hi:(decide (Lib.indexByte tokOdd b≥0))=tokOdd.contains b:=by
  rw[Bool.eq_iff_iff,decide_eq_true_iff];exact indexByte_pos _ _
 have hx:strings_IndexByte.f (⟨#[33,35,36,37,38,39,42,43,45,46,94,95,124,126]⟩:ByteArray) (b.toNat:Int)=some (Lib.indexByte tokOdd b):=by
  unfold strings_IndexByte.f;rw[toUInt8_toNat];rfl
 unfold impl_isTokenByte.f
 simp only[isLower_is,isUpper_is,isDigit_is,hx,Option.bind_some,hi]
 unfold tokB
 cases lowB b<;>cases uppB b<;>cases digB b<;>simp
 all_goals (by_cases h:b.toNat=96<;>simp[h])
 all_goals (try omega)
theorem tchar_is (b:UInt8):Ev (fun k=>spec_l1tchar.f k (b.toNat:Int)) (tokB b):=by
 have hb:=u8_lt b
 have hh:Ev (fun k=>spec_l1has.f k (⟨#[33,35,36,37,38,39,42,43,45,46,94,95,124,126]⟩:ByteArray) (b.toNat:Int)) (tokOdd.contains b):=has_is tokOdd b (by decide)
 have rest:Ev (fun k=>if digB b=true then some true else if(b.toNat:Int)=96 then some true else(spec_l1has.f k (⟨#[33,35,36,37,38,39,42,43,45,46,94,95,124,126]⟩:ByteArray) (b.toNat:Int)).bind fun t=>some t) (digB b||decide (b.toNat=96)||tokOdd.contains b):=by
  cases hd:digB b
  ·by_cases h9:b.toNat=96
   ·simpa [h9]using Ev.now true
   ·have: ¬(b.toNat:Int)=96:=by omega
    simpa [h9,this]using hh.bind (f:=fun _ (t:Bool)=>some t) (Ev.now _)
  ·simpa using Ev.now true
 unfold spec_l1tchar.f spec_l1lower.f
 simp only[l1digit_is]
 unfold tokB
 by_cases hU:65≤b.toNat∧b.toNat≤90
 ·have e1:uppB b=true:=by simp[uppB,hU]
  simp only[if_pos (show(b.toNat:Int)≥65 by omega),if_pos (show(b.toNat:Int)≤90 by omega),Option.bind_some,if_pos (show((b.toNat:Int)+32)%256≥97 by omega),if_pos (show((b.toNat:Int)+32)%256≤122 by omega)]
  simpa [e1]using Ev.now true
 ·have e1:uppB b=false:=by simp[uppB];omega
  have hlow:(if(b.toNat:Int)≥65 then(if(b.toNat:Int)≤90 then some (((b.toNat:Int)+32)%256)else some (b.toNat:Int))else some (b.toNat:Int))=some (b.toNat:Int):=by
   split
   ·rw[if_neg (by omega)]
   ·rfl
  rw[hlow]
  simp only[Option.bind_some]
  by_cases hL:97≤b.toNat
  ·by_cases hL2:b.toNat≤122
   ·have e2:lowB b=true:=by simp[lowB,hL,hL2]
    simp only[if_pos (show(b.toNat:Int)≥97 by omega),if_pos (show(b.toNat:Int)≤122 by omega)]
    simpa [e2]using Ev.now true
   ·have e2:lowB b=false:=by simp[lowB,hL2]
    simp only[if_pos (show(b.toNat:Int)≥97 by omega),if_neg (show ¬(b.toNat:Int)≤122 by omega)]
    simpa [e1,e2]using rest
  ·have e2:lowB b=false:=by simp[lowB,hL]
   simp only[if_neg (show ¬(b.toNat:Int)≥97 by omega)]
   simpa [e1,e2]using rest
def tokenL (l:List UInt8):Bool:=decide (1≤l.length)&&decide (l.length≤4000)&&l.all tokB
theorem specToken_is (s:ByteArray):Ev (fun k=>spec_Token.f k s) (tokenL (bl s)):=by
 unfold spec_Token.f tokenL
 rw[size_bl]
 by_cases h0:(s.size:Int)=0
 ·simp only[if_pos h0]
  refine Ev.step (f:=fun _=>some false) (fun k=>by simp[spec_Token.j0]) ?_
  simpa [show ¬1≤s.size by omega]using Ev.now false
 ·simp only[if_neg h0]
  by_cases h4:(s.size:Int)>4000
  ·refine Ev.step (f:=fun _=>some false) (fun k=>by simp[spec_Token.j0,h4]) ?_
   simpa [show ¬s.size≤4000 by omega]using Ev.now false
  ·refine Ev.step (f:=fun k=>spec_Token.l0 k s 0) (fun k=>by simp[spec_Token.j0,h4]) ?_
   have:=all_ev spec_Token.l0 spec_l1tchar.f tokB tchar_is (fun k s i=>by simp only[spec_Token.l0]) s (by omega)
   simpa [show 1≤s.size by omega,show s.size≤4000 by omega]using this
theorem implToken_is (s:ByteArray):Ev (fun k=>impl_Token.f k s) (tokenL (bl s)):=by
 unfold impl_Token.f tokenL
 rw[size_bl]
 simp only[within_is,Option.bind_some]
 have e:(decide ((1:Int)≤(s.size:Int))&&decide ((s.size:Int)≤4000))=(decide (1≤s.size)&&decide (s.size≤4000)):=by rw[Bool.eq_iff_iff];simp;omega
 rw[e]
 cases h:(decide (1≤s.size)&&decide (s.size≤4000))
 ·simpa using Ev.now false
 ·have hs:s.size≤9223372036854775806:=by simp at h;omega
  have:=all_ev impl_all__impl_isTokenByte.l0 (fun _ c=>impl_isTokenByte.f c) tokB (fun b=>Ev.const (isTokenByte_is b)) (fun k s i=>by simp only[impl_all__impl_isTokenByte.l0]) s hs
  simpa [impl_all__impl_isTokenByte.f]using this.bind (f:=fun _ (t:Bool)=>some t) (Ev.now _)
def labHead:List UInt8:= [115,104,97,49,58]
def labelR (l:List UInt8):Bool:=decide (l.length=37)&&decide (l.take 5=labHead)&&(l.drop 5).all letOk
theorem specLabel_is (l:List UInt8) (hl:l.length≤1048576): ∃x,Ev (fun k=>spec_ReadLabel.f k (mkB l)) (x,labelR l):=by
 unfold spec_ReadLabel.f labelR
 rw[size_mk]
 by_cases h:l.length=37
 ·have hz:(l.length:Int)=37:=by omega
  simp only[if_pos hz,if_pos (show(0:Int)≤5 by decide),if_pos (show(5:Int)≤(l.length:Int)by omega),decide_eq_true h,Bool.true_and]
  have hx:(mkB l).extract 0 5=mkB (l.take 5):=by rw[extract_mk];simp
  have hd:(mkB l).extract 5 (mkB l).size=mkB (l.drop 5):=by rw[extract_mk,size_mk,List.take_of_length_le (by simp)]
  rw[hx,toList_mk]
  by_cases ht:l.take 5=labHead
  ·obtain⟨x,e⟩:=specRB32_is (l.drop 5) (by rw[List.length_drop];omega)
   refine⟨x,?_⟩
   rw[decide_eq_true ht,Bool.true_and]
   rw[size_mk]at hd
   simp only[if_pos (show l.take 5= [115,104,97,49,58]from ht),hd]
   exact e.bind (Ev.now _)
  ·rw[decide_eq_false ht,Bool.false_and]
   simp only[if_neg (show ¬l.take 5= [115,104,97,49,58]from ht)]
   exact⟨_,Ev.now _⟩
 ·have hz: ¬(l.length:Int)=37:=by omega
  simp only[if_neg hz,decide_eq_false h,Bool.false_and]
  exact⟨_,Ev.now _⟩
theorem labPrefix_is (l:List UInt8) (hl:l.length≤1048576):strings_CutPrefix.f (mkB l) (⟨#[115,104,97,49,58]⟩:ByteArray)=some (if l.take 5=labHead then(mkB (l.drop 5),true)else(mkB l,false)):=by
 have hz:((⟨#[115,104,97,49,58]⟩:ByteArray).size:Int)=5:=rfl
 have hP:(⟨#[115,104,97,49,58]⟩:ByteArray).toList=labHead:=toList_mk labHead
 have hx:(mkB l).extract 0 5=mkB (l.take 5):=by rw[extract_mk];simp
 have hd:(mkB l).extract 5 l.length=mkB (l.drop 5):=by rw[extract_mk,List.take_of_length_le (by simp)]
 unfold strings_CutPrefix.f stringslite_CutPrefix.f stringslite_HasPrefix.f
 rw[hz,size_mk,hP,show(5:Int).toNat=5 from rfl,hx,toList_mk,hd]
 by_cases h5:(l.length:Int)≥5
 ·rw[if_pos h5,if_pos (by decide),if_pos (by omega)]
  simp only[Option.bind_some]
  by_cases ht:l.take 5=labHead
  ·have hb:(l.take 5==labHead)=true:=beq_iff_eq.2 ht
   rw[hb,if_pos rfl,if_pos (by decide),if_pos (by omega),if_pos ht];rfl
  ·have hb:(l.take 5==labHead)=false:=beq_eq_false_iff_ne.2 ht
   rw[hb,if_neg Bool.false_ne_true,if_neg ht];rfl
 ·have ht: ¬l.take 5=labHead:=by
   intro e
   have:=congrArg List.length e
   rw[List.length_take]at this
   simp[labHead]at this
   omega
  rw[if_neg h5,if_neg ht];rfl
theorem implLabel_is (l:List UInt8) (hl:l.length≤1048576): ∃x,Ev (fun k=>impl_ReadLabel.f k (mkB l)) (x,labelR l):=by
 unfold impl_ReadLabel.f labelR
 rw[labPrefix_is l hl]
 simp only[Option.bind_some]
 by_cases ht:l.take 5=labHead
 ·rw[if_pos ht]
  simp only[if_true,size_mk,List.length_drop,decide_eq_true ht,Bool.and_true]
  by_cases h:l.length=37
  ·obtain⟨x,e⟩:=implRB32_is (l.drop 5) (by rw[List.length_drop];omega)
   refine⟨x,?_⟩
   simp only[if_pos (show((l.length-5:Nat):Int)=32 by omega),decide_eq_true h,Bool.true_and]
   exact e.bind (Ev.now _)
  ·have hn: ¬((l.length-5:Nat):Int)=32:=by omega
   simp only[if_neg hn,decide_eq_false h,Bool.false_and]
   exact⟨_,Ev.now _⟩
 ·rw[if_neg ht]
  simp only[Bool.false_eq_true,if_false,decide_eq_false ht,Bool.and_false,Bool.false_and]
  exact⟨_,Ev.now _⟩
def tailR (st:Int) (lab:Bool) (seg at_ sz:Int):Bool:=decide (200≤st)&&decide (st≤599)&&lab&&decide (0≤seg)&&decide (seg≤39)&&decide (0≤at_)&&decide (at_≤60000)&&decide (0≤sz)&&decide (sz≤60000)
theorem specTail_eq (st:Int) (lab:Bool) (seg at_ sz:Int):(if st≥200 then(if st≤599 then(if lab=true then(if seg≥0 then(if seg<40 then(if at_≥0 then(if at_≤60000 then(if sz≥0 then(some (decide (sz≤60000)))else(some false))else(some false))else(some false))else(some false))else(some false))else(some false))else(some false))else(some false))=some (tailR st lab seg at_ sz):=by
 unfold tailR
 by_cases h1:st≥200
 ·rw[if_pos h1,decide_eq_true (show 200≤st from h1)]
  by_cases h2:st≤599
  ·rw[if_pos h2,decide_eq_true h2]
   cases lab
   ·simp
   ·rw[if_pos rfl]
    by_cases h3:seg≥0
    ·rw[if_pos h3,decide_eq_true (show 0≤seg from h3)]
     by_cases h4:seg<40
     ·rw[if_pos h4,decide_eq_true (show seg≤39 by omega)]
      by_cases h5:at_≥0
      ·rw[if_pos h5,decide_eq_true (show 0≤at_ from h5)]
       by_cases h6:at_≤60000
       ·rw[if_pos h6,decide_eq_true h6]
        by_cases h7:sz≥0
        ·rw[if_pos h7,decide_eq_true (show 0≤sz from h7)];simp
        ·rw[if_neg h7,decide_eq_false (show ¬0≤sz from h7)];simp
       ·rw[if_neg h6,decide_eq_false h6];simp
      ·rw[if_neg h5,decide_eq_false (show ¬0≤at_ from h5)];simp
     ·rw[if_neg h4,decide_eq_false (show ¬seg≤39 by omega)];simp
    ·rw[if_neg h3,decide_eq_false (show ¬0≤seg from h3)];simp
  ·rw[if_neg h2,decide_eq_false h2];simp
 ·rw[if_neg h1,decide_eq_false (show ¬200≤st from h1)];simp
def methR (m:List UInt8):Bool:=decide (m.length≤20)&&tokenL m
def lineR (key:List UInt8) (t side:Int) (m:List UInt8) (st:Int) (lab:List UInt8) (seg at_ sz:Int):Bool:=
 (unsurtR key).2.2.2.2.2&&(decide (0≤t)&&decide (t≤253402300799))&&(decide (side=0)||decide (side=1))&&methR m&&tailR st (labelR lab) seg at_ sz
theorem specMethod_is (m:List UInt8):Ev (fun k=>spec_l9method.f k (mkB m)) (methR m):=by
 unfold spec_l9method.f methR
 rw[size_mk]
 by_cases h:m.length≤20
 ·simp only[if_pos (show(m.length:Int)≤20 by omega),decide_eq_true h,Bool.true_and]
  have:=specToken_is (mkB m)
  rw[bl_mk]at this
  exact this.bind (Ev.now _)
 ·simp only[if_neg (show ¬(m.length:Int)≤20 by omega),decide_eq_false h,Bool.false_and]
  exact Ev.now _
theorem implMethod_is (m:List UInt8):Ev (fun k=>impl_isMethod.f k (mkB m)) (methR m):=by
 unfold impl_isMethod.f methR
 have:=implToken_is (mkB m)
 rw[bl_mk]at this
 refine this.bind ?_
 rw[size_mk,show decide ((m.length:Int)≤20)=decide (m.length≤20)from decide_eq_decide.2 (by omega)]
 cases tokenL m
 ·simp only[Bool.false_eq_true,if_false,Bool.and_false];exact Ev.now _
 ·simp only[if_true,Bool.and_true];exact Ev.now _
theorem specLineOk_is (key:List UInt8) (t side:Int) (m:List UInt8) (st:Int) (lab:List UInt8) (rev:Bool) (seg at_ sz:Int) (h1:key.length≤1048576) (h2:lab.length≤1048576):
  Ev (fun k=>spec_LineOk.f k (mkB key) t side (mkB m) st (mkB lab) rev seg at_ sz) (lineR key t side m st lab seg at_ sz):=by
 unfold spec_LineOk.f lineR
 obtain⟨x,hx⟩:=specLabel_is lab h2
 refine(specUnsurt_is key h1).bind ?_
 refine hx.bind ?_
 cases hk:(unsurtR key).2.2.2.2.2
 ·simp only[Bool.false_eq_true,if_false,Bool.false_and];exact Ev.now _
 ·have htm:spec_l2time.f t=some (decide (0≤t)&&decide (t≤253402300799)):=by
   unfold spec_l2time.f
   by_cases h:t≥0
   ·rw[if_pos h,decide_eq_true (show 0≤t from h),Bool.true_and]
   ·rw[if_neg h,decide_eq_false (show ¬0≤t from h),Bool.false_and]
  simp only[if_true,Bool.true_and,htm,Option.bind_some,specTail_eq]
  cases(decide (0≤t)&&decide (t≤253402300799))
  ·simp only[Bool.false_eq_true,if_false,Bool.false_and];exact Ev.now _
  ·simp only[if_true,Bool.true_and]
   have hm:Ev (fun k=>(spec_l9method.f k (mkB m)).bind fun t236=>(if t236=true then some (tailR st (labelR lab) seg at_ sz)else some false)) (methR m&&tailR st (labelR lab) seg at_ sz):=by
    refine(specMethod_is m).bind ?_
    cases methR m
    ·simp only[Bool.false_eq_true,if_false,Bool.false_and];exact Ev.now _
    ·simp only[if_true,Bool.true_and];exact Ev.now _
   by_cases s0:side=0
   ·simp only[if_pos s0,decide_eq_true s0,Bool.true_or,Bool.true_and];exact hm
   ·by_cases s1:side=1
    ·simp only[if_neg s0,if_pos s1,decide_eq_true s1,Bool.or_true,Bool.true_and];exact hm
    ·simp only[if_neg s0,if_neg s1,decide_eq_false s0,decide_eq_false s1,Bool.or_false,Bool.false_and];exact Ev.now _
theorem implTail_eq (st:Int) (lab:Bool) (seg at_ sz:Int) (h:lab=true):((impl_isStatus.f st).bind fun t409=>(if t409=true then((impl_within.f seg 0 39).bind fun t410=>(if t410=true then((impl_within.f at_ 0 60000).bind fun t411=>(if t411=true then((impl_within.f sz 0 60000).bind fun t412=>(some t412))else(some false)))else(some false)))else(some false)))=some (tailR st lab seg at_ sz):=by
 unfold impl_isStatus.f tailR
 simp only[within_is,Option.bind_some,h,Bool.and_true]
 cases h1:(decide (200≤st)&&decide (st≤599))
 ·simp
 ·simp only[if_true,Bool.true_and]
  cases h2:(decide (0≤seg)&&decide (seg≤39))
  ·simp only[Bool.false_eq_true,if_false,Bool.false_and]
  ·simp only[if_true,Bool.true_and]
   cases h3:(decide (0≤at_)&&decide (at_≤60000))
   ·simp only[Bool.false_eq_true,if_false,Bool.false_and]
   ·simp only[if_true,Bool.true_and]
theorem implLineOk_is (key:List UInt8) (t side:Int) (m:List UInt8) (st:Int) (lab:List UInt8) (rev:Bool) (seg at_ sz:Int) (h1:key.length≤1048576) (h2:lab.length≤1048576):
  Ev (fun k=>impl_LineOk.f k (mkB key) t side (mkB m) st (mkB lab) rev seg at_ sz) (lineR key t side m st lab seg at_ sz):=by
 unfold impl_LineOk.f lineR
 obtain⟨x,hx⟩:=implLabel_is lab h2
 refine(implUnsurt_is key h1).bind ?_
 refine hx.bind ?_
 cases hk:(unsurtR key).2.2.2.2.2
 ·simp only[Bool.false_eq_true,if_false,Bool.false_and];exact Ev.now _
 ·simp only[if_true,Bool.true_and]
  cases hlb:labelR lab
  ·have e:tailR st false seg at_ sz=false:=by unfold tailR;simp
   rw[e]
   simp only[Bool.false_eq_true,if_false,Bool.and_false];exact Ev.now _
  ·have htl:=implTail_eq st true seg at_ sz rfl
   have htm:impl_isTime.f t=some (decide (0≤t)&&decide (t≤253402300799)):=by unfold impl_isTime.f;rw[within_is];rfl
   have hsd:impl_isSide.f side=some (decide (side=0)||decide (side=1)):=by
    unfold impl_isSide.f
    by_cases s0:side=0
    ·rw[if_pos s0,decide_eq_true s0,Bool.true_or]
    ·rw[if_neg s0,decide_eq_false s0,Bool.false_or];rfl
   simp only[if_true,htm,Option.bind_some,hsd,htl]
   cases(decide (0≤t)&&decide (t≤253402300799))
   ·simp only[Bool.false_eq_true,if_false,Bool.false_and];exact Ev.now _
   ·simp only[if_true,Bool.true_and]
    cases(decide (side=0)||decide (side=1))
    ·simp only[Bool.false_eq_true,if_false,Bool.false_and];exact Ev.now _
    ·simp only[if_true,Bool.true_and]
     refine(implMethod_is m).bind ?_
     cases methR m
     ·simp only[Bool.false_eq_true,if_false,Bool.false_and];exact Ev.now _
     ·simp only[if_true,Bool.true_and];exact Ev.now _
def sgn (a b:Int):Int:=if a<b then-1 else if a>b then 1 else 0
theorem l9sign_is (a b:Int):spec_l9sign.f a b=some (sgn a b):=by
 unfold spec_l9sign.f sgn;split
 ·rfl
 ·split<;>rfl
theorem cmpInt_is (a b:Int):cmp_Compare_int.f a b=some (sgn a b):=by
 unfold cmp_Compare_int.f cmp_isNaN_int.f sgn
 simp only[Option.bind_some,bne_self_eq_false,Bool.false_eq_true,if_false]
 split
 ·rfl
 ·split<;>rfl
def sgnS (a b:ByteArray):Int:=if a.toList=b.toList then 0 else if Op.bytesLess a.toList b.toList=true then-1 else 1
theorem cmpStr_is (a b:ByteArray):cmp_Compare_string.f a b=some (sgnS a b):=by
 unfold cmp_Compare_string.f cmp_isNaN_string.f sgnS
 simp only[Option.bind_some,bne_self_eq_false,Bool.false_eq_true,if_false]
 by_cases e:a.toList=b.toList
 ·rw[if_pos e,e,less_irrefl];simp
 ·rw[if_neg e]
  have:=less_total _ _ e
  cases h:Op.bytesLess a.toList b.toList
  ·rw[h]at this
   have h2:Op.bytesLess b.toList a.toList=true:=by simpa using this.symm
   simp[h2]
  ·simp
def or4 (a b c d:Int):Int:=if a≠0 then a else if b≠0 then b else if c≠0 then c else d
theorem cmpOr_is (a b c d:Int):Ev (fun k=>cmp_Or_int.f k [a,b,c,d]) (or4 a b c d):=by
 refine Ev.mono1 5 fun k=>?_
 unfold or4
 by_cases ha:a=0
 ·subst ha
  by_cases hb:b=0
  ·subst hb
   by_cases hc:c=0
   ·subst hc
    by_cases hd:d=0
    ·subst hd;simp[cmp_Or_int.f,cmp_Or_int.l0,rd,wrap64]
    ·simp[cmp_Or_int.f,cmp_Or_int.l0,rd,wrap64,hd]
   ·simp[cmp_Or_int.f,cmp_Or_int.l0,rd,wrap64,hc]
  ·simp[cmp_Or_int.f,cmp_Or_int.l0,rd,wrap64,hb]
 ·simp[cmp_Or_int.f,cmp_Or_int.l0,rd,wrap64,ha]
def cmpL (k1 k2:ByteArray) (t1 t2 s1 s2 a1 a2:Int):Int:=or4 (sgnS k1 k2) (sgn t1 t2) (sgn s1 s2) (sgn a1 a2)
theorem specCompare_is (a0:ByteArray) (a1 a2:Int) (a3:ByteArray) (a4:Int) (a5:ByteArray) (a6:Bool) (a7 a8 a9:Int) (b0:ByteArray) (b1 b2:Int) (b3:ByteArray) (b4:Int) (b5:ByteArray) (b6:Bool) (b7 b8 b9:Int):
  spec_Compare.f a0 a1 a2 a3 a4 a5 a6 a7 a8 a9 b0 b1 b2 b3 b4 b5 b6 b7 b8 b9=some (cmpL a0 b0 a1 b1 a7 b7 a8 b8):=by
 unfold spec_Compare.f cmpL or4 sgnS
 simp only[l9sign_is,Option.bind_some]
 by_cases e:a0.toList=b0.toList
 ·simp only[e,if_true]
  by_cases h1:sgn a1 b1=0
  ·simp only[h1,if_true]
   by_cases h2:sgn a7 b7=0
   ·simp[h2]
   ·simp[h2]
  ·simp[h1]
 ·simp only[e,if_false]
  split<;>simp
theorem implCompare_is (a0:ByteArray) (a1 a2:Int) (a3:ByteArray) (a4:Int) (a5:ByteArray) (a6:Bool) (a7 a8 a9:Int) (b0:ByteArray) (b1 b2:Int) (b3:ByteArray) (b4:Int) (b5:ByteArray) (b6:Bool) (b7 b8 b9:Int):
  Ev (fun k=>impl_Compare.f k a0 a1 a2 a3 a4 a5 a6 a7 a8 a9 b0 b1 b2 b3 b4 b5 b6 b7 b8 b9) (cmpL a0 b0 a1 b1 a7 b7 a8 b8):=by
 unfold impl_Compare.f
 simp only[cmpInt_is,cmpStr_is,Option.bind_some]
 exact(cmpOr_is _ _ _ _).bind (Ev.now _)
def lineX (x:ILn):Bool:=lineR (bl x.f0) x.f1 x.f2 (bl x.f3) x.f4 (bl x.f5) x.f7 x.f8 x.f9
def cmpX (p x:ILn):Int:=cmpL p.f0 x.f0 p.f1 x.f1 p.f7 x.f7 p.f8 x.f8
def idxFrom:Option ILn→List ILn→Bool
 |_,[]=>true
 |o,x::r=>lineX x&&(match o with|none=>true|some p=>decide (cmpX p x<0))&&idxFrom (some x) r
def idxOk (l:List ILn):Bool:=decide (l.length≤400)&&idxFrom none l
theorem idxFrom_line: ∀(r:List ILn) (o:Option ILn),idxFrom o r=true→ ∀x∈r,lineX x=true
 | [],_,_,x,hx=>by cases hx
 |y::r,o,h,x,hx=>by
  unfold idxFrom at h
  simp only[Bool.and_eq_true]at h
  rcases List.mem_cons.1 hx with rfl|hx
  ·exact h.1.1
  ·exact idxFrom_line r _ h.2 x hx
theorem specX_is (x:ILn) (h:smallLn x):Ev (fun k=>spec_LineOk.f k x.f0 x.f1 x.f2 x.f3 x.f4 x.f5 x.f6 x.f7 x.f8 x.f9) (lineX x):=by
 have:=specLineOk_is (bl x.f0) x.f1 x.f2 (bl x.f3) x.f4 (bl x.f5) x.f6 x.f7 x.f8 x.f9 (by rw[size_bl];exact h.1) (by rw[size_bl];exact h.2.2)
 rw[mk_bl,mk_bl,mk_bl]at this
 exact this
theorem implX_is (x:ILn) (h:smallLn x):Ev (fun k=>impl_LineOk.f k x.f0 x.f1 x.f2 x.f3 x.f4 x.f5 x.f6 x.f7 x.f8 x.f9) (lineX x):=by
 have:=implLineOk_is (bl x.f0) x.f1 x.f2 (bl x.f3) x.f4 (bl x.f5) x.f6 x.f7 x.f8 x.f9 (by rw[size_bl];exact h.1) (by rw[size_bl];exact h.2.2)
 rw[mk_bl,mk_bl,mk_bl]at this
 exact this
theorem rdL_mid (pre:List ILn) (x:ILn) (r:List ILn):rd_T26 (pre++x::r) (pre.length:Int)=x:=getD_mid pre x r _
theorem rdL_prev (q:List ILn) (p x:ILn) (r:List ILn):rd_T26 ((q++ [p])++x::r) (q.length:Int)=p:=by
 rw[List.append_assoc];exact getD_mid q p _ _
theorem wrap_pred (n:Nat) (h:n≤1000000):wrap64 (((n+1:Nat):Int)-1)=(n:Int):=by rw[wrap_id (by omega) (by omega)];omega
theorem wrap_one_ (n:Nat) (h:n≤2000000):wrap64 ((n:Int)+1)=(n:Int)+1:=wrap_id (by omega) (by omega)
theorem specIdx_go: ∀(r pre:List ILn),(pre++r).length≤400→(∀y∈r,smallLn y)→Ev (fun k=>spec_IndexOk.l0 k (pre++r) (pre.length:Int)) (idxFrom pre.getLast? r)
 | [],pre,hl,hs=>by
  refine Ev.step (f:=fun _=>some true) (fun k=>?_) (Ev.now _)
  rw[spec_IndexOk.l0,if_neg (by simp)]
 |x::r,pre,hl,hs=>by
  have ih:=specIdx_go r (pre++ [x]) (by rw[←app_mid];exact hl) (fun y hy=>hs y (List.mem_cons_of_mem _ hy))
  rw[←app_mid,len_snoc,List.getLast?_concat]at ih
  have hx:=specX_is x (hs x (by simp))
  have hlen:(pre.length:Int)<((pre++x::r).length:Int):=by simp;omega
  have h0:(0:Int)≤(pre.length:Int):=by omega
  have hpl:pre.length≤1000:=by simp at hl;omega
  have hws:=wrap_one_ pre.length (by omega)
  unfold idxFrom
  rcases List.eq_nil_or_concat pre with rfl|⟨q,p,rfl⟩
  ·refine Ev.step (f:=fun k=>(spec_LineOk.f k x.f0 x.f1 x.f2 x.f3 x.f4 x.f5 x.f6 x.f7 x.f8 x.f9).bind fun t=>if t=true then spec_IndexOk.l0 k ([]++x::r) ((([]:List ILn).length:Int)+1)else some false) (fun k=>?_) ?_
   ·rw[spec_IndexOk.l0,if_pos hlen,if_pos h0,rdL_mid,if_neg (show ¬((([]:List ILn).length:Int))>0 by simp),hws]
   ·refine hx.bind ?_
    cases lineX x
    ·simp only[Bool.false_eq_true,if_false,Bool.false_and];exact Ev.now _
    ·simp only[if_true,Bool.true_and,List.getLast?_nil];exact ih
  ·rw[List.concat_eq_append]at*
   have hq1:(q++ [p]).length=q.length+1:=by simp
   have hgt:(((q++ [p]).length:Nat):Int)>0:=by rw[hq1];omega
   have hwp:wrap64 ((((q++ [p]).length:Nat):Int)-1)=(q.length:Int):=by rw[hq1];exact wrap_pred _ (by omega)
   have hq0:(0:Int)≤(q.length:Int):=by omega
   have hql:(q.length:Int)<(((q++ [p])++x::r).length:Int):=by rw[List.length_append,hq1];omega
   refine Ev.step (f:=fun k=>(spec_LineOk.f k x.f0 x.f1 x.f2 x.f3 x.f4 x.f5 x.f6 x.f7 x.f8 x.f9).bind fun t=>if t=true then(if cmpX p x≥0 then some false else spec_IndexOk.l0 k ((q++ [p])++x::r) ((((q++ [p]).length:Nat):Int)+1))else some false) (fun k=>?_) ?_
   ·rw[spec_IndexOk.l0,if_pos hlen,if_pos h0,rdL_mid,if_pos hgt,hwp,if_pos hq0,if_pos hql,rdL_prev,specCompare_is,Option.bind_some,hws]
    rfl
   ·refine hx.bind ?_
    rw[List.getLast?_concat]
    cases lineX x
    ·simp only[Bool.false_eq_true,if_false,Bool.false_and];exact Ev.now _
    ·simp only[if_true,Bool.true_and]
     by_cases hc:cmpX p x≥0
     ·simp only[if_pos hc,decide_eq_false (show ¬cmpX p x<0 by omega),Bool.false_and];exact Ev.now _
     ·simp only[if_neg hc,decide_eq_true (show cmpX p x<0 by omega),Bool.true_and];exact ih
theorem specIdx_is (l:List ILn) (hs: ∀y∈l,smallLn y):Ev (fun k=>spec_IndexOk.f k l) (idxOk l):=by
 unfold spec_IndexOk.f idxOk
 by_cases h:l.length≤400
 ·simp only[if_neg (show ¬(l.length:Int)>400 by omega),decide_eq_true h,Bool.true_and]
  exact specIdx_go l [] h hs
 ·simp only[if_pos (show(l.length:Int)>400 by omega),decide_eq_false h,Bool.false_and];exact Ev.now _
theorem implIdx_go (L:List ILn) (hL:L.length≤400): ∀(r pre:List ILn),L=pre++r→(∀y∈r,smallLn y)→Ev (fun k=>impl_IndexOk.l0 k L L (L.length:Int) (pre.length:Int)) (idxFrom pre.getLast? r)
 | [],pre,hl,hs=>by
  refine Ev.step (f:=fun _=>some true) (fun k=>?_) (Ev.now _)
  rw[impl_IndexOk.l0,if_neg (by rw[hl];simp)]
 |x::r,pre,hl,hs=>by
  have ih:=implIdx_go L hL r (pre++ [x]) (by rw[hl];simp) (fun y hy=>hs y (List.mem_cons_of_mem _ hy))
  rw[len_snoc,List.getLast?_concat]at ih
  have hx:=implX_is x (hs x (by simp))
  have hlen:(pre.length:Int)<(L.length:Int):=by rw[hl];simp;omega
  have h0:(0:Int)≤(pre.length:Int):=by omega
  have hpl:pre.length≤1000:=by omega
  have hws:=wrap_one_ pre.length (by omega)
  have hrd:rd_T26 L (pre.length:Int)=x:=by rw[hl];exact rdL_mid pre x r
  unfold idxFrom
  rcases List.eq_nil_or_concat pre with rfl|⟨q,p,rfl⟩
  ·refine Ev.step (f:=fun k=>(impl_LineOk.f k x.f0 x.f1 x.f2 x.f3 x.f4 x.f5 x.f6 x.f7 x.f8 x.f9).bind fun t=>if t=true then impl_IndexOk.l0 k L L (L.length:Int) ((([]:List ILn).length:Int)+1)else some false) (fun k=>?_) ?_
   ·rw[impl_IndexOk.l0,if_pos hlen,if_pos h0,if_pos hlen,hrd,if_neg (show ¬((([]:List ILn).length:Int))>0 by simp),hws]
   ·refine hx.bind ?_
    cases lineX x
    ·simp only[Bool.false_eq_true,if_false,Bool.false_and];exact Ev.now _
    ·simp only[if_true,Bool.true_and,List.getLast?_nil];exact ih
  ·rw[List.concat_eq_append]at*
   have hq1:(q++ [p]).length=q.length+1:=by simp
   have hgt:(((q++ [p]).length:Nat):Int)>0:=by rw[hq1];omega
   have hwp:wrap64 ((((q++ [p]).length:Nat):Int)-1)=(q.length:Int):=by rw[hq1];exact wrap_pred _ (by omega)
   have hq0:(0:Int)≤(q.length:Int):=by omega
   have hql:(q.length:Int)<(L.length:Int):=by rw[hq1]at hlen;omega
   have hrp:rd_T26 L (q.length:Int)=p:=by rw[hl];exact rdL_prev q p x r
   have hcm:=implCompare_is p.f0 p.f1 p.f2 p.f3 p.f4 p.f5 p.f6 p.f7 p.f8 p.f9 x.f0 x.f1 x.f2 x.f3 x.f4 x.f5 x.f6 x.f7 x.f8 x.f9
   refine Ev.step (f:=fun k=>(impl_LineOk.f k x.f0 x.f1 x.f2 x.f3 x.f4 x.f5 x.f6 x.f7 x.f8 x.f9).bind fun t=>if t=true then((impl_Compare.f k p.f0 p.f1 p.f2 p.f3 p.f4 p.f5 p.f6 p.f7 p.f8 p.f9 x.f0 x.f1 x.f2 x.f3 x.f4 x.f5 x.f6 x.f7 x.f8 x.f9).bind fun t468=>(if t468≥0 then some false else impl_IndexOk.l0 k L L (L.length:Int) ((((q++ [p]).length:Nat):Int)+1)))else some false) (fun k=>?_) ?_
   ·rw[impl_IndexOk.l0,if_pos hlen,if_pos h0,if_pos hlen,hrd,if_pos hgt,hwp,if_pos hq0,if_pos hql,hrp,hws]
   ·refine hx.bind ?_
    rw[List.getLast?_concat]
    cases lineX x
    ·simp only[Bool.false_eq_true,if_false,Bool.false_and];exact Ev.now _
    ·simp only[if_true,Bool.true_and]
     refine hcm.bind ?_
     have e:cmpL p.f0 x.f0 p.f1 x.f1 p.f7 x.f7 p.f8 x.f8=cmpX p x:=rfl
     rw[e]
     by_cases hc:cmpX p x≥0
     ·simp only[if_pos hc,decide_eq_false (show ¬cmpX p x<0 by omega),Bool.false_and];exact Ev.now _
     ·simp only[if_neg hc,decide_eq_true (show cmpX p x<0 by omega),Bool.true_and];exact ih
theorem implIdx_is (l:List ILn) (hs: ∀y∈l,smallLn y):Ev (fun k=>impl_IndexOk.f k l) (idxOk l):=by
 unfold impl_IndexOk.f idxOk
 by_cases h:l.length≤400
 ·simp only[if_neg (show ¬(l.length:Int)>400 by omega),decide_eq_true h,Bool.true_and]
  exact implIdx_go l h l [] rfl hs
 ·simp only[if_pos (show(l.length:Int)>400 by omega),decide_eq_false h,Bool.false_and];exact Ev.now _
def farT (a t:Int):Int:=if a<t then t-a else a-t
def okT (a:Int):Prop:=0≤a∧a≤253402300799
theorem specFar_is (a t:Int) (ha:okT a) (ht:okT t):spec_l9far.f a t=some (farT a t):=by
 obtain⟨a0,a1⟩:=ha
 obtain⟨t0,t1⟩:=ht
 unfold spec_l9far.f farT
 by_cases h:a<t
 ·rw[if_pos h,if_pos h,wrap_id (by omega) (by omega)]
 ·rw[if_neg h,if_neg h,wrap_id (by omega) (by omega)]
theorem implFar_is (a t:Int) (ha:okT a) (ht:okT t):mx (wrap64 (a-t)) (wrap64 (t-a))=farT a t:=by
 obtain⟨a0,a1⟩:=ha
 obtain⟨t0,t1⟩:=ht
 rw[wrap_id (a:=a-t) (by omega) (by omega),wrap_id (a:=t-a) (by omega) (by omega)]
 unfold mx farT
 by_cases h:a<t
 ·rw[if_pos h,if_pos (by omega)]
 ·rw[if_neg h,if_neg (by omega)]
abbrev rdI (l:List ILn) (i:Int):ILn:=rd_T26 l i
def fitX (key:ByteArray) (sd:Int) (me:ByteArray) (x:ILn):Bool:=decide (x.f0.toList=key.toList)&&decide (x.f2=sd)&&decide (x.f3.toList=me.toList)
def nxtB (L:List ILn) (t best i:Int) (x:ILn):Int:=if best<0 then i else if farT x.f1 t<farT (rdI L best).f1 t then i else if x.f1=(rdI L best).f1 then i else best
def clG (L:List ILn) (key:ByteArray) (sd:Int) (me:ByteArray) (t:Int):List ILn→Int→Int→Int
 | [],best,_=>best
 |x::r,best,i=>clG L key sd me t r (if fitX key sd me x=true then nxtB L t best i x else best) (i+1)
theorem wrap_upC (a:Int) (h0:0≤a) (h1:a≤2000000):wrap64 (a+1)=a+1:=wrap_id (by omega) (by omega)
theorem specCl_flag (k:Nat) (L:List ILn) (key:ByteArray) (sd:Int) (me:ByteArray) (t best i:Int) (x:ILn) (hi:i<(L.length:Int)) (h0:0≤i) (hx:rd_T26 L i=x):
  spec_Closest.l0 (k+1) L key sd me t best i=spec_Closest.j2 k L key sd me t best i (!fitX key sd me x):=by
 rw[spec_Closest.l0,if_pos hi,if_pos h0,hx]
 unfold fitX
 by_cases c1:x.f0.toList=key.toList
 ·rw[if_pos c1,decide_eq_true c1,Bool.true_and]
  by_cases c2:x.f2=sd
  ·rw[if_pos c2,decide_eq_true c2,Bool.true_and]
   by_cases c3:x.f3.toList=me.toList
   ·rw[decide_eq_true c3,c3];simp
   ·rw[decide_eq_false c3,bne_iff_ne.2 c3];rfl
  ·rw[if_neg c2,decide_eq_false c2];rfl
 ·rw[if_neg c1,decide_eq_false c1];rfl
theorem specCl_next (k:Nat) (L:List ILn) (key:ByteArray) (sd:Int) (me:ByteArray) (t best i:Int) (x:ILn) (hi:i<(L.length:Int)) (h0:0≤i) (hx:rd_T26 L i=x) (hb:best<(L.length:Int)) (hox:okT x.f1) (hot:okT t) (hob:0≤best→okT (rdI L best).f1) (hi':wrap64 (i+1)=i+1):
  spec_Closest.j2 (k+1) L key sd me t best i false=spec_Closest.l0 k L key sd me t (nxtB L t best i x) (i+1):=by
 rw[spec_Closest.j2,if_neg Bool.false_ne_true,hi']
 unfold nxtB
 by_cases c0:best<0
 ·rw[if_pos c0,if_pos c0]
 ·have hb0:0≤best:=by omega
  have hrb:=hob hb0
  unfold rdI at hrb ⊢
  rw[if_neg c0,if_neg c0,if_pos h0,if_pos hi,hx,specFar_is _ _ hox hot,Option.bind_some,if_pos hb0,if_pos hb,specFar_is _ _ hrb hot,Option.bind_some]
  split
  ·rfl
  ·split<;>rfl
theorem specCl_go (L:List ILn) (hL:L.length≤1048576) (hv: ∀x∈L,okT x.f1) (key:ByteArray) (sd:Int) (me:ByteArray) (t:Int) (ht:okT t): ∀(r pre:List ILn) (best:Int),L=pre++r→best<(pre.length:Int)→(0≤best→okT (rdI L best).f1)→
  Ev (fun k=>spec_Closest.l0 k L key sd me t best (pre.length:Int)) (clG L key sd me t r best (pre.length:Int))
 | [],pre,best,hl,hb,hob=>Ev.step (f:=fun _=>some best) (fun k=>by rw[spec_Closest.l0,if_neg (by rw[hl];simp)]) (Ev.now _)
 |x::r,pre,best,hl,hb,hob=>by
  have hl2:pre.length≤1048576:=by rw[hl]at hL;simp at hL;omega
  have h1:(pre.length:Int)<(L.length:Int):=by rw[hl];exact len_mid pre x r
  have h2:(0:Int)≤(pre.length:Int):=by omega
  have hrd:rd_T26 L (pre.length:Int)=x:=by rw[hl];exact rdL_mid pre x r
  have hox:=hv x (by rw[hl];simp)
  have hbl:best<(L.length:Int):=by omega
  have hw:=wrap_upC (pre.length:Int) h2 (by omega)
  refine Ev.step (fun k=>specCl_flag k L key sd me t best _ x h1 h2 hrd) ?_
  unfold clG
  cases hf:fitX key sd me x
  ·have ih:=specCl_go L hL hv key sd me t ht r (pre++ [x]) best (by rw[hl];simp) (by rw[len_snoc];omega) hob
   rw[len_snoc]at ih
   simp only[Bool.not_false,Bool.false_eq_true,if_false]
   exact Ev.step (fun k=>by rw[spec_Closest.j2,if_pos rfl,hw]) ih
  ·have hn:nxtB L t best (pre.length:Int) x=(pre.length:Int)∨nxtB L t best (pre.length:Int) x=best:=by
    unfold nxtB
    split
    ·exact .inl rfl
    ·split
     ·exact .inl rfl
     ·split
      ·exact .inl rfl
      ·exact .inr rfl
   have ih:=specCl_go L hL hv key sd me t ht r (pre++ [x]) (nxtB L t best (pre.length:Int) x) (by rw[hl];simp) (by rw[len_snoc];rcases hn with e|e<;>rw[e]<;>omega) (by
    intro h
    rcases hn with e|e
    ·rw[e];unfold rdI;rw[hrd];exact hox
    ·rw[e]at h ⊢;exact hob h)
   rw[len_snoc]at ih
   simp only[Bool.not_true,if_true]
   exact Ev.step (fun k=>specCl_next k L key sd me t best _ x h1 h2 hrd hbl hox ht hob hw) ih
theorem implCl_flag (k:Nat) (L:List ILn) (key:ByteArray) (sd:Int) (me:ByteArray) (t best fr i n:Int) (x:ILn) (hn:i<n) (hi:i<(L.length:Int)) (h0:0≤i) (hx:rd_T26 L i=x):
  impl_closest.l0 (k+1) L key sd me t best fr L n i=impl_closest.j1 k L key sd me t best fr i L n i (!fitX key sd me x) x.f0 x.f1 x.f2 x.f3 x.f4 x.f5 x.f6 x.f7 x.f8 x.f9:=by
 rw[impl_closest.l0,if_pos hn,if_pos h0,if_pos hi,hx]
 unfold fitX
 by_cases c1:x.f0.toList=key.toList
 ·rw[if_pos c1,decide_eq_true c1,Bool.true_and]
  by_cases c2:x.f2=sd
  ·rw[if_pos c2,decide_eq_true c2,Bool.true_and]
   by_cases c3:x.f3.toList=me.toList
   ·rw[decide_eq_true c3,c3];simp
   ·rw[decide_eq_false c3,bne_iff_ne.2 c3];rfl
  ·rw[if_neg c2,decide_eq_false c2];rfl
 ·rw[if_neg c1,decide_eq_false c1];rfl
theorem implCl_next (k:Nat) (L:List ILn) (key:ByteArray) (sd:Int) (me:ByteArray) (t best fr i n:Int) (x:ILn) (hb:best<(L.length:Int)) (hox:okT x.f1) (hot:okT t) (hfr:0≤best→fr=farT (rdI L best).f1 t) (hi':wrap64 (i+1)=i+1):
  impl_closest.j1 (k+1) L key sd me t best fr i L n i false x.f0 x.f1 x.f2 x.f3 x.f4 x.f5 x.f6 x.f7 x.f8 x.f9=impl_closest.l0 k L key sd me t (nxtB L t best i x) (if nxtB L t best i x=best then fr else farT x.f1 t) L n (i+1)∨nxtB L t best i x=best∧best=i:=by
 rw[impl_closest.j1,if_neg Bool.false_ne_true,hi',implFar_is _ _ hox hot]
 by_cases hbi:best=i
 ·unfold nxtB
  by_cases c0:best<0
  ·right;rw[if_pos c0];exact⟨hbi.symm,hbi⟩
  ·right
   rw[if_neg c0]
   refine⟨?_,hbi⟩
   split
   ·exact hbi.symm
   ·split
    ·exact hbi.symm
    ·rfl
 left
 have hib: ¬i=best:=fun e=>hbi e.symm
 by_cases c0:best<0
 ·have e:nxtB L t best i x=i:=by unfold nxtB;rw[if_pos c0]
  rw[e,if_pos c0,if_neg hib]
 ·have hb0:0≤best:=by omega
  have hf:=hfr hb0
  rw[if_neg c0]
  by_cases c1:farT x.f1 t<fr
  ·have e:nxtB L t best i x=i:=by unfold nxtB;rw[if_neg c0,if_pos (hf ▸ c1)]
   rw[e,if_pos c1,if_neg hib]
  ·have c1': ¬farT x.f1 t<farT (rdI L best).f1 t:=hf ▸ c1
   rw[if_neg c1]
   by_cases c2:farT x.f1 t=fr
   ·rw[if_pos c2,if_pos hb0,if_pos hb]
    by_cases c3:x.f1=(rdI L best).f1
    ·have e:nxtB L t best i x=i:=by unfold nxtB;rw[if_neg c0,if_neg c1',if_pos c3]
     rw[e,if_pos c3,if_neg hib]
    ·have e:nxtB L t best i x=best:=by unfold nxtB;rw[if_neg c0,if_neg c1',if_neg c3]
     rw[e,if_neg c3,if_pos rfl]
   ·have c3: ¬x.f1=(rdI L best).f1:=fun e=>c2 (by rw[e,hf])
    have e:nxtB L t best i x=best:=by unfold nxtB;rw[if_neg c0,if_neg c1',if_neg c3]
    rw[e,if_neg c2,if_pos rfl]
theorem implCl_go (L:List ILn) (hL:L.length≤1048576) (hv: ∀x∈L,okT x.f1) (key:ByteArray) (sd:Int) (me:ByteArray) (t:Int) (ht:okT t): ∀(r pre:List ILn) (best fr:Int),L=pre++r→best<(pre.length:Int)→(0≤best→fr=farT (rdI L best).f1 t)→
  Ev (fun k=>impl_closest.l0 k L key sd me t best fr L (L.length:Int) (pre.length:Int)) (clG L key sd me t r best (pre.length:Int))
 | [],pre,best,fr,hl,hb,hob=>Ev.step (f:=fun _=>some best) (fun k=>by rw[impl_closest.l0,if_neg (by rw[hl];simp)]) (Ev.now _)
 |x::r,pre,best,fr,hl,hb,hob=>by
  have hl2:pre.length≤1048576:=by rw[hl]at hL;simp at hL;omega
  have h1:(pre.length:Int)<(L.length:Int):=by rw[hl];exact len_mid pre x r
  have h2:(0:Int)≤(pre.length:Int):=by omega
  have hrd:rd_T26 L (pre.length:Int)=x:=by rw[hl];exact rdL_mid pre x r
  have hox:=hv x (by rw[hl];simp)
  have hbl:best<(L.length:Int):=by omega
  have hne: ¬best=(pre.length:Int):=by omega
  have hw:=wrap_upC (pre.length:Int) h2 (by omega)
  refine Ev.step (fun k=>implCl_flag k L key sd me t best fr _ _ x h1 h1 h2 hrd) ?_
  unfold clG
  cases hf:fitX key sd me x
  ·have ih:=implCl_go L hL hv key sd me t ht r (pre++ [x]) best fr (by rw[hl];simp) (by rw[len_snoc];omega) hob
   rw[len_snoc]at ih
   simp only[Bool.not_false,Bool.false_eq_true,if_false]
   exact Ev.step (fun k=>by rw[impl_closest.j1,if_pos rfl,hw]) ih
  ·have hn:nxtB L t best (pre.length:Int) x=(pre.length:Int)∨nxtB L t best (pre.length:Int) x=best:=by
    unfold nxtB
    split
    ·exact .inl rfl
    ·split
     ·exact .inl rfl
     ·split
      ·exact .inl rfl
      ·exact .inr rfl
   have ih:=implCl_go L hL hv key sd me t ht r (pre++ [x]) (nxtB L t best (pre.length:Int) x) (if nxtB L t best (pre.length:Int) x=best then fr else farT x.f1 t) (by rw[hl];simp) (by rw[len_snoc];rcases hn with e|e<;>rw[e]<;>omega) (by
    intro h
    rcases hn with e|e
    ·have e2: ¬(pre.length:Int)=best:=fun q=>hne q.symm
     rw[e,if_neg e2];unfold rdI;rw[hrd]
    ·rw[e]at h ⊢;rw[if_pos rfl];exact hob h)
   rw[len_snoc]at ih
   simp only[Bool.not_true,if_true]
   exact Ev.step (fun k=>(implCl_next k L key sd me t best fr _ _ x hbl hox ht hob hw).resolve_right (fun q=>hne q.2)) ih
def closR (l:List ILn) (key:ByteArray) (sd:Int) (me:ByteArray) (t:Int):Int:=
 if idxOk l=true∧(decide (0≤t)&&decide (t≤253402300799))=true then clG l key sd me t l (-1) 0 else-1
theorem idx_times (l:List ILn) (h:idxOk l=true):l.length≤1048576∧ ∀x∈l,okT x.f1:=by
 unfold idxOk at h
 simp only[Bool.and_eq_true,decide_eq_true_eq]at h
 refine⟨by omega,fun x hx=>?_⟩
 have:=idxFrom_line l none h.2 x hx
 unfold lineX lineR at this
 simp only[Bool.and_eq_true,decide_eq_true_eq]at this
 exact⟨this.1.1.1.2.1,this.1.1.1.2.2⟩
theorem specClos_is (l:List ILn) (key:ByteArray) (sd:Int) (me:ByteArray) (t:Int) (hs: ∀y∈l,smallLn y):Ev (fun k=>spec_Closest.f k l key sd me t) (closR l key sd me t):=by
 have hj:Ev (fun k=>spec_Closest.j0 k l key sd me t true) (-1):=Ev.step (f:=fun _=>some (-1)) (fun k=>by rw[spec_Closest.j0,if_pos rfl]) (Ev.now _)
 unfold spec_Closest.f closR
 refine(specIdx_is l hs).bind ?_
 cases hk:idxOk l
 ·simp only[Bool.false_eq_true,if_false,false_and];exact hj
 ·have htm:spec_l2time.f t=some (decide (0≤t)&&decide (t≤253402300799)):=by
   unfold spec_l2time.f
   by_cases h:t≥0
   ·rw[if_pos h,decide_eq_true (show 0≤t from h),Bool.true_and]
   ·rw[if_neg h,decide_eq_false (show ¬0≤t from h),Bool.false_and]
  simp only[if_true,htm,Option.bind_some,true_and]
  cases ht:(decide (0≤t)&&decide (t≤253402300799))
  ·simp only[Bool.not_false,Bool.false_eq_true,if_false];exact hj
  ·simp only[Bool.not_true,if_true]
   simp only[Bool.and_eq_true,decide_eq_true_eq]at ht
   obtain⟨h1,h2⟩:=idx_times l hk
   refine Ev.step (f:=fun k=>spec_Closest.l0 k l key sd me t (-1) 0) (fun k=>by rw[spec_Closest.j0,if_neg Bool.false_ne_true]) ?_
   exact specCl_go l h1 h2 key sd me t ht l [] (-1) rfl (by simp) (fun h=>by omega)
theorem implClos_is (l:List ILn) (key:ByteArray) (sd:Int) (me:ByteArray) (t:Int) (hs: ∀y∈l,smallLn y):Ev (fun k=>impl_Closest.f k l key sd me t) (closR l key sd me t):=by
 unfold impl_Closest.f closR
 refine(implIdx_is l hs).bind ?_
 cases hk:idxOk l
 ·simp only[Bool.false_eq_true,if_false,false_and];exact Ev.now _
 ·have htm:impl_isTime.f t=some (decide (0≤t)&&decide (t≤253402300799)):=by unfold impl_isTime.f;rw[within_is];rfl
  simp only[if_true,htm,Option.bind_some,true_and]
  cases ht:(decide (0≤t)&&decide (t≤253402300799))
  ·simp only[Bool.false_eq_true,if_false];exact Ev.now _
  ·simp only[if_true]
   simp only[Bool.and_eq_true,decide_eq_true_eq]at ht
   obtain⟨h1,h2⟩:=idx_times l hk
   have:=implCl_go l h1 h2 key sd me t ht l [] (-1) 0 rfl (by simp) (fun h=>by omega)
   unfold impl_closest.f
   exact Ev.bind this (Ev.now _)
theorem FnExactClosest:laws_FnExactClosest.Pure:=by
 intro l key sd me t ⟨hl,hok⟩ _ _ _ _
 refine Ev.rounds ?_
 unfold laws_FnExactClosest.f
 by_cases hkey:(key.size:Int)>1048576
 ·simp only[if_pos hkey];exact Ev.now _
 simp only[if_neg hkey]
 by_cases hme:(me.size:Int)>1048576
 ·simp only[if_pos hme];exact Ev.now _
 simp only[if_neg hme]
 obtain⟨q,hq,hle,ht⟩:=szLineS_is l 1048576 hok hl (by decide) (by decide)
 refine hq.bind ?_
 by_cases h:q<0
 ·simp only[if_pos h];exact Ev.now _
 ·have ht':=ht (by omega)
  have hl2:l.length≤1048576:=by omega
  have hsm:=small_of l (by omega)
  have ht1:=toLineS_is l hl2
  have hlm:(l.map cLn).length≤1048576:=by rw[List.length_map];exact hl2
  simp only[if_neg h]
  refine ht1.bind ?_
  refine(specClos_is _ key sd me t hsm).bind ?_
  refine ht1.bind ?_
  refine(implClos_is _ key sd me t hsm).bind ?_
  simp only[if_true]
  refine ht1.bind ?_
  refine(eqLineS_is _ hlm).bind ?_
  simp only[if_true]
  exact Ev.now _
end Go.Proofs.YteojcbbifacpnaaGreatDoor.Pure
