/- RecText of the program and of the reference agree, and the call returns true, for every record. No condition. -/
import Derived.Test.YthmehmehoehlpaaGreatDoorGFnExactRecTextx36
import Derived.Laws.BitsLemmas
import Derived.Laws.Strings
import Derived.Lib.AtoiAll
import Derived.Lib.Index
import Derived.Lib.IndexAny
import Derived.Lib.IndexMore
import Derived.Lib.ItoaNum
import Derived.Lib.Join
import Derived.Lib.SplitLaws
import Derived.OpenShut
namespace Go.Proofs.YthmehmehoehlpaaGreatDoor.Pure
open Go.RowKit Go.Proofs.YthmehmehoehlpaaGreatDoor.GFnExactRecText Go.Proofs.YthmehmehoehlpaaGreatDoorW.PrintWords Go.Proofs.YthmehmehoehlpaaGreatDoorW.PrintLast Go.Proofs.YthmehmehoehlpaaGreatDoorW.PrintMore
set_option linter.unusedVariables false
set_option linter.unusedSimpArgs false
theorem toList_inj {a b:ByteArray} (h:a.toList=b.toList):a=b:=by
 rw[ByteArray.toList_eq,ByteArray.toList_eq]at h
 cases a;cases b;simp_all
theorem getD_mid {α:Type} (pre:List α) (x:α) (r:List α) (z:α):(pre++x::r).getD ((pre.length:Int).toNat) z=x:=by simp[List.getD]
theorem wrap_id {a:Int} (h1: -9223372036854775808≤a) (h2:a≤9223372036854775807):wrap64 a=a:=by unfold wrap64;omega
theorem len_mid {α:Type} (pre:List α) (x:α) (r:List α):(pre.length:Int)<((pre++x::r).length:Int):=by simp;omega
theorem app_mid {α:Type} (pre:List α) (x:α) (r:List α):pre++x::r=(pre++ [x])++r:=by simp
theorem len_snoc {α:Type} (pre:List α) (x:α):((pre++ [x]).length:Int)=(pre.length:Int)+1:=by simp
theorem size_strOf (xs:List Int):(strOfNums xs).size=xs.length:=by
 show(strOfNums xs).data.size=_
 simp[strOfNums]
def mkB (l:List UInt8):ByteArray:=⟨l.toArray⟩
def bl (s:ByteArray):List UInt8:=s.data.toList
theorem mk_bl (s:ByteArray):mkB (bl s)=s:=by cases s;simp[mkB,bl]
theorem bl_mk (l:List UInt8):bl (mkB l)=l:=by simp[mkB,bl]
theorem size_mk (l:List UInt8):(mkB l).size=l.length:=by show(mkB l).data.size=_;simp[mkB]
theorem size_bl (s:ByteArray):(bl s).length=s.size:=by rw[bl,Array.length_toList];rfl
theorem toList_bl (s:ByteArray):s.toList=bl s:=ByteArray.toList_eq s
theorem toList_mk (l:List UInt8):(mkB l).toList=l:=by rw[toList_bl,bl_mk]
theorem getB (l:List UInt8) (i:Nat) (h:i<(mkB l).size):(mkB l)[i]'h=l[i]'(by rwa [size_mk]at h):=by
 show(mkB l).data[i]'h=_
 simp[mkB]
theorem bt_at_ (l:List UInt8) (i:Nat) (h:i<l.length):bt (mkB l) (i:Int)=((l[i]'h).toNat:Int):=by
 unfold bt
 rw[dif_pos (by rw[size_mk];simpa using h),getB]
 simp
theorem bt_mid (pre:List UInt8) (b:UInt8) (r:List UInt8):bt (mkB (pre++b::r)) (pre.length:Int)=(b.toNat:Int):=by
 rw[bt_at_ _ _ (by simp)]
 simp
theorem extract_mk (l:List UInt8) (i j:Nat):(mkB l).extract i j=mkB ((l.drop i).take (j-i)):=by
 apply toList_inj
 rw[toList_mk,toList_bl,bl,ByteArray.data_extract,Array.toList_extract]
 simp[mkB,List.extract]
theorem drop_mid (pre:List UInt8) (b:UInt8) (r:List UInt8):(pre++b::r).drop (pre.length+1)=r:=by
 rw[app_mid,List.drop_left' (by simp)]
theorem size_lt_mid (pre:List UInt8) (b:UInt8) (r:List UInt8):(pre.length:Int)<((mkB (pre++b::r)).size:Int):=by rw[size_mk];exact len_mid ..
theorem u8_lt (b:UInt8):(b.toNat:Int)<256:=by have:=b.toNat_lt;omega
theorem all_loop (F:Nat→ByteArray→Int→Option Bool) (G:Nat→Int→Option Bool) (p:UInt8→Bool) (hG: ∀b:UInt8,Ev (fun k=>G k b.toNat) (p b))
  (hF: ∀k s i,F (k+1) s i=if i<(s.size:Int)then(if 0≤i then(G k (bt s i)).bind fun t=>(if t=true then F k s (wrap64 (i+1))else some false)else none)else some true):
  ∀(r pre:List UInt8),(pre++r).length≤9223372036854775806→Ev (fun k=>F k (mkB (pre++r)) pre.length) (r.all p)
 | [],pre,_=>Ev.step (f:=fun _=>some true) (fun k=>by rw[hF,size_mk];simp) (Ev.now _)
 |b::r,pre,hl=>by
  have ih:=all_loop F G p hG hF r (pre++ [b]) (by rw[←app_mid];exact hl)
  rw[←app_mid,len_snoc]at ih
  simp at hl
  refine Ev.step (f:=fun k=>(G k b.toNat).bind fun t=>(if t=true then F k (mkB (pre++b::r)) (pre.length+1)else some false)) (fun k=>?_) ?_
  ·rw[hF,if_pos (size_lt_mid ..),if_pos (by omega),bt_mid,wrap_id (by omega) (by omega)]
  refine(hG b).bind ?_
  cases hp:p b
  ·simpa [List.all_cons,hp]using Ev.now false
  ·simpa [List.all_cons,hp]using ih
theorem all_ev (F:Nat→ByteArray→Int→Option Bool) (G:Nat→Int→Option Bool) (p:UInt8→Bool) (hG: ∀b:UInt8,Ev (fun k=>G k b.toNat) (p b))
  (hF: ∀k s i,F (k+1) s i=if i<(s.size:Int)then(if 0≤i then(G k (bt s i)).bind fun t=>(if t=true then F k s (wrap64 (i+1))else some false)else none)else some true)
  (s:ByteArray) (hs:s.size≤9223372036854775806):Ev (fun k=>F k s 0) ((bl s).all p):=by
 have:=all_loop F G p hG hF (bl s) [] (by simpa [size_bl]using hs)
 simpa [mk_bl]using this
theorem Ev.const {α:Type} {x:Option α} {r:α} (h:x=some r):Ev (fun _=>x) r:=⟨0,fun _ _=>h⟩
def wn (b:Nat) (l:List Nat):Nat:=l.foldl (fun a c=>a*b+c) 0
theorem wn_snoc (b:Nat) (l:List Nat) (x:Nat):wn b (l++ [x])=wn b l*b+x:=by simp[wn]
theorem wn_inj (b:Nat) (hb:0<b): ∀(n:Nat) (l m:List Nat),l.length=n→m.length=n→(∀x∈l,x<b)→(∀x∈m,x<b)→wn b l=wn b m→l=m:=by
 intro n
 induction n with
 |zero=>intro l m hl hm _ _ _;rw[List.length_eq_zero_iff.1 hl,List.length_eq_zero_iff.1 hm]
 |succ n ih=>
  intro l m hl hm h1 h2 h
  rcases List.eq_nil_or_concat l with rfl|⟨l',x,rfl⟩
  ·cases hl
  rcases List.eq_nil_or_concat m with rfl|⟨m',y,rfl⟩
  ·cases hm
  rw[List.concat_eq_append]at*
  rw[List.concat_eq_append]at*
  rw[wn_snoc,wn_snoc]at h
  have hx:x<b:=h1 x (by simp)
  have hy:y<b:=h2 y (by simp)
  have e1:x=y:=by
   have:=congrArg (· %b) h
   simp only[Nat.mul_add_mod_self_right,Nat.mod_eq_of_lt hx,Nat.mod_eq_of_lt hy]at this
   exact this
  have e2:wn b l'=wn b m':=by
   rw[e1]at h
   exact Nat.eq_of_mul_eq_mul_right hb (Nat.add_right_cancel h)
  rw[ih l' m' (by simp at hl;exact hl) (by simp at hm;exact hm) (fun z hz=>h1 z (by simp[hz])) (fun z hz=>h2 z (by simp[hz])) e2,e1]
def letV (b:UInt8):Int:=if 65≤b.toNat∧b.toNat≤90 then(b.toNat:Int)-65 else if 50≤b.toNat∧b.toNat≤55 then(b.toNat:Int)-24 else-1
def letN (b:UInt8):Nat:=(letV b).toNat
def letOk (b:UInt8):Bool:=decide (0≤letV b)
def letC (v:Nat):UInt8:=if v<26 then UInt8.ofNat (65+v)else UInt8.ofNat (24+v)
theorem letV_facts (b:UInt8):(letOk b=true→letC (letN b)=b∧letN b<32∧letV b=(letN b:Int))∧(letOk b=false→letV b= -1):=by
 have key: ∀n:Fin 256,(letOk (UInt8.ofNat n.val)=true→letC (letN (UInt8.ofNat n.val))=UInt8.ofNat n.val∧letN (UInt8.ofNat n.val)<32∧letV (UInt8.ofNat n.val)=(letN (UInt8.ofNat n.val):Int))∧(letOk (UInt8.ofNat n.val)=false→letV (UInt8.ofNat n.val)= -1):=by decide+kernel
 have:=key ⟨b.toNat,b.toNat_lt⟩
 simp only[UInt8.ofNat_toNat]at this
 exact this
def LETB:ByteArray:=⟨#[65,66,67,68,69,70,71,72,73,74,75,76,77,78,79,80,81,82,83,84,85,86,87,88,89,90,50,51,52,53,54,55]⟩
theorem bt_let (v:Nat) (hv:v<32):bt LETB (v:Int)=((letC v).toNat:Int):=by
 have key: ∀n:Fin 32,bt LETB (n.val:Int)=((letC n.val).toNat:Int):=by decide+kernel
 exact key ⟨v,hv⟩
theorem let_map (l:List UInt8) (h:l.all letOk=true):(l.map letN).map letC=l:=by
 rw[List.map_map]
 conv=>rhs;rw[←List.map_id l]
 refine List.map_congr_left fun b hb=>?_
 exact((letV_facts b).1 (List.all_eq_true.1 h b hb)).1
theorem strOf_let (J:List Nat):strOfNums (J.map fun v=>((letC v).toNat:Int))=mkB (J.map letC):=by simp[strOfNums,mkB,Function.comp_def]
def wb (l:List UInt8):Nat:=wn 32 (l.map letN)
theorem wb_snoc (l:List UInt8) (b:UInt8):wb (l++ [b])=wb l*32+letN b:=by unfold wb;rw[List.map_append];exact wn_snoc _ _ _
theorem toI_snoc (A:List Nat) (x:Nat):(A++ [x]).map (fun v:Nat=>(v:Int))=A.map (fun v:Nat=>(v:Int))++ [(x:Int)]:=by simp
theorem strOf_nat (A:List Nat):strOfNums (A.map fun v:Nat=>(v:Int))=mkB (A.map fun v=>UInt8.ofNat v):=by
 simp[strOfNums,mkB,Function.comp_def]
theorem bt_nat (A R:List Nat) (x:Nat) (hx:x<256):bt (mkB ((A++x::R).map fun v=>UInt8.ofNat v)) (A.length:Int)=(x:Int):=by
 rw[List.map_append,List.map_cons]
 have:=bt_mid (A.map fun v=>UInt8.ofNat v) (UInt8.ofNat x) (R.map fun v=>UInt8.ofNat v)
 rw[List.length_map]at this
 rw[this]
 simp;omega
theorem shrs_nat (x c:Nat) (hc:c≤63):shr .i64 (x:Int) (c:Int)=((x/2^c:Nat):Int):=by
 unfold shr
 have e:min ((c:Int)).toNat IntKind.i64.bits=c:=by rw[Int.toNat_natCast];exact Nat.min_eq_left (by show c≤64;omega)
 rw[e];simp
theorem and1n (Q:Nat) (h:Q≤1000000):Go.bits .and .i64 (Q:Int) 1=((Q%2:Nat):Int):=by
 have:=bits_mask .i64 62 (by decide) (fun n h0 h1=>by rw[IntKind.wrap_i64];omega) 1 (by decide) (Q:Int) (by omega) (by omega)
 have e:((2:Int)^1-1)=1:=by decide
 rw[e]at this
 rw[this];omega
theorem wn_append (b:Nat) (l:List Nat): ∀m:List Nat,wn b (l++m)=wn b l*b^m.length+wn b m:=by
 intro m
 generalize hn:m.length=n
 induction n generalizing m with
 |zero=>rw[List.length_eq_zero_iff.1 hn];simp[wn]
 |succ n ih=>
  rcases List.eq_nil_or_concat m with rfl|⟨m',x,rfl⟩
  ·cases hn
  ·rw[List.concat_eq_append]at*
   rw[←List.append_assoc,wn_snoc,wn_snoc,ih m' (by simp at hn;exact hn),Nat.pow_succ,Nat.add_mul,Nat.mul_assoc];omega
theorem wn_lt (b:Nat) (hb:0<b): ∀m:List Nat,(∀x∈m,x<b)→wn b m<b^m.length:=by
 intro m
 generalize hn:m.length=n
 induction n generalizing m with
 |zero=>intro _;rw[List.length_eq_zero_iff.1 hn];simp[wn]
 |succ n ih=>
  intro h
  rcases List.eq_nil_or_concat m with rfl|⟨m',x,rfl⟩
  ·cases hn
  ·rw[List.concat_eq_append]at*
   have h1:=ih m' (by simp at hn;exact hn) (fun y hy=>h y (by simp[hy]))
   have h2:x<b:=h x (by simp)
   rw[wn_snoc,Nat.pow_succ]
   calc wn b m'*b+x<wn b m'*b+b:=by omega
    _=(wn b m'+1)*b:=by rw[Nat.add_mul,Nat.one_mul]
    _≤b^n*b:=Nat.mul_le_mul_right _ h1
theorem half_step (N m:Nat):N/2^m=2*(N/2^(m+1))+N/2^m%2:=by
 rw[Nat.pow_succ,←Nat.div_div_eq_div_mul];omega
theorem bit_of (W b r:Nat) (hb:b<256) (hr:r<8):(W*256+b)/2^(7-r)%2=b/2^(7-r)%2:=by
 have h:r=0∨r=1∨r=2∨r=3∨r=4∨r=5∨r=6∨r=7:=by omega
 rcases h with rfl|rfl|rfl|rfl|rfl|rfl|rfl|rfl<;>simp only[Nat.reduceSub,Nat.reducePow]<;>omega
theorem wrap_nat (q:Nat) (h:q≤1000000):wrap64 (q:Int)=(q:Int):=wrap_id (by omega) (by omega)
theorem wrap_seven (r:Nat) (h:r<8):wrap64 (7-(r:Int))=((7-r:Nat):Int):=by rw[wrap_id (by omega) (by omega)];omega
theorem l1bit_is (D:List Nat) (hD: ∀x∈D,x<256) (h20:D.length=20) (at_:Nat) (ha:at_<160):
  spec_l1bit.f (mkB (D.map fun v=>UInt8.ofNat v)) (at_:Int)=some ((wn 256 D/2^(159-at_)%2:Nat):Int):=by
 obtain⟨q,r,hr,rfl⟩: ∃q r,r<8∧at_=8*q+r:=⟨at_/8,at_%8,by omega,by omega⟩
 have hq:q<20:=by omega
 obtain⟨A,b,R,hAR,hA⟩: ∃A b R,D=A++b::R∧A.length=q:=by
  refine⟨D.take q,D[q],D.drop (q+1),?_,by rw[List.length_take];omega⟩
  rw[←List.drop_eq_getElem_cons (by omega),List.take_append_drop]
 have hb:b<256:=hD b (by rw[hAR];simp)
 have hR:R.length=19-q:=by have:=congrArg List.length hAR;simp at this;omega
 have hRl:=wn_lt 256 (by decide) R (fun x hx=>hD x (by rw[hAR];simp[hx]))
 have hbt:bt (mkB (D.map fun v=>UInt8.ofNat v)) (q:Int)=(b:Int):=by rw[←hA,hAR];exact bt_nat A R b hb
 have hw:wn 256 D/2^(159-(8*q+r))%2=b/2^(7-r)%2:=by
  have e1:159-(8*q+r)=8*R.length+(7-r):=by omega
  have e2:D=(A++ [b])++R:=by rw[hAR];simp
  have e3:(2:Nat)^(8*R.length)=256^R.length:=by rw[Nat.pow_mul]
  rw[e1,Nat.pow_add,e3,←Nat.div_div_eq_div_mul,e2,wn_append,Nat.mul_comm (wn 256 (A++ [b])),Nat.mul_add_div (Nat.pow_pos (by decide)),Nat.div_eq_of_lt hRl,Nat.add_zero,wn_snoc]
  exact bit_of _ b r hb hr
 have t1:Int.tdiv ((8*q+r:Nat):Int) 8=(q:Int):=by rw[Int.tdiv_eq_ediv_of_nonneg (by omega)];omega
 have t2:Int.tmod ((8*q+r:Nat):Int) 8=(r:Int):=by rw[Int.tmod_eq_emod_of_nonneg (by omega)];omega
 have hs:=shrs_nat b (7-r) (by omega)
 have hm:=and1n (b/2^(7-r)) (by have:=Nat.div_le_self b (2^(7-r));omega)
 have hsz:((mkB (D.map fun v=>UInt8.ofNat v)).size:Int)=20:=by rw[size_mk,List.length_map,h20];rfl
 have c1: ¬(q:Int)≥20:=by omega
 have c2:(0:Int)≤(q:Int):=by omega
 have c3:(q:Int)<20:=by omega
 have c4:(0:Int)≤((7-r:Nat):Int):=by omega
 have w1:=wrap_nat q (by omega)
 have w2:=wrap_seven r hr
 have w3:=wrap_nat b (Nat.le_trans (Nat.le_of_lt hb) (by decide))
 rw[hw]
 unfold spec_l1bit.f
 rw[t1,t2,w1,w2,hsz,hbt,w3,hs,hm,if_neg c1,if_pos c2,if_pos c3,if_pos c4]
theorem specB32_cell (k:Nat) (L:ByteArray) (X:List Int) (i v j t v' j' n:Int) (hj:j<5) (hn:wrap64 (i+j)=n) (ht:spec_l1bit.f L n=some t) (hv:wrap64 ((wrap64 (2*v))+t)=v') (hj':wrap64 (j+1)=j'):
  spec_Base32.l1 (k+1) L X i v j=spec_Base32.l1 k L X i v' j':=by
 rw[spec_Base32.l1,if_pos hj,hn,ht,Option.bind_some,hv,hj']
theorem specB32_put (k:Nat) (L:ByteArray) (X:List Int) (i v c i':Int) (h0:0≤v) (h32:v<32) (hX:X.length<140737488355328) (hc:bt (⟨#[65,66,67,68,69,70,71,72,73,74,75,76,77,78,79,80,81,82,83,84,85,86,87,88,89,90,50,51,52,53,54,55]⟩:ByteArray) v=c) (hi:wrap64 (i+5)=i'):
  spec_Base32.l1 (k+1) L X i v 5=spec_Base32.l0 k L (X++ [c]) i':=by
 rw[spec_Base32.l1,if_neg (by decide),if_pos h0,if_pos h32,if_pos hX,hc,hi]
theorem wrap_pluss (a b:Nat) (h:a+b≤1000000):wrap64 ((a:Int)+(b:Int))=((a+b:Nat):Int):=by rw[wrap_id (by omega) (by omega)];omega
theorem wrap_two (v t:Nat) (h:v≤1000) (ht:t≤1):wrap64 ((wrap64 (2*(v:Int)))+(t:Int))=((2*v+t:Nat):Int):=by
 rw[wrap_id (a:=2*(v:Int)) (by omega) (by omega),wrap_id (by omega) (by omega)];omega
theorem specB32_letter (D:List Nat) (hD: ∀x∈D,x<256) (h20:D.length=20) (X:List Int) (hX:X.length<1000) (i:Nat) (hi:i+5≤160) (res:ByteArray)
  (hK: ∀v:Nat,v<32→wn 256 D/2^(160-(i+5))=32*(wn 256 D/2^(160-i))+v→Ev (fun k=>spec_Base32.l0 k (mkB (D.map fun v=>UInt8.ofNat v)) (X++ [((letC v).toNat:Int)]) ((i+5:Nat):Int)) res):
  Ev (fun k=>spec_Base32.l1 k (mkB (D.map fun v=>UInt8.ofNat v)) X (i:Int) 0 0) res:=by
 have hb:=fun(a:Nat) (h:a<160)=>l1bit_is D hD h20 a h
 have hh: ∀a,a<160→wn 256 D/2^(160-(a+1))=2*(wn 256 D/2^(160-a))+wn 256 D/2^(159-a)%2:=by
  intro a ha
  have:=half_step (wn 256 D) (159-a)
  rw[show 159-a+1=160-a by omega]at this
  rw[show 160-(a+1)=159-a by omega];exact this
 have b0:=hb (i+0) (by omega)
 have b1:=hb (i+1) (by omega)
 have b2:=hb (i+2) (by omega)
 have b3:=hb (i+3) (by omega)
 have b4:=hb (i+4) (by omega)
 have s0:=hh i (by omega)
 have s1:=hh (i+1) (by omega)
 have s2:=hh (i+1+1) (by omega)
 have s3:=hh (i+1+1+1) (by omega)
 have s4:=hh (i+1+1+1+1) (by omega)
 rw[Nat.add_zero]at b0
 simp only[Nat.add_assoc,Nat.reduceAdd]at s1 s2 s3 s4
 have l0:wn 256 D/2^(159-i)%2<2:=Nat.mod_lt _ (by decide)
 have l1:wn 256 D/2^(159-(i+1))%2<2:=Nat.mod_lt _ (by decide)
 have l2:wn 256 D/2^(159-(i+2))%2<2:=Nat.mod_lt _ (by decide)
 have l3:wn 256 D/2^(159-(i+3))%2<2:=Nat.mod_lt _ (by decide)
 have l4:wn 256 D/2^(159-(i+4))%2<2:=Nat.mod_lt _ (by decide)
 generalize wn 256 D/2^(159-i)%2=t0 at*
 generalize wn 256 D/2^(159-(i+1))%2=t1 at*
 generalize wn 256 D/2^(159-(i+2))%2=t2 at*
 generalize wn 256 D/2^(159-(i+3))%2=t3 at*
 generalize wn 256 D/2^(159-(i+4))%2=t4 at*
 have hfin:=hK (2*(2*(2*(2*(2*0+t0)+t1)+t2)+t3)+t4) (by omega) (by omega)
 have hlt:2*(2*(2*(2*(2*0+t0)+t1)+t2)+t3)+t4<32:=by omega
 have hbt:=bt_let _ hlt
 unfold LETB at hbt
 refine Ev.step (fun k=>specB32_cell k _ _ _ _ _ _ _ _ _ (by decide) (wrap_pluss i 0 (by omega)) b0 (wrap_two 0 t0 (by omega) (by omega)) (wrap_pluss 0 1 (by decide))) ?_
 refine Ev.step (fun k=>specB32_cell k _ _ _ _ _ _ _ _ _ (by decide) (wrap_pluss i 1 (by omega)) b1 (wrap_two _ t1 (by omega) (by omega)) (wrap_pluss 1 1 (by decide))) ?_
 refine Ev.step (fun k=>specB32_cell k _ _ _ _ _ _ _ _ _ (by decide) (wrap_pluss i 2 (by omega)) b2 (wrap_two _ t2 (by omega) (by omega)) (wrap_pluss 2 1 (by decide))) ?_
 refine Ev.step (fun k=>specB32_cell k _ _ _ _ _ _ _ _ _ (by decide) (wrap_pluss i 3 (by omega)) b3 (wrap_two _ t3 (by omega) (by omega)) (wrap_pluss 3 1 (by decide))) ?_
 refine Ev.step (fun k=>specB32_cell k _ _ _ _ _ _ _ _ _ (by decide) (wrap_pluss i 4 (by omega)) b4 (wrap_two _ t4 (by omega) (by omega)) (wrap_pluss 4 1 (by decide))) ?_
 exact Ev.step (fun k=>specB32_put k _ _ _ _ _ _ (by omega) (by omega) (by omega) hbt (wrap_pluss i 5 (by omega))) hfin
def letJs (J:List Nat):List Int:=J.map fun v=>((letC v).toNat:Int)
theorem specB32_go (D:List Nat) (hD: ∀x∈D,x<256) (h20:D.length=20) (l:List UInt8) (hl:l.all letOk=true) (h32:l.length=32) (hv:wb l=wn 256 D):
  ∀(n i:Nat) (J:List Nat),i+n=32→J.length=i→(∀x∈J,x<32)→wn 32 J=wn 256 D/2^(160-5*i)→
  Ev (fun k=>spec_Base32.l0 k (mkB (D.map fun v=>UInt8.ofNat v)) (letJs J) ((5*i:Nat):Int)) (mkB l):=by
 have hsz:wrap64 (8*((mkB (D.map fun v=>UInt8.ofNat v)).size:Int))=160:=by rw[size_mk,List.length_map,h20,wrap_id (by decide) (by decide)];rfl
 intro n
 induction n with
 |zero=>
  intro i J hi hJl hJ hw
  obtain rfl:i=32:=by omega
  rw[Nat.sub_self,Nat.pow_zero,Nat.div_one,←hv]at hw
  have e:J=l.map letN:=wn_inj 32 (by decide) 32 J (l.map letN) hJl (by rw[List.length_map];exact h32) hJ (by
   intro x hx
   obtain⟨b,hb,rfl⟩:=List.mem_map.1 hx
   exact((letV_facts b).1 (List.all_eq_true.1 hl b hb)).2.1) hw
  refine Ev.step (f:=fun _=>some (mkB l)) (fun k=>?_) (Ev.now _)
  rw[spec_Base32.l0,hsz,if_neg (by decide)]
  unfold letJs
  rw[strOf_let,e,let_map l hl]
 |succ n ih=>
  intro i J hi hJl hJ hw
  refine Ev.step (fun k=>?_) (specB32_letter D hD h20 (letJs J) (by unfold letJs;rw[List.length_map];omega) (5*i) (by omega) (mkB l) (fun v hv32 hvv=>?_))
  ·have c1:((5*i:Nat):Int)<160:=by omega
   rw[spec_Base32.l0,hsz,if_pos c1]
  ·have:=ih (i+1) (J++ [v]) (by omega) (by rw[List.length_append,List.length_singleton];omega) (by
    intro x hx
    rcases List.mem_append.1 hx with hx|hx
    ·exact hJ x hx
    ·simp at hx;omega) (by rw[wn_snoc,hw,show 160-5*(i+1)=160-(5*i+5)by omega,hvv,Nat.mul_comm])
   rw[show 5*(i+1)=5*i+5 by omega]at this
   have e:letJs (J++ [v])=letJs J++ [((letC v).toNat:Int)]:=by unfold letJs;rw[List.map_append];rfl
   rw[e]at this
   exact this
theorem specB32_is (D:List Nat) (hD: ∀x∈D,x<256) (h20:D.length=20) (l:List UInt8) (hl:l.all letOk=true) (h32:l.length=32) (hv:wb l=wn 256 D):
  Ev (fun k=>spec_Base32.f k (strOfNums (D.map fun v:Nat=>(v:Int)))) (mkB l):=by
 rw[strOf_nat]
 unfold spec_Base32.f
 simp only[if_neg (show ¬((mkB (D.map fun v=>UInt8.ofNat v)).size:Int)>4000 by rw[size_mk,List.length_map];omega)]
 refine specB32_go D hD h20 l hl h32 hv 32 0 [] rfl rfl (by simp) ?_
 have hlt:=wn_lt 256 (by decide) D hD
 rw[h20]at hlt
 have e:(256:Nat)^20=2^(160-5*0):=by decide
 rw[e]at hlt
 rw[Nat.div_eq_of_lt hlt];rfl
def PB (acc:List Int) (at_ X:Nat):Prop:= ∃(A:List Nat) (r Y n:Nat),acc=A.map (fun v:Nat=>(v:Int))++(if n=0 then []else((Y*2^(8-r):Nat):Int)::List.replicate (n-1) 0)∧8*A.length+r=at_∧A.length+n=20∧r<8∧Y<2^r∧(∀x∈A,x<256)∧wn 256 A*2^r+Y=X
theorem PB_step (acc:List Int) (at_ X t:Nat) (h:PB acc at_ X) (ha:at_<160) (ht:t≤1):
  PB (if t=1 then acc.set (at_/8) ((rd acc ((at_/8:Nat):Int)+((2^(7-at_%8):Nat):Int))%256)else acc) (at_+1) (2*X+t)∧acc.length=20:=by
 obtain⟨A,r,Y,n,hacc,h1,h2,h3,h4,h5,h6⟩:=h
 have hn:n≠0:=by omega
 obtain⟨m,rfl⟩: ∃m,n=m+1:=⟨n-1,by omega⟩
 have hq:at_/8=A.length:=by omega
 have hr:at_%8=r:=by omega
 rw[if_neg hn,Nat.add_sub_cancel]at hacc
 have hlen:acc.length=20:=by rw[hacc];simp;omega
 refine⟨?_,hlen⟩
 rw[hq,hr]
 have hrd:rd acc (A.length:Int)=((Y*2^(8-r):Nat):Int):=by
  rw[hacc]
  show(A.map _++_).getD (A.length:Int).toNat 0=_
  rw[Int.toNat_natCast,List.getD_eq_getElem?_getD,List.getElem?_append_right (by simp)]
  simp
 have hset: ∀z:Int,acc.set A.length z=A.map (fun v:Nat=>(v:Int))++z::List.replicate m 0:=by
  intro z
  rw[hacc,List.set_append_right _ _ (by simp)]
  simp
 have hb:Y*2^(8-r)+2^(7-r)<256∧(2*Y+1)*2^(7-r)=Y*2^(8-r)+2^(7-r)∧2*Y*2^(7-r)=Y*2^(8-r):=by
  have h:r=0∨r=1∨r=2∨r=3∨r=4∨r=5∨r=6∨r=7:=by omega
  rcases h with rfl|rfl|rfl|rfl|rfl|rfl|rfl|rfl<;>simp only[Nat.reduceSub,Nat.reducePow]at* <;>omega
 obtain⟨hb1,hb2,hb3⟩:=hb
 have hacc2:(if t=1 then acc.set A.length ((rd acc (A.length:Int)+((2^(7-r):Nat):Int))%256)else acc)=A.map (fun v:Nat=>(v:Int))++(((2*Y+t)*2^(7-r):Nat):Int)::List.replicate m 0:=by
  by_cases ht1:t=1
  ·rw[if_pos ht1,hset,hrd,ht1,hb2]
   congr 2
   omega
  ·have ht0:t=0:=by omega
   rw[if_neg ht1,ht0,Nat.add_zero,hb3,hacc]
 rw[hacc2]
 by_cases h7:r=7
 ·subst h7
  refine⟨A++ [2*Y+t],0,0,m,?_,by rw[List.length_append,List.length_singleton];omega,by rw[List.length_append,List.length_singleton];omega,by decide,by decide,?_,by rw[wn_snoc,←h6];simp only[Nat.reducePow];omega⟩
  ·rw[toI_snoc,List.append_assoc]
   congr 1
   simp only[Nat.sub_self,Nat.pow_zero,Nat.mul_one,Nat.zero_mul,List.singleton_append]
   congr 1
   cases m with
   |zero=>rfl
   |succ m=>rw[if_neg (by omega),Nat.add_sub_cancel];rfl
  ·intro x hx
   rcases List.mem_append.1 hx with hx|hx
   ·exact h5 x hx
   ·simp at hx
    simp only[Nat.reducePow]at h4
    omega
 ·refine⟨A,r+1,2*Y+t,m+1,?_,by omega,h2,by omega,by rw[Nat.pow_succ];omega,h5,by rw[Nat.pow_succ,←h6,←Nat.mul_assoc];omega⟩
  rw[if_neg (by omega),Nat.add_sub_cancel,show 8-(r+1)=7-r by omega]
theorem PB_zero:PB (List.replicate 20 0) 0 0:=⟨[],0,0,20,by simp[List.replicate],rfl,rfl,by decide,by decide,by simp,rfl⟩
theorem PB_end (acc:List Int) (X:Nat) (h:PB acc 160 X): ∃A:List Nat,acc=A.map (fun v:Nat=>(v:Int))∧A.length=20∧(∀x∈A,x<256)∧wn 256 A=X:=by
 obtain⟨A,r,Y,n,hacc,h1,h2,h3,h4,h5,h6⟩:=h
 have hn:n=0:=by omega
 have hr:r=0:=by omega
 subst hn;subst hr
 rw[if_pos rfl,List.append_nil]at hacc
 rw[Nat.pow_zero]at h4
 refine⟨A,hacc,by omega,h5,?_⟩
 rw[Nat.pow_zero,Nat.mul_one]at h6;omega
theorem specRB32_set (k:Nat) (L:ByteArray) (X:List Int) (i d j n q e s g j':Int) (hj:j<5) (hn:wrap64 ((wrap64 (5*i))+j)=n) (hq:wrap64 (Int.tdiv n 8)=q) (hl:q<(X.length:Int)) (hs:wrap64 (4-j)=s) (h0s:0≤s) (hb:Go.bits .and .i64 (shr .i64 d s) 1=1) (h0q:0≤q) (he:wrap64 (7-(Int.tmod n 8))=e) (h0e:0≤e) (hg:(rd X q+shl .u8 1 e)%256=g) (hj':wrap64 (j+1)=j'):
  spec_ReadBase32.l1 (k+1) L X i d j=spec_ReadBase32.l1 k L (X.set q.toNat g) i d j':=by
 rw[spec_ReadBase32.l1,if_pos hj,hn,hq,if_pos hl,hs,if_pos h0s,if_pos hb,if_pos h0q,he,if_pos h0e,hg,hj']
theorem specRB32_skip (k:Nat) (L:ByteArray) (X:List Int) (i d j n q s j':Int) (hj:j<5) (hn:wrap64 ((wrap64 (5*i))+j)=n) (hq:wrap64 (Int.tdiv n 8)=q) (hl:q<(X.length:Int)) (hs:wrap64 (4-j)=s) (h0s:0≤s) (hb: ¬Go.bits .and .i64 (shr .i64 d s) 1=1) (hj':wrap64 (j+1)=j'):
  spec_ReadBase32.l1 (k+1) L X i d j=spec_ReadBase32.l1 k L X i d j':=by
 rw[spec_ReadBase32.l1,if_pos hj,hn,hq,if_pos hl,hs,if_pos h0s,if_neg hb,hj']
theorem shl_u8 (e:Nat) (he:e<8):shl .u8 1 (e:Int)=((2^e:Nat):Int):=by
 have h:e=0∨e=1∨e=2∨e=3∨e=4∨e=5∨e=6∨e=7:=by omega
 rcases h with rfl|rfl|rfl|rfl|rfl|rfl|rfl|rfl<;>decide
theorem specRB32_bit (L:ByteArray) (acc:List Int) (i d j X:Nat) (hi:i<32) (hj:j<5) (hd:d<32) (hP:PB acc (5*i+j) X) (ok:Bool)
  (hK: ∀acc',PB acc' (5*i+(j+1)) (2*X+d/2^(4-j)%2)→ ∃x:ByteArray,Ev (fun k=>spec_ReadBase32.l1 k L acc' (i:Int) (d:Int) ((j+1:Nat):Int)) (x,ok)):
  ∃x:ByteArray,Ev (fun k=>spec_ReadBase32.l1 k L acc (i:Int) (d:Int) (j:Int)) (x,ok):=by
 have ht:d/2^(4-j)%2≤1:=by have:=Nat.mod_lt (d/2^(4-j)) (show 0<2 by decide);omega
 obtain⟨hP',hlen⟩:=PB_step acc (5*i+j) X (d/2^(4-j)%2) hP (by omega) ht
 obtain⟨x,hk⟩:=hK _ hP'
 have hsh:=shrs_nat d (4-j) (by omega)
 have hm:=and1n (d/2^(4-j)) (by have:=Nat.div_le_self d (2^(4-j));omega)
 have hdiv:Int.tdiv ((5*i+j:Nat):Int) 8=(((5*i+j)/8:Nat):Int):=by rw[Int.tdiv_eq_ediv_of_nonneg (by omega)];omega
 have hmod:Int.tmod ((5*i+j:Nat):Int) 8=(((5*i+j)%8:Nat):Int):=by rw[Int.tmod_eq_emod_of_nonneg (by omega)];omega
 have hql:(((5*i+j)/8:Nat):Int)<(acc.length:Int):=by rw[hlen];omega
 have h0s:(0:Int)≤((4-j:Nat):Int):=by omega
 have h0q:(0:Int)≤(((5*i+j)/8:Nat):Int):=by omega
 have h0e:(0:Int)≤((7-(5*i+j)%8:Nat):Int):=by omega
 have hj5:(j:Int)<5:=by omega
 have hshl:=shl_u8 (7-(5*i+j)%8) (by omega)
 have W1:wrap64 ((wrap64 (5*(i:Int)))+(j:Int))=((5*i+j:Nat):Int):=by
  rw[wrap_id (a:=5*(i:Int)) (by omega) (by omega),wrap_id (by omega) (by omega)];omega
 have W2:wrap64 (((5*i+j)/8:Nat):Int)=(((5*i+j)/8:Nat):Int):=by clear W1;exact wrap_id (by omega) (by omega)
 have W3:wrap64 (4-(j:Int))=((4-j:Nat):Int):=by clear W1 W2;rw[wrap_id (by omega) (by omega)];omega
 have W4:wrap64 (7-(((5*i+j)%8:Nat):Int))=((7-(5*i+j)%8:Nat):Int):=by clear W1 W2 W3;rw[wrap_id (by omega) (by omega)];omega
 have W5:wrap64 ((j:Int)+1)=((j+1:Nat):Int):=by clear W1 W2 W3 W4;exact wrap_pluss j 1 (by omega)
 rw[←hdiv]at W2
 rw[←hmod]at W4
 rw[hdiv]at W2
 by_cases h1:d/2^(4-j)%2=1
 ·rw[if_pos h1]at hk
  refine⟨x,Ev.step (fun k=>?_) hk⟩
  have e:=specRB32_set k L acc (i:Int) (d:Int) (j:Int) _ _ _ _ _ _ hj5 W1 (by rw[hdiv];exact W2) hql W3 h0s (by rw[hsh,hm,h1];rfl) h0q W4 h0e rfl W5
  rw[e,hshl,Int.toNat_natCast]
 ·rw[if_neg h1]at hk
  refine⟨x,Ev.step (fun k=>?_) hk⟩
  exact specRB32_skip k L acc (i:Int) (d:Int) (j:Int) _ _ _ _ hj5 W1 (by rw[hdiv];exact W2) hql W3 h0s (by rw[hsh,hm];intro hh;exact h1 (Int.ofNat_inj.1 hh)) W5
theorem specFive_is (b:UInt8):Ev (fun k=>spec_l1five.f k (b.toNat:Int)) (letV b):=by
 have hb:b.toNat<256:=b.toNat_lt
 unfold spec_l1five.f letV
 by_cases h65:(b.toNat:Int)≥65
 ·simp only[if_pos h65]
  by_cases h90:(b.toNat:Int)≤90
  ·rw[if_pos (by omega)]
   refine Ev.step (f:=fun _=>some ((b.toNat:Int)-65)) (fun k=>?_) (Ev.now _)
   rw[spec_l1five.j0,if_pos (decide_eq_true h90)]
   congr 1;omega
  ·rw[if_neg (by omega),if_neg (by omega)]
   refine Ev.step (f:=fun _=>some (-1)) (fun k=>?_) (Ev.now _)
   rw[spec_l1five.j0,if_neg (by rw[decide_eq_false h90];exact Bool.false_ne_true),if_pos (by omega),if_neg (by omega)]
 ·simp only[if_neg h65]
  rw[if_neg (by omega)]
  by_cases h50:50≤b.toNat∧b.toNat≤55
  ·rw[if_pos h50]
   refine Ev.step (f:=fun _=>some ((b.toNat:Int)-24)) (fun k=>?_) (Ev.now _)
   rw[spec_l1five.j0,if_neg Bool.false_ne_true,if_pos (by omega),if_pos (by omega)]
   congr 1;omega
  ·rw[if_neg h50]
   refine Ev.step (f:=fun _=>some (-1)) (fun k=>?_) (Ev.now _)
   rw[spec_l1five.j0,if_neg Bool.false_ne_true]
   by_cases h:(b.toNat:Int)≥50
   ·rw[if_pos h,if_neg (by omega)]
   ·rw[if_neg h]
theorem five_sum (V d:Nat) (hd:d<32):2*(2*(2*(2*(2*V+d/2^(4-0)%2)+d/2^(4-1)%2)+d/2^(4-2)%2)+d/2^(4-3)%2)+d/2^(4-4)%2=V*32+d:=by
 simp only[Nat.reduceSub,Nat.reducePow];omega
theorem specRB32_go (l:List UInt8) (h32:l.length=32): ∀(r pre:List UInt8) (acc:List Int),l=pre++r→pre.all letOk=true→PB acc (5*pre.length) (wb pre)→
  ∃x,Ev (fun k=>spec_ReadBase32.l0 k (mkB l) acc (pre.length:Int)) (x,r.all letOk)
 | [],pre,acc,hl,ha,hP=>by
  rw[List.append_nil]at hl
  subst hl
  rw[h32]at hP
  obtain⟨A,hA,hA20,hA256,hw⟩:=PB_end acc _ hP
  subst hA
  refine⟨strOfNums (A.map fun v:Nat=>(v:Int)),Ev.step (f:=fun k=>(spec_Base32.f k (strOfNums (A.map fun v:Nat=>(v:Int)))).bind fun t212=>(if t212.toList=(mkB l).toList then(some (strOfNums (A.map fun v:Nat=>(v:Int)),true))else(some ((⟨#[]⟩:ByteArray),false)))) (fun k=>by
   rw[spec_ReadBase32.l0,if_neg (by rw[size_mk];omega)]) ?_⟩
  refine(specB32_is A hA256 hA20 l ha h32 hw.symm).bind ?_
  rw[if_pos rfl]
  exact Ev.now _
 |b::r,pre,acc,hl,ha,hP=>by
  have hpl:pre.length<32:=by have:=congrArg List.length hl;simp at this;omega
  have hbt:bt (mkB l) (pre.length:Int)=(b.toNat:Int):=by rw[hl];exact bt_mid pre b r
  have hsz:(pre.length:Int)<((mkB l).size:Int):=by rw[size_mk];omega
  have h0p:(0:Int)≤(pre.length:Int):=by omega
  have hstep: ∀k,spec_ReadBase32.l0 (k+1) (mkB l) acc (pre.length:Int)=(spec_l1five.f k (b.toNat:Int)).bind fun t213=>(if t213<0 then(some ((⟨#[]⟩:ByteArray),false))else(spec_ReadBase32.l1 k (mkB l) acc (pre.length:Int) t213 0)):=by
   intro k
   rw[spec_ReadBase32.l0,if_pos hsz,if_pos h0p,hbt]
  cases hok:letOk b
  ·have hv:=(letV_facts b).2 hok
   refine⟨(⟨#[]⟩:ByteArray),Ev.step hstep ((specFive_is b).bind ?_)⟩
   rw[hv,List.all_cons,hok]
   exact Ev.now _
  ·obtain⟨_,hd,hv⟩:=(letV_facts b).1 hok
   have ha2:(pre++ [b]).all letOk=true:=by rw[List.all_append,ha];simp[hok]
   rw[List.all_cons,hok,Bool.true_and]
   have key: ∀acc',PB acc' (5*pre.length+(4+1)) (2*(2*(2*(2*(2*wb pre+letN b/2^(4-0)%2)+letN b/2^(4-1)%2)+letN b/2^(4-2)%2)+letN b/2^(4-3)%2)+letN b/2^(4-4)%2)→ ∃x,Ev (fun k=>spec_ReadBase32.l1 k (mkB l) acc' (pre.length:Int) (letN b:Int) ((4+1:Nat):Int)) (x,r.all letOk):=by
    intro acc' hP'
    rw[five_sum _ _ hd,←wb_snoc]at hP'
    have e5:5*pre.length+(4+1)=5*(pre++ [b]).length:=by rw[List.length_append,List.length_singleton];omega
    rw[e5]at hP'
    obtain⟨x,hx⟩:=specRB32_go l h32 r (pre++ [b]) acc' (by rw[hl];simp) ha2 hP'
    rw[len_snoc]at hx
    refine⟨x,Ev.step (fun k=>?_) hx⟩
    rw[spec_ReadBase32.l1,if_neg (by decide),wrap_id (a:=(pre.length:Int)+1) (by omega) (by omega)]
   obtain⟨x,hx⟩:=specRB32_bit (mkB l) acc pre.length (letN b) 0 (wb pre) hpl (by decide) hd hP (r.all letOk) (fun a1 p1=>
    specRB32_bit (mkB l) a1 pre.length (letN b) 1 _ hpl (by decide) hd p1 (r.all letOk) (fun a2 p2=>
     specRB32_bit (mkB l) a2 pre.length (letN b) 2 _ hpl (by decide) hd p2 (r.all letOk) (fun a3 p3=>
      specRB32_bit (mkB l) a3 pre.length (letN b) 3 _ hpl (by decide) hd p3 (r.all letOk) (fun a4 p4=>
       specRB32_bit (mkB l) a4 pre.length (letN b) 4 _ hpl (by decide) hd p4 (r.all letOk) key))))
   refine⟨x,Ev.step hstep ((specFive_is b).bind ?_)⟩
   have hnn: ¬(letN b:Int)<0:=by omega
   rw[hv]
   simp only[if_neg hnn]
   exact hx
theorem specRB32_is (l:List UInt8) (h32:l.length=32): ∃x,Ev (fun k=>spec_ReadBase32.f k (mkB l)) (x,l.all letOk):=by
 obtain⟨x,hx⟩:=specRB32_go l h32 l [] (List.replicate 20 0) rfl rfl PB_zero
 refine⟨x,?_⟩
 have hz:((mkB l).size:Int)=32:=by rw[size_mk,h32];rfl
 have hw:wrap64 (Int.tdiv (wrap64 ((32:Int)*5)) 8)=20:=by
  have e:Int.tdiv ((32:Int)*5) 8=20:=by decide
  rw[wrap_id (a:=(32:Int)*5) (by decide) (by decide),e];exact wrap_id (by decide) (by decide)
 unfold spec_ReadBase32.f
 rw[hz,hw]
 simp only[if_neg (show ¬(32:Int)>6400 by decide),if_pos (show(0:Int)≤20 by decide),if_pos (show(20:Int).toNat≤281474976710656 by decide)]
 exact hx
theorem or5 (x d:Int) (hx:0≤x) (hx1:x<4096) (hd:0≤d) (hd1:d<32):Go.bits .or .i64 (x*32) d=x*32+d:=
 bits_join .i64 62 (by decide) (fun n h0 h1=>by rw[IntKind.wrap_i64];omega) 5 (x*32) d (by omega) (by omega) (by omega) hd (by omega) (by omega)
theorem or8 (x d:Int) (hx:0≤x) (hx1:x<4096) (hd:0≤d) (hd1:d<256):Go.bits .or .i64 (x*256) d=x*256+d:=
 bits_join .i64 62 (by decide) (fun n h0 h1=>by rw[IntKind.wrap_i64];omega) 8 (x*256) d (by omega) (by omega) (by omega) hd (by omega) (by omega)
theorem and4095 (x:Int) (hx:0≤x) (hx1:x<1000000):Go.bits .and .i64 x 4095=x%4096:=
 bits_mask .i64 62 (by decide) (fun n h0 h1=>by rw[IntKind.wrap_i64];omega) 12 (by decide) x hx (by omega)
theorem and31 (x:Int) (hx:0≤x) (hx1:x<1000000):Go.bits .and .i64 x 31=x%32:=
 bits_mask .i64 62 (by decide) (fun n h0 h1=>by rw[IntKind.wrap_i64];omega) 5 (by decide) x hx (by omega)
theorem shr_nat (x c:Nat) (hc:c≤63):shr .i64 (x:Int) (c:Int)=((x/2^c:Nat):Int):=by
 unfold shr
 have e:min ((c:Int)).toNat IntKind.i64.bits=c:=by rw[Int.toNat_natCast];exact Nat.min_eq_left (by show c≤64;omega)
 rw[e];simp
theorem dec_step1 (V W c d:Nat) (hW:W=V/2^c) (hc:c+5<8) (hd:d<32):W=(V*32+d)/2^(c+5):=by
 have h:c=0∨c=1∨c=2:=by omega
 rcases h with rfl|rfl|rfl<;>simp only[Nat.reduceAdd,Nat.reducePow]at* <;>omega
theorem dec_step2 (V W c d:Nat) (hW:W=V/2^(c+3)) (hc:c<5) (hd:d<32):W*256+((V%4096*32+d)%4096/2^c)%256=(V*32+d)/2^c:=by
 have h:c=0∨c=1∨c=2∨c=3∨c=4:=by omega
 rcases h with rfl|rfl|rfl|rfl|rfl<;>simp only[Nat.reduceAdd,Nat.reducePow]at* <;>omega
theorem enc_step (T W c:Nat) (hW:W=T/2^(c+5)) (hc:c<8):W*32+(T%8192/2^c)%32=T/2^c:=by
 have h:c=0∨c=1∨c=2∨c=3∨c=4∨c=5∨c=6∨c=7:=by omega
 rcases h with rfl|rfl|rfl|rfl|rfl|rfl|rfl|rfl<;>simp only[Nat.reduceAdd,Nat.reducePow]at* <;>omega
theorem and31n (Q:Nat) (h:Q≤8191):Go.bits .and .i64 (Q:Int) 31=((Q%32:Nat):Int):=by rw[and31 _ (by omega) (by omega)];omega
theorem mod256n (Q:Nat):(Q:Int)%256=((Q%256:Nat):Int):=by omega
def letJ (J:List Nat):List Int:=J.map fun v=>((letC v).toNat:Int)
theorem implB32_in (D:List Nat) (T i:Nat) (res:ByteArray) (hi:i≤1000):
  ∀(c:Nat) (J:List Nat),c<13→wn 32 J=T/2^c→(∀x∈J,x<32)→5*J.length+c≤50000→
  (∀(c':Nat) (J':List Nat),c'<5→wn 32 J'=T/2^c'→(∀x∈J',x<32)→5*J'.length+c'=5*J.length+c→
   Ev (fun k=>impl_base32.l0 k (mkB (D.map fun v=>UInt8.ofNat v)) (letJ J') ((T%32:Nat):Int) (c':Int) ((i+1:Nat):Int)) res)→
  Ev (fun k=>impl_base32.l1 k (mkB (D.map fun v=>UInt8.ofNat v)) (letJ J) ((T%8192:Nat):Int) (c:Int) (i:Int)) res:=by
 intro c
 induction c using Nat.strongRecOn with
 |_ c ih=>
  intro J hc hw hJ hl hK
  have h31:Go.bits .and .i64 ((T%8192:Nat):Int) 31=((T%32:Nat):Int):=by rw[and31 _ (by omega) (by omega)];omega
  by_cases h5:c<5
  ·refine Ev.step (fun k=>?_) (hK c J h5 hw hJ rfl)
   have ec:((i+1:Nat):Int)=(i:Int)+1:=by omega
   rw[impl_base32.l1,if_neg (by omega),h31,wrap_id (a:=(i:Int)+1) (by omega) (by omega),ec]
  ·obtain⟨e,rfl⟩: ∃e,c=e+5:=⟨c-5,by omega⟩
   have hst:=enc_step T (wn 32 J) e hw (by omega)
   have hlt:(T%8192/2^e)%32<32:=Nat.mod_lt _ (by decide)
   have hih:=ih e (by omega) (J++ [(T%8192/2^e)%32]) (by omega) (by rw[wn_snoc];exact hst) (by
    intro x hx
    rcases List.mem_append.1 hx with hx|hx
    ·exact hJ x hx
    ·simp at hx;omega) (by rw[List.length_append,List.length_singleton];omega) (fun c' J' h1 h2 h3 h4=>hK c' J' h1 h2 h3 (by rw[List.length_append,List.length_singleton]at h4;omega))
   refine Ev.step (fun k=>?_) hih
   have hw5:wrap64 (((e+5:Nat):Int)-5)=(e:Int):=by rw[wrap_id (by omega) (by omega)];omega
   have hsh:shr .i64 ((T%8192:Nat):Int) (e:Int)=((T%8192/2^e:Nat):Int):=shr_nat _ _ (by omega)
   have hdl:T%8192/2^e≤T%8192:=Nat.div_le_self _ _
   have hm:Go.bits .and .i64 ((T%8192/2^e:Nat):Int) 31=(((T%8192/2^e)%32:Nat):Int):=and31n _ (by omega)
   rw[impl_base32.l1,if_pos (by omega),hw5,hsh,hm,if_pos (by omega),if_pos (by omega),if_pos (by omega),if_pos (by unfold letJ;rw[List.length_map];omega)]
   have hbt:=bt_let _ hlt
   unfold LETB at hbt
   rw[hbt]
   unfold letJ
   rw[List.map_append]
   rfl
theorem enc_begin (W x c:Nat) (hx:x<256) (hc:c<5):W/2^c=(W*256+x)/2^(c+8):=by
 have h:c=0∨c=1∨c=2∨c=3∨c=4:=by omega
 rcases h with rfl|rfl|rfl|rfl|rfl<;>simp only[Nat.reduceAdd,Nat.reducePow]<;>omega
theorem implB32_go (D:List Nat) (hD: ∀x∈D,x<256) (h20:D.length=20) (l:List UInt8) (hl:l.all letOk=true) (h32:l.length=32) (hv:wb l=wn 256 D):
  ∀(R A:List Nat) (c:Nat) (J:List Nat),D=A++R→c<5→wn 32 J=wn 256 A/2^c→(∀x∈J,x<32)→5*J.length+c=8*A.length→
  Ev (fun k=>impl_base32.l0 k (mkB (D.map fun v=>UInt8.ofNat v)) (letJ J) ((wn 256 A%32:Nat):Int) (c:Int) (A.length:Int)) (mkB l)
 | [],A,c,J,hA,hc,hw,hJ,hn=>by
  rw[List.append_nil]at hA
  subst hA
  have hc0:c=0:=by omega
  have hJ32:J.length=32:=by omega
  subst hc0
  rw[Nat.pow_zero,Nat.div_one,←hv]at hw
  have e:J=l.map letN:=wn_inj 32 (by decide) 32 J (l.map letN) hJ32 (by rw[List.length_map];exact h32) hJ (by
   intro x hx
   obtain⟨b,hb,rfl⟩:=List.mem_map.1 hx
   exact((letV_facts b).1 (List.all_eq_true.1 hl b hb)).2.1) hw
  refine Ev.step (f:=fun _=>some (mkB l)) (fun k=>?_) (Ev.now _)
  rw[impl_base32.l0,if_neg (by rw[size_mk,List.length_map];omega),if_neg (by omega)]
  unfold letJ
  rw[strOf_let,e,let_map l hl]
 |x::R,A,c,J,hA,hc,hw,hJ,hn=>by
  have hx:x<256:=hD x (by rw[hA];simp)
  have hAl:A.length<20:=by have:=congrArg List.length hA;simp at this;omega
  have e1:wn 256 (A++ [x])=wn 256 A*256+x:=wn_snoc _ _ _
  have hin:=implB32_in D (wn 256 A*256+x) A.length (mkB l) (by omega) (c+8) J (by omega) (by rw[hw];exact enc_begin _ _ _ hx hc) hJ (by omega) (by
   intro c' J' h1 h2 h3 h4
   have ih:=implB32_go D hD h20 l hl h32 hv R (A++ [x]) c' J' (by rw[hA];simp) h1 (by rw[e1];exact h2) h3 (by rw[List.length_append,List.length_singleton];omega)
   rw[e1,List.length_append,List.length_singleton]at ih
   exact ih)
  refine Ev.step (fun k=>?_) hin
  have hb:bt (mkB (D.map fun v=>UInt8.ofNat v)) (A.length:Int)=(x:Int):=by rw[hA];exact bt_nat A R x hx
  have ho:Go.bits .or .i64 (wrap64 (((wn 256 A%32:Nat):Int)*256)) (wrap64 (x:Int))=(((wn 256 A*256+x)%8192:Nat):Int):=by
   rw[wrap_id (a:=(x:Int)) (by omega) (by omega),wrap_id (a:=((wn 256 A%32:Nat):Int)*256) (by omega) (by omega),or8 _ _ (by omega) (by omega) (by omega) (by omega)]
   omega
  have ec:((c+8:Nat):Int)=(c:Int)+8:=by omega
  rw[impl_base32.l0,if_pos (by rw[size_mk,List.length_map];omega),if_pos (by omega),hb,ho,wrap_id (a:=(c:Int)+8) (by omega) (by omega),ec]
theorem implB32_is (D:List Nat) (hD: ∀x∈D,x<256) (h20:D.length=20) (l:List UInt8) (hl:l.all letOk=true) (h32:l.length=32) (hv:wb l=wn 256 D):
  Ev (fun k=>impl_base32.f k (strOfNums (D.map fun v:Nat=>(v:Int)))) (mkB l):=by
 rw[strOf_nat]
 exact implB32_go D hD h20 l hl h32 hv D [] 0 [] rfl (by decide) rfl (by simp) rfl
theorem idx_is (b:UInt8):strings_IndexByte.f LETB (b.toNat:Int)=some (letV b):=by
 have key: ∀n:Fin 256,Lib.indexByte LETB.data.toList (UInt8.ofNat n.val)=letV (UInt8.ofNat n.val):=by decide+kernel
 have:=key ⟨b.toNat,b.toNat_lt⟩
 simp only[UInt8.ofNat_toNat]at this
 unfold strings_IndexByte.f
 rw[←this]
 simp
theorem implRB32_cell (k:Nat) (L:ByteArray) (X:List Int) (bits c i d bits' c' i':Int) (hi:i<(L.size:Int)) (h0:0≤i) (hx:strings_IndexByte.f (⟨#[65,66,67,68,69,70,71,72,73,74,75,76,77,78,79,80,81,82,83,84,85,86,87,88,89,90,50,51,52,53,54,55]⟩:ByteArray) (bt L i)=some d) (hd: ¬d<0)
  (hb:Go.bits .and .i64 (Go.bits .or .i64 (wrap64 (bits*32)) d) 4095=bits') (hc:wrap64 (c+5)=c') (hi':wrap64 (i+1)=i') (h8: ¬c'≥8):
  impl_ReadBase32.l0 (k+1) L X bits c i=impl_ReadBase32.l0 k L X bits' c' i':=by
 rw[impl_ReadBase32.l0,if_pos hi,if_pos h0,hx,Option.bind_some,if_neg hd,hb,hc,if_neg h8,hi']
theorem implRB32_cell8 (k:Nat) (L:ByteArray) (X:List Int) (bits c i d bits' c' i' c'' q:Int) (hi:i<(L.size:Int)) (h0:0≤i) (hx:strings_IndexByte.f (⟨#[65,66,67,68,69,70,71,72,73,74,75,76,77,78,79,80,81,82,83,84,85,86,87,88,89,90,50,51,52,53,54,55]⟩:ByteArray) (bt L i)=some d) (hd: ¬d<0)
  (hb:Go.bits .and .i64 (Go.bits .or .i64 (wrap64 (bits*32)) d) 4095=bits') (hc:wrap64 (c+5)=c') (hi':wrap64 (i+1)=i') (h8:c'≥8) (hc8:wrap64 (c'-8)=c'') (h0'':0≤c'') (hX:X.length<140737488355328) (hq:shr .i64 bits' c''%256=q):
  impl_ReadBase32.l0 (k+1) L X bits c i=impl_ReadBase32.l0 k L (X++ [q]) bits' c'' i':=by
 rw[impl_ReadBase32.l0,if_pos hi,if_pos h0,hx,Option.bind_some,if_neg hd,hb,hc,if_pos h8,hc8,if_pos h0'',if_pos hX,hq,hi']
theorem implRB32_no (k:Nat) (L:ByteArray) (X:List Int) (bits c i d:Int) (hi:i<(L.size:Int)) (h0:0≤i) (hx:strings_IndexByte.f (⟨#[65,66,67,68,69,70,71,72,73,74,75,76,77,78,79,80,81,82,83,84,85,86,87,88,89,90,50,51,52,53,54,55]⟩:ByteArray) (bt L i)=some d) (hd:d<0):
  impl_ReadBase32.l0 (k+1) L X bits c i=some ((⟨#[]⟩:ByteArray),false):=by
 rw[impl_ReadBase32.l0,if_pos hi,if_pos h0,hx,Option.bind_some,if_pos hd]
theorem wrap_plus (a b:Nat) (h:a+b≤1000000):wrap64 ((a:Int)+(b:Int))=((a+b:Nat):Int):=by rw[wrap_id (by omega) (by omega)];omega
theorem wrap_less (a b:Nat) (h:a+b≤1000000):wrap64 (((a+b:Nat):Int)-(b:Int))=(a:Int):=by rw[wrap_id (by omega) (by omega)];omega
theorem bits5n (N d:Nat) (hN:N<4096) (hd:d<32):Go.bits .and .i64 (Go.bits .or .i64 (wrap64 ((N:Int)*32)) (d:Int)) 4095=(((N*32+d)%4096:Nat):Int):=by
 rw[wrap_id (by omega) (by omega),or5 _ _ (by omega) (by omega) (by omega) (by omega),and4095 _ (by omega) (by omega)]
 omega
theorem implRB32_go (l:List UInt8) (h32:l.length=32): ∀(r pre:List UInt8) (A:List Nat) (c:Nat),l=pre++r→pre.all letOk=true→c<8→wn 256 A=wb pre/2^c→(∀x∈A,x<256)→8*A.length+c=5*pre.length→
  ∃x,Ev (fun k=>impl_ReadBase32.l0 k (mkB l) (A.map fun v:Nat=>(v:Int)) ((wb pre%4096:Nat):Int) (c:Int) (pre.length:Int)) (x,r.all letOk)
 | [],pre,A,c,hl,ha,hc,hw,hA,hn=>by
  rw[List.append_nil]at hl
  subst hl
  have hc0:c=0:=by omega
  subst hc0
  rw[Nat.pow_zero,Nat.div_one]at hw
  refine⟨strOfNums (A.map fun v:Nat=>(v:Int)),Ev.step (f:=fun k=>(impl_base32.f k (strOfNums (A.map fun v:Nat=>(v:Int)))).bind fun t377=>(if t377.toList=(mkB l).toList then(some (strOfNums (A.map fun v:Nat=>(v:Int)),true))else(some ((⟨#[]⟩:ByteArray),false)))) (fun k=>by
   rw[impl_ReadBase32.l0,if_neg (by rw[size_mk];omega),if_neg (by rw[List.length_map];omega)]) ?_⟩
  refine(implB32_is A hA (by omega) l ha h32 hw.symm).bind ?_
  rw[if_pos rfl]
  exact Ev.now _
 |b::r,pre,A,c,hl,ha,hc,hw,hA,hn=>by
  have hpl:pre.length<32:=by have:=congrArg List.length hl;simp at this;omega
  have hbt:bt (mkB l) (pre.length:Int)=(b.toNat:Int):=by rw[hl];exact bt_mid pre b r
  have hsz:(pre.length:Int)<((mkB l).size:Int):=by rw[size_mk];omega
  have h0p:(0:Int)≤(pre.length:Int):=by omega
  have hix:=idx_is b
  rw[←hbt]at hix
  cases hok:letOk b
  ·have hv:=(letV_facts b).2 hok
   refine⟨(⟨#[]⟩:ByteArray),Ev.step (f:=fun _=>some ((⟨#[]⟩:ByteArray),false)) (fun k=>implRB32_no k _ _ _ _ _ _ hsz h0p hix (by rw[hv];decide)) ?_⟩
   rw[List.all_cons,hok];exact Ev.now _
  ·obtain⟨_,hd,hv⟩:=(letV_facts b).1 hok
   have ha2:(pre++ [b]).all letOk=true:=by rw[List.all_append,ha];simp[hok]
   have hwb:=wb_snoc pre b
   have hN:wb pre%4096<4096:=Nat.mod_lt _ (by decide)
   have e4:(wb pre%4096*32+letN b)%4096=wb (pre++ [b])%4096:=by rw[hwb];omega
   have hdn: ¬letV b<0:=by rw[hv];omega
   rw[List.all_cons,hok,Bool.true_and]
   by_cases h8:c+5<8
   ·obtain⟨x,hx⟩:=implRB32_go l h32 r (pre++ [b]) A (c+5) (by rw[hl];simp) ha2 h8 (by rw[hw,hwb];exact dec_step1 _ _ c _ rfl h8 hd) hA (by rw[List.length_append,List.length_singleton];omega)
    rw[len_snoc]at hx
    have hn8: ¬((c+5:Nat):Int)≥8:=by omega
    have hbits:=bits5n (wb pre%4096) (letN b) hN hd
    rw[e4,←hv]at hbits
    exact⟨x,Ev.step (fun k=>implRB32_cell k _ _ _ _ _ _ _ _ _ hsz h0p hix hdn hbits (wrap_plus c 5 (by omega)) (wrap_plus pre.length 1 (by omega)) hn8) hx⟩
   ·obtain⟨e,rfl⟩: ∃e,c=e+3:=⟨c-3,by omega⟩
    have hst:=dec_step2 (wb pre) (wn 256 A) e (letN b) hw (by omega) hd
    rw[e4]at hst
    have hs:shr .i64 ((wb (pre++ [b])%4096:Nat):Int) (e:Int)=((wb (pre++ [b])%4096/2^e:Nat):Int):=shr_nat _ _ (by omega)
    generalize wb (pre++ [b])%4096/2^e=Q at hst hs
    have hQ:Q%256<256:=Nat.mod_lt _ (by decide)
    obtain⟨x,hx⟩:=implRB32_go l h32 r (pre++ [b]) (A++ [Q%256]) e (by rw[hl];simp) ha2 (by omega) (by rw[wn_snoc,hst,hwb]) (by
     intro y hy
     rcases List.mem_append.1 hy with hy|hy
     ·exact hA y hy
     ·simp at hy;omega) (by rw[List.length_append,List.length_append,List.length_singleton,List.length_singleton];omega)
    rw[len_snoc,toI_snoc]at hx
    have h8e:((e+8:Nat):Int)≥8:=by omega
    have h0e:(0:Int)≤(e:Int):=by omega
    have hal:((A.map fun v:Nat=>(v:Int)).length)<140737488355328:=by rw[List.length_map];omega
    have hq:shr .i64 ((wb (pre++ [b])%4096:Nat):Int) (e:Int)%256=((Q%256:Nat):Int):=by rw[hs];exact mod256n Q
    have hbits:=bits5n (wb pre%4096) (letN b) hN hd
    rw[e4,←hv]at hbits
    exact⟨x,Ev.step (fun k=>implRB32_cell8 k _ _ _ _ _ _ _ _ _ _ _ hsz h0p hix hdn hbits (wrap_plus (e+3) 5 (by omega)) (wrap_plus pre.length 1 (by omega)) h8e (wrap_less e 8 (by omega)) h0e hal hq) hx⟩
theorem implRB32_is (l:List UInt8) (h32:l.length=32): ∃x,Ev (fun k=>impl_ReadBase32.f k (mkB l)) (x,l.all letOk):=
 implRB32_go l h32 l [] [] 0 rfl rfl (by decide) rfl (by simp) rfl
theorem wrap_i64_nat (n:Nat) (h:n<9223372036854775808):IntKind.i64.wrap (n:Int)=n:=by rw[IntKind.wrap_i64];omega
theorem ofInt_wrap64 (x:BitVec 64):BitVec.ofInt 64 (IntKind.i64.wrap (x.toNat:Int))=x:=by
 apply BitVec.eq_of_toNat_eq
 rw[BitVec.toNat_ofInt,IntKind.wrap_i64]
 have:=x.isLt
 omega
theorem and64 (a b:Int):Go.bits .and .i64 a b=IntKind.i64.wrap (((BitVec.ofInt 64 a&&&BitVec.ofInt 64 b).toNat:Nat):Int):=rfl
theorem xor64 (a b:Int):Go.bits .xor .i64 a b=IntKind.i64.wrap (((BitVec.ofInt 64 a^^^BitVec.ofInt 64 b).toNat:Nat):Int):=rfl
def WD (x:Int):Prop:=0≤x∧x<4294967296
theorem wd_nat {x:Int} (h:WD x): ∃n:Nat,x=(n:Int)∧n<4294967296:=⟨x.toNat,by have:=h.1;omega,by have:=h.1;have:=h.2;omega⟩
theorem wd_of (n:Nat) (h:n<4294967296):WD (n:Int):=⟨by omega,by omega⟩
theorem ofInt_natlt (n:Nat) (h:n<4294967296):(BitVec.ofInt 64 (n:Int)).toNat=n:=by
 rw[BitVec.ofInt_natCast,BitVec.toNat_ofNat];omega
theorem xor_wd {a b:Int} (ha:WD a) (hb:WD b):WD (Go.bits .xor .i64 a b):=by
 obtain⟨m,rfl,hm⟩:=wd_nat ha
 obtain⟨n,rfl,hn⟩:=wd_nat hb
 rw[xor64,BitVec.toNat_xor,ofInt_natlt m hm,ofInt_natlt n hn]
 have:=Nat.xor_lt_two_pow (n:=32) (by simpa using hm) (by simpa using hn)
 rw[wrap_i64_nat _ (by omega)]
 exact wd_of _ (by simpa using this)
theorem mask_wd (a:Int):WD (Go.bits .and .i64 a 4294967295):=by
 rw[and64,BitVec.toNat_and]
 have e:(BitVec.ofInt 64 4294967295).toNat=2^32-1:=by decide
 rw[e,Nat.and_two_pow_sub_one_eq_mod]
 have:=Nat.mod_lt (BitVec.ofInt 64 a).toNat (show 2^32>0 by decide)
 rw[wrap_i64_nat _ (by omega)]
 exact wd_of _ (by simpa using this)
theorem choose_is (b c d:Int) (hd:WD d):Go.bits .and .i64 (Go.bits .and .i64 (Go.bits .xor .i64 (-1) b) d) 4294967295=Go.bits .and .i64 (Go.bits .xor .i64 b 4294967295) d:=by
 obtain⟨n,rfl,hn⟩:=wd_nat hd
 rw[and64,and64,xor64,and64,xor64,ofInt_wrap64,ofInt_wrap64,ofInt_wrap64]
 congr 3
 apply BitVec.eq_of_getLsbD_eq
 intro i hi
 have hD: ∀j,32≤j→(BitVec.ofInt 64 (n:Int)).getLsbD j=false:=by
  intro j hj
  have h1:(BitVec.ofInt 64 (n:Int)).toNat<2^32:=by rw[ofInt_natlt n hn];simpa using hn
  rw[←BitVec.testBit_toNat]
  exact Nat.testBit_lt_two_pow (Nat.lt_of_lt_of_le h1 (Nat.pow_le_pow_right (by decide) hj))
 have hM: ∀j,j<32→(BitVec.ofInt 64 4294967295).getLsbD j=true:=by decide
 have h1: ∀j,j<64→(BitVec.ofInt 64 (-1)).getLsbD j=true:=by decide
 simp only[BitVec.getLsbD_and,BitVec.getLsbD_xor]
 by_cases h32:i<32
 ·rw[hM i h32,h1 i hi];simp
 ·rw[hD i (by omega)];simp
def rotN (a n:Nat):Nat:=(a*2^n)%4294967296|||a/2^(32-n)
theorem rotN_lt (a n:Nat) (ha:a<4294967296):rotN a n<4294967296:=by
 have h1:(a*2^n)%4294967296<2^32:=Nat.mod_lt _ (by decide)
 have h2:a/2^(32-n)<2^32:=Nat.lt_of_le_of_lt (Nat.div_le_self _ _) (by simpa using ha)
 simpa [rotN]using Nat.or_lt_two_pow h1 h2
theorem shl64_nat (a n:Nat) (ha:a<4294967296) (hn:n≤30):shl .i64 (a:Int) (n:Int)=((a*2^n:Nat):Int):=by
 unfold shl
 have e:min ((n:Int)).toNat IntKind.i64.bits=n:=by rw[Int.toNat_natCast];exact Nat.min_eq_left (by show n≤64;omega)
 have h1:a*2^n<4294967296*2^30:=Nat.lt_of_lt_of_le (Nat.mul_lt_mul_of_pos_right ha (Nat.pow_pos (by decide))) (Nat.mul_le_mul_left _ (Nat.pow_le_pow_right (by decide) hn))
 have h2:(a:Int)*2^n=((a*2^n:Nat):Int):=by push_cast;rfl
 rw[e,h2,wrap_i64_nat _ (by omega)]
theorem shl32_nat (a n:Nat) (ha:a<4294967296) (hn:n≤30):shl .u32 (a:Int) (n:Int)=(((a*2^n)%4294967296:Nat):Int):=by
 unfold shl
 have e:min ((n:Int)).toNat IntKind.u32.bits=n:=by rw[Int.toNat_natCast];exact Nat.min_eq_left (by show n≤32;omega)
 have h2:(a:Int)*2^n=((a*2^n:Nat):Int):=by push_cast;rfl
 rw[e,h2,IntKind.wrap_u32];omega
theorem shr32_nat (x c:Nat) (hc:c≤32):shr .u32 (x:Int) (c:Int)=((x/2^c:Nat):Int):=by
 unfold shr
 have e:min ((c:Int)).toNat IntKind.u32.bits=c:=by rw[Int.toNat_natCast];exact Nat.min_eq_left (by show c≤32;omega)
 rw[e];simp
theorem or_mod32 (a b:Nat) (hb:b<4294967296):(a|||b)%4294967296=a%4294967296|||b:=by
 have:=Nat.or_mod_two_pow (a:=a) (b:=b) (n:=32)
 simp only[Nat.reducePow]at this
 rw[this,Nat.mod_eq_of_lt hb]
theorem specTurn_is (a n:Nat) (ha:a<4294967296) (hn:n≤30) (h1:1≤n):spec_l3turn.f (a:Int) (n:Int)=some ((rotN a n:Nat):Int):=by
 have hw:wrap64 (32-(n:Int))=((32-n:Nat):Int):=by rw[wrap_id (by omega) (by omega)];omega
 have hp:a*2^n<2^62:=Nat.lt_of_lt_of_le (Nat.mul_lt_mul_of_pos_right ha (Nat.pow_pos (by decide))) (by
  calc 4294967296*2^n≤4294967296*2^30:=Nat.mul_le_mul_left _ (Nat.pow_le_pow_right (by decide) hn)
   _=2^62:=by decide)
 have hq:a/2^(32-n)<4294967296:=Nat.lt_of_le_of_lt (Nat.div_le_self _ _) ha
 have hor:=(bits_nat .i64 62 (by decide) (fun n h0 h1=>by rw[IntKind.wrap_i64];omega) (a*2^n) (a/2^(32-n)) hp (by omega)).2
 have hlt:=Nat.or_lt_two_pow hp (show a/2^(32-n)<2^62 by omega)
 have hmask:=bits_mask .i64 62 (by decide) (fun n h0 h1=>by rw[IntKind.wrap_i64];omega) 32 (by decide) ((a*2^n|||a/2^(32-n):Nat):Int) (by omega) (by exact_mod_cast hlt)
 have e:((2:Int)^32-1)=4294967295:=by decide
 rw[e]at hmask
 unfold spec_l3turn.f
 rw[if_pos (by omega),hw,if_pos (by omega),shl64_nat a n ha hn,shrs_nat a (32-n) (by omega),hor,hmask]
 have h3:(((a*2^n|||a/2^(32-n):Nat):Int))%2^32=(((a*2^n|||a/2^(32-n))%4294967296:Nat):Int):=by
  rw[show((2:Int)^32)=((4294967296:Nat):Int)by decide];exact(Int.natCast_emod _ _).symm
 rw[h3,or_mod32 _ _ hq];rfl
theorem wrap_u64n (n:Int):IntKind.u64.wrap n=n%18446744073709551616:=by
 have e:(2:Int)^64=18446744073709551616:=by decide
 unfold IntKind.wrap
 simp only[IntKind.bits,IntKind.signed,Bool.false_and,Bool.false_eq_true,if_false]
 rw[e]
theorem implTurn_is (a n:Nat) (ha:a<4294967296) (hn:n≤30) (h1:1≤n):impl_turn.f (a:Int) (n:Int)=some ((rotN a n:Nat):Int):=by
 have hu:IntKind.u64.wrap (n:Int)=(n:Int):=by rw[wrap_u64n];omega
 have hand:Go.bits .and .u64 (n:Int) 31=(n:Int):=by
  have:=bits_mask .u64 62 (by decide) (fun n h0 h1=>by rw[wrap_u64n];omega) 5 (by decide) (n:Int) (by omega) (by omega)
  have e:((2:Int)^5-1)=31:=by decide
  rw[e]at this
  rw[this];omega
 have hs:IntKind.u64.wrap (32-(n:Int))=((32-n:Nat):Int):=by rw[wrap_u64n];omega
 have hq:a/2^(32-n)<4294967296:=Nat.lt_of_le_of_lt (Nat.div_le_self _ _) ha
 have hor:=(bits_nat .u32 32 (by decide) (fun n h0 h1=>by rw[IntKind.wrap_u32];omega) ((a*2^n)%4294967296) (a/2^(32-n)) (Nat.mod_lt _ (by decide)) (by simpa using hq)).2
 have hm:((a:Int))%4294967296=(a:Int):=by omega
 have hr:=rotN_lt a n ha
 unfold impl_turn.f bits_RotateLeft32.f
 rw[hm,hu,hand,hs,if_pos (by omega),if_pos (by omega),shl32_nat a n ha hn,shr32_nat a (32-n) (by omega),hor,Option.bind_some]
 show some (wrap64 ((rotN a n:Nat):Int))=_
 rw[wrap_id (by omega) (by omega)]
theorem rd_eq (l:List Int) (i:Nat):rd l (i:Int)=l.getD i 0:=by simp[rd]
theorem rd_left (l r:List Int) (i:Nat) (h:i<l.length):rd (l++r) (i:Int)=rd l (i:Int):=by
 rw[rd_eq,rd_eq,List.getD_eq_getElem?_getD,List.getD_eq_getElem?_getD,List.getElem?_append_left h]
theorem rd_wd (l:List Int) (h: ∀x∈l,WD x) (i:Nat):WD (rd l (i:Int)):=by
 rw[rd_eq,List.getD_eq_getElem?_getD]
 by_cases hi:i<l.length
 ·rw[List.getElem?_eq_getElem hi];exact h _ (List.getElem_mem hi)
 ·rw[List.getElem?_eq_none (by omega)];exact⟨by decide,by decide⟩
theorem bt_ext (B:List UInt8) (i j n:Nat) (hj:j<n) (h:i+n≤B.length):bt ((mkB B).extract i (i+n)) (j:Int)=bt (mkB B) ((i+j:Nat):Int):=by
 rw[extract_mk,Nat.add_sub_cancel_left,bt_at_ _ _ (by rw[List.length_take,List.length_drop];omega),bt_at_ _ _ (by omega)]
 simp
theorem bt_lt (B:List UInt8) (i:Nat) (h:i<B.length):0≤bt (mkB B) (i:Int)∧bt (mkB B) (i:Int)<256:=by
 rw[bt_at_ _ _ h];have:=(B[i]).toNat_lt;omega
def wd4 (a b c d:Int):Int:=Go.bits .or .i64 (Go.bits .or .i64 (Go.bits .or .i64 (wrap64 ((wrap64 a)*16777216)) (wrap64 ((wrap64 b)*65536))) (wrap64 ((wrap64 c)*256))) (wrap64 d)
theorem or_j (i:Nat) (hi:i≤30) (x y:Int) (hx:0≤x) (hx1:x<4294967296) (hm:x%2^i=0) (hy:0≤y) (hy1:y<2^i):Go.bits .or .i64 x y=x+y:=
 bits_join .i64 62 (by decide) (fun n h0 h1=>by rw[IntKind.wrap_i64];omega) i x y hx hm (by omega) hy hy1 (by
  have:(2:Int)^i≤2^30:=by exact_mod_cast Nat.pow_le_pow_right (by decide) hi
  omega)
theorem wd4_is (a b c d:Int) (ha:0≤a) (ha1:a<256) (hb:0≤b) (hb1:b<256) (hc:0≤c) (hc1:c<256) (hd:0≤d) (hd1:d<256):wd4 a b c d=a*16777216+b*65536+c*256+d:=by
 unfold wd4
 rw[wrap_id (a:=a) (by omega) (by omega),wrap_id (a:=b) (by omega) (by omega),wrap_id (a:=c) (by omega) (by omega),wrap_id (a:=d) (by omega) (by omega),
  wrap_id (a:=a*16777216) (by omega) (by omega),wrap_id (a:=b*65536) (by omega) (by omega),wrap_id (a:=c*256) (by omega) (by omega)]
 rw[or_j 24 (by decide) (a*16777216) (b*65536) (by omega) (by omega) (by omega) (by omega) (by omega)]
 rw[or_j 16 (by decide) (a*16777216+b*65536) (c*256) (by omega) (by omega) (by omega) (by omega) (by omega)]
 rw[or_j 8 (by decide) (a*16777216+b*65536+c*256) d (by omega) (by omega) (by omega) (by omega) (by omega)]
theorem wd4_wd (a b c d:Int) (ha:0≤a∧a<256) (hb:0≤b∧b<256) (hc:0≤c∧c<256) (hd:0≤d∧d<256):WD (wd4 a b c d):=by
 rw[wd4_is a b c d ha.1 ha.2 hb.1 hb.2 hc.1 hc.2 hd.1 hd.2]
 constructor<;>omega
def xor4 (L:List Int) (t:Nat):Int:=Go.bits .xor .i64 (Go.bits .xor .i64 (Go.bits .xor .i64 (rd L ((t-3:Nat):Int)) (rd L ((t-8:Nat):Int))) (rd L ((t-14:Nat):Int))) (rd L ((t-16:Nat):Int))
def scw (B:List UInt8) (L:List Int) (t:Nat):Int:=
 if t<16 then wd4 (bt (mkB B) ((4*t:Nat):Int)) (bt (mkB B) ((4*t+1:Nat):Int)) (bt (mkB B) ((4*t+2:Nat):Int)) (bt (mkB B) ((4*t+3:Nat):Int))else((rotN (xor4 L t).toNat 1:Nat):Int)
def schedL (B:List UInt8):Nat→List Int
 |0=> []
 |t+1=>schedL B t++ [scw B (schedL B t) t]
theorem schedL_len (B:List UInt8): ∀t,(schedL B t).length=t
 |0=>rfl
 |t+1=>by rw[schedL,List.length_append,schedL_len B t];rfl
theorem xor4_wd (L:List Int) (h: ∀x∈L,WD x) (t:Nat):WD (xor4 L t):=xor_wd (xor_wd (xor_wd (rd_wd L h _) (rd_wd L h _)) (rd_wd L h _)) (rd_wd L h _)
theorem schedL_wd (B:List UInt8) (hB:B.length=64): ∀t,∀x∈schedL B t,WD x
 |0,_,h=>by cases h
 |t+1,x,h=>by
  rw[schedL]at h
  rcases List.mem_append.1 h with h|h
  ·exact schedL_wd B hB t x h
  ·rw[List.mem_singleton.1 h]
   unfold scw
   by_cases ht:t<16
   ·rw[if_pos ht];exact wd4_wd _ _ _ _ (bt_lt B _ (by omega)) (bt_lt B _ (by omega)) (bt_lt B _ (by omega)) (bt_lt B _ (by omega))
   ·rw[if_neg ht]
    have hw:=xor4_wd _ (schedL_wd B hB t) t
    exact wd_of _ (rotN_lt _ _ (by have:=hw.1;have:=hw.2;omega))
theorem turnI (x:Int) (hx:WD x) (n:Nat) (hn:n≤30) (h1:1≤n):impl_turn.f x (n:Int)=some ((rotN x.toNat n:Nat):Int):=by
 obtain⟨a,rfl,ha⟩:=wd_nat hx
 rw[Int.toNat_natCast];exact implTurn_is a n ha hn h1
theorem turnS (x:Int) (hx:WD x) (n:Nat) (hn:n≤30) (h1:1≤n):spec_l3turn.f x (n:Int)=some ((rotN x.toNat n:Nat):Int):=by
 obtain⟨a,rfl,ha⟩:=wd_nat hx
 rw[Int.toNat_natCast];exact specTurn_is a n ha hn h1
theorem rot_wd (x:Int) (hx:WD x) (n:Nat):WD ((rotN x.toNat n:Nat):Int):=wd_of _ (rotN_lt _ _ (by have:=hx.1;have:=hx.2;omega))
theorem implSch_lo (k:Nat) (S:ByteArray) (L:List Int) (t q q4 t':Int) (b0 b1 b2 b3:Int) (h80:t<80) (h16:t<16) (hq:wrap64 (4*t)=q) (hq4:wrap64 (q+4)=q4) (h0:0≤q) (hle:q≤q4) (hs:q4≤(S.size:Int)) (hsz:((S.extract q.toNat q4.toNat).size:Int)=4)
  (e0:bt (S.extract q.toNat q4.toNat) 0=b0) (e1:bt (S.extract q.toNat q4.toNat) 1=b1) (e2:bt (S.extract q.toNat q4.toNat) 2=b2) (e3:bt (S.extract q.toNat q4.toNat) 3=b3) (hL:L.length<17592186044416) (ht':wrap64 (t+1)=t'):
  impl_Schedule.l0 (k+1) S L t=impl_Schedule.l0 k S (L++ [wd4 b0 b1 b2 b3]) t':=by
 rw[impl_Schedule.l0,if_pos h80,if_pos h16,hq,if_pos h0,hq4,if_pos hle,if_pos hs,hsz,if_pos (by decide),if_pos (by decide),if_pos (by decide),if_pos (by decide),if_pos hL,e0,e1,e2,e3,ht']
 rfl
theorem implSch_hi (k:Nat) (S:ByteArray) (L:List Int) (t a b c d v t':Int) (h80:t<80) (h16: ¬t<16) (ha:wrap64 (t-3)=a) (hb:wrap64 (t-8)=b) (hc:wrap64 (t-14)=c) (hd:wrap64 (t-16)=d) (h0:0≤d) (h1:d≤c) (h2:c≤b) (h3:b≤a) (h4:a<(L.length:Int))
  (hv:impl_turn.f (Go.bits .xor .i64 (Go.bits .xor .i64 (Go.bits .xor .i64 (rd L a) (rd L b)) (rd L c)) (rd L d)) 1=some v) (hL:L.length<17592186044416) (ht':wrap64 (t+1)=t'):
  impl_Schedule.l0 (k+1) S L t=impl_Schedule.l0 k S (L++ [v]) t':=by
 rw[impl_Schedule.l0,if_pos h80,if_neg h16,ha,hb,hc,hd,if_pos (by omega),if_pos h4,if_pos (by omega),if_pos (by omega),if_pos (by omega),if_pos (by omega),if_pos h0,if_pos (by omega),hv,Option.bind_some,if_pos hL,ht']
theorem wrap_s (t c:Nat) (h:t<1000) (hc:c≤t):wrap64 ((t:Int)-(c:Int))=((t-c:Nat):Int):=by rw[wrap_id (by omega) (by omega)];omega
theorem wrap_a (t c:Nat) (h:t<1000000) (hc:c≤1000000):wrap64 ((t:Int)+(c:Int))=((t+c:Nat):Int):=by rw[wrap_id (by omega) (by omega)];omega
theorem wrap_m (c t:Nat) (h:t<1000000) (hc:c≤1000):wrap64 ((c:Int)*(t:Int))=((c*t:Nat):Int):=by
 have h1:c*t≤1000*1000000:=Nat.mul_le_mul hc (Nat.le_of_lt h)
 have e:(c:Int)*(t:Int)=((c*t:Nat):Int):=(Int.natCast_mul c t).symm
 rw[e,wrap_id (by omega) (by omega)]
theorem implSch_step (B:List UInt8) (hB:B.length=64) (t:Nat) (ht:t<80) (k:Nat):impl_Schedule.l0 (k+1) (mkB B) (schedL B t) (t:Int)=impl_Schedule.l0 k (mkB B) (schedL B (t+1)) ((t+1:Nat):Int):=by
 rw[schedL]
 unfold scw
 by_cases h16:t<16
 ·rw[if_pos h16]
  have hx:((mkB B).extract (((4*t:Nat):Int)).toNat (((4*t+4:Nat):Int)).toNat)=(mkB B).extract (4*t) (4*t+4):=by rw[Int.toNat_natCast,Int.toNat_natCast]
  exact implSch_lo k (mkB B) (schedL B t) t ((4*t:Nat):Int) ((4*t+4:Nat):Int) ((t+1:Nat):Int) _ _ _ _ (by omega) (by omega) (wrap_m 4 t (by omega) (by decide)) (wrap_a (4*t) 4 (by omega) (by decide)) (by omega) (by omega) (by rw[size_mk,hB];omega)
   (by rw[hx,extract_mk,size_mk,List.length_take,List.length_drop];omega) (by rw[hx];exact bt_ext B (4*t) 0 4 (by decide) (by omega)) (by rw[hx];exact bt_ext B (4*t) 1 4 (by decide) (by omega)) (by rw[hx];exact bt_ext B (4*t) 2 4 (by decide) (by omega)) (by rw[hx];exact bt_ext B (4*t) 3 4 (by decide) (by omega))
   (by rw[schedL_len];omega) (wrap_a t 1 (by omega) (by decide))
 ·rw[if_neg h16]
  exact implSch_hi k (mkB B) (schedL B t) t ((t-3:Nat):Int) ((t-8:Nat):Int) ((t-14:Nat):Int) ((t-16:Nat):Int) _ ((t+1:Nat):Int) (by omega) (by omega) (wrap_s t 3 (by omega) (by omega)) (wrap_s t 8 (by omega) (by omega)) (wrap_s t 14 (by omega) (by omega)) (wrap_s t 16 (by omega) (by omega)) (by omega) (by omega) (by omega) (by omega)
   (by rw[schedL_len];omega) (turnI (xor4 (schedL B t) t) (xor4_wd _ (schedL_wd B hB t) t) 1 (by decide) (by decide)) (by rw[schedL_len];omega) (wrap_a t 1 (by omega) (by decide))
theorem implSch_go (B:List UInt8) (hB:B.length=64): ∀(n t:Nat),t+n=80→Ev (fun k=>impl_Schedule.l0 k (mkB B) (schedL B t) (t:Int)) (schedL B 80)
 |0,t,h=>by
  have e:t=80:=by omega
  subst e
  exact Ev.step (f:=fun _=>some (schedL B 80)) (fun k=>by rw[impl_Schedule.l0,if_neg (by decide)]) (Ev.now _)
 |n+1,t,h=>Ev.step (fun k=>implSch_step B hB t (by omega) k) (implSch_go B hB n (t+1) (by omega))
theorem implSch_is (B:List UInt8) (hB:B.length=64):Ev (fun k=>impl_Schedule.f k (mkB B)) (schedL B 80):=by
 unfold impl_Schedule.f
 have:((mkB B).size:Int)=64:=by rw[size_mk,hB];rfl
 simp only[if_pos this]
 exact implSch_go B hB 80 0 rfl
theorem specSch_lo (k:Nat) (S:ByteArray) (L:List Int) (t q q1 q2 q3 t':Int) (h80:t<80) (h16:t<16) (hq:wrap64 (4*t)=q) (hq1:wrap64 (q+1)=q1) (hq2:wrap64 (q+2)=q2) (hq3:wrap64 (q+3)=q3) (h0:0≤q) (h1:q<q1) (h2:q1<q2) (h3:q2<q3) (hs:q3<(S.size:Int)) (ht0:0≤t) (hL:t<(L.length:Int)) (ht':wrap64 (t+1)=t'):
  spec_Schedule.l0 (k+1) S L t=spec_Schedule.l0 k S (L.set t.toNat (wd4 (bt S q) (bt S q1) (bt S q2) (bt S q3))) t':=by
 rw[spec_Schedule.l0,if_pos h80,if_pos h16,hq,hq1,hq2,hq3,if_pos h0,if_pos (by omega),if_pos (by omega),if_pos (by omega),if_pos (by omega),if_pos (by omega),if_pos (by omega),if_pos hs,if_pos ht0,if_pos hL,ht']
 rfl
theorem specSch_hi (k:Nat) (S:ByteArray) (L:List Int) (t a b c d v t':Int) (h80:t<80) (h16: ¬t<16) (ha:wrap64 (t-3)=a) (hb:wrap64 (t-8)=b) (hc:wrap64 (t-14)=c) (hd:wrap64 (t-16)=d) (h0:0≤d) (h1:d≤c) (h2:c≤b) (h3:b≤a) (h4:a<t)
  (hv:spec_l3turn.f (Go.bits .xor .i64 (Go.bits .xor .i64 (Go.bits .xor .i64 (rd L a) (rd L b)) (rd L c)) (rd L d)) 1=some v) (hL:t<(L.length:Int)) (ht':wrap64 (t+1)=t'):
  spec_Schedule.l0 (k+1) S L t=spec_Schedule.l0 k S (L.set t.toNat v) t':=by
 rw[spec_Schedule.l0,if_pos h80,if_neg h16,ha,hb,hc,hd,if_pos (by omega),if_pos (by omega),if_pos (by omega),if_pos (by omega),if_pos (by omega),if_pos (by omega),if_pos h0,if_pos (by omega),hv,Option.bind_some,if_pos (by omega),if_pos hL,ht']
theorem set_rep (L:List Int) (m:Nat) (v:Int):(L++List.replicate (m+1) 0).set L.length v=(L++ [v])++List.replicate m 0:=by
 rw[List.set_append_right _ _ (by omega),Nat.sub_self,List.replicate_succ];simp
theorem specSch_step (B:List UInt8) (hB:B.length=64) (t m:Nat) (ht:t+(m+1)=80) (k:Nat):spec_Schedule.l0 (k+1) (mkB B) (schedL B t++List.replicate (m+1) 0) (t:Int)=spec_Schedule.l0 k (mkB B) (schedL B (t+1)++List.replicate m 0) ((t+1:Nat):Int):=by
 have hlen:(((schedL B t++List.replicate (m+1) 0).length:Nat):Int)=80:=by rw[List.length_append,schedL_len,List.length_replicate];omega
 have hset: ∀v:Int,(schedL B t++List.replicate (m+1) 0).set ((t:Int)).toNat v=(schedL B t++ [v])++List.replicate m 0:=by
  intro v
  have:=set_rep (schedL B t) m v
  rw[schedL_len]at this
  rw[Int.toNat_natCast];exact this
 rw[schedL]
 unfold scw
 by_cases h16:t<16
 ·rw[if_pos h16,←hset]
  exact specSch_lo k (mkB B) _ t ((4*t:Nat):Int) ((4*t+1:Nat):Int) ((4*t+2:Nat):Int) ((4*t+3:Nat):Int) ((t+1:Nat):Int) (by omega) (by omega) (wrap_m 4 t (by omega) (by decide)) (wrap_a (4*t) 1 (by omega) (by decide)) (wrap_a (4*t) 2 (by omega) (by decide)) (wrap_a (4*t) 3 (by omega) (by decide)) (by omega) (by omega) (by omega) (by omega) (by rw[size_mk,hB];omega) (by omega) (by rw[hlen];omega) (wrap_a t 1 (by omega) (by decide))
 ·rw[if_neg h16,←hset]
  have hrd: ∀c:Nat,1≤c→rd (schedL B t++List.replicate (m+1) 0) ((t-c:Nat):Int)=rd (schedL B t) ((t-c:Nat):Int):=fun c hc=>rd_left _ _ _ (by rw[schedL_len];omega)
  exact specSch_hi k (mkB B) _ t ((t-3:Nat):Int) ((t-8:Nat):Int) ((t-14:Nat):Int) ((t-16:Nat):Int) _ ((t+1:Nat):Int) (by omega) (by omega) (wrap_s t 3 (by omega) (by omega)) (wrap_s t 8 (by omega) (by omega)) (wrap_s t 14 (by omega) (by omega)) (wrap_s t 16 (by omega) (by omega)) (by omega) (by omega) (by omega) (by omega) (by omega)
   (by rw[hrd 3 (by decide),hrd 8 (by decide),hrd 14 (by decide),hrd 16 (by decide)];exact turnS (xor4 (schedL B t) t) (xor4_wd _ (schedL_wd B hB t) t) 1 (by decide) (by decide)) (by rw[hlen];omega) (wrap_a t 1 (by omega) (by decide))
theorem specSch_go (B:List UInt8) (hB:B.length=64): ∀(n t:Nat),t+n=80→Ev (fun k=>spec_Schedule.l0 k (mkB B) (schedL B t++List.replicate n 0) (t:Int)) (schedL B 80)
 |0,t,h=>by
  have e:t=80:=by omega
  subst e
  refine Ev.step (f:=fun _=>some (schedL B 80)) (fun k=>?_) (Ev.now _)
  rw[spec_Schedule.l0,if_neg (by decide),List.replicate_zero,List.append_nil]
 |n+1,t,h=>Ev.step (fun k=>specSch_step B hB t n (by omega) k) (specSch_go B hB n (t+1) (by omega))
theorem specSch_is (B:List UInt8) (hB:B.length=64):Ev (fun k=>spec_Schedule.f k (mkB B)) (schedL B 80):=by
 unfold spec_Schedule.f
 have:((mkB B).size:Int)=64:=by rw[size_mk,hB];rfl
 simp only[if_pos this,if_pos (show 80≤35184372088832 by decide)]
 exact specSch_go B hB 80 0 rfl
def fS (t:Nat) (b c d:Int):Int:=
 if t/20=0 then Go.bits .or .i64 (Go.bits .and .i64 b c) (Go.bits .and .i64 (Go.bits .xor .i64 b 4294967295) d)
 else if t/20=2 then Go.bits .or .i64 (Go.bits .or .i64 (Go.bits .and .i64 b c) (Go.bits .and .i64 b d)) (Go.bits .and .i64 c d)
 else Go.bits .xor .i64 (Go.bits .xor .i64 b c) d
def kS (t:Nat):Int:=if t/20=0 then 1518500249 else if t/20=1 then 1859775393 else if t/20=2 then 2400959708 else 3395469782
theorem div20 (t:Nat) (h:t<80):wrap64 (Int.tdiv (t:Int) 20)=((t/20:Nat):Int):=by
 rw[Int.tdiv_eq_ediv_of_nonneg (by omega),wrap_id (by omega) (by omega)];omega
theorem l3f_is (t:Nat) (h:t<80) (b c d:Int):spec_l3f.f (t:Int) b c d=some (fS t b c d):=by
 unfold spec_l3f.f fS
 rw[div20 t h]
 by_cases h0:t/20=0
 ·rw[if_pos (by omega),if_pos h0]
 ·rw[if_neg (by omega),if_neg h0]
  by_cases h2:t/20=2
  ·rw[if_pos (by omega),if_pos h2]
  ·rw[if_neg (by omega),if_neg h2]
theorem l3k_is (t:Nat) (h:t<80):spec_l3k.f (t:Int)=some (kS t):=by
 unfold spec_l3k.f kS
 rw[div20 t h]
 by_cases h0:t/20=0
 ·rw[if_pos (by omega),if_pos h0]
 ·rw[if_neg (by omega),if_neg h0]
  by_cases h1:t/20=1
  ·rw[if_pos (by omega),if_pos h1]
  ·rw[if_neg (by omega),if_neg h1]
   by_cases h2:t/20=2
   ·rw[if_pos (by omega),if_pos h2]
   ·rw[if_neg (by omega),if_neg h2]
def rot5 (x:Int) (n:Nat):Int:=((rotN x.toNat n:Nat):Int)
def xS (W:List Int) (t:Nat) (a b c d e:Int):Int:=Go.bits .and .i64 (wrap64 ((wrap64 ((wrap64 ((wrap64 (rot5 a 5+fS t b c d))+e))+(rd W (t:Int))))+kS t)) 4294967295
structure St5 where
 (a b c d e:Int)
def St5.ok (s:St5):Prop:=WD s.a∧WD s.b∧WD s.c∧WD s.d∧WD s.e
def rnd (W:List Int) (t:Nat) (s:St5):St5:=⟨xS W t s.a s.b s.c s.d s.e,s.a,rot5 s.b 30,s.c,s.d⟩
theorem rnd_ok (W:List Int) (t:Nat) (s:St5) (h:s.ok):(rnd W t s).ok:=⟨mask_wd _,h.1,rot_wd _ h.2.1 30,h.2.2.1,h.2.2.2.1⟩
def rnds (W:List Int):Nat→St5→St5
 |0,s=>s
 |n+1,s=>rnd W n (rnds W n s)
theorem rnds_ok (W:List Int) (s:St5) (h:s.ok): ∀n,(rnds W n s).ok
 |0=>h
 |n+1=>rnd_ok W n _ (rnds_ok W s h n)
def madd (x y:Int):Int:=Go.bits .and .i64 (wrap64 (x+y)) 4294967295
def outL (h s:St5):List Int:= [madd h.a s.a,madd h.b s.b,madd h.c s.c,madd h.d s.d,madd h.e s.e]
def St5.l (s:St5):List Int:= [s.a,s.b,s.c,s.d,s.e]
def outS (h s:St5):St5:=⟨madd h.a s.a,madd h.b s.b,madd h.c s.c,madd h.d s.d,madd h.e s.e⟩
theorem outS_ok (h s:St5):(outS h s).ok:=⟨mask_wd _,mask_wd _,mask_wd _,mask_wd _,mask_wd _⟩
def compS (h:St5) (B:List UInt8):St5:=outS h (rnds (schedL B 80) 80 h)
theorem words_spec (s:St5) (h:s.ok):Ev (fun k=>spec_l3words.f k s.l) true:=by
 unfold spec_l3words.f
 have hl:((s.l.length:Nat):Int)=5:=rfl
 simp only[if_pos hl]
 have hw: ∀x,WD x→spec_l3word.f x=some true:=fun x hx=>by
  unfold spec_l3word.f;rw[if_pos hx.1,decide_eq_true (by have:=hx.2;omega)]
 have st: ∀(k:Nat) (i x j:Int),i<5→0≤i→rd s.l i=x→WD x→wrap64 (i+1)=j→spec_l3words.l0 (k+1) s.l i=spec_l3words.l0 k s.l j:=fun k i x j h5 h0 hx hwx hj=>by
  rw[spec_l3words.l0,if_pos h5,if_pos h0,if_pos (by rw[hl];exact h5),hx,hw x hwx,Option.bind_some,if_pos rfl,hj]
 refine Ev.step (fun k=>st k 0 s.a 1 (by decide) (by decide) rfl h.1 (by rw[wrap_id (by decide) (by decide)];rfl)) ?_
 refine Ev.step (fun k=>st k 1 s.b 2 (by decide) (by decide) rfl h.2.1 (by rw[wrap_id (by decide) (by decide)];rfl)) ?_
 refine Ev.step (fun k=>st k 2 s.c 3 (by decide) (by decide) rfl h.2.2.1 (by rw[wrap_id (by decide) (by decide)];rfl)) ?_
 refine Ev.step (fun k=>st k 3 s.d 4 (by decide) (by decide) rfl h.2.2.2.1 (by rw[wrap_id (by decide) (by decide)];rfl)) ?_
 refine Ev.step (fun k=>st k 4 s.e 5 (by decide) (by decide) rfl h.2.2.2.2 (by rw[wrap_id (by decide) (by decide)];rfl)) ?_
 exact Ev.step (f:=fun _=>some true) (fun k=>by rw[spec_l3words.l0,if_neg (by decide)]) (Ev.now _)
theorem words_impl (s:St5) (h:s.ok):Ev (fun k=>impl_areWords.f k s.l 5) true:=by
 unfold impl_areWords.f
 have hl:((s.l.length:Nat):Int)=5:=rfl
 simp only[if_pos hl]
 have hw: ∀x,WD x→impl_within.f x 0 4294967295=some true:=fun x hx=>by
  unfold impl_within.f;rw[if_pos hx.1,decide_eq_true (by have:=hx.2;omega)]
 have st: ∀(k:Nat) (i x j:Int),i<5→0≤i→rd s.l i=x→WD x→wrap64 (i+1)=j→impl_areWords.l0 (k+1) s.l (s.l.length:Int) i=impl_areWords.l0 k s.l (s.l.length:Int) j:=fun k i x j h5 h0 hx hwx hj=>by
  rw[impl_areWords.l0,if_pos (by rw[hl];exact h5),if_pos h0,if_pos (by rw[hl];exact h5),hx,hw x hwx,Option.bind_some,if_pos rfl,hj]
 refine Ev.step (fun k=>st k 0 s.a 1 (by decide) (by decide) rfl h.1 (by rw[wrap_id (by decide) (by decide)];rfl)) ?_
 refine Ev.step (fun k=>st k 1 s.b 2 (by decide) (by decide) rfl h.2.1 (by rw[wrap_id (by decide) (by decide)];rfl)) ?_
 refine Ev.step (fun k=>st k 2 s.c 3 (by decide) (by decide) rfl h.2.2.1 (by rw[wrap_id (by decide) (by decide)];rfl)) ?_
 refine Ev.step (fun k=>st k 3 s.d 4 (by decide) (by decide) rfl h.2.2.2.1 (by rw[wrap_id (by decide) (by decide)];rfl)) ?_
 refine Ev.step (fun k=>st k 4 s.e 5 (by decide) (by decide) rfl h.2.2.2.2 (by rw[wrap_id (by decide) (by decide)];rfl)) ?_
 exact Ev.step (f:=fun _=>some true) (fun k=>by rw[impl_areWords.l0,if_neg (by rw[hl];decide)]) (Ev.now _)
theorem specRound (k:Nat) (H W:List Int) (a b c d e t5 f kk b30 x t':Int) (t:Int) (h80:t<80) (h1:spec_l3turn.f a 5=some t5) (h2:spec_l3f.f t b c d=some f) (h0:0≤t) (hW:t<(W.length:Int)) (h3:spec_l3k.f t=some kk) (h4:spec_l3turn.f b 30=some b30)
  (hx:Go.bits .and .i64 (wrap64 ((wrap64 ((wrap64 ((wrap64 (t5+f))+e))+(rd W t)))+kk)) 4294967295=x) (ht:wrap64 (t+1)=t'):
  spec_Compress.l0 (k+1) H W a b c d e t=spec_Compress.l0 k H W x a b30 c d t':=by
 rw[spec_Compress.l0,if_pos h80,h1,Option.bind_some,h2,Option.bind_some,if_pos h0,if_pos hW,h3,Option.bind_some,h4,Option.bind_some,hx,ht]
theorem specComp_go (h:St5) (W:List Int) (hW:W.length=80) (s0:St5) (hs:s0.ok): ∀(n t:Nat),t+n=80→
  Ev (fun k=>spec_Compress.l0 k h.l W (rnds W t s0).a (rnds W t s0).b (rnds W t s0).c (rnds W t s0).d (rnds W t s0).e (t:Int)) (outL h (rnds W 80 s0))
 |0,t,ht=>by
  have e:t=80:=by omega
  subst e
  refine Ev.step (f:=fun _=>some (outL h (rnds W 80 s0))) (fun k=>?_) (Ev.now _)
  generalize rnds W 80 s0=s
  have hl:((h.l.length:Nat):Int)=5:=rfl
  rw[spec_Compress.l0,if_neg (by decide),if_pos (by rw[hl];decide),if_pos (by rw[hl];decide),if_pos (by rw[hl];decide),if_pos (by rw[hl];decide),if_pos (by rw[hl];decide)]
  rfl
 |n+1,t,ht=>by
  have ih:=specComp_go h W hW s0 hs n (t+1) (by omega)
  have hok:=rnds_ok W s0 hs t
  refine Ev.step (fun k=>?_) ih
  show _=spec_Compress.l0 k h.l W (rnd W t (rnds W t s0)).a (rnd W t (rnds W t s0)).b (rnd W t (rnds W t s0)).c (rnd W t (rnds W t s0)).d (rnd W t (rnds W t s0)).e ((t+1:Nat):Int)
  generalize rnds W t s0=s at hok
  exact specRound k h.l W s.a s.b s.c s.d s.e (rot5 s.a 5) (fS t s.b s.c s.d) (kS t) (rot5 s.b 30) _ _ t (by omega) (turnS s.a hok.1 5 (by decide) (by decide)) (l3f_is t (by omega) _ _ _) (by omega) (by omega) (l3k_is t (by omega)) (turnS s.b hok.2.1 30 (by decide) (by decide)) rfl (wrap_a t 1 (by omega) (by decide))
theorem specComp_is (h:St5) (hh:h.ok) (B:List UInt8) (hB:B.length=64):Ev (fun k=>spec_Compress.f k h.l (mkB B)) (compS h B).l:=by
 unfold spec_Compress.f
 refine(words_spec h hh).bind ?_
 have hs:((mkB B).size:Int)=64:=by rw[size_mk,hB];rfl
 simp only[if_true,hs,bne_self_eq_false]
 refine Ev.step (f:=fun k=>(spec_Schedule.f k (mkB B)).bind fun t=>spec_Compress.l0 k h.l t h.a h.b h.c h.d h.e 0) (fun k=>?_) ?_
 ·rw[spec_Compress.j0,if_neg (by decide)]
  congr 1
 ·refine(specSch_is B hB).bind ?_
  exact specComp_go h (schedL B 80) (schedL_len B 80) h hh 80 0 rfl
theorem implRound (k:Nat) (H W:List Int) (N a b c d e t5 b30 x t':Int) (t:Nat) (h80:t<80) (hN:N=80) (h1:impl_turn.f a 5=some t5) (h4:impl_turn.f b 30=some b30) (hW:(t:Int)<(W.length:Int)) (hd:WD d)
  (hx:Go.bits .and .i64 (wrap64 ((wrap64 ((wrap64 ((wrap64 (t5+fS t b c d))+e))+(rd W (t:Int))))+kS t)) 4294967295=x) (ht:wrap64 ((t:Int)+1)=t'):
  impl_Compress.l0 (k+1) H a b c d e W N (t:Int)=impl_Compress.l0 k H x a b30 c d W N t':=by
 rw[impl_Compress.l0,if_pos (by omega),if_pos (by omega),if_pos hW,h1,h4]
 simp only[Option.bind_some]
 by_cases c1:t<20
 ·rw[if_pos (by omega),choose_is b c d hd,←hx,ht]
  unfold fS kS
  rw[if_pos (by omega),if_pos (by omega)]
 ·rw[if_neg (by omega)]
  by_cases c2:60≤t
  ·rw[if_pos (by omega),←hx,ht]
   unfold fS kS
   rw[if_neg (by omega),if_neg (by omega),if_neg (by omega),if_neg (by omega),if_neg (by omega)]
  ·rw[if_neg (by omega)]
   by_cases c3:40≤t
   ·rw[if_pos (by omega),←hx,ht]
    unfold fS kS
    rw[if_neg (by omega),if_pos (by omega),if_neg (by omega),if_neg (by omega),if_pos (by omega)]
   ·rw[if_neg (by omega),←hx,ht]
    unfold fS kS
    rw[if_neg (by omega),if_neg (by omega),if_neg (by omega),if_pos (by omega)]
theorem madd_comm (x y:Int):madd x y=madd y x:=by unfold madd;rw[Int.add_comm]
theorem implFin (H Y:List Int) (k:Nat) (i x y j:Int) (h5:i<5) (h0:0≤i) (hY:(Y.length:Int)=5) (hH:(H.length:Int)=5) (hx:rd Y i=x) (hy:rd H i=y) (hj:wrap64 (i+1)=j):
  impl_Compress.l1 (k+1) H Y 5 i=impl_Compress.l1 k H (Y.set i.toNat (madd y x)) 5 j:=by
 rw[impl_Compress.l1,if_pos h5,if_pos h0,if_pos (by omega),if_pos (by omega),hx,hy,hj,madd_comm]
 rfl
theorem implComp_fin (h s:St5):Ev (fun k=>impl_Compress.l1 k h.l s.l 5 0) (outL h s):=by
 refine Ev.step (fun k=>implFin h.l s.l k 0 s.a h.a 1 (by decide) (by decide) rfl rfl rfl rfl (by rw[wrap_id (by decide) (by decide)];rfl)) ?_
 refine Ev.step (fun k=>implFin h.l _ k 1 s.b h.b 2 (by decide) (by decide) rfl rfl rfl rfl (by rw[wrap_id (by decide) (by decide)];rfl)) ?_
 refine Ev.step (fun k=>implFin h.l _ k 2 s.c h.c 3 (by decide) (by decide) rfl rfl rfl rfl (by rw[wrap_id (by decide) (by decide)];rfl)) ?_
 refine Ev.step (fun k=>implFin h.l _ k 3 s.d h.d 4 (by decide) (by decide) rfl rfl rfl rfl (by rw[wrap_id (by decide) (by decide)];rfl)) ?_
 refine Ev.step (fun k=>implFin h.l _ k 4 s.e h.e 5 (by decide) (by decide) rfl rfl rfl rfl (by rw[wrap_id (by decide) (by decide)];rfl)) ?_
 exact Ev.step (f:=fun _=>some (outL h s)) (fun k=>by rw[impl_Compress.l1,if_neg (by decide)];rfl) (Ev.now _)
theorem implComp_go (h:St5) (W:List Int) (hW:W.length=80) (s0:St5) (hs:s0.ok): ∀(n t:Nat),t+n=80→
  Ev (fun k=>impl_Compress.l0 k h.l (rnds W t s0).a (rnds W t s0).b (rnds W t s0).c (rnds W t s0).d (rnds W t s0).e W (W.length:Int) (t:Int)) (outL h (rnds W 80 s0))
 |0,t,ht=>by
  have e:t=80:=by omega
  subst e
  refine Ev.step (f:=fun k=>impl_Compress.l1 k h.l (rnds W 80 s0).l 5 0) (fun k=>?_) (implComp_fin h _)
  generalize rnds W 80 s0=s
  rw[impl_Compress.l0,if_neg (by rw[hW];decide)]
  rfl
 |n+1,t,ht=>by
  have ih:=implComp_go h W hW s0 hs n (t+1) (by omega)
  have hok:=rnds_ok W s0 hs t
  refine Ev.step (fun k=>?_) ih
  show _=impl_Compress.l0 k h.l (rnd W t (rnds W t s0)).a (rnd W t (rnds W t s0)).b (rnd W t (rnds W t s0)).c (rnd W t (rnds W t s0)).d (rnd W t (rnds W t s0)).e W (W.length:Int) ((t+1:Nat):Int)
  generalize rnds W t s0=s at hok
  exact implRound k h.l W (W.length:Int) s.a s.b s.c s.d s.e (rot5 s.a 5) (rot5 s.b 30) _ _ t (by omega) (by omega) (turnI s.a hok.1 5 (by decide) (by decide)) (turnI s.b hok.2.1 30 (by decide) (by decide)) (by omega) hok.2.2.2.1 rfl (wrap_a t 1 (by omega) (by decide))
theorem implComp_is (h:St5) (hh:h.ok) (B:List UInt8) (hB:B.length=64):Ev (fun k=>impl_Compress.f k h.l (mkB B)) (compS h B).l:=by
 unfold impl_Compress.f
 refine(words_impl h hh).bind ?_
 have hs:((mkB B).size:Int)=64:=by rw[size_mk,hB];rfl
 simp only[if_true,hs,bne_self_eq_false]
 refine Ev.step (f:=fun k=>(impl_Schedule.f k (mkB B)).bind fun t=>impl_Compress.l0 k h.l h.a h.b h.c h.d h.e t (t.length:Int) 0) (fun k=>?_) ?_
 ·have hl:((h.l.length:Nat):Int)=5:=rfl
  rw[impl_Compress.j0,if_neg (by decide),if_pos (by rw[hl];decide),if_pos (by rw[hl];decide),if_pos (by rw[hl];decide),if_pos (by rw[hl];decide),if_pos (by rw[hl];decide)]
  rfl
 ·refine(implSch_is B hB).bind ?_
  exact implComp_go h (schedL B 80) (schedL_len B 80) h hh 80 0 rfl
def foldB:Nat→St5→List UInt8→St5
 |0,s,_=>s
 |n+1,s,l=>foldB n (compS s (l.take 64)) (l.drop 64)
theorem foldB_ok: ∀(n:Nat) (s:St5) (l:List UInt8),s.ok→(foldB n s l).ok
 |0,_,_,h=>h
 |n+1,s,l,h=>foldB_ok n _ _ (outS_ok s _)
theorem compS_ok (s:St5) (B:List UInt8):(compS s B).ok:=outS_ok s _
theorem cut64 (l:List UInt8) (h:64≤l.length):(mkB l).extract 0 64=mkB (l.take 64)∧(mkB l).extract 64 (mkB l).size=mkB (l.drop 64)∧(l.take 64).length=64:=by
 refine⟨by rw[extract_mk];simp,?_,by rw[List.length_take];omega⟩
 rw[extract_mk,size_mk,List.take_of_length_le (by rw[List.length_drop];omega)]
theorem sizeI (l:List UInt8):(((mkB l).size:Nat):Int)=(l.length:Int):=by rw[size_mk]
theorem implAdd_go (sz:Int): ∀(n:Nat) (s:St5) (l:List UInt8),s.ok→64*n≤l.length→l.length<64*n+64→
  Ev (fun k=>impl_ShaAdd.l0 k s.l (mkB l) sz) ((foldB n s l).l,mkB (l.drop (64*n)),sz)
 |0,s,l,hs,h1,h2=>by
  refine Ev.step (f:=fun _=>some (s.l,mkB l,sz)) (fun k=>?_) (Ev.now _)
  rw[impl_ShaAdd.l0,if_neg (by rw[sizeI];omega)]
 |n+1,s,l,hs,h1,h2=>by
  obtain⟨e1,e2,e3⟩:=cut64 l (by omega)
  have ih:=implAdd_go sz n (compS s (l.take 64)) (l.drop 64) (compS_ok _ _) (by rw[List.length_drop];omega) (by rw[List.length_drop];omega)
  rw[List.drop_drop,show 64+64*n=64*(n+1)by omega]at ih
  refine Ev.step (f:=fun k=>(impl_Compress.f k s.l (mkB (l.take 64))).bind fun t=>impl_ShaAdd.l0 k t (mkB (l.drop 64)) sz) (fun k=>?_) ((implComp_is s hs (l.take 64) e3).bind ih)
  rw[impl_ShaAdd.l0,if_pos (by rw[sizeI];omega),if_pos (by decide),if_pos (by rw[sizeI];omega),e1,e2]
theorem cut64_at (L:List UInt8) (at_:Nat):(mkB L).extract ((at_:Int)).toNat ((((at_+64:Nat)):Int)).toNat=mkB ((L.drop at_).take 64):=by
 rw[Int.toNat_natCast,Int.toNat_natCast,extract_mk,Nat.add_sub_cancel_left]
theorem specAdd_go (x1:ByteArray) (a:List Int) (b:ByteArray) (c:Int) (L:List UInt8) (hL:L.length≤1000000) (H:List Int): ∀(n at_:Nat) (s:St5),s.ok→at_+64*n≤L.length→L.length<at_+64*n+64→
  Ev (fun k=>spec_ShaAdd.l0 k x1 s.l (mkB L) (at_:Int) a b c) ((foldB n s (L.drop at_)).l,mkB (L.drop (at_+64*n)),wrap64 (c+(x1.size:Int)))
 |0,at_,s,hs,h1,h2=>by
  have hw:wrap64 ((((mkB L).size:Nat):Int)-(at_:Int))=((L.length-at_:Nat):Int):=by rw[sizeI,wrap_id (by omega) (by omega)];omega
  refine Ev.step (f:=fun _=>some (s.l,mkB (L.drop at_),wrap64 (c+(x1.size:Int)))) (fun k=>?_) (Ev.now _)
  rw[spec_ShaAdd.l0,hw,if_neg (by omega),if_pos (by omega),if_pos (by rw[sizeI];omega),Int.toNat_natCast,extract_mk,size_mk,List.take_of_length_le (by rw[List.length_drop];omega)]
 |n+1,at_,s,hs,h1,h2=>by
  have hw:wrap64 ((((mkB L).size:Nat):Int)-(at_:Int))=((L.length-at_:Nat):Int):=by rw[sizeI,wrap_id (by omega) (by omega)];omega
  have hw2:wrap64 ((at_:Int)+64)=((at_+64:Nat):Int):=wrap_a at_ 64 (by omega) (by decide)
  have ih:=specAdd_go x1 a b c L hL H n (at_+64) (compS s ((L.drop at_).take 64)) (compS_ok _ _) (by omega) (by omega)
  rw[←List.drop_drop,show at_+64+64*n=at_+64*(n+1)by omega]at ih
  refine Ev.step (f:=fun k=>(spec_Compress.f k s.l (mkB ((L.drop at_).take 64))).bind fun t=>spec_ShaAdd.l0 k x1 t (mkB L) ((at_+64:Nat):Int) a b c) (fun k=>?_) ((specComp_is s hs _ (by rw[List.length_take,List.length_drop];omega)).bind ih)
  rw[spec_ShaAdd.l0,hw,hw2,if_pos (by omega),if_pos (by omega),if_pos (by omega),if_pos (by rw[sizeI];omega),cut64_at]
def IV:St5:=⟨1732584193,4023233417,2562383102,271733878,3285377520⟩
theorem IV_ok:IV.ok:=by unfold St5.ok WD IV;decide
theorem okI (s:St5) (hs:s.ok) (r:List UInt8) (sz:Nat) (hsz:sz≤1000000) (hr:r.length=sz%64):Ev (fun k=>impl_ShaOk.f k s.l (mkB r) (sz:Int)) true:=by
 unfold impl_ShaOk.f
 refine(words_impl s hs).bind ?_
 have hw:impl_within.f (sz:Int) 0 999999999999999=some true:=by unfold impl_within.f;rw[if_pos (by omega),decide_eq_true (by omega)]
 have ht:Int.tmod (sz:Int) 64=((sz%64:Nat):Int):=by rw[Int.tmod_eq_emod_of_nonneg (by omega)];omega
 simp only[if_true,hw,Option.bind_some,sizeI,ht,hr,beq_self_eq_true]
 exact Ev.now _
theorem okS (s:St5) (hs:s.ok) (r:List UInt8) (sz:Nat) (hsz:sz≤1000000) (hr:r.length=sz%64):Ev (fun k=>spec_ShaOk.f k s.l (mkB r) (sz:Int)) true:=by
 unfold spec_ShaOk.f
 refine(words_spec s hs).bind ?_
 have ht:Int.tmod (sz:Int) 64=((sz%64:Nat):Int):=by rw[Int.tmod_eq_emod_of_nonneg (by omega)];omega
 simp only[if_true,if_pos (show(sz:Int)≥0 by omega),if_pos (show(sz:Int)≤999999999999999 by omega),sizeI,ht,hr,beq_self_eq_true]
 exact Ev.now _
def addN (l:List UInt8):Nat:=l.length/64
theorem app_mk (a b:List UInt8):mkB a++mkB b=mkB (a++b):=by
 apply toList_inj
 rw[toList_mk,toList_bl,bl,ByteArray.data_append,Array.toList_append]
 simp[mkB]
theorem implAdd_is (l:List UInt8) (hl:l.length≤1000000):Ev (fun k=>impl_ShaAdd.f k IV.l (mkB []) 0 (mkB l)) ((foldB (addN l) IV l).l,mkB (l.drop (64*addN l)),(l.length:Int)):=by
 unfold impl_ShaAdd.f
 refine(okI IV IV_ok [] 0 (by decide) rfl).bind ?_
 have hd:decide ((((mkB l).size:Nat):Int)>wrap64 (999999999999999-0))=false:=by rw[wrap_id (by decide) (by decide),sizeI];exact decide_eq_false (by omega)
 simp only[if_true,hd]
 refine Ev.step (f:=fun k=>impl_ShaAdd.l0 k IV.l (mkB l) (l.length:Int)) (fun k=>?_) (implAdd_go _ (addN l) IV l IV_ok (by unfold addN;omega) (by unfold addN;omega))
 have hsz:wrap64 (0+(((mkB l).size:Nat):Int))=(l.length:Int):=by rw[sizeI,wrap_id (by omega) (by omega)];omega
 rw[impl_ShaAdd.j0,if_neg (by decide),Option.bind_some,if_pos (by decide),if_pos (by rw[size_mk,size_mk];simp;omega),hsz,app_mk,List.nil_append,List.nil_append]
theorem specAdd_is (l:List UInt8) (hl:l.length≤1000000):Ev (fun k=>spec_ShaAdd.f k IV.l (mkB []) 0 (mkB l)) ((foldB (addN l) IV l).l,mkB (l.drop (64*addN l)),(l.length:Int)):=by
 unfold spec_ShaAdd.f
 refine(okS IV IV_ok [] 0 (by decide) rfl).bind ?_
 have hd:decide ((((mkB l).size:Nat):Int)>wrap64 (999999999999999-0))=false:=by rw[wrap_id (by decide) (by decide),sizeI];exact decide_eq_false (by omega)
 simp only[if_true,hd]
 have hsz:wrap64 (0+(((mkB l).size:Nat):Int))=(l.length:Int):=by rw[sizeI,wrap_id (by omega) (by omega)];omega
 have h:=specAdd_go (mkB l) IV.l (mkB []) 0 l hl [] (addN l) 0 IV IV_ok (by unfold addN;omega) (by unfold addN;omega)
 rw[hsz,Nat.zero_add]at h
 refine Ev.step (fun k=>?_) h
 rw[spec_ShaAdd.j0,if_neg (by decide),Option.bind_some,if_pos (by decide),if_pos (by rw[size_mk,size_mk];simp;omega),app_mk,List.nil_append,List.nil_append]
 rfl
def toI (l:List Nat):List Int:=l.map fun v:Nat=>(v:Int)
def toB (l:List Nat):List UInt8:=l.map fun v=>UInt8.ofNat v
theorem strOf_I (l:List Nat):strOfNums (toI l)=mkB (toB l):=strOf_nat l
theorem toI_app (a b:List Nat):toI (a++b)=toI a++toI b:=by simp[toI]
theorem toB_app (a b:List Nat):toB (a++b)=toB a++toB b:=by simp[toB]
theorem toI_len (a:List Nat):(toI a).length=a.length:=by simp[toI]
theorem toB_len (a:List Nat):(toB a).length=a.length:=by simp[toB]
def beL (N:Nat):Nat→List Nat
 |0=> []
 |m+1=>(N/2^(8*m))%256::beL N m
theorem beL_len (N:Nat): ∀m,(beL N m).length=m
 |0=>rfl
 |m+1=>by rw[beL,List.length_cons,beL_len N m]
theorem beL_lt (N:Nat): ∀m,∀x∈beL N m,x<256
 |0,_,h=>by cases h
 |m+1,x,h=>by
  rw[beL]at h
  rcases List.mem_cons.1 h with h|h
  ·rw[h];exact Nat.mod_lt _ (by decide)
  ·exact beL_lt N m x h
theorem beI_go (N:Nat): ∀(m:Nat) (acc:List Nat),m≤8→acc.length+m≤1000→Ev (fun k=>impl_bigEndian.l0 k (N:Int) (toI acc) (8*(m:Int)-8)) (mkB (toB (acc++beL N m)))
 |0,acc,hm,ha=>by
  refine Ev.step (f:=fun _=>some (mkB (toB (acc++beL N 0)))) (fun k=>?_) (Ev.now _)
  rw[impl_bigEndian.l0,if_neg (by omega),strOf_I,beL,List.append_nil]
 |m+1,acc,hm,ha=>by
  have ih:=beI_go N m (acc++ [(N/2^(8*m))%256]) (by omega) (by rw[List.length_append,List.length_singleton];omega)
  have e:acc++ [(N/2^(8*m))%256]++beL N m=acc++beL N (m+1):=by rw[beL,List.append_assoc];rfl
  rw[e]at ih
  have hs:(8*((m+1:Nat):Int)-8)=((8*m:Nat):Int):=by omega
  have hn:wrap64 (((8*m:Nat):Int)-8)=8*(m:Int)-8:=by rw[wrap_id (by omega) (by omega)];omega
  refine Ev.step (fun k=>?_) ih
  rw[hs,impl_bigEndian.l0,if_pos (by omega),if_pos (by omega),if_pos (by rw[toI_len];omega),shrs_nat N (8*m) (by omega),mod256n,hn,toI_app]
  rfl
theorem beI_is (N c:Nat) (h8:c≤8) (h1:1≤c):Ev (fun k=>impl_bigEndian.f k (N:Int) (c:Int)) (mkB (toB (beL N c))):=by
 unfold impl_bigEndian.f
 have hw:wrap64 (8*wrap64 ((c:Int)-1))=8*(c:Int)-8:=by rw[wrap_id (a:=(c:Int)-1) (by omega) (by omega),wrap_id (by omega) (by omega)];omega
 rw[hw]
 exact beI_go N c [] h8 (by simp;omega)
def outD (s:St5):List Nat:=beL s.a.toNat 4++beL s.b.toNat 4++beL s.c.toNat 4++beL s.d.toNat 4++beL s.e.toNat 4
theorem outD_len (s:St5):(outD s).length=20:=by unfold outD;simp only[List.length_append,beL_len]
theorem outD_lt (s:St5): ∀x∈outD s,x<256:=by
 intro x hx
 unfold outD at hx
 simp only[List.mem_append]at hx
 rcases hx with(((hx|hx)|hx)|hx)|hx<;>exact beL_lt _ _ x hx
theorem implOut_step (s:St5) (pre:List UInt8) (i j x:Int) (h5:i<5) (h0:0≤i) (hx:rd s.l i=x) (hw:WD x) (hj:wrap64 (i+1)=j) (hp:pre.length≤1000) (res:ByteArray)
  (h:Ev (fun k=>impl_ShaEnd.l2 k (mkB (pre++toB (beL x.toNat 4))) s.l 5 j) res):Ev (fun k=>impl_ShaEnd.l2 k (mkB pre) s.l 5 i) res:=by
 obtain⟨n,rfl,hn⟩:=wd_nat hw
 rw[Int.toNat_natCast]at h
 refine Ev.step (f:=fun k=>(impl_bigEndian.f k (n:Int) 4).bind fun t=>if(mkB pre).size+t.size≤9223372036854775807 then impl_ShaEnd.l2 k ((mkB pre)++t) s.l 5 j else none) (fun k=>?_) ?_
 ·have hl:((s.l.length:Nat):Int)=5:=rfl
  rw[impl_ShaEnd.l2,if_pos h5,if_pos h0,if_pos (by rw[hl];exact h5),hx,hj]
 ·refine(beI_is n 4 (by decide) (by decide)).bind ?_
  have hsz:(mkB pre).size+(mkB (toB (beL n 4))).size≤9223372036854775807:=by rw[size_mk,size_mk,toB_len,beL_len];omega
  simp only[if_pos hsz,app_mk]
  exact h
theorem implOut_is (s:St5) (hs:s.ok):Ev (fun k=>impl_ShaEnd.l2 k (mkB []) s.l 5 0) (mkB (toB (outD s))):=by
 refine implOut_step s [] 0 1 s.a (by decide) (by decide) rfl hs.1 (by rw[wrap_id (by decide) (by decide)];rfl) (by decide) _ ?_
 refine implOut_step s _ 1 2 s.b (by decide) (by decide) rfl hs.2.1 (by rw[wrap_id (by decide) (by decide)];rfl) (by simp[toB_len,beL_len]) _ ?_
 refine implOut_step s _ 2 3 s.c (by decide) (by decide) rfl hs.2.2.1 (by rw[wrap_id (by decide) (by decide)];rfl) (by simp[toB_len,beL_len]) _ ?_
 refine implOut_step s _ 3 4 s.d (by decide) (by decide) rfl hs.2.2.2.1 (by rw[wrap_id (by decide) (by decide)];rfl) (by simp[toB_len,beL_len]) _ ?_
 refine implOut_step s _ 4 5 s.e (by decide) (by decide) rfl hs.2.2.2.2 (by rw[wrap_id (by decide) (by decide)];rfl) (by simp[toB_len,beL_len]) _ ?_
 refine Ev.step (f:=fun _=>some (mkB (toB (outD s)))) (fun k=>?_) (Ev.now _)
 rw[impl_ShaEnd.l2,if_neg (by decide)]
 unfold outD
 simp only[toB_app,List.nil_append]
theorem implE1_is: ∀(n:Nat) (s:St5) (l:List UInt8),s.ok→l.length=64*n→Ev (fun k=>impl_ShaEnd.l1 k (mkB l) s.l) (mkB (toB (outD (foldB n s l))))
 |0,s,l,hs,hl=>by
  have e:l= []:=List.length_eq_zero_iff.1 (by omega)
  subst e
  refine Ev.step (fun k=>?_) (implOut_is s hs)
  rw[impl_ShaEnd.l1,toList_mk,if_pos rfl]
  rfl
 |n+1,s,l,hs,hl=>by
  obtain⟨e1,e2,e3⟩:=cut64 l (by omega)
  have ih:=implE1_is n (compS s (l.take 64)) (l.drop 64) (compS_ok _ _) (by rw[List.length_drop];omega)
  refine Ev.step (f:=fun k=>(impl_Compress.f k s.l (mkB (l.take 64))).bind fun t=>impl_ShaEnd.l1 k (mkB (l.drop 64)) t) (fun k=>?_) ((implComp_is s hs (l.take 64) e3).bind ih)
  rw[impl_ShaEnd.l1,toList_mk,if_neg (by intro h;rw[h]at hl;exact absurd hl (by simp)),if_pos (by decide),if_pos (by rw[sizeI];omega),e1,e2]
theorem implZ_is (a:List Int) (b:ByteArray) (c:Int) (res:ByteArray): ∀(z:Nat) (l:List UInt8),(l.length+z)%64=56→z<64→l.length+z≤1000000→
  Ev (fun k=>(impl_bigEndian.f k (wrap64 (8*c)) 8).bind fun t=>if(mkB (l++List.replicate z 0)).size+t.size≤9223372036854775807 then impl_ShaEnd.l1 k ((mkB (l++List.replicate z 0))++t) a else none) res→
  Ev (fun k=>impl_ShaEnd.l0 k (mkB l) a b c) res
 |0,l,h1,h2,h3,h=>by
  rw[List.replicate_zero,List.append_nil]at h
  refine Ev.step (fun k=>?_) h
  rw[impl_ShaEnd.l0,if_pos (by rw[sizeI];omega)]
 |z+1,l,h1,h2,h3,h=>by
  have e:l++List.replicate (z+1) 0=(l++ [0])++List.replicate z 0:=by rw[List.replicate_succ];simp
  rw[e]at h
  have ih:=implZ_is a b c res z (l++ [0]) (by rw[List.length_append,List.length_singleton];omega) (by omega) (by rw[List.length_append,List.length_singleton];omega) h
  refine Ev.step (fun k=>?_) ih
  rw[impl_ShaEnd.l0,if_neg (by rw[sizeI];omega),if_pos (by rw[size_mk];omega),show(⟨#[0]⟩:ByteArray)=mkB [0]from rfl,app_mk]
def zN (m:Nat):Nat:=(119-m%64)%64
def padB (l:List UInt8) (N:Nat):List UInt8:=l++ [128]++List.replicate (zN l.length) 0++toB (beL N 8)
theorem padB_len (l:List UInt8) (N:Nat):(padB l N).length=l.length+1+zN l.length+8:=by
 unfold padB;simp only[List.length_append,List.length_singleton,List.length_replicate,toB_len,beL_len]
theorem zN_is (m:Nat):(m+1+zN m)%64=56∧zN m<64:=by unfold zN;omega
def endN (l:List UInt8):Nat:=(l.length+1+zN l.length+8)/64
theorem implEnd_is (s:St5) (hs:s.ok) (l:List UInt8) (sz:Nat) (hsz:sz<1000000) (hl:l.length=sz%64):Ev (fun k=>impl_ShaEnd.f k s.l (mkB l) (sz:Int)) (mkB (toB (outD (foldB (endN l) s (padB l (8*sz)))))):=by
 unfold impl_ShaEnd.f
 refine(okI s hs l sz (by omega) hl).bind ?_
 have h1:(mkB l).size+1≤9223372036854775807:=by rw[size_mk];omega
 simp only[if_true,if_pos h1,show(⟨#[128]⟩:ByteArray)=mkB [128]from rfl,app_mk]
 obtain⟨hz1,hz2⟩:=zN_is l.length
 refine implZ_is s.l (mkB l) (sz:Int) _ (zN l.length) (l++ [128]) (by rw[List.length_append,List.length_singleton];omega) hz2 (by rw[List.length_append,List.length_singleton];omega) ?_
 have hw:wrap64 (8*(sz:Int))=((8*sz:Nat):Int):=wrap_m 8 sz (by omega) (by decide)
 rw[hw]
 refine(beI_is (8*sz) 8 (by decide) (by decide)).bind ?_
 have h2:(mkB (l++ [128]++List.replicate (zN l.length) 0)).size+(mkB (toB (beL (8*sz) 8))).size≤9223372036854775807:=by
  rw[size_mk,size_mk,toB_len,beL_len];simp only[List.length_append,List.length_singleton,List.length_replicate];omega
 simp only[if_pos h2,app_mk]
 exact implE1_is (endN l) s (padB l (8*sz)) hs (by rw[padB_len];unfold endN;omega)
theorem specE2_go (X:List UInt8) (hX:X.length≤1000000) (res:ByteArray): ∀(n at_:Nat) (s:St5),s.ok→at_+64*n=X.length→
  Ev (fun k=>spec_ShaEnd.l3 k (foldB n s (X.drop at_)).l [] 0) res→Ev (fun k=>spec_ShaEnd.l2 k (mkB X) s.l (at_:Int)) res
 |0,at_,s,hs,h1,h=>by
  refine Ev.step (fun k=>?_) h
  rw[spec_ShaEnd.l2,if_neg (by rw[sizeI];omega)]
  rfl
 |n+1,at_,s,hs,h1,h=>by
  have hw2:wrap64 ((at_:Int)+64)=((at_+64:Nat):Int):=wrap_a at_ 64 (by omega) (by decide)
  have e:foldB (n+1) s (X.drop at_)=foldB n (compS s ((X.drop at_).take 64)) (X.drop (at_+64)):=by rw[foldB,List.drop_drop]
  rw[e]at h
  have ih:=specE2_go X hX res n (at_+64) (compS s ((X.drop at_).take 64)) (compS_ok _ _) (by omega) h
  refine Ev.step (f:=fun k=>(spec_Compress.f k s.l (mkB ((X.drop at_).take 64))).bind fun t=>spec_ShaEnd.l2 k (mkB X) t ((at_+64:Nat):Int)) (fun k=>?_) ((specComp_is s hs _ (by rw[List.length_take,List.length_drop];omega)).bind ih)
  rw[spec_ShaEnd.l2,hw2,if_pos (by rw[sizeI];omega),if_pos (by omega),if_pos (by omega),if_pos (by rw[sizeI];omega),cut64_at]
theorem be4 (n:Nat): [((n:Int)/16777216)%256,((n:Int)/65536)%256,((n:Int)/256)%256,(n:Int)%256]=toI (beL n 4):=by
 simp only[beL,toI,List.map_cons,List.map_nil,Nat.mul_zero,Nat.pow_zero,Nat.div_one]
 simp only[show 2^(8*3)=16777216 by decide,show 2^(8*2)=65536 by decide,show 2^(8*1)=256 by decide]
 simp only[Int.natCast_emod,Int.natCast_ediv]
 rfl
theorem specOut_step (s:St5) (pre:List Nat) (i j x:Int) (h5:i<5) (h0:0≤i) (hx:rd s.l i=x) (hw:WD x) (hj:wrap64 (i+1)=j) (hp:pre.length≤1000) (res:ByteArray)
  (h:Ev (fun k=>spec_ShaEnd.l3 k s.l (toI (pre++beL x.toNat 4)) j) res):Ev (fun k=>spec_ShaEnd.l3 k s.l (toI pre) i) res:=by
 obtain⟨n,rfl,hn⟩:=wd_nat hw
 rw[Int.toNat_natCast]at h
 refine Ev.step (fun k=>?_) h
 have hl:((s.l.length:Nat):Int)=5:=rfl
 rw[spec_ShaEnd.l3,if_pos h5,if_pos h0,if_pos (by rw[hl];exact h5),hx,hj,Option.bind_some,be4,if_pos (by rw[toI_len,toI_len,beL_len];omega),toI_app]
theorem specOut_is (s:St5) (hs:s.ok):Ev (fun k=>spec_ShaEnd.l3 k s.l [] 0) (mkB (toB (outD s))):=by
 refine specOut_step s [] 0 1 s.a (by decide) (by decide) rfl hs.1 (by rw[wrap_id (by decide) (by decide)];rfl) (by decide) _ ?_
 refine specOut_step s _ 1 2 s.b (by decide) (by decide) rfl hs.2.1 (by rw[wrap_id (by decide) (by decide)];rfl) (by simp[beL_len]) _ ?_
 refine specOut_step s _ 2 3 s.c (by decide) (by decide) rfl hs.2.2.1 (by rw[wrap_id (by decide) (by decide)];rfl) (by simp[beL_len]) _ ?_
 refine specOut_step s _ 3 4 s.d (by decide) (by decide) rfl hs.2.2.2.1 (by rw[wrap_id (by decide) (by decide)];rfl) (by simp[beL_len]) _ ?_
 refine specOut_step s _ 4 5 s.e (by decide) (by decide) rfl hs.2.2.2.2 (by rw[wrap_id (by decide) (by decide)];rfl) (by simp[beL_len]) _ ?_
 refine Ev.step (f:=fun _=>some (mkB (toB (outD s)))) (fun k=>?_) (Ev.now _)
 rw[spec_ShaEnd.l3,if_neg (by decide),strOf_I]
 rfl
theorem specL1_go (N:Nat) (a:List Int) (ha:a.length=5) (r:List UInt8) (c:Int) (res:ByteArray): ∀(m:Nat) (acc:List Nat),m≤8→acc.length+m+r.length≤1000000→
  Ev (fun k=>spec_ShaEnd.l2 k (mkB (r++toB (acc++beL N m))) a 0) res→Ev (fun k=>spec_ShaEnd.l1 k (toI acc) (N:Int) ((m:Int)-1) a (mkB r) c) res
 |0,acc,hm,hl,h=>by
  rw[beL,List.append_nil]at h
  refine Ev.step (fun k=>?_) h
  rw[spec_ShaEnd.l1,if_neg (by omega),strOf_I,if_pos (by rw[size_mk,size_mk,toB_len];omega),Option.bind_some,if_pos (by rw[ha];decide),app_mk,List.nil_append]
 |m+1,acc,hm,hl,h=>by
  have e:acc++beL N (m+1)=(acc++ [(N/2^(8*m))%256])++beL N m:=by rw[beL,List.append_assoc];rfl
  rw[e]at h
  have ih:=specL1_go N a ha r c res m (acc++ [(N/2^(8*m))%256]) (by omega) (by rw[List.length_append,List.length_singleton];omega) h
  have hs:(((m+1:Nat):Int)-1)=(m:Int):=by omega
  have hw:wrap64 (8*(m:Int))=((8*m:Nat):Int):=wrap_m 8 m (by omega) (by decide)
  have hn:wrap64 ((m:Int)-1)=(m:Int)-1:=wrap_id (by omega) (by omega)
  refine Ev.step (fun k=>?_) ih
  rw[hs,spec_ShaEnd.l1,if_pos (by omega),hw,if_pos (by omega),if_pos (by rw[toI_len];omega),shrs_nat N (8*m) (by omega),mod256n,hn,toI_app]
  rfl
theorem toB_rep (z:Nat):toB (List.replicate z 0)=List.replicate z 0:=by simp[toB]
theorem specZ_is (a:List Int) (r:List UInt8) (c:Int) (res:ByteArray): ∀(z:Nat) (acc:List Nat),(r.length+acc.length+z)%64=56→z<64→r.length+acc.length+z≤1000000→
  Ev (fun k=>spec_ShaEnd.l1 k (toI (acc++List.replicate z 0)) (wrap64 (8*c)) 7 a (mkB r) c) res→Ev (fun k=>spec_ShaEnd.l0 k (toI acc) a (mkB r) c) res
 |0,acc,h1,h2,h3,h=>by
  rw[List.replicate_zero,List.append_nil]at h
  have hw:Int.tmod (wrap64 ((((mkB r).size:Nat):Int)+((toI acc).length:Int))) 64=(((r.length+acc.length)%64:Nat):Int):=by
   rw[sizeI,toI_len,wrap_id (by omega) (by omega),Int.tmod_eq_emod_of_nonneg (by omega)];omega
  refine Ev.step (fun k=>?_) h
  rw[spec_ShaEnd.l0,hw,if_pos (by omega)]
 |z+1,acc,h1,h2,h3,h=>by
  have e:acc++List.replicate (z+1) 0=(acc++ [0])++List.replicate z 0:=by rw[List.replicate_succ];simp
  rw[e]at h
  have ih:=specZ_is a r c res z (acc++ [0]) (by rw[List.length_append,List.length_singleton];omega) (by omega) (by rw[List.length_append,List.length_singleton];omega) h
  have hw:Int.tmod (wrap64 ((((mkB r).size:Nat):Int)+((toI acc).length:Int))) 64=(((r.length+acc.length)%64:Nat):Int):=by
   rw[sizeI,toI_len,wrap_id (by omega) (by omega),Int.tmod_eq_emod_of_nonneg (by omega)];omega
  refine Ev.step (fun k=>?_) ih
  rw[spec_ShaEnd.l0,hw,if_neg (by omega),if_pos (by rw[toI_len];omega),toI_app]
  rfl
theorem specEnd_is (s:St5) (hs:s.ok) (l:List UInt8) (sz:Nat) (hsz:sz<1000000) (hl:l.length=sz%64):Ev (fun k=>spec_ShaEnd.f k s.l (mkB l) (sz:Int)) (mkB (toB (outD (foldB (endN l) s (padB l (8*sz)))))):=by
 unfold spec_ShaEnd.f
 refine(okS s hs l sz (by omega) hl).bind ?_
 simp only[if_true]
 obtain⟨hz1,hz2⟩:=zN_is l.length
 refine specZ_is s.l l (sz:Int) _ (zN l.length) [128] (by simp only[List.length_singleton];omega) hz2 (by simp only[List.length_singleton];omega) ?_
 have hw:wrap64 (8*(sz:Int))=((8*sz:Nat):Int):=wrap_m 8 sz (by omega) (by decide)
 rw[hw]
 refine specL1_go (8*sz) s.l rfl l (sz:Int) _ 8 ([128]++List.replicate (zN l.length) 0) (by decide) (by simp only[List.length_append,List.length_singleton,List.length_replicate];omega) ?_
 have e:l++toB ([128]++List.replicate (zN l.length) 0++beL (8*sz) 8)=padB l (8*sz):=by
  unfold padB;simp only[toB_app,toB_rep,List.append_assoc];rfl
 rw[e]
 have h:=specE2_go (padB l (8*sz)) (by rw[padB_len];omega) _ (endN l) 0 s hs (by rw[padB_len];unfold endN;omega) (specOut_is _ (foldB_ok (endN l) s _ hs))
 rw[List.drop_zero]at h
 exact h
def shaD (l:List UInt8):List Nat:=outD (foldB (endN (l.drop (64*addN l))) (foldB (addN l) IV l) (padB (l.drop (64*addN l)) (8*l.length)))
theorem shaD_len (l:List UInt8):(shaD l).length=20:=outD_len _
theorem shaD_lt (l:List UInt8): ∀x∈shaD l,x<256:=outD_lt _
theorem implSha_is (l:List UInt8) (hl:l.length<1000000):Ev (fun k=>impl_Sha1.f k (mkB l)) (mkB (toB (shaD l))):=by
 unfold impl_Sha1.f impl_ShaNew.f
 simp only[Option.bind_some]
 refine(implAdd_is l (by omega)).bind ?_
 refine(implEnd_is _ (foldB_ok _ _ _ IV_ok) (l.drop (64*addN l)) l.length hl (by rw[List.length_drop];unfold addN;omega)).bind ?_
 exact Ev.now _
theorem specSha_is (l:List UInt8) (hl:l.length<1000000):Ev (fun k=>spec_Sha1.f k (mkB l)) (mkB (toB (shaD l))):=by
 unfold spec_Sha1.f spec_ShaNew.f
 simp only[Option.bind_some]
 refine(specAdd_is l (by omega)).bind ?_
 refine(specEnd_is _ (foldB_ok _ _ _ IV_ok) (l.drop (64*addN l)) l.length hl (by rw[List.length_drop];unfold addN;omega)).bind ?_
 exact Ev.now _
def dig:Nat→Nat→List Nat
 |0,_=> []
 |n+1,N=>dig n (N/32)++ [N%32]
theorem dig_len: ∀n N,(dig n N).length=n
 |0,_=>rfl
 |n+1,N=>by rw[dig,List.length_append,dig_len n];rfl
theorem dig_lt: ∀n N,∀x∈dig n N,x<32
 |0,_,_,h=>by cases h
 |n+1,N,x,h=>by
  rw[dig]at h
  rcases List.mem_append.1 h with h|h
  ·exact dig_lt n _ x h
  ·rw[List.mem_singleton.1 h];exact Nat.mod_lt _ (by decide)
theorem wn_dig: ∀n N,wn 32 (dig n N)=N%32^n
 |0,N=>by rw[Nat.pow_zero,Nat.mod_one];rfl
 |n+1,N=>by
  rw[dig,wn_snoc,wn_dig n,Nat.pow_succ,Nat.mul_comm (32^n) 32,Nat.mod_mul,Nat.mul_comm];omega
theorem letN_letC (v:Nat) (h:v<32):letN (letC v)=v∧letOk (letC v)=true:=by
 have key: ∀n:Fin 32,letN (letC n.val)=n.val∧letOk (letC n.val)=true:=by decide+kernel
 exact key ⟨v,h⟩
def letL (D:List Nat):List UInt8:=(dig 32 (wn 256 D)).map letC
theorem letL_len (D:List Nat):(letL D).length=32:=by unfold letL;rw[List.length_map,dig_len]
theorem letL_ok (D:List Nat):(letL D).all letOk=true:=by
 rw[List.all_eq_true]
 intro b hb
 obtain⟨v,hv,rfl⟩:=List.mem_map.1 hb
 exact(letN_letC v (dig_lt _ _ v hv)).2
theorem letL_wb (D:List Nat) (hD: ∀x∈D,x<256) (h20:D.length=20):wb (letL D)=wn 256 D:=by
 unfold wb letL
 have e:((dig 32 (wn 256 D)).map letC).map letN=dig 32 (wn 256 D):=by
  rw[List.map_map]
  conv=>rhs;rw[←List.map_id (dig 32 (wn 256 D))]
  exact List.map_congr_left fun v hv=>(letN_letC v (dig_lt _ _ v hv)).1
 rw[e,wn_dig]
 have h:=wn_lt 256 (by decide) D hD
 rw[h20]at h
 exact Nat.mod_eq_of_lt (Nat.lt_of_lt_of_le h (by decide))
def labB (l:List UInt8):List UInt8:= [115,104,97,49,58]++letL (shaD l)
theorem labB_len (l:List UInt8):(labB l).length=37:=by unfold labB;rw[List.length_append,letL_len];rfl
theorem specLab_is (l:List UInt8) (hl:l.length<1000000):Ev (fun k=>spec_Label.f k (mkB l)) (mkB (labB l)):=by
 unfold spec_Label.f
 refine(specSha_is l hl).bind ?_
 have h:=specB32_is (shaD l) (shaD_lt l) (shaD_len l) (letL (shaD l)) (letL_ok _) (letL_len _) (letL_wb _ (shaD_lt l) (shaD_len l))
 rw[strOf_nat]at h
 refine h.bind ?_
 have hs:5+(mkB (letL (shaD l))).size≤9223372036854775807:=by rw[size_mk,letL_len];decide
 simp only[if_pos hs,show(⟨#[115,104,97,49,58]⟩:ByteArray)=mkB [115,104,97,49,58]from rfl,app_mk]
 exact Ev.now _
theorem implLab_is (l:List UInt8) (hl:l.length<1000000):Ev (fun k=>impl_Label.f k (mkB l)) (mkB (labB l)):=by
 unfold impl_Label.f
 refine(implSha_is l hl).bind ?_
 have h:=implB32_is (shaD l) (shaD_lt l) (shaD_len l) (letL (shaD l)) (letL_ok _) (letL_len _) (letL_wb _ (shaD_lt l) (shaD_len l))
 rw[strOf_nat]at h
 refine h.bind ?_
 have hs:5+(mkB (letL (shaD l))).size≤9223372036854775807:=by rw[size_mk,letL_len];decide
 simp only[if_pos hs,show(⟨#[115,104,97,49,58]⟩:ByteArray)=mkB [115,104,97,49,58]from rfl,app_mk]
 exact Ev.now _
theorem index_short: ∀(l sub:List UInt8),l.length<sub.length→Lib.index l sub= -1
 | [],sub,h=>by cases sub<;>simp[Lib.index]at*
 |b::l,sub,h=>by
  have ih:=index_short l sub (by simp at h;omega)
  have hp:sub.isPrefixOf (b::l)=false:=by
   rw[Bool.eq_false_iff];intro hp
   have:=(List.isPrefixOf_iff_prefix.1 hp).length_le
   omega
  simp[Lib.index,hp,ih]
theorem index_bound: ∀(l sub:List UInt8),Lib.index l sub= -1∨(0≤Lib.index l sub∧Lib.index l sub+sub.length≤l.length)
 | [],sub=>by cases sub<;>simp[Lib.index]
 |b::l,sub=>by
  unfold Lib.index
  by_cases hp:sub.isPrefixOf (b::l)=true
  ·have:=(List.isPrefixOf_iff_prefix.1 hp).length_le
   rw[if_pos hp];right;simp at this ⊢;omega
  ·rw[if_neg hp]
   rcases index_bound l sub with h|h
   ·left;simp[h]
   ·right
    have:(Lib.index l sub== -1)=false:=by simp;omega
    rw[this];simp;omega
def splitL (c:UInt8):List UInt8→List (List UInt8)
 | []=> [[]]
 |b::r=>if b=c then []::splitL c r else((splitL c r).headD []|>(b:: ·))::(splitL c r).tail
theorem splitL_ne (c:UInt8): ∀l,splitL c l≠ []
 | []=>by simp[splitL]
 |b::r=>by unfold splitL;split<;>simp
theorem splitL_none (c:UInt8): ∀l:List UInt8,(∀b∈l,b≠c)→splitL c l= [l]
 | [],_=>rfl
 |b::r,h=>by
  have ih:=splitL_none c r (fun x hx=>h x (List.mem_cons_of_mem _ hx))
  rw[splitL,if_neg (h b (by simp)),ih];rfl
theorem splitL_hit (c:UInt8): ∀(mid r:List UInt8),(∀b∈mid,b≠c)→splitL c (mid++c::r)=mid::splitL c r
 | [],r,_=>by simp[splitL]
 |b::mid,r,h=>by
  have ih:=splitL_hit c mid r (fun x hx=>h x (List.mem_cons_of_mem _ hx))
  rw[List.cons_append,splitL,if_neg (h b (by simp)),ih];rfl
theorem split_dec (c:UInt8): ∀l:List UInt8,(∀b∈l,b≠c)∨ ∃mid r,l=mid++c::r∧ ∀b∈mid,b≠c
 | []=> .inl (by simp)
 |b::r=>by
  by_cases h:b=c
  ·subst h;exact .inr ⟨[],r,rfl,by simp⟩
  ·rcases split_dec c r with h1|⟨mid,r',rfl,h1⟩
   ·exact .inl (by intro x hx;rcases List.mem_cons.1 hx with rfl|hx;exact h;exact h1 x hx)
   ·exact .inr ⟨b::mid,r',rfl,by intro x hx;rcases List.mem_cons.1 hx with rfl|hx;exact h;exact h1 x hx⟩
theorem index_mid (c:UInt8): ∀(mid r:List UInt8),(∀b∈mid,b≠c)→Lib.index (mid++c::r) [c]=(mid.length:Int)
 | [],r,_=>by simp[Lib.index]
 |b::mid,r,h=>by
  have ih:=index_mid c mid r (fun x hx=>h x (List.mem_cons_of_mem _ hx))
  have hc:(c==b)=false:=by simpa using fun x=>h b (by simp) x.symm
  simp only[List.cons_append,Lib.index,List.isPrefixOf,hc,Bool.false_and,Bool.false_eq_true,if_false,ih]
  rw[if_neg (by simp<;>omega)];simp
theorem splitK_is (c:UInt8): ∀(n:Nat) (l:List UInt8),l.count c=n→Lib.splitK [c] 0 n l=splitL c l
 |0,l,h=>by
  have: ∀b∈l,b≠c:=fun b hb e=>by subst e;exact(List.count_eq_zero.1 h) hb
  rw[splitL_none c l this];rfl
 |n+1,l,h=>by
  rcases split_dec c l with h1|⟨mid,r,rfl,h1⟩
  ·have:l.count c=0:=List.count_eq_zero.2 (fun hm=>h1 c hm rfl)
   omega
  ·have hm:mid.count c=0:=List.count_eq_zero.2 (fun hm=>h1 c hm rfl)
   have hr:r.count c=n:=by simp[List.count_append,hm]at h;exact h
   rw[Lib.splitK,index_mid c mid r h1,if_neg (by simp<;>omega),splitL_hit c mid r h1]
   simp only[Int.toNat_natCast,Nat.add_zero,List.length_singleton]
   rw[List.take_left' rfl,show(mid++c::r).drop (mid.length+1)=r from drop_mid mid c r,splitK_is c n r hr]
theorem map_bl_mk (X:List ByteArray) (Y:List (List UInt8)) (h:X.map (·.data.toList)=Y):X=Y.map mkB:=by
 rw[←h,List.map_map]
 have:(mkB ∘ fun x:ByteArray=>x.data.toList)=id:=by funext x;exact mk_bl x
 rw[this,List.map_id]
theorem stringsSplit_is (l:List UInt8) (c:UInt8) (h:l.length≤1048576):strings_Split.f (mkB l) (⟨#[c]⟩:ByteArray)=some ((splitL c l).map mkB):=by
 unfold strings_Split.f
 rw[if_pos ⟨by rw[size_mk];omega,Nat.le_refl _⟩]
 congr 1
 apply map_bl_mk
 rw[Lib.splitB_data]
 have e1:(⟨#[c]⟩:ByteArray).data.toList= [c]:=rfl
 have e2:(mkB l).data.toList=l:=bl_mk l
 show Lib.splitK _ 0 (Lib.count (mkB l).data.toList (⟨#[c]⟩:ByteArray).data.toList) _=_
 rw[e1,e2,Lib.count_one]
 exact splitK_is c _ l rfl
theorem take_mid (pre m suf:List UInt8):((pre++(m++suf)).drop pre.length).take (pre.length+m.length-pre.length)=m:=by simp
theorem bt_mid2 (pre m:List UInt8) (b:UInt8) (suf:List UInt8) (i:Int) (hi:i=(pre.length:Int)+(m.length:Int)):bt (mkB (pre++(m++b::suf))) i=(b.toNat:Int):=by
 have:=bt_mid (pre++m) b suf
 rw[List.append_assoc]at this
 rw[hi,←this];simp
theorem u8_nat (b c:UInt8):(b.toNat:Int)=(c.toNat:Int)↔b=c:=by rw[←UInt8.toNat_inj];omega
theorem spec7split_go (c:UInt8): ∀(r mid done:List UInt8) (acc:List ByteArray),(∀b∈mid,b≠c)→(done++(mid++r)).length≤1048576→acc.length≤done.length→
  Ev (fun k=>spec_l7split.l0 k (mkB (done++(mid++r))) (c.toNat:Int) acc (done.length:Int) ((done.length:Int)+(mid.length:Int))) (acc++(splitL c (mid++r)).map mkB)
 | [],mid,done,acc,hm,hl,ha=>by
  simp only[List.append_nil]at hl ⊢
  have hl2:=hl
  simp at hl2
  rw[splitL_none c mid hm]
  have hx:(mkB (done++mid)).extract (done.length:Int).toNat ((done.length:Int)+(mid.length:Int)).toNat=mkB mid:=by
   have:=take_mid done mid []
   rw[List.append_nil]at this
   rw[extract_mk,Int.toNat_natCast,show((done.length:Int)+(mid.length:Int)).toNat=done.length+mid.length by omega,this]
  have hw:wrap64 ((done.length:Int)+(mid.length:Int)+1)=(done.length:Int)+(mid.length:Int)+1:=wrap_id (by omega) (by omega)
  refine Ev.step (f:=fun k=>spec_l7split.l0 k (mkB (done++mid)) (c.toNat:Int) (acc++ [mkB mid]) ((done.length:Int)+(mid.length:Int)+1) ((done.length:Int)+(mid.length:Int)+1)) (fun k=>?_) ?_
  ·simp only[spec_l7split.l0]
   rw[if_pos (by rw[size_mk];simp),if_pos (by rw[size_mk];simp),if_pos (by omega),if_pos (by omega),if_pos (by omega),hx,hw]
  ·refine Ev.step (f:=fun _=>some (acc++ [mkB mid])) (fun k=>?_) (Ev.now _)
   simp only[spec_l7split.l0]
   rw[if_neg (by rw[size_mk];simp;omega)]
 |b::r,mid,done,acc,hm,hl,ha=>by
  have hl2:=hl
  simp at hl2
  have hw:wrap64 ((done.length:Int)+(mid.length:Int)+1)=(done.length:Int)+(mid.length:Int)+1:=wrap_id (by omega) (by omega)
  have hle:(done.length:Int)+(mid.length:Int)≤((mkB (done++(mid++b::r))).size:Int):=by rw[size_mk];simp;omega
  have hne: ¬(done.length:Int)+(mid.length:Int)=((mkB (done++(mid++b::r))).size:Int):=by rw[size_mk];simp;omega
  have hlt:(done.length:Int)+(mid.length:Int)<((mkB (done++(mid++b::r))).size:Int):=by rw[size_mk];simp;omega
  have hb:=bt_mid2 done mid b r _ rfl
  by_cases h:b=c
  ·subst h
   have ih:=spec7split_go b r [] (done++mid++ [b]) (acc++ [mkB mid]) (by simp) (by simp;omega) (by simp;omega)
   have e:(done++mid++ [b])++([]++r)=done++(mid++b::r):=by simp
   have e2:((done++mid++ [b]).length:Int)=(done.length:Int)+(mid.length:Int)+1:=by simp;omega
   rw[e,e2]at ih
   simp only[List.nil_append,List.length_nil,Int.natCast_zero,Int.add_zero]at ih
   rw[splitL_hit b mid r hm,List.map_cons]
   have hx:(mkB (done++(mid++b::r))).extract (done.length:Int).toNat ((done.length:Int)+(mid.length:Int)).toNat=mkB mid:=by
    rw[extract_mk,Int.toNat_natCast,show((done.length:Int)+(mid.length:Int)).toNat=done.length+mid.length by omega,take_mid]
   rw[show acc++mkB mid::(splitL b r).map mkB=acc++ [mkB mid]++(splitL b r).map mkB by simp]
   refine Ev.step (fun k=>?_) ih
   simp only[spec_l7split.l0]
   rw[if_pos hle,if_neg hne,if_pos (by omega),if_pos hlt,hb,if_pos rfl,if_pos (by omega),if_pos (by omega),if_pos (by omega),hx,hw]
  ·have ih:=spec7split_go c r (mid++ [b]) done acc (by intro x hx;rcases List.mem_append.1 hx with h'|h';exact hm x h';simp at h';subst h';exact h) (by simp;omega) ha
   have e:done++(mid++ [b]++r)=done++(mid++b::r):=by simp
   have e2:(done.length:Int)+((mid++ [b]).length:Int)=(done.length:Int)+(mid.length:Int)+1:=by simp;omega
   have e3:mid++ [b]++r=mid++b::r:=by simp
   rw[e,e2,e3]at ih
   refine Ev.step (fun k=>?_) ih
   simp only[spec_l7split.l0]
   rw[if_pos hle,if_neg hne,if_pos (by omega),if_pos hlt,hb,if_neg (fun e=>h ((u8_nat b c).1 e)),hw]
theorem spec7split_is (c:UInt8) (l:List UInt8) (h:l.length≤1048576):Ev (fun k=>spec_l7split.f k (mkB l) (c.toNat:Int)) ((splitL c l).map mkB):=by
 have:=spec7split_go c l [] [] [] (by simp) (by simpa using h) (by simp)
 simpa [spec_l7split.f]using this
def lowB (b:UInt8):Bool:=decide (97≤b.toNat)&&decide (b.toNat≤122)
def uppB (b:UInt8):Bool:=decide (65≤b.toNat)&&decide (b.toNat≤90)
def digB (b:UInt8):Bool:=decide (48≤b.toNat)&&decide (b.toNat≤57)
theorem isDigit_is (b:UInt8):impl_isDigit.f (b.toNat:Int)=some (digB b):=by
 unfold impl_isDigit.f digB
 by_cases h:48≤b.toNat
 ·rw[if_pos (by omega)];congr 1;rw[Bool.eq_iff_iff];simp[h];omega
 ·rw[if_neg (by omega)];simp[h]
theorem l1digit_is (b:UInt8):spec_l1digit.f (b.toNat:Int)=some (digB b):=isDigit_is b
theorem has_go (c:Int): ∀(r pre:List UInt8),(pre++r).length≤9223372036854775806→Ev (fun k=>spec_l1has.l0 k (mkB (pre++r)) c pre.length) (r.any fun x=>decide ((x.toNat:Int)=c))
 | [],pre,hl=>Ev.step (f:=fun _=>some false) (fun k=>by simp only[spec_l1has.l0];rw[if_neg (by rw[size_mk];simp)]) (Ev.now _)
 |b::r,pre,hl=>by
  have ih:=has_go c r (pre++ [b]) (by rw[←app_mid];exact hl)
  rw[←app_mid,len_snoc]at ih
  simp at hl
  by_cases h:(b.toNat:Int)=c
  ·refine Ev.step (f:=fun _=>some true) (fun k=>?_) (by simpa [h]using Ev.now true)
   simp only[spec_l1has.l0]
   rw[if_pos (size_lt_mid ..),if_pos (by omega),bt_mid,if_pos h]
  ·refine Ev.step (fun k=>?_) (by simpa [h]using ih)
   simp only[spec_l1has.l0]
   rw[if_pos (size_lt_mid ..),if_pos (by omega),bt_mid,if_neg h,wrap_id (by omega) (by omega)]
theorem has_is (set:List UInt8) (b:UInt8) (h:set.length≤9223372036854775806):Ev (fun k=>spec_l1has.f k (mkB set) (b.toNat:Int)) (set.contains b):=by
 have:=has_go (b.toNat:Int) set [] (by simpa using h)
 have e:(set.any fun x=>decide ((x.toNat:Int)=(b.toNat:Int)))=set.contains b:=by
  rw[←List.any_beq]
  congr 1
  funext x
  rw[Bool.eq_iff_iff]
  simp only[decide_eq_true_eq,beq_iff_eq]
  constructor
  ·intro h;exact(UInt8.toNat_inj.1 (by omega)).symm
  ·intro h;rw[h]
 rw[e]at this
 simpa [spec_l1has.f]using this
def hexV (b:UInt8):Int:=if digB b=true then(b.toNat:Int)-48 else if 97≤b.toNat∧b.toNat≤102 then(b.toNat:Int)-87 else if 65≤b.toNat∧b.toNat≤70 then(b.toNat:Int)-55 else-1
def readHexL:List UInt8→Int→Int×Bool
 | [],n=>(n,true)
 |b::r,n=>if hexV b<0 then(0,false)else readHexL r (16*n+hexV b)
def hexBnd:Nat→Int
 |0=>268435456
 |m+1=>hexBnd m/16
theorem hexBnd_le: ∀m,0≤hexBnd m∧hexBnd m≤268435456
 |0=>by simp[hexBnd]
 |m+1=>by have:=hexBnd_le m;unfold hexBnd;omega
theorem hexV_lt (b:UInt8):hexV b<16:=by
 unfold hexV digB
 by_cases h:48≤b.toNat∧b.toNat≤57
 ·simp[h];omega
 ·rw[if_neg (by simp;omega)];split
  ·omega
  ·split<;>omega
theorem specHexLow (b:UInt8): ∃c:Int,spec_l1lower.f (b.toNat:Int)=some c∧0≤c∧c<256∧(65≤b.toNat∧b.toNat≤90→c=(b.toNat:Int)+32)∧(¬(65≤b.toNat∧b.toNat≤90)→c=(b.toNat:Int)):=by
 have:=u8_lt b
 unfold spec_l1lower.f
 by_cases h1:65≤b.toNat
 ·rw[if_pos (by omega)]
  by_cases h2:b.toNat≤90
  ·rw[if_pos (by omega)];exact⟨_,rfl,by omega,by omega,fun _=>by omega,fun h=>absurd ⟨h1,h2⟩ h⟩
  ·rw[if_neg (by omega)];exact⟨_,rfl,by omega,by omega,fun h=>absurd h.2 h2,fun _=>rfl⟩
 ·rw[if_neg (by omega)];exact⟨_,rfl,by omega,by omega,fun h=>absurd h.1 h1,fun _=>rfl⟩
theorem l1digit_at (c:Int):spec_l1digit.f c=some (decide (48≤c)&&decide (c≤57)):=by
 unfold spec_l1digit.f
 by_cases h:c≥48
 ·rw[if_pos h,decide_eq_true (show 48≤c from h)];rfl
 ·rw[if_neg h,decide_eq_false (show ¬48≤c from h)];rfl
theorem specReadHex_go: ∀(r pre:List UInt8) (n:Int),0≤n→n<hexBnd r.length→(pre++r).length≤1000→Ev (fun k=>spec_ReadHex.l0 k (mkB (pre++r)) n pre.length) (readHexL r n)
 | [],pre,n,_,_,_=>Ev.step (f:=fun _=>some (n,true)) (fun k=>by simp only[spec_ReadHex.l0];rw[if_neg (by rw[size_mk];simp)]) (Ev.now _)
 |b::r,pre,n,h0,h1,hl=>by
  have hb:=hexBnd_le r.length
  have hv:=hexV_lt b
  have h1':n<hexBnd r.length/16:=h1
  simp at hl
  have ih:=specReadHex_go r (pre++ [b]) (16*n+hexV b)
  rw[←app_mid,len_snoc]at ih
  have hw:wrap64 ((pre.length:Int)+1)=(pre.length:Int)+1:=wrap_id (by omega) (by omega)
  have hw0:wrap64 (n*16)=n*16:=wrap_id (by omega) (by omega)
  obtain⟨c,hc,c0,c1,c2,c3⟩:=specHexLow b
  have hcell: ∀k,spec_ReadHex.l0 (k+1) (mkB (pre++b::r)) n pre.length=if hexV b<0 then some (0,false)else spec_ReadHex.l0 k (mkB (pre++b::r)) (16*n+hexV b) ((pre.length:Int)+1):=by
   intro k
   simp only[spec_ReadHex.l0]
   rw[if_pos (size_lt_mid ..),if_pos (by omega),bt_mid,hc]
   simp only[Option.bind_some,l1digit_at,hw,hw0]
   by_cases hd:48≤c∧c≤57
   ·have hbd:48≤b.toNat∧b.toNat≤57:=by
     by_cases hu:65≤b.toNat∧b.toNat≤90
     ·have:=c2 hu;omega
     ·have:=c3 hu;omega
    have e:=c3 (by omega)
    have hval:hexV b=c-48:=by unfold hexV digB;rw[if_pos (by simp[hbd])];omega
    rw[if_pos (by simp[hd]),if_neg (by omega),show(c-48)%256=c-48 by omega,wrap_id (by omega) (by omega),hval,show n*16+(c-48)=16*n+(c-48)by omega]
   ·rw[if_neg (by simp;omega)]
    have hnd:digB b=false:=by
     unfold digB
     by_cases hu:65≤b.toNat∧b.toNat≤90
     ·simp;omega
     ·have:=c3 hu;simp;omega
    by_cases h97:c≥97
    ·rw[if_pos h97]
     by_cases h102:c≤102
     ·have hval:hexV b=c-87:=by
       unfold hexV;rw[hnd,if_neg (by decide)]
       by_cases hu:65≤b.toNat∧b.toNat≤90
       ·have:=c2 hu;rw[if_neg (by omega),if_pos (by omega)];omega
       ·have:=c3 hu;rw[if_pos (by omega)];omega
      rw[if_pos h102,if_neg (by omega),show(c-97)%256=c-97 by omega,wrap_id (a:=n*16+(c-97)) (by omega) (by omega),wrap_id (by omega) (by omega),hval,show n*16+(c-97)+10=16*n+(c-87)by omega]
     ·have hval:hexV b= -1:=by
       unfold hexV;rw[hnd,if_neg (by decide)]
       by_cases hu:65≤b.toNat∧b.toNat≤90
       ·have:=c2 hu;rw[if_neg (by omega),if_neg (by omega)]
       ·have:=c3 hu;rw[if_neg (by omega),if_neg (by omega)]
      rw[if_neg h102,hval,if_pos (by decide)]
    ·have hval:hexV b= -1:=by
      unfold hexV;rw[hnd,if_neg (by decide)]
      by_cases hu:65≤b.toNat∧b.toNat≤90
      ·have:=c2 hu;omega
      ·have:=c3 hu;rw[if_neg (by omega),if_neg (by omega)]
     rw[if_neg h97,hval,if_pos (by decide)]
  by_cases hneg:hexV b<0
  ·refine Ev.step (f:=fun _=>some (0,false)) (fun k=>by rw[hcell,if_pos hneg]) (by simpa [readHexL,hneg]using Ev.now _)
  ·have er:readHexL (b::r) n=readHexL r (16*n+hexV b):=by simp[readHexL,hneg]
   rw[er]
   exact Ev.step (fun k=>by rw[hcell,if_neg hneg]) (ih (by omega) (by omega) (by simp;omega))
def readHexT (l:List UInt8):Int×Bool:=if l.length=0∨7<l.length then(0,false)else readHexL l 0
theorem hexBnd_pos (m:Nat) (h:m≤7):0<hexBnd m:=by
 have:m=0∨m=1∨m=2∨m=3∨m=4∨m=5∨m=6∨m=7:=by omega
 rcases this with rfl|rfl|rfl|rfl|rfl|rfl|rfl|rfl<;>decide
theorem specReadHex_is (l:List UInt8):Ev (fun k=>spec_ReadHex.f k (mkB l)) (readHexT l):=by
 have hj: ∀l:List UInt8,Ev (fun k=>spec_ReadHex.j0 k (mkB l) true) ((0:Int),false):=fun l=>Ev.step (f:=fun _=>some (0,false)) (fun k=>by simp only[spec_ReadHex.j0,if_true]) (Ev.now _)
 unfold spec_ReadHex.f readHexT
 by_cases h0:l.length=0
 ·simp only[if_pos (show((mkB l).size:Int)=0 by rw[size_mk];omega),if_pos (show l.length=0∨7<l.length from .inl h0)]
  exact hj l
 ·simp only[if_neg (show ¬((mkB l).size:Int)=0 by rw[size_mk];omega)]
  by_cases h7:7<l.length
  ·simp only[decide_eq_true (show((mkB l).size:Int)>7 by rw[size_mk];omega),if_pos (show l.length=0∨7<l.length from .inr h7)]
   exact hj l
  ·have hg:=specReadHex_go l [] 0 (by omega) (hexBnd_pos _ (by omega)) (by simp;omega)
   simp only[decide_eq_false (show ¬((mkB l).size:Int)>7 by rw[size_mk];omega),if_neg (show ¬(l.length=0∨7<l.length)by omega)]
   refine Ev.step (f:=fun k=>spec_ReadHex.l0 k (mkB l) 0 0) (fun k=>by simp only[spec_ReadHex.j0,Bool.false_eq_true,if_false]) ?_
   simpa using hg
theorem hexOf_is (b:UInt8):Ev (fun k=>impl_hexOf.f k (b.toNat:Int)) (hexV b):=by
 have hlt:=u8_lt b
 unfold impl_hexOf.f
 rw[isDigit_is]
 simp only[Option.bind_some]
 unfold hexV
 cases hd:digB b
 ·have hnd: ¬(48≤b.toNat∧b.toNat≤57):=by intro h;rw[digB]at hd;simp[h]at hd
  simp only[Bool.false_eq_true,if_false]
  have hf:Ev (fun k=>impl_hexOf.j0 k (b.toNat:Int) false) (if 65≤b.toNat∧b.toNat≤70 then(b.toNat:Int)-55 else-1):=by
   refine Ev.step (f:=fun _=>some (if 65≤b.toNat∧b.toNat≤70 then(b.toNat:Int)-55 else-1)) (fun k=>?_) (Ev.now _)
   simp only[impl_hexOf.j0,Bool.false_eq_true,if_false]
   by_cases h1:65≤b.toNat
   ·rw[if_pos (by omega)]
    by_cases h2:b.toNat≤70
    ·rw[if_pos (by omega),if_pos ⟨h1,h2⟩];congr 1;omega
    ·rw[if_neg (by omega),if_neg (by omega)]
   ·rw[if_neg (by omega),if_neg (by omega)]
  by_cases h1:97≤b.toNat
  ·simp only[if_pos (show(b.toNat:Int)≥97 by omega)]
   by_cases h2:b.toNat≤102
   ·simp only[decide_eq_true (show(b.toNat:Int)≤102 by omega),if_pos (show 97≤b.toNat∧b.toNat≤102 from⟨h1,h2⟩)]
    refine Ev.step (f:=fun _=>some ((b.toNat:Int)-87)) (fun k=>?_) (Ev.now _)
    simp only[impl_hexOf.j0,if_true];congr 1;omega
   ·simp only[decide_eq_false (show ¬(b.toNat:Int)≤102 by omega),if_neg (show ¬(97≤b.toNat∧b.toNat≤102)by omega)]
    exact hf
  ·simp only[if_neg (show ¬(b.toNat:Int)≥97 by omega),if_neg (show ¬(97≤b.toNat∧b.toNat≤102)by omega)]
   exact hf
 ·have hdd:48≤b.toNat∧b.toNat≤57:=by simpa [digB]using hd
  simp only[if_true]
  rw[show((b.toNat:Int)-48)%256=(b.toNat:Int)-48 by omega]
  exact Ev.now _
def hostB (b:UInt8):Bool:=lowB b||digB b||decide (b=45)
def hostP (p:List UInt8):Bool:=!p.isEmpty&&p.all hostB
def hostL (l:List UInt8):Bool:=decide (1≤l.length)&&decide (l.length≤60)&&(splitL 46 l).all hostP
theorem u8_45 (b:UInt8):(b.toNat:Int)=45↔b=45:=by rw[←UInt8.toNat_inj];show _↔b.toNat=45;omega
theorem rdOf_mid (pre:List (List UInt8)) (x:List UInt8) (r:List (List UInt8)):rdOf ByteArray.empty ((pre++x::r).map mkB) (pre.length:Int)=mkB x:=by
 rw[List.map_append,List.map_cons,rdOf,show(pre.length:Int)=((pre.map mkB).length:Int)by simp,getD_mid]
theorem specHost_in (P:List ByteArray) (i:Int) (x:List UInt8) (hx:rdOf ByteArray.empty P i=mkB x) (hi:0≤i) (hi2:i<(P.length:Int)) (hP:P.length≤1000000) (hl:x.length≤1000000) (res:Bool) (hres:Ev (fun k=>spec_l7host.l0 k P (i+1)) res):
  ∀(r pre:List UInt8),x=pre++r→Ev (fun k=>spec_l7host.l1 k P i (pre.length:Int)) (r.all hostB&&res)
 | [],pre,hp=>by
  refine Ev.step (fun k=>?_) (by simpa using hres)
  simp only[spec_l7host.l1]
  rw[if_pos hi,if_pos hi2,hx,if_neg (by rw[size_mk,hp];simp),wrap_id (by omega) (by omega)]
 |b::r,pre,hp=>by
  have ih:=specHost_in P i x hx hi hi2 hP hl res hres r (pre++ [b]) (by rw[hp];simp)
  rw[len_snoc]at ih
  have hxl:x.length=pre.length+(r.length+1):=by rw[hp];simp
  have hb:bt (mkB x) (pre.length:Int)=(b.toNat:Int):=by rw[hp];exact bt_mid pre b r
  have hcell: ∀k,spec_l7host.l1 (k+1) P i (pre.length:Int)=if hostB b=true then spec_l7host.l1 k P i ((pre.length:Int)+1)else some false:=by
   intro k
   simp only[spec_l7host.l1]
   rw[if_pos hi,if_pos hi2,hx,if_pos (by rw[size_mk];omega),if_pos (by omega),hb,l1digit_is,wrap_id (by omega) (by omega)]
   simp only[Option.bind_some]
   unfold hostB
   by_cases h1:97≤b.toNat
   ·rw[if_pos (by omega)]
    by_cases h2:b.toNat≤122
    ·rw[if_pos (by omega),if_pos (by simp[lowB,h1,h2])]
    ·have e:lowB b=false:=by simp[lowB,h2]
     rw[if_neg (by omega),e]
     cases digB b
     ·by_cases h45:b=45
      ·rw[if_neg Bool.false_ne_true,if_pos ((u8_45 b).2 h45),if_pos (by simp[h45])]
      ·rw[if_neg Bool.false_ne_true,if_neg (fun h=>h45 ((u8_45 b).1 h)),if_neg (by simp[h45])]
     ·rw[if_pos rfl,if_pos (by simp)]
   ·have e:lowB b=false:=by simp[lowB,h1]
    rw[if_neg (by omega),e]
    cases digB b
    ·by_cases h45:b=45
     ·rw[if_neg Bool.false_ne_true,if_pos ((u8_45 b).2 h45),if_pos (by simp[h45])]
     ·rw[if_neg Bool.false_ne_true,if_neg (fun h=>h45 ((u8_45 b).1 h)),if_neg (by simp[h45])]
    ·rw[if_pos rfl,if_pos (by simp)]
  cases hh:hostB b
  ·exact Ev.step (f:=fun _=>some false) (fun k=>by rw[hcell,if_neg (by rw[hh];decide)]) (by simpa [hh]using Ev.now false)
  ·exact Ev.step (fun k=>by rw[hcell,if_pos hh]) (by simpa [hh]using ih)
theorem specHost_go (S:List (List UInt8)) (hS:S.length≤1000000) (hx: ∀x∈S,x.length≤1000000): ∀(r pre:List (List UInt8)),S=pre++r→Ev (fun k=>spec_l7host.l0 k (S.map mkB) (pre.length:Int)) (r.all hostP)
 | [],pre,hp=>Ev.step (f:=fun _=>some true) (fun k=>by simp only[spec_l7host.l0];rw[if_neg (by rw[hp];simp)]) (Ev.now _)
 |x::r,pre,hp=>by
  have ih:=specHost_go S hS hx r (pre++ [x]) (by rw[hp];simp)
  rw[len_snoc]at ih
  have hlen:S.length=pre.length+(r.length+1):=by rw[hp];simp
  have hrd:rdOf ByteArray.empty (S.map mkB) (pre.length:Int)=mkB x:=by rw[hp];exact rdOf_mid pre x r
  have hlt:(pre.length:Int)<((S.map mkB).length:Int):=by simp;omega
  by_cases he:x= []
  ·refine Ev.step (f:=fun _=>some false) (fun k=>?_) (by simpa [hostP,he]using Ev.now false)
   simp only[spec_l7host.l0]
   rw[if_pos hlt,if_pos (by omega),hrd,toList_mk,if_pos he]
  ·have hin:=specHost_in (S.map mkB) (pre.length:Int) x hrd (by omega) hlt (by simpa using hS) (hx x (by rw[hp];simp)) _ ih x [] rfl
   refine Ev.step (f:=fun k=>spec_l7host.l1 k (S.map mkB) (pre.length:Int) 0) (fun k=>?_) ?_
   ·simp only[spec_l7host.l0]
    rw[if_pos hlt,if_pos (by omega),hrd,toList_mk,if_neg he]
   ·have hne:x.isEmpty=false:=by cases x with|nil=>exact absurd rfl he|cons _ _=>rfl
    simpa [hostP,hne]using hin
theorem splitL_len (c:UInt8): ∀l:List UInt8,(splitL c l).length≤l.length+1∧ ∀x∈splitL c l,x.length≤l.length
 | []=>by simp[splitL]
 |b::r=>by
  have ih:=splitL_len c r
  unfold splitL
  by_cases h:b=c
  ·rw[if_pos h]
   refine⟨by simp;omega,fun x hx=>?_⟩
   rcases List.mem_cons.1 hx with rfl|hx
   ·simp
   ·have:=ih.2 x hx;simp;omega
  ·rw[if_neg h]
   cases hs:splitL c r with
   |nil=>exact absurd hs (splitL_ne c r)
   |cons a t=>
    rw[hs]at ih
    refine⟨by simp at ih ⊢;omega,fun x hx=>?_⟩
    rcases List.mem_cons.1 hx with rfl|hx
    ·have:=ih.2 a (by simp);simp;omega
    ·have:=ih.2 x (List.mem_cons_of_mem _ hx);simp;omega
theorem specHost_is (s:ByteArray) (hs:s.size≤1048576):Ev (fun k=>spec_l7host.f k s) (hostL (bl s)):=by
 have hj:Ev (fun k=>spec_l7host.j0 k s true) false:=Ev.step (f:=fun _=>some false) (fun k=>by simp only[spec_l7host.j0,if_true]) (Ev.now _)
 obtain⟨l,rfl⟩: ∃l,s=mkB l:=⟨bl s,(mk_bl s).symm⟩
 rw[bl_mk]
 rw[size_mk]at hs
 unfold spec_l7host.f hostL
 rw[size_mk]
 by_cases h0:l.length=0
 ·simp only[if_pos (show(l.length:Int)=0 by omega),decide_eq_false (show ¬1≤l.length by omega),Bool.false_and];exact hj
 ·simp only[if_neg (show ¬(l.length:Int)=0 by omega),decide_eq_true (show 1≤l.length by omega),Bool.true_and]
  by_cases h60:l.length≤60
  ·simp only[decide_eq_false (show ¬(l.length:Int)>60 by omega),decide_eq_true h60,Bool.true_and]
   have hsl:=splitL_len 46 l
   have:=specHost_go (splitL 46 l) (by omega) (fun x hx=>by have:=hsl.2 x hx;omega) (splitL 46 l) [] rfl
   refine Ev.step (f:=fun k=>(spec_l7split.f k (mkB l) 46).bind fun t=>spec_l7host.l0 k t 0) (fun k=>by simp only[spec_l7host.j0,Bool.false_eq_true,if_false]) ?_
   exact(spec7split_is 46 l hs).bind this
  ·simp only[decide_eq_true (show(l.length:Int)>60 by omega),decide_eq_false h60,Bool.false_and];exact hj
theorem split_all (c:UInt8) (p q:UInt8→Bool) (hq: ∀b,q b=(p b||decide (b=c))): ∀l:List UInt8,(splitL c l).all (fun x=>x.all p)=true↔l.all q=true
 | []=>by simp[splitL]
 |b::r=>by
  have ih:=split_all c p q hq r
  have hb:=hq b
  unfold splitL
  by_cases h:b=c
  ·rw[if_pos h,List.all_cons,List.all_nil,Bool.true_and,ih,List.all_cons,hb];simp[h]
  ·rw[if_neg h]
   cases hs:splitL c r with
   |nil=>exact absurd hs (splitL_ne c r)
   |cons a t=>
    rw[hs]at ih
    simp only[List.headD_cons,List.tail_cons,List.all_cons,Bool.and_eq_true]at ih ⊢
    rw[hb,decide_eq_false h,Bool.or_false,←ih]
    constructor
    ·rintro⟨⟨h1,h2⟩,h3⟩;exact⟨h1,h2,h3⟩
    ·rintro⟨h1,h2,h3⟩;exact⟨⟨h1,h2⟩,h3⟩
theorem hostL_is (l:List UInt8):hostL l=(decide (1≤l.length)&&decide (l.length≤60)&&l.all (fun b=>hostB b||decide (b=46))&&!(splitL 46 l).contains []):=by
 unfold hostL
 rw[Bool.and_assoc (decide _&&decide _)]
 congr 1
 rw[Bool.eq_iff_iff,Bool.and_eq_true,←split_all 46 hostB (fun b=>hostB b||decide (b=46)) (fun _=>rfl) l]
 simp only[List.all_eq_true,hostP,Bool.and_eq_true,Bool.not_eq_true',List.contains_eq_mem,decide_eq_false_iff_not]
 constructor
 ·intro h
  exact⟨fun x hx=>(h x hx).2,fun hm=>by have:=(h [] hm).1;simp at this⟩
 ·rintro⟨h1,h2⟩ x hx
  refine⟨?_,h1 x hx⟩
  cases x with
  |nil=>exact absurd hx h2
  |cons _ _=>rfl
theorem strOf_digit (n:Nat) (h:n<10):strOfNums [(wrap64 (48+(n:Int)))%256]=mkB [UInt8.ofNat (48+n)]:=by
 have e:(wrap64 (48+(n:Int)))%256=((48+n:Nat):Int):=by rw[wrap_id (by omega) (by omega)];omega
 rw[e]
 show(⟨(([((48+n:Nat):Int)]:List Int).map fun n=>UInt8.ofNat n.toNat).toArray⟩:ByteArray)=_
 rw[List.map_cons,List.map_nil,Int.toNat_natCast]
 rfl
theorem mk_append (a b:List UInt8):mkB a++mkB b=mkB (a++b):=by
 cases h:mkB a++mkB b with|mk d=>
 have h3:(mkB a++mkB b).data.toList=a++b:=by simp[mkB]
 rw[h]at h3
 simp only[mkB,ByteArray.mk.injEq]
 apply Array.toList_inj.1
 rw[h3]
theorem nDigits_le15 (n:Nat) (h:n≤999999999999999):Lib.nDigits n≤15:=by
 by_cases h1:Lib.nDigits n≤15
 ·exact h1
 ·have hk: ∀k u:Nat,u<10^(k+1)→Lib.nDigits u≤k+1:=by
   intro k
   induction k with
   |zero=>intro u hu;rw[Lib.nDigits_small (by simpa using hu)];omega
   |succ k ih=>
    intro u hu
    by_cases h10:u<10
    ·rw[Lib.nDigits_small h10];omega
    ·rw[Lib.nDigits_big h10]
     have:=ih (u/10) (by rw[Nat.pow_succ]at hu;omega)
     omega
  exact hk 14 n (by omega)
theorem specDec_is (n:Nat) (h:n≤999999999999999):Ev (fun k=>spec_DecText.f k (n:Int)) (mkB (Lib.decDigits n)):=by
 induction n using Nat.strongRecOn with
 |_ n ih=>
  have hd:decide ((n:Int)>999999999999999)=false:=decide_eq_false (by omega)
  refine Ev.step (f:=fun k=>spec_DecText.j0 k (n:Int) false) (fun k=>by simp only[spec_DecText.f];rw[if_neg (by omega),hd]) ?_
  by_cases h10:n<10
  ·refine Ev.step (f:=fun _=>some (mkB (Lib.decDigits n))) (fun k=>?_) (Ev.now _)
   simp only[spec_DecText.j0,Bool.false_eq_true,if_false]
   rw[if_pos (by omega),strOf_digit n h10,Lib.decDigits,dif_pos h10]
  ·have ih':=ih (n/10) (by omega) (by omega)
   have hlen:(mkB (Lib.decDigits (n/10))).size≤15:=by rw[size_mk,Lib.decDigits_length];exact nDigits_le15 _ (by omega)
   have e1:wrap64 (Int.tdiv (n:Int) 10)=((n/10:Nat):Int):=by
    rw[Int.tdiv_eq_ediv_of_nonneg (by omega),wrap_id (by omega) (by omega)];rfl
   have e2:Int.tmod (n:Int) 10=((n%10:Nat):Int):=by rw[Int.tmod_eq_emod_of_nonneg (by omega)];rfl
   refine Ev.step (f:=fun k=>(spec_DecText.f k ((n/10:Nat):Int)).bind fun t=>if t.size+(mkB [UInt8.ofNat (48+n%10)]).size≤9223372036854775807 then some (t++mkB [UInt8.ofNat (48+n%10)])else none) (fun k=>?_) ?_
   ·simp only[spec_DecText.j0,Bool.false_eq_true,if_false]
    rw[if_neg (by omega),e1,e2]
    simp only[Option.bind_some,strOf_digit (n%10) (show n%10<10 by omega)]
   ·refine ih'.bind ?_
    have hs:(mkB [UInt8.ofNat (48+n%10)]).size=1:=by rw[size_mk];rfl
    have hdd:Lib.decDigits n=Lib.decDigits (n/10)++ [UInt8.ofNat (48+n%10)]:=by rw[Lib.decDigits,dif_neg h10]
    rw[if_pos (by omega),mk_append,hdd]
    exact Ev.now _
theorem itoa_is (n:Nat) (h:n≤999999999999999):strconv_Itoa.f (n:Int)=some (mkB (Lib.decDigits n)):=by
 unfold strconv_Itoa.f
 rw[if_pos ⟨by omega,by omega⟩]
 unfold Lib.itoa
 rw[if_neg (by omega)]
 rfl
def portL (p:Nat):List UInt8:=if p=80 then []else 58::Lib.decDigits p
def queryL (q:List UInt8) (h:Bool):List UInt8:=if h=true then 63::q else []
def httpB:List UInt8:= [104,116,116,112,58,47,47]
def urlL (h:List UInt8) (p:Nat) (path q:List UInt8) (hq:Bool):List UInt8:=httpB++h++portL p++path++queryL q hq
theorem decDigits_short (p:Nat) (h:p≤999999999999999):(Lib.decDigits p).length≤15:=by rw[Lib.decDigits_length];exact nDigits_le15 _ h
theorem portL_len (p:Nat) (h:p≤999999999999999):(portL p).length≤16:=by
 have:=decDigits_short p h
 unfold portL;split
 ·simp
 ·simp;omega
theorem queryL_len (q:List UInt8) (h:Bool):(queryL q h).length≤q.length+1:=by unfold queryL;split<;>simp
theorem specPort_is (a:ByteArray) (p:Nat) (b c:ByteArray) (d:Bool) (h:p≤999999999999999):Ev (fun k=>spec_l7port.f k a (p:Int) b c d) (mkB (portL p)):=by
 unfold spec_l7port.f portL
 by_cases h80:p=80
 ·simp only[if_pos (show(p:Int)=80 by omega),if_pos h80];exact Ev.now _
 ·simp only[if_neg (show ¬(p:Int)=80 by omega),if_neg h80]
  refine(specDec_is p h).bind ?_
  have:=decDigits_short p h
  rw[if_pos (by rw[size_mk];omega),show(⟨#[58]⟩:ByteArray)=mkB [58]from rfl,mk_append]
  exact Ev.now _
theorem implPort_is (a:ByteArray) (p:Nat) (b c:ByteArray) (d:Bool) (h:p≤999999999999999):impl_portText.f a (p:Int) b c d=some (mkB (portL p)):=by
 unfold impl_portText.f portL
 by_cases h80:p=80
 ·rw[if_pos (show(p:Int)=80 by omega),if_pos h80];rfl
 ·have:=decDigits_short p h
  rw[if_neg (show ¬(p:Int)=80 by omega),if_neg h80,itoa_is p h,Option.bind_some,if_pos (by rw[size_mk];omega),show(⟨#[58]⟩:ByteArray)=mkB [58]from rfl,mk_append]
  rfl
theorem specQuery_is (a:ByteArray) (p:Int) (b:ByteArray) (c:List UInt8) (d:Bool) (h:c.length≤1000000000):spec_l7query.f a p b (mkB c) d=some (mkB (queryL c d)):=by
 unfold spec_l7query.f queryL
 cases d
 ·rfl
 ·rw[if_pos rfl,if_pos rfl,if_pos (by rw[size_mk];omega),show(⟨#[63]⟩:ByteArray)=mkB [63]from rfl,mk_append];rfl
theorem implPath_is (a:ByteArray) (p:Int) (b c:List UInt8) (d:Bool) (hb:b.length≤1000000000) (h:c.length≤1000000000):impl_pathText.f a p (mkB b) (mkB c) d=some (mkB (b++queryL c d)):=by
 unfold impl_pathText.f queryL
 cases d
 ·simp
 ·rw[if_pos rfl,if_pos rfl,show(⟨#[63]⟩:ByteArray)=mkB [63]from rfl,mk_append,if_pos (by rw[size_mk];omega),if_pos (by rw[size_mk,size_mk];simp;omega),mk_append]
  simp
theorem specText_is (a:List UInt8) (p:Nat) (b c:List UInt8) (d:Bool) (h:p≤999999999999999) (ha:a.length≤1000000000) (hb:b.length≤1000000000) (hc:c.length≤1000000000):Ev (fun k=>spec_l7text.f k (mkB a) (p:Int) (mkB b) (mkB c) d) (mkB (urlL a p b c d)):=by
 have h1:=portL_len p h
 have h2:=queryL_len c d
 have e0:(⟨#[104,116,116,112,58,47,47]⟩:ByteArray)=mkB httpB:=rfl
 have e1:httpB.length=7:=rfl
 unfold spec_l7text.f urlL
 simp only[e0,mk_append,size_mk]
 simp only[if_pos (show 7+a.length≤9223372036854775807 by omega)]
 refine(specPort_is _ p _ _ d h).bind ?_
 rw[mk_append,size_mk]
 rw[if_pos (by rw[List.length_append];omega),if_pos (by rw[size_mk];simp only[List.length_append];omega),specQuery_is _ _ _ _ _ hc,Option.bind_some,mk_append,size_mk,size_mk,if_pos (by simp only[List.length_append];omega),mk_append]
 exact Ev.now _
theorem implText_is (a:List UInt8) (p:Nat) (b c:List UInt8) (d:Bool) (h:p≤999999999999999) (ha:a.length≤1000000000) (hb:b.length≤1000000000) (hc:c.length≤1000000000):impl_urlText.f (mkB a) (p:Int) (mkB b) (mkB c) d=some (mkB (urlL a p b c d)):=by
 have h1:=portL_len p h
 have h2:=queryL_len c d
 have e0:(⟨#[104,116,116,112,58,47,47]⟩:ByteArray)=mkB httpB:=rfl
 have e1:httpB.length=7:=rfl
 unfold impl_urlText.f urlL
 rw[e0,mk_append,if_pos (by rw[size_mk];omega),implPort_is _ p _ _ d h,Option.bind_some,if_pos (by rw[size_mk,size_mk];simp only[List.length_append];omega),implPath_is _ _ _ _ _ hb hc,Option.bind_some,mk_append,if_pos (by rw[size_mk,size_mk];simp only[List.length_append];omega),mk_append]
 simp only[List.append_assoc]
def freeB (b:UInt8):Bool:=lowB b||uppB b||digB b|| [45,46,95,126].contains b
theorem implFree_is (b:UInt8):impl_isFree.f (b.toNat:Int)=some (freeB b):=by
 have key: ∀n:Fin 256,impl_isFree.f ((UInt8.ofNat n.val).toNat:Int)=some (freeB (UInt8.ofNat n.val)):=by decide+kernel
 have:=key ⟨b.toNat,b.toNat_lt⟩
 simpa using this
theorem spec7free_is (b:UInt8):Ev (fun k=>spec_l7free.f k (b.toNat:Int)) (freeB b):=by
 have hh:Ev (fun k=>spec_l1has.f k (⟨#[45,46,95,126]⟩:ByteArray) (b.toNat:Int)) ([45,46,95,126].contains b):=has_is [45,46,95,126] b (by decide)
 have rest:Ev (fun k=>if digB b=true then some true else(spec_l1has.f k (⟨#[45,46,95,126]⟩:ByteArray) (b.toNat:Int)).bind fun t=>some t) (digB b|| [45,46,95,126].contains b):=by
  cases hd:digB b
  ·simpa using hh.bind (f:=fun _ (t:Bool)=>some t) (Ev.now _)
  ·simpa using Ev.now true
 obtain⟨c,hc,c0,c1,c2,c3⟩:=specHexLow b
 unfold spec_l7free.f
 simp only[l1digit_is,hc,Option.bind_some]
 unfold freeB
 by_cases hU:65≤b.toNat∧b.toNat≤90
 ·have e:=c2 hU
  have e1:uppB b=true:=by simp[uppB,hU]
  simp only[if_pos (show c≥97 by omega),if_pos (show c≤122 by omega)]
  simpa [e1]using Ev.now true
 ·have e:=c3 hU
  have e1:uppB b=false:=by simp[uppB];omega
  by_cases hL:97≤b.toNat
  ·by_cases hL2:b.toNat≤122
   ·have e2:lowB b=true:=by simp[lowB,hL,hL2]
    simp only[if_pos (show c≥97 by omega),if_pos (show c≤122 by omega)]
    simpa [e2]using Ev.now true
   ·have e2:lowB b=false:=by simp[lowB,hL2]
    simp only[if_pos (show c≥97 by omega),if_neg (show ¬c≤122 by omega)]
    simpa [e1,e2]using rest
  ·have e2:lowB b=false:=by simp[lowB,hL]
   simp only[if_neg (show ¬c≥97 by omega)]
   simpa [e1,e2]using rest
def upI (b:UInt8):Int:=if 97≤b.toNat∧b.toNat≤122 then(b.toNat:Int)-32 else(b.toNat:Int)
theorem spec7upper_is (b:UInt8):spec_l7upper.f (b.toNat:Int)=some (upI b):=by
 have:=u8_lt b
 unfold spec_l7upper.f upI
 by_cases h:97≤b.toNat
 ·rw[if_pos (by omega)]
  by_cases h2:b.toNat≤122
  ·rw[if_pos (by omega),if_pos ⟨h,h2⟩];congr 1;omega
  ·rw[if_neg (by omega),if_neg (by omega)]
 ·rw[if_neg (by omega),if_neg (by omega)]
theorem hexUp (b:UInt8) (h: ¬hexV b<0):bt (⟨#[48,49,50,51,52,53,54,55,56,57,65,66,67,68,69,70]⟩:ByteArray) (hexV b)=upI b:=by
 have key: ∀n:Fin 256,hexV (UInt8.ofNat n.val)<0∨bt (⟨#[48,49,50,51,52,53,54,55,56,57,65,66,67,68,69,70]⟩:ByteArray) (hexV (UInt8.ofNat n.val))=upI (UInt8.ofNat n.val):=by decide+kernel
 have:=key ⟨b.toNat,b.toNat_lt⟩
 simp only[UInt8.ofNat_toNat]at this
 exact this.resolve_left h
theorem and15 (v:Int) (h0:0≤v) (h1:v<256):Go.bits .and .u8 v 15=v%16:=by
 have key: ∀n:Fin 256,Go.bits .and .u8 (n.val:Int) 15=(n.val:Int)%16:=by decide+kernel
 have:=key ⟨v.toNat,by omega⟩
 simpa [Int.toNat_of_nonneg h0]using this
def pct:List UInt8→Option (UInt8×UInt8×List UInt8)
 |c::d::r=>if hexV c<0∨hexV d<0 then none else some (c,d,r)
 |_=>none
def pctB (c d:UInt8):UInt8:=UInt8.ofNat (16*hexV c+hexV d).toNat
def pctOut (c d:UInt8):List Int:=if freeB (pctB c d)=true then [((pctB c d).toNat:Int)]else [37,upI c,upI d]
def unescI:Nat→List UInt8→List Int
 |0,_=> []
 |_+1,[]=> []
 |n+1,b::r=>if b=37 then(match pct r with|none=>37::unescI n r|some (c,d,r')=>pctOut c d++unescI n r')else(b.toNat:Int)::unescI n r
theorem u8_37 (b:UInt8):(b.toNat:Int)=37↔b=37:=by rw[←UInt8.toNat_inj];show _↔b.toNat=37;omega
theorem pctB_val (c d:UInt8) (hc: ¬hexV c<0) (hd: ¬hexV d<0):((pctB c d).toNat:Int)=16*hexV c+hexV d:=by
 have h1:=hexV_lt c
 have h2:=hexV_lt d
 unfold pctB
 rw[UInt8.toNat_ofNat']
 omega
theorem pctOut_len (c d:UInt8):(pctOut c d).length≤3:=by unfold pctOut;split<;>simp
theorem unescI_len: ∀(n:Nat) (r:List UInt8),r.length≤n→(unescI n r).length≤r.length
 |0,[],_=>by simp[unescI]
 |n+1,[],_=>by simp[unescI]
 |n+1,b::r,h=>by
  simp at h
  unfold unescI
  by_cases hb:b=37
  ·rw[if_pos hb]
   cases hp:pct r with
   |none=>have:=unescI_len n r h;simp;omega
   |some q=>
    obtain⟨c,d,r'⟩:=q
    have hr:r=c::d::r':=by
     unfold pct at hp
     split at hp
     ·split at hp
      ·cases hp
      ·injection hp with hp;injection hp with h1 h2;injection h2 with h2 h3;subst h1;subst h2;subst h3;rfl
     ·cases hp
    subst hr
    simp at h
    have:=unescI_len n r' (by omega)
    have:=pctOut_len c d
    simp;omega
  ·rw[if_neg hb];have:=unescI_len n r h;simp;omega
theorem pct_short (r:List UInt8) (h:r.length≤1):pct r=none:=by
 match r,h with
 | [],_=>rfl
 | [_],_=>rfl
theorem readHexT_two (c d:UInt8):readHexT [c,d]=if hexV c<0∨hexV d<0 then(0,false)else(16*hexV c+hexV d,true):=by
 unfold readHexT
 rw[if_neg (by simp)]
 simp only[readHexL]
 by_cases h1:hexV c<0
 ·simp[h1]
 ·by_cases h2:hexV d<0
  ·simp[h1,h2]
  ·simp[h1,h2]
theorem two_of: ∀r:List UInt8,¬r.length≤1→ ∃c d r',r=c::d::r'
 | [],h=>absurd (by simp) h
 | [_],h=>absurd (by simp) h
 |c::d::r',_=>⟨c,d,r',rfl⟩
theorem specPct_cell (k:Nat) (s:ByteArray) (acc:List Int) (i:Int) (c d:UInt8) (h0:0≤i) (h3:i+3≤(s.size:Int)) (hs:s.size≤2000000) (ha:acc.length≤2000000) (hb1:bt s (i+1)=(c.toNat:Int)) (hb2:bt s (i+2)=(d.toNat:Int)) (hx:s.extract (i+1).toNat (i+3).toNat=mkB [c,d]):
  spec_l7percent.j1 (k+1) s acc i false=(spec_ReadHex.f k (mkB [c,d])).bind fun q=>if q.2=true then((spec_l7free.f k (q.1%256)).bind fun t=>if t=true then spec_l7percent.l0 k s (acc++ [q.1%256]) (i+3)else spec_l7percent.l0 k s (acc++ [37,upI c,upI d]) (i+3))else spec_l7percent.l0 k s (acc++ [bt s i]) (i+1):=by
 have hw1:wrap64 (i+1)=i+1:=wrap_id (by omega) (by omega)
 have hw2:wrap64 (i+2)=i+2:=wrap_id (by omega) (by omega)
 have hw3:wrap64 (i+3)=i+3:=wrap_id (by omega) (by omega)
 have hw4:wrap64 (i+2+1)=i+3:=by rw[wrap_id (by omega) (by omega)];omega
 have g1:(0:Int)≤i+1:=by omega
 have g2:i+1≤i+3:=by omega
 have g3:acc.length<140737488355328:=by omega
 have g4:i+1<(s.size:Int):=by omega
 have g5:(0:Int)≤i+2:=by omega
 have g6:i+2<(s.size:Int):=by omega
 have g7:i<(s.size:Int):=by omega
 have g8:acc.length+ [(37:Int),upI c,upI d].length<140737488355328:=by simp only[List.length_cons,List.length_nil];omega
 rw[spec_l7percent.j1,if_neg Bool.false_ne_true,hw1,hw3,if_pos g1,if_pos g2,if_pos h3,hx]
 congr 1
 funext q
 by_cases hq:q.2=true
 ·rw[if_pos hq,if_pos hq]
  congr 1
  funext t
  by_cases ht:t=true
  ·rw[if_pos ht,if_pos ht,if_pos g3,hw2,hw4]
  ·rw[if_neg ht,if_neg ht,if_pos g4,hb1,spec7upper_is,Option.bind_some,hw2,if_pos g5,if_pos g6,hb2,spec7upper_is,Option.bind_some,Option.bind_some,if_pos g8,hw4]
 ·rw[if_neg hq,if_neg hq,if_pos h0,if_pos g7,if_pos g3]
theorem specPct_go: ∀(n:Nat) (r pre:List UInt8) (acc:List Int),r.length≤n→(pre++r).length≤1048576→acc.length≤pre.length→
  Ev (fun k=>spec_l7percent.l0 k (mkB (pre++r)) acc (pre.length:Int)) (strOfNums (acc++unescI n r)):=by
 intro n
 induction n with
 |zero=>
  intro r pre acc hr hl ha
  obtain rfl:r= []:=List.length_eq_zero_iff.1 (by omega)
  refine Ev.step (f:=fun _=>some (strOfNums acc)) (fun k=>?_) (by simpa [unescI]using Ev.now _)
  simp only[spec_l7percent.l0];rw[if_neg (by rw[size_mk];simp)]
 |succ n ih=>
  intro r pre acc hr hl ha
  cases r with
  |nil=>
   refine Ev.step (f:=fun _=>some (strOfNums acc)) (fun k=>?_) (by simpa [unescI]using Ev.now _)
   simp only[spec_l7percent.l0];rw[if_neg (by rw[size_mk];simp)]
  |cons b r=>
   have hl2:=hl
   simp at hl2 hr
   have one: ∀z,unescI (n+1) (b::r)=z::unescI n r→z=(b.toNat:Int)→Ev (fun k=>spec_l7percent.l0 k (mkB (pre++b::r)) (acc++ [bt (mkB (pre++b::r)) pre.length]) (wrap64 ((pre.length:Int)+1))) (strOfNums (acc++unescI (n+1) (b::r))):=by
    intro z hz hzb
    have ih':=ih r (pre++ [b]) (acc++ [(b.toNat:Int)]) hr (by rw[←app_mid];exact hl) (by simp;omega)
    rw[←app_mid,len_snoc]at ih'
    rw[bt_mid,wrap_id (by omega) (by omega),hz,hzb]
    simpa using ih'
   have two: ∀x,x=true→(∃z,unescI (n+1) (b::r)=z::unescI n r∧z=(b.toNat:Int))→Ev (fun k=>spec_l7percent.j1 k (mkB (pre++b::r)) acc (pre.length:Int) x) (strOfNums (acc++unescI (n+1) (b::r))):=by
    rintro x rfl ⟨z,hz,hzb⟩
    refine Ev.step (fun k=>?_) (one z hz hzb)
    simp only[spec_l7percent.j1,if_true]
    rw[if_pos (by omega),if_pos (size_lt_mid ..),if_pos (by omega)]
   by_cases hb:b=37
   ·subst hb
    have hu:unescI (n+1) (37::r)=match pct r with|none=>37::unescI n r|some (c,d,r')=>pctOut c d++unescI n r':=by rw[unescI,if_pos rfl]
    have hcell: ∀k,spec_l7percent.l0 (k+1) (mkB (pre++37::r)) acc pre.length=spec_l7percent.j1 k (mkB (pre++37::r)) acc pre.length (decide (r.length≤1)):=by
     intro k
     simp only[spec_l7percent.l0]
     rw[if_pos (size_lt_mid ..),if_pos (by omega),bt_mid,if_pos (by rfl),wrap_id (by omega) (by omega)]
     congr 1
     rw[size_mk]
     exact decide_eq_decide.2 (by simp;omega)
    refine Ev.step hcell ?_
    by_cases hs:r.length≤1
    ·simp only[decide_eq_true hs]
     exact two true rfl ⟨37,by rw[hu,pct_short r hs],rfl⟩
    ·simp only[decide_eq_false hs]
     obtain⟨c,d,r',rfl⟩:=two_of r hs
     ·skip
      simp at hl2 hr
      have hx:(mkB (pre++37::c::d::r')).extract ((pre.length:Int)+1).toNat ((pre.length:Int)+3).toNat=mkB [c,d]:=by
       rw[extract_mk,show((pre.length:Int)+1).toNat=pre.length+1 by omega,show((pre.length:Int)+3).toNat=pre.length+3 by omega,show pre.length+3-(pre.length+1)=2 by omega,drop_mid];rfl
      have hw1:wrap64 ((pre.length:Int)+1)=(pre.length:Int)+1:=wrap_id (by omega) (by omega)
      have hw2:wrap64 ((pre.length:Int)+2)=(pre.length:Int)+2:=wrap_id (by omega) (by omega)
      have hw3:wrap64 ((pre.length:Int)+3)=(pre.length:Int)+3:=wrap_id (by omega) (by omega)
      have hw4:wrap64 ((pre.length:Int)+2+1)=(pre.length:Int)+3:=by rw[wrap_id (by omega) (by omega)];omega
      have hb1:bt (mkB (pre++37::c::d::r')) ((pre.length:Int)+1)=(c.toNat:Int):=by
       have:=bt_mid (pre++ [37]) c (d::r');rw[len_snoc,←app_mid]at this;exact this
      have hb2:bt (mkB (pre++37::c::d::r')) ((pre.length:Int)+2)=(d.toNat:Int):=by
       have:=bt_mid (pre++ [37]++ [c]) d r'
       simp only[List.length_append,List.length_singleton,List.append_assoc,List.singleton_append]at this
       simpa [Int.add_assoc]using this
      have hsz:((mkB (pre++37::c::d::r')).size:Int)=(pre.length:Int)+3+r'.length:=by rw[size_mk];simp;omega
      refine Ev.step (fun k=>specPct_cell k _ acc _ c d (by omega) (by omega) (by omega) (by omega) hb1 hb2 hx) ?_
      refine(specReadHex_is [c,d]).bind ?_
      rw[readHexT_two]
      by_cases hh:hexV c<0∨hexV d<0
      ·simp only[if_pos hh,Bool.false_eq_true,if_false]
       have:=one 37 (by rw[hu];simp[pct,hh]) rfl
       rw[hw1]at this
       exact this
      ·simp only[if_neg hh,if_true]
       have hc: ¬hexV c<0:=fun h=>hh (.inl h)
       have hd: ¬hexV d<0:=fun h=>hh (.inr h)
       have hv:=pctB_val c d hc hd
       have hlt:=u8_lt (pctB c d)
       rw[show(16*hexV c+hexV d)%256=((pctB c d).toNat:Int)by omega]
       refine(spec7free_is (pctB c d)).bind ?_
       have e1:pre++37::c::d::r'=(pre++ [37,c,d])++r':=by simp
       have e2:((pre++ [37,c,d]).length:Int)=(pre.length:Int)+3:=by simp
       have hu2:unescI (n+1) (37::c::d::r')=pctOut c d++unescI n r':=by rw[hu];simp[pct,hh]
       rw[hu2]
       cases hf:freeB (pctB c d)
       ·have ih':=ih r' (pre++ [37,c,d]) (acc++ [37,upI c,upI d]) (by omega) (by rw[←e1];exact hl) (by simp;omega)
        rw[←e1,e2]at ih'
        simp only[Bool.false_eq_true,if_false]
        simpa [pctOut,hf]using ih'
       ·have ih':=ih r' (pre++ [37,c,d]) (acc++ [((pctB c d).toNat:Int)]) (by omega) (by rw[←e1];exact hl) (by simp;omega)
        rw[←e1,e2]at ih'
        simp only[if_true]
        simpa [pctOut,hf]using ih'
   ·have hcell: ∀k,spec_l7percent.l0 (k+1) (mkB (pre++b::r)) acc pre.length=spec_l7percent.j1 k (mkB (pre++b::r)) acc pre.length true:=by
     intro k
     simp only[spec_l7percent.l0]
     rw[if_pos (size_lt_mid ..),if_pos (by omega),bt_mid,if_neg (fun h=>hb ((u8_37 b).1 h))]
    refine Ev.step hcell ?_
    exact two true rfl ⟨(b.toNat:Int),by rw[unescI,if_neg hb],rfl⟩
theorem implPct_go: ∀(n:Nat) (r pre:List UInt8) (acc:List Int),r.length≤n→(pre++r).length≤1048576→acc.length≤pre.length→
  Ev (fun k=>impl_unescaped.l0 k (mkB (pre++r)) acc (pre.length:Int)) (strOfNums (acc++unescI n r)):=by
 intro n
 induction n with
 |zero=>
  intro r pre acc hr hl ha
  obtain rfl:r= []:=List.length_eq_zero_iff.1 (by omega)
  refine Ev.step (f:=fun _=>some (strOfNums acc)) (fun k=>?_) (by simpa [unescI]using Ev.now _)
  simp only[impl_unescaped.l0];rw[if_neg (by rw[size_mk];simp)]
 |succ n ih=>
  intro r pre acc hr hl ha
  cases r with
  |nil=>
   refine Ev.step (f:=fun _=>some (strOfNums acc)) (fun k=>?_) (by simpa [unescI]using Ev.now _)
   simp only[impl_unescaped.l0];rw[if_neg (by rw[size_mk];simp)]
  |cons b r=>
   have hl2:=hl
   simp at hl2 hr
   have two:(∃z,unescI (n+1) (b::r)=z::unescI n r∧z=(b.toNat:Int))→Ev (fun k=>impl_unescaped.j1 k (mkB (pre++b::r)) acc (pre.length:Int) true) (strOfNums (acc++unescI (n+1) (b::r))):=by
    rintro⟨z,hz,hzb⟩
    have ih':=ih r (pre++ [b]) (acc++ [(b.toNat:Int)]) hr (by rw[←app_mid];exact hl) (by simp;omega)
    rw[←app_mid,len_snoc]at ih'
    rw[hz,hzb]
    refine Ev.step (fun k=>?_) (by simpa using ih')
    simp only[impl_unescaped.j1,if_true]
    rw[if_pos (by omega),if_pos (size_lt_mid ..),if_pos (by omega),bt_mid,wrap_id (by omega) (by omega)]
   by_cases hb:b=37
   ·subst hb
    have hu:unescI (n+1) (37::r)=match pct r with|none=>37::unescI n r|some (c,d,r')=>pctOut c d++unescI n r':=by rw[unescI,if_pos rfl]
    have hw2:wrap64 ((pre.length:Int)+2)=(pre.length:Int)+2:=wrap_id (by omega) (by omega)
    by_cases hs:r.length≤1
    ·refine Ev.step (f:=fun k=>impl_unescaped.j1 k (mkB (pre++37::r)) acc (pre.length:Int) true) (fun k=>?_) (two ⟨37,by rw[hu,pct_short r hs],rfl⟩)
     simp only[impl_unescaped.l0]
     rw[if_pos (size_lt_mid ..),if_pos (by omega),bt_mid,if_pos (by rfl),hw2,if_pos (by rw[size_mk];simp;omega)]
    ·obtain⟨c,d,r',rfl⟩:=two_of r hs
     ·skip
      simp at hl2 hr
      have hw1:wrap64 ((pre.length:Int)+1)=(pre.length:Int)+1:=wrap_id (by omega) (by omega)
      have hw4:wrap64 ((pre.length:Int)+2+1)=(pre.length:Int)+3:=by rw[wrap_id (by omega) (by omega)];omega
      have hb1:bt (mkB (pre++37::c::d::r')) ((pre.length:Int)+1)=(c.toNat:Int):=by
       have:=bt_mid (pre++ [37]) c (d::r');rw[len_snoc,←app_mid]at this;exact this
      have hb2:bt (mkB (pre++37::c::d::r')) ((pre.length:Int)+2)=(d.toNat:Int):=by
       have:=bt_mid (pre++ [37]++ [c]) d r'
       simp only[List.length_append,List.length_singleton,List.append_assoc,List.singleton_append]at this
       simpa [Int.add_assoc]using this
      have hsz:((mkB (pre++37::c::d::r')).size:Int)=(pre.length:Int)+3+r'.length:=by rw[size_mk];simp;omega
      have hc16:=hexV_lt c
      have hd16:=hexV_lt d
      have hcell: ∀k,impl_unescaped.l0 (k+1) (mkB (pre++37::c::d::r')) acc pre.length=(impl_hexOf.f k (c.toNat:Int)).bind fun t=>if t<0 then impl_unescaped.j1 k (mkB (pre++37::c::d::r')) acc (pre.length:Int) true else(impl_hexOf.f k (d.toNat:Int)).bind fun u=>impl_unescaped.j1 k (mkB (pre++37::c::d::r')) acc (pre.length:Int) (decide (u<0)):=by
       intro k
       simp only[impl_unescaped.l0,hw1,hw2,hb1,hb2]
       rw[bt_mid]
       simp only[hsz,if_pos (show(((37:UInt8).toNat:Nat):Int)=37 from rfl),if_pos (show(pre.length:Int)<(pre.length:Int)+3+r'.length by omega),if_pos (show(0:Int)≤(pre.length:Int)by omega),if_neg (show ¬(pre.length:Int)+2≥(pre.length:Int)+3+r'.length by omega),if_pos (show(0:Int)≤(pre.length:Int)+1 by omega),if_pos (show(pre.length:Int)+1<(pre.length:Int)+3+r'.length by omega),if_pos (show(0:Int)≤(pre.length:Int)+2 by omega),if_pos (show(pre.length:Int)+2<(pre.length:Int)+3+r'.length by omega)]
      refine Ev.step hcell ?_
      refine(hexOf_is c).bind ?_
      by_cases hc:hexV c<0
      ·simp only[if_pos hc]
       exact two ⟨37,by rw[hu];simp[pct,hc],rfl⟩
      simp only[if_neg hc]
      refine(hexOf_is d).bind ?_
      by_cases hd:hexV d<0
      ·simp only[decide_eq_true hd]
       exact two ⟨37,by rw[hu];simp[pct,hd],rfl⟩
      simp only[decide_eq_false hd]
      have hv:=pctB_val c d hc hd
      have hlt:=u8_lt (pctB c d)
      have hval:wrap64 (wrap64 (16*hexV c)+hexV d)%256=((pctB c d).toNat:Int):=by
       rw[wrap_id (a:=16*hexV c) (by omega) (by omega),wrap_id (by omega) (by omega)];omega
      have hdiv:((pctB c d).toNat:Int)/16=hexV c:=by omega
      have hmod:Go.bits .and .u8 ((pctB c d).toNat:Int) 15=hexV d:=by rw[and15 _ (by omega) hlt];omega
      have hcell2: ∀k,impl_unescaped.j1 (k+1) (mkB (pre++37::c::d::r')) acc pre.length false=(impl_hexOf.f k (c.toNat:Int)).bind fun t=>(impl_hexOf.f k (d.toNat:Int)).bind fun u=>(impl_isFree.f ((wrap64 ((wrap64 (16*t))+u))%256)).bind fun q=>if q=true then impl_unescaped.l0 k (mkB (pre++37::c::d::r')) (acc++ [(wrap64 ((wrap64 (16*t))+u))%256]) ((pre.length:Int)+3)else(if 0≤(((wrap64 ((wrap64 (16*t))+u))%256)/16)then(if(((wrap64 ((wrap64 (16*t))+u))%256)/16)<16 then(if 0≤(Go.bits .and .u8 ((wrap64 ((wrap64 (16*t))+u))%256) 15)then(if(Go.bits .and .u8 ((wrap64 ((wrap64 (16*t))+u))%256) 15)<16 then impl_unescaped.l0 k (mkB (pre++37::c::d::r')) (acc++ [37,bt (⟨#[48,49,50,51,52,53,54,55,56,57,65,66,67,68,69,70]⟩:ByteArray) (((wrap64 ((wrap64 (16*t))+u))%256)/16),bt (⟨#[48,49,50,51,52,53,54,55,56,57,65,66,67,68,69,70]⟩:ByteArray) (Go.bits .and .u8 ((wrap64 ((wrap64 (16*t))+u))%256) 15)]) ((pre.length:Int)+3)else none)else none)else none)else none):=by
       intro k
       simp only[impl_unescaped.j1,Bool.false_eq_true,if_false,hw1,hw2,hw4,hb1,hb2,hsz,Option.bind_some]
       have l3: ∀x y z:Int,acc.length+ [x,y,z].length<140737488355328:=by intro x y z;simp;omega
       simp only[if_pos (show(0:Int)≤(pre.length:Int)+1 by omega),if_pos (show(pre.length:Int)+1<(pre.length:Int)+3+r'.length by omega),if_pos (show(0:Int)≤(pre.length:Int)+2 by omega),if_pos (show(pre.length:Int)+2<(pre.length:Int)+3+r'.length by omega),if_pos (show acc.length<140737488355328 by omega),if_pos (l3 _ _ _)]
      refine Ev.step hcell2 ?_
      refine(hexOf_is c).bind ?_
      refine(hexOf_is d).bind ?_
      simp only[hval,implFree_is,Option.bind_some,hdiv,hmod,hexUp c hc,hexUp d hd]
      simp only[if_pos (show 0≤hexV c by omega),if_pos hc16,if_pos (show 0≤hexV d by omega),if_pos hd16]
      have e1:pre++37::c::d::r'=(pre++ [37,c,d])++r':=by simp
      have e2:((pre++ [37,c,d]).length:Int)=(pre.length:Int)+3:=by simp
      have hu2:unescI (n+1) (37::c::d::r')=pctOut c d++unescI n r':=by rw[hu];simp[pct,hc,hd]
      rw[hu2]
      cases hf:freeB (pctB c d)
      ·have ih':=ih r' (pre++ [37,c,d]) (acc++ [37,upI c,upI d]) (by omega) (by rw[←e1];exact hl) (by simp;omega)
       rw[←e1,e2]at ih'
       simp only[Bool.false_eq_true,if_false]
       simpa [pctOut,hf]using ih'
      ·have ih':=ih r' (pre++ [37,c,d]) (acc++ [((pctB c d).toNat:Int)]) (by omega) (by rw[←e1];exact hl) (by simp;omega)
       rw[←e1,e2]at ih'
       simp only[if_true]
       simpa [pctOut,hf]using ih'
   ·refine Ev.step (f:=fun k=>impl_unescaped.j1 k (mkB (pre++b::r)) acc (pre.length:Int) true) (fun k=>?_) (two ⟨(b.toNat:Int),by rw[unescI,if_neg hb],rfl⟩)
    simp only[impl_unescaped.l0]
    rw[if_pos (size_lt_mid ..),if_pos (by omega),bt_mid,if_neg (fun h=>hb ((u8_37 b).1 h))]
def visB (b:UInt8):Bool:=decide (33≤b.toNat)&&decide (b.toNat≤126)
theorem implVis_is (b:UInt8):impl_isVisible.f (b.toNat:Int)=some (visB b):=by
 unfold impl_isVisible.f visB
 by_cases h:33≤b.toNat
 ·rw[if_pos (by omega),decide_eq_true h,Bool.true_and];congr 1;exact decide_eq_decide.2 (by omega)
 ·rw[if_neg (by omega),decide_eq_false h,Bool.false_and]
theorem implAllVis_is (s:ByteArray) (hs:s.size≤9223372036854775806):Ev (fun k=>impl_all__impl_isVisible.f k s) ((bl s).all visB):=
 all_ev impl_all__impl_isVisible.l0 (fun _ x=>impl_isVisible.f x) visB (fun b=>Ev.const (implVis_is b))
  (fun k s i=>by simp only[impl_all__impl_isVisible.l0]) s hs
theorem specVisible_go: ∀(r pre:List UInt8),(pre++r).length≤9223372036854775806→Ev (fun k=>spec_l6visible.l0 k (mkB (pre++r)) pre.length) (r.all visB&&decide (1≤(pre++r).length))
 | [], pre, _ => Ev.step (f := fun _ => some (decide (1 ≤ (pre ++ []).length))) (fun k => by
   simp only[spec_l6visible.l0]
   rw[if_neg (by rw[size_mk];simp),size_mk]
   congr 1;exact decide_eq_decide.2 (by omega)) (by simpa using Ev.now _)
 |b::r,pre,hl=>by
  have ih:=specVisible_go r (pre++ [b]) (by rw[←app_mid];exact hl)
  rw[←app_mid,len_snoc]at ih
  have hw:wrap64 ((pre.length:Int)+1)=(pre.length:Int)+1:=by simp at hl;exact wrap_id (by omega) (by omega)
  have hcell: ∀k,spec_l6visible.l0 (k+1) (mkB (pre++b::r)) pre.length=if visB b=true then spec_l6visible.l0 k (mkB (pre++b::r)) (pre.length+1)else some false:=by
   intro k
   simp only[spec_l6visible.l0]
   rw[if_pos (size_lt_mid ..),if_pos (by omega),bt_mid,hw]
   by_cases h1:(b.toNat:Int)<33
   ·rw[if_pos h1,if_neg];simp[visB];omega
   ·by_cases h2:(b.toNat:Int)>126
    ·rw[if_neg h1,if_pos h2,if_neg];simp[visB];omega
    ·rw[if_neg h1,if_neg h2,if_pos];simp[visB];omega
  by_cases hv:visB b=true
  ·refine Ev.step (fun k=>by rw[hcell,if_pos hv]) ?_
   simpa [hv]using ih
  ·refine Ev.step (f:=fun _=>some false) (fun k=>by rw[hcell,if_neg hv]) ?_
   simpa [hv]using Ev.now false
theorem specVisible_is (s:ByteArray) (hs:s.size≤9223372036854775806):Ev (fun k=>spec_l6visible.f k s) ((bl s).all visB&&decide (1≤s.size)):=by
 have:=specVisible_go (bl s) [] (by simpa [size_bl]using hs)
 simpa [spec_l6visible.f,mk_bl,size_bl]using this
def cleanK:List (List UInt8)→List (List UInt8)→List (List UInt8)
 |kept,[]=>kept
 |kept,s::r=>if s= [46]then(if r= []then kept++ [[]]else cleanK kept r)else if s= [46,46]then(if r= []then kept.dropLast++ [[]]else cleanK kept.dropLast r)else cleanK (kept++ [s]) r
def foldS (kept:List (List UInt8)) (s:List UInt8):List (List UInt8):=if s= [46]then kept else if s= [46,46]then kept.dropLast else kept++ [s]
def dotS (s:List UInt8):Bool:=decide (s= [46])||decide (s= [46,46])
theorem cleanK_last: ∀(segs kept:List (List UInt8)) (h:segs≠ []),cleanK kept segs=if dotS (segs.getLast h)=true then segs.foldl foldS kept++ [[]]else segs.foldl foldS kept
 | [s],kept,_=>by
  by_cases h1:s= [46]
  ·subst h1;simp[cleanK,dotS,foldS]
  ·by_cases h2:s= [46,46]
   ·subst h2;simp[cleanK,dotS,foldS]
   ·simp[cleanK,dotS,foldS,h1,h2]
 |s::t::r,kept,_=>by
  have e:(s::t::r).getLast (by simp)=(t::r).getLast (by simp):=by simp
  rw[e,List.foldl_cons,←cleanK_last (t::r) (foldS kept s) (by simp)]
  unfold foldS
  rw[cleanK]
  by_cases h1:s= [46]
  ·simp[h1]
  ·by_cases h2:s= [46,46]
   ·simp[h1,h2]
   ·simp[h1,h2]
def flatS (l:List (List UInt8)):List UInt8:=l.flatMap (47:: ·)
theorem flatS_app (a b:List (List UInt8)):flatS (a++b)=flatS a++flatS b:=by simp[flatS]
theorem flatS_one (s:List UInt8):flatS [s]=47::s:=by simp[flatS]
theorem flatS_cons (s:List UInt8) (r:List (List UInt8)):flatS (s::r)=47::s++flatS r:=by simp[flatS]
theorem flatS_drop (l:List (List UInt8)):(flatS l.dropLast).length≤(flatS l).length:=by
 rcases List.eq_nil_or_concat l with rfl|⟨a,b,rfl⟩
 ·simp
 ·rw[List.concat_eq_append,List.dropLast_concat,flatS_app];simp
theorem cleanK_flat: ∀(segs kept:List (List UInt8)),(flatS (cleanK kept segs)).length≤(flatS kept).length+(flatS segs).length+1
 | [],kept=>by simp[cleanK];omega
 |s::r,kept=>by
  unfold cleanK
  have hd:=flatS_drop kept
  rw[flatS_cons]
  by_cases h1:s= [46]
  ·rw[if_pos h1]
   by_cases hr:r= []
   ·rw[if_pos hr,flatS_app,flatS_one];simp<;>omega
   ·rw[if_neg hr];have:=cleanK_flat r kept;simp<;>omega
  ·rw[if_neg h1]
   by_cases h2:s= [46,46]
   ·rw[if_pos h2]
    by_cases hr:r= []
    ·rw[if_pos hr,flatS_app,flatS_one];simp;omega
    ·rw[if_neg hr];have:=cleanK_flat r kept.dropLast;simp;omega
   ·rw[if_neg h2]
    have:=cleanK_flat r (kept++ [s])
    rw[flatS_app,flatS_one]at this
    simp at this ⊢;omega
theorem flatS_split: ∀l:List UInt8,flatS (splitL 47 l)=47::l
 | []=>by simp[splitL,flatS]
 |b::r=>by
  have ih:=flatS_split r
  by_cases h:b=47
  ·subst h;rw[splitL,if_pos rfl,flatS_cons,ih];simp
  ·rw[splitL,if_neg h,flatS_cons]
   have hne:=splitL_ne 47 r
   cases hs:splitL 47 r with
   |nil=>exact absurd hs hne
   |cons x y=>rw[hs,flatS_cons]at ih;simp at ih;simp[ih]
theorem flatS_len (l:List (List UInt8)):l.length≤(flatS l).length:=by
 induction l with
 |nil=>simp
 |cons s r ih=>rw[flatS_cons];simp;omega
def pathOf (l:List (List UInt8)):List UInt8:=if flatS l= []then [47]else flatS l
theorem join_flat (l:List (List UInt8)):47::Lib.join l [47]=pathOf l:=by
 unfold pathOf
 cases l with
 |nil=>simp[Lib.join_nil,flatS]
 |cons s r=>
  rw[if_neg (by simp[flatS]),Lib.join_cons,flatS_cons]
  simp[Lib.joinTail,flatS,List.flatMap]
theorem rdOf_map (pre:List (List UInt8)) (x:List UInt8) (r:List (List UInt8)):rdOf ByteArray.empty ((pre++x::r).map mkB) (pre.length:Int)=mkB x:=by
 rw[List.map_append,List.map_cons,rdOf,show(pre.length:Int)=((pre.map mkB).length:Int)by simp,getD_mid]
theorem mkApp (a b:List UInt8):mkB a++mkB b=mkB (a++b):=by apply toList_inj;rw[toList_mk,toList_bl,bl,ByteArray.data_append];simp[mkB]
theorem specClean_end: ∀(r pre:List (List UInt8)) (acc:List UInt8),(pre++r).length≤1048576→acc.length+(flatS r).length≤1048576→
  Ev (fun k=>spec_CleanPath.l2 k ((pre++r).map mkB) (mkB acc) (pre.length:Int)) (mkB (if acc++flatS r= []then [47]else acc++flatS r))
 | [],pre,acc,hl,ha=>by
  refine Ev.step (f:=fun _=>some (mkB (if acc= []then [47]else acc))) (fun k=>?_) (by simpa [flatS]using Ev.now _)
  simp only[spec_CleanPath.l2]
  rw[if_neg (by simp),toList_mk]
  by_cases h:acc= []
  ·rw[if_pos h,if_pos h];rfl
  ·rw[if_neg h,if_neg h]
 |x::r,pre,acc,hl,ha=>by
  rw[flatS_cons]at ha
  simp at ha hl
  have ih:=specClean_end r (pre++ [x]) (acc++47::x) (by simp;omega) (by simp;omega)
  rw[←app_mid,len_snoc]at ih
  have e:acc++flatS (x::r)=acc++47::x++flatS r:=by rw[flatS_cons];simp
  rw[e]
  refine Ev.step (fun k=>?_) ih
  simp only[spec_CleanPath.l2]
  rw[rdOf_map,show(⟨#[47]⟩:ByteArray)=mkB [47]from rfl,mkApp,mkApp,if_pos (by simp;omega),if_pos (by rw[size_mk];omega),if_pos (by omega),if_pos (by rw[size_mk,size_mk];simp;omega),wrap_id (by omega) (by omega)]
  simp
theorem specClean_seg: ∀(r pre kept:List (List UInt8)),(pre++r).length≤1048576→kept.length≤pre.length→(flatS kept).length+(flatS r).length≤1000000→
  Ev (fun k=>spec_CleanPath.l1 k ((pre++r).map mkB) (kept.map mkB) (pre.length:Int)) (mkB (pathOf (cleanK kept r)))
 | [],pre,kept,hl,hk,ha=>by
  have:=specClean_end kept [] [] (by simp at hl ⊢;omega) (by simp;omega)
  refine Ev.step (f:=fun k=>spec_CleanPath.l2 k (kept.map mkB) (⟨#[]⟩:ByteArray) 0) (fun k=>by simp only[spec_CleanPath.l1];rw[if_neg (by simp)]) ?_
  show Ev (fun k=>spec_CleanPath.l2 k (kept.map mkB) (⟨#[]⟩:ByteArray) 0) (mkB (pathOf kept))
  exact this
 |s::r,pre,kept,hl,hk,ha=>by
  have hl2:=hl
  simp at hl2
  rw[flatS_cons]at ha
  simp at ha
  have hd:=flatS_drop kept
  have hw:wrap64 ((pre.length:Int)+1)=(pre.length:Int)+1:=wrap_id (by omega) (by omega)
  have hlen:(((pre++s::r).map mkB).length:Int)=(pre.length:Int)+1+r.length:=by simp;omega
  have hk1: ∀kept':List (List UInt8),kept'.length≤kept.length+1→(kept'.map mkB).length<8796093022208:=by intro kept' h;simp;omega
  have dots: ∀kept':List (List UInt8),kept'.length≤kept.length→(flatS kept').length≤(flatS kept).length→Ev (fun k=>spec_CleanPath.j5 k ((pre++s::r).map mkB) (kept'.map mkB) (pre.length:Int) true) (mkB (pathOf (if r= []then kept'++ [[]]else cleanK kept' r))):=by
   intro kept' h1 h2
   by_cases hr:r= []
   ·subst hr
    rw[if_pos rfl]
    have ih:=specClean_seg [] (pre++ [s]) (kept'++ [[]]) (by simpa using hl2) (by simp;omega) (by rw[flatS_app,flatS_one];simp[flatS]at ha h2 ⊢;omega)
    rw[List.append_nil,len_snoc]at ih
    simp only[cleanK]at ih
    refine Ev.step (fun k=>?_) ih
    simp only[spec_CleanPath.j5,if_true]
    rw[hw,hlen,if_pos (by simp),if_pos (hk1 _ (by omega))]
    simp[mkB]
   ·rw[if_neg hr]
    have ih:=specClean_seg r (pre++ [s]) kept' (by simp;omega) (by simp;omega) (by omega)
    rw[←app_mid,len_snoc]at ih
    refine Ev.step (fun k=>?_) ih
    have:1≤r.length:=List.length_pos_iff.2 hr
    simp only[spec_CleanPath.j5,if_true]
    rw[hw,hlen,if_neg (by omega)]
  have h0:(0:Int)≤(pre.length:Int):=by omega
  have hlt:(pre.length:Int)<(((pre++s::r).map mkB).length:Int):=by rw[hlen];omega
  have hread: ∀t:List UInt8,((mkB s).toList=t)↔s=t:=fun t=>by rw[toList_mk]
  by_cases h1:s= [46]
  ·rw[cleanK,if_pos h1]
   refine Ev.step (f:=fun k=>spec_CleanPath.j3 k ((pre++s::r).map mkB) (kept.map mkB) (pre.length:Int) true) (fun k=>by simp only[spec_CleanPath.l1];rw[if_pos hlt,if_pos h0,rdOf_map,if_pos ((hread _).2 h1)]) ?_
   refine Ev.step (f:=fun k=>spec_CleanPath.j4 k ((pre++s::r).map mkB) (kept.map mkB) (pre.length:Int) true false) (fun k=>by simp only[spec_CleanPath.j3];rw[if_pos h0,if_pos hlt,rdOf_map,if_neg (fun h=>by have:=(hread _).1 h;rw[h1]at this;cases this)]) ?_
   refine Ev.step (f:=fun k=>spec_CleanPath.j5 k ((pre++s::r).map mkB) (kept.map mkB) (pre.length:Int) true) (fun k=>by simp only[spec_CleanPath.j4,Bool.false_eq_true,if_false]) ?_
   exact dots kept (Nat.le_refl _) (Nat.le_refl _)
  ·rw[cleanK,if_neg h1]
   by_cases h2:s= [46,46]
   ·rw[if_pos h2]
    have hbq:((mkB s).toList==([46,46]:List UInt8))=true:=by rw[toList_mk];exact beq_iff_eq.2 h2
    refine Ev.step (f:=fun k=>spec_CleanPath.j3 k ((pre++s::r).map mkB) (kept.map mkB) (pre.length:Int) true) (fun k=>by simp only[spec_CleanPath.l1];rw[if_pos hlt,if_pos h0,rdOf_map,if_neg (fun h=>h1 ((hread _).1 h)),hbq]) ?_
    refine Ev.step (f:=fun k=>spec_CleanPath.j4 k ((pre++s::r).map mkB) (kept.map mkB) (pre.length:Int) true (decide (((kept.map mkB).length:Int)>0))) (fun k=>by simp only[spec_CleanPath.j3];rw[if_pos h0,if_pos hlt,rdOf_map,if_pos ((hread _).2 h2)]) ?_
    by_cases hk0:kept= []
    ·subst hk0
     refine Ev.step (f:=fun k=>spec_CleanPath.j5 k ((pre++s::r).map mkB) (([]:List (List UInt8)).map mkB) (pre.length:Int) true) (fun k=>by simp[spec_CleanPath.j4]) ?_
     exact dots [] (Nat.le_refl _) (Nat.le_refl _)
    ·have hkl:1≤kept.length:=List.length_pos_iff.2 hk0
     have hwk:wrap64 (((kept.map mkB).length:Int)-1)=((kept.length-1:Nat):Int):=by rw[wrap_id (by simp;omega) (by simp;omega)];simp;omega
     have htake:(kept.map mkB).take (kept.length-1)=kept.dropLast.map mkB:=by rw[List.map_dropLast,List.dropLast_eq_take];simp
     refine Ev.step (f:=fun k=>spec_CleanPath.j5 k ((pre++s::r).map mkB) (kept.dropLast.map mkB) (pre.length:Int) true) (fun k=>?_) (dots kept.dropLast (by simp) hd)
     simp only[spec_CleanPath.j4]
     rw[if_pos (decide_eq_true (by simp<;>omega)),hwk,if_pos (by omega),if_pos (by simp<;>omega),Int.toNat_natCast,htake]
   ·rw[if_neg h2]
    have hbq:((mkB s).toList==([46,46]:List UInt8))=false:=by rw[toList_mk];exact beq_eq_false_iff_ne.2 h2
    refine Ev.step (f:=fun k=>spec_CleanPath.j3 k ((pre++s::r).map mkB) (kept.map mkB) (pre.length:Int) false) (fun k=>by simp only[spec_CleanPath.l1];rw[if_pos hlt,if_pos h0,rdOf_map,if_neg (fun h=>h1 ((hread _).1 h)),hbq]) ?_
    refine Ev.step (f:=fun k=>spec_CleanPath.j4 k ((pre++s::r).map mkB) (kept.map mkB) (pre.length:Int) false false) (fun k=>by simp only[spec_CleanPath.j3];rw[if_pos h0,if_pos hlt,rdOf_map,if_neg (fun h=>h2 ((hread _).1 h))]) ?_
    refine Ev.step (f:=fun k=>spec_CleanPath.j5 k ((pre++s::r).map mkB) (kept.map mkB) (pre.length:Int) false) (fun k=>by simp only[spec_CleanPath.j4,Bool.false_eq_true,if_false]) ?_
    have ih:=specClean_seg r (pre++ [s]) (kept++ [s]) (by simp;omega) (by simp;omega) (by rw[flatS_app,flatS_one];simp;omega)
    rw[←app_mid,len_snoc,show(kept++ [s]).map mkB=kept.map mkB++ [mkB s]by simp]at ih
    refine Ev.step (fun k=>?_) ih
    simp only[spec_CleanPath.j5,Bool.false_eq_true,if_false]
    rw[if_pos h0,if_pos hlt,if_pos (hk1 _ (by omega)),rdOf_map,hw]
theorem join_map (l:List (List UInt8)):(l.map mkB).map (·.data.toList)=l:=by
 rw[List.map_map]
 have:((fun x:ByteArray=>x.data.toList) ∘ mkB)=id:=by funext x;exact bl_mk x
 rw[this,List.map_id]
theorem stringsJoin_slash (l:List (List UInt8)) (h:(flatS l).length≤1048576): ∃j,strings_Join.f (l.map mkB) (⟨#[47]⟩:ByteArray)=some j∧j.size≤1048576∧(⟨#[47]⟩:ByteArray)++j=mkB (pathOf l):=by
 have hj:=join_flat l
 have hln:(47::Lib.join l [47]).length≤1048577:=by
  rw[hj];unfold pathOf;split
  ·simp
  ·omega
 simp at hln
 have hl:=flatS_len l
 refine⟨mkB (Lib.join l [47]),?_,by rw[size_mk];omega,?_⟩
 ·unfold strings_Join.f
  rw[join_map]
  have e:(⟨#[47]⟩:ByteArray).data.toList= [47]:=rfl
  rw[e,if_pos ⟨by simp;omega,by omega⟩];rfl
 ·rw[show(⟨#[47]⟩:ByteArray)=mkB [47]from rfl,mkApp,←hj];rfl
theorem implClean_seg (S:List (List UInt8)) (hS:S≠ []): ∀(r pre out:List (List UInt8)),S=pre++r→S.length≤1000000→out.length≤pre.length→(flatS out).length+(flatS r).length≤1000000→
  Ev (fun k=>impl_CleanPath.l0 k (out.map mkB) (S.map mkB) (S.map mkB) (S.length:Int) (pre.length:Int)) (mkB (pathOf (if dotS (S.getLast hS)=true then r.foldl foldS out++ [[]]else r.foldl foldS out)))
 | [],pre,out,hp,hl,ho,ha=>by
  have hS1:1≤S.length:=List.length_pos_iff.2 hS
  have hw:wrap64 (((S.map mkB).length:Int)-1)=((S.length-1:Nat):Int):=by rw[wrap_id (by simp;omega) (by simp;omega)];simp;omega
  have hrd:rdOf ByteArray.empty (S.map mkB) ((S.length-1:Nat):Int)=mkB (S.getLast hS):=by
   have e:S.dropLast++S.getLast hS:: []=S:=List.dropLast_concat_getLast hS
   have:=rdOf_map S.dropLast (S.getLast hS) []
   rw[e,List.length_dropLast]at this
   exact this
  have hon:(out.map mkB).length<8796093022208:=by simp;subst hp;simp at hl;omega
  have hpl:S.length=pre.length:=by rw[hp];simp
  have hcell: ∀k,impl_CleanPath.l0 (k+1) (out.map mkB) (S.map mkB) (S.map mkB) (S.length:Int) (pre.length:Int)=if dotS (S.getLast hS)=true then(strings_Join.f (out.map mkB++ [(⟨#[]⟩:ByteArray)]) (⟨#[47]⟩:ByteArray)).bind fun t=>if 1+t.size≤9223372036854775807 then some ((⟨#[47]⟩:ByteArray)++t)else none else(strings_Join.f (out.map mkB) (⟨#[47]⟩:ByteArray)).bind fun t=>if 1+t.size≤9223372036854775807 then some ((⟨#[47]⟩:ByteArray)++t)else none:=by
   intro k
   simp only[impl_CleanPath.l0,hw,hrd,toList_mk]
   rw[if_neg (by omega),if_pos (by omega),if_pos (by simp;omega)]
   unfold dotS
   by_cases h1:S.getLast hS= [46]
   ·rw[if_pos h1,if_pos hon,if_pos (by simp[h1])]
   ·rw[if_neg h1]
    by_cases h2:S.getLast hS= [46,46]
    ·rw[if_pos h2,if_pos hon,if_pos (by simp[h2])]
    ·rw[if_neg h2,if_neg (by simp[h1,h2])]
  refine Ev.step (f:=fun _=>some (mkB (pathOf (if dotS (S.getLast hS)=true then out++ [[]]else out)))) (fun k=>?_) (Ev.now _)
  rw[hcell]
  simp[flatS]at ha
  by_cases hd:dotS (S.getLast hS)=true
  ·obtain⟨j,e1,e2,e3⟩:=stringsJoin_slash (out++ [[]]) (by rw[flatS_app,flatS_one];simp[flatS];omega)
   rw[List.map_append,List.map_singleton,show mkB []=(⟨#[]⟩:ByteArray)from rfl]at e1
   rw[if_pos hd,if_pos hd,e1,Option.bind_some,if_pos (by omega),e3]
  ·obtain⟨j,e1,e2,e3⟩:=stringsJoin_slash out (by simp[flatS];omega)
   rw[if_neg hd,if_neg hd,e1,Option.bind_some,if_pos (by omega),e3]
 |s::r,pre,out,hp,hl,ho,ha=>by
  have hd:=flatS_drop out
  rw[flatS_cons]at ha
  simp at ha
  have hlen:S.length=pre.length+(r.length+1):=by rw[hp];simp
  have hw:wrap64 ((pre.length:Int)+1)=(pre.length:Int)+1:=wrap_id (by omega) (by omega)
  have hrd:rdOf ByteArray.empty (S.map mkB) (pre.length:Int)=mkB s:=by rw[hp];exact rdOf_map pre s r
  have ih:=fun out' h1 h2=>implClean_seg S hS r (pre++ [s]) out' (by rw[hp];simp) hl h1 h2
  simp only[len_snoc]at ih
  have hlt:(pre.length:Int)<(S.length:Int):=by omega
  have hlt2:(pre.length:Int)<((S.map mkB).length:Int):=by simp;omega
  rw[List.foldl_cons]
  by_cases h1:s= [46]
  ·have ih':=ih out (by simp;omega) (by omega)
   have e:foldS out s=out:=by simp[foldS,h1]
   rw[e]
   refine Ev.step (fun k=>?_) ih'
   simp only[impl_CleanPath.l0]
   rw[if_pos hlt,if_pos (by omega),if_pos hlt2,hrd,toList_mk,if_pos h1,hw]
  ·by_cases h2:s= [46,46]
   ·have ih':=ih out.dropLast (by simp;omega) (by omega)
    have e:foldS out s=out.dropLast:=by simp[foldS,h2]
    rw[e]
    refine Ev.step (fun k=>?_) ih'
    have hmx:mx 0 (wrap64 (((out.map mkB).length:Int)-1))=((out.length-1:Nat):Int):=by
     rw[wrap_id (by simp;omega) (by simp;omega)];unfold mx;simp;split<;>omega
    have htake:(out.map mkB).take (out.length-1)=out.dropLast.map mkB:=by rw[List.map_dropLast,List.dropLast_eq_take];simp
    simp only[impl_CleanPath.l0]
    rw[if_pos hlt,if_pos (by omega),if_pos hlt2,hrd,toList_mk,if_neg h1,if_pos h2,hmx,if_pos (by omega),if_pos (by simp<;>omega),Int.toNat_natCast,htake,hw]
   ·have ih':=ih (out++ [s]) (by simp;omega) (by rw[flatS_app,flatS_one];simp;omega)
    have e:foldS out s=out++ [s]:=by simp[foldS,h1,h2]
    rw[e]
    rw[List.map_append,List.map_singleton]at ih'
    refine Ev.step (fun k=>?_) ih'
    simp only[impl_CleanPath.l0]
    rw[if_pos hlt,if_pos (by omega),if_pos hlt2,hrd,toList_mk,if_neg h1,if_neg h2,if_pos (by simp;omega),hw]
def cleanL (p:List UInt8):List UInt8:=
 if p.length≤200∧p.head?=some 47∧p.all visB=true∧(p.any fun b=>decide (b=35)||decide (b=63))=false then pathOf (cleanK [] (splitL 47 ((strOfNums (unescI p.length p)).data.toList.drop 1)))else []
theorem unesc_head (r:List UInt8):(strOfNums (unescI (47::r).length (47::r))).data.toList=47::(strOfNums (unescI r.length r)).data.toList:=by
 rw[List.length_cons,unescI,if_neg (by decide)];simp[strOfNums]
theorem unesc_size (l:List UInt8):(strOfNums (unescI l.length l)).size≤l.length:=by
 rw[size_strOf];exact unescI_len _ _ (Nat.le_refl _)
theorem u8_35 (b:UInt8):(b.toNat:Int)=35↔b=35:=by rw[←UInt8.toNat_inj];show _↔b.toNat=35;omega
theorem u8_63 (b:UInt8):(b.toNat:Int)=63↔b=63:=by rw[←UInt8.toNat_inj];show _↔b.toNat=63;omega
theorem u8_47 (b:UInt8):(b.toNat:Int)=47↔b=47:=by rw[←UInt8.toNat_inj];show _↔b.toNat=47;omega
theorem specClean_hash (P:List UInt8) (hP:P.length≤1000) (res:ByteArray)
  (hres:Ev (fun k=>(spec_l7percent.f k (mkB P)).bind fun t135=>(if 1≤(t135.size:Int)then((spec_l7split.f k (t135.extract 1 t135.size) 47).bind fun t136=>(spec_CleanPath.l1 k t136 ([]:List ByteArray) 0))else(none))) res):
  ∀(r pre:List UInt8),P=pre++r→Ev (fun k=>spec_CleanPath.l0 k (mkB P) (pre.length:Int)) (if(r.any fun b=>decide (b=35)||decide (b=63))=true then(⟨#[]⟩:ByteArray)else res)
 | [],pre,hp=>by
  refine Ev.step (fun k=>?_) (by simpa using hres)
  simp only[spec_CleanPath.l0]
  rw[if_neg (by rw[size_mk,hp];simp)]
 |b::r,pre,hp=>by
  have ih:=specClean_hash P hP res hres r (pre++ [b]) (by rw[hp];simp)
  rw[len_snoc]at ih
  have hlen:P.length=pre.length+(r.length+1):=by rw[hp];simp
  have hb:bt (mkB P) (pre.length:Int)=(b.toNat:Int):=by rw[hp];exact bt_mid pre b r
  have hlt:(pre.length:Int)<((mkB P).size:Int):=by rw[size_mk];omega
  by_cases h1:b=35
  ·refine Ev.step (f:=fun _=>some (⟨#[]⟩:ByteArray)) (fun k=>?_) (by simpa [h1]using Ev.now _)
   simp only[spec_CleanPath.l0]
   rw[if_pos hlt,if_pos (by omega),hb,if_pos ((u8_35 b).2 h1)]
  by_cases h2:b=63
  ·refine Ev.step (f:=fun _=>some (⟨#[]⟩:ByteArray)) (fun k=>?_) (by simpa [h2]using Ev.now _)
   simp only[spec_CleanPath.l0]
   rw[if_pos hlt,if_pos (by omega),hb,if_neg (fun h=>h1 ((u8_35 b).1 h)),if_pos ((u8_63 b).2 h2)]
  refine Ev.step (fun k=>?_) (by simpa [h1,h2]using ih)
  simp only[spec_CleanPath.l0]
  rw[if_pos hlt,if_pos (by omega),hb,if_neg (fun h=>h1 ((u8_35 b).1 h)),if_neg (fun h=>h2 ((u8_63 b).1 h)),wrap_id (by omega) (by omega)]
theorem indexAny_any (l:List UInt8):decide (Lib.indexAny l [35,63]≥0)=(l.any fun b=>decide (b=35)||decide (b=63)):=by
 induction l with
 |nil=>rfl
 |cons b r ih=>
  have hg:=Lib.indexAny_ge [35,63] r
  rw[Lib.indexAny,List.any_cons]
  by_cases h1:b=35
  ·simp[h1]
  by_cases h2:b=63
  ·simp[h2]
  rw[if_neg (by simp[h1,h2])]
  simp only[h1,h2,decide_false,Bool.or_false,Bool.false_or]
  rw[←ih]
  by_cases hm:Lib.indexAny r [35,63]= -1
  ·simp[hm]
  ·rw[if_neg (by simpa using hm)]
   exact decide_eq_decide.2 (by omega)
theorem unesc_cut (r:List UInt8):(strOfNums (unescI (47::r).length (47::r))).extract 1 (strOfNums (unescI (47::r).length (47::r))).size=mkB ((strOfNums (unescI (47::r).length (47::r))).data.toList.drop 1):=by
 have e:=unesc_head r
 have e2:strOfNums (unescI (47::r).length (47::r))=mkB (47::(strOfNums (unescI r.length r)).data.toList):=by rw[←mk_bl (strOfNums _),bl,e]
 rw[e,e2,extract_mk,size_mk,List.take_of_length_le (by simp)]
theorem seg_bound (r:List UInt8) (h:r.length≤1000):(splitL 47 ((strOfNums (unescI (47::r).length (47::r))).data.toList.drop 1)).length≤2000∧(flatS (splitL 47 ((strOfNums (unescI (47::r).length (47::r))).data.toList.drop 1))).length≤2000∧((strOfNums (unescI (47::r).length (47::r))).data.toList.drop 1).length≤2000:=by
 have hz:(strOfNums (unescI (47::r).length (47::r))).data.toList.length≤1001:=by
  rw[Array.length_toList];exact Nat.le_trans (unesc_size (47::r)) (by simp;omega)
 generalize (strOfNums (unescI (47::r).length (47::r))).data.toList=L at hz ⊢
 have hf:=flatS_split (L.drop 1)
 have hl:=flatS_len (splitL 47 (L.drop 1))
 have hd:(L.drop 1).length≤1001:=by rw[List.length_drop];omega
 rw[hf]at hl ⊢
 simp only[List.length_cons]at hl ⊢
 omega
theorem specCleanPath_is (s:ByteArray) (hs:s.size≤1048576):Ev (fun k=>spec_CleanPath.f k s) (mkB (cleanL (bl s))):=by
 have hj:Ev (fun k=>spec_CleanPath.j0 k s true) (mkB []):=Ev.step (f:=fun _=>some (⟨#[]⟩:ByteArray)) (fun k=>by simp only[spec_CleanPath.j0,if_true]) (Ev.now _)
 obtain⟨p,rfl⟩: ∃p,s=mkB p:=⟨bl s,(mk_bl s).symm⟩
 rw[bl_mk]
 unfold spec_CleanPath.f cleanL
 rw[size_mk]
 cases p with
 |nil=>simpa using hj
 |cons b r=>
  simp only[if_neg (show ¬((b::r).length:Int)=0 by simp;omega)]
  by_cases hl:(b::r).length≤200
  ·simp only[if_neg (show ¬((b::r).length:Int)>200 by omega),if_pos (show(0:Int)<((b::r).length:Int)by simp<;>omega)]
   have hb:bt (mkB (b::r)) 0=(b.toNat:Int):=by simpa using bt_mid [] b r
   rw[hb]
   by_cases h47:b=47
   ·subst h47
    simp only[if_pos (show(((47:UInt8).toNat:Nat):Int)=47 from rfl)]
    refine(specVisible_is (mkB (47::r)) (by rw[size_mk];omega)).bind ?_
    rw[bl_mk,size_mk,decide_eq_true (show 1≤(47::r).length by simp),Bool.and_true]
    cases hv:(47::r).all visB
    ·simpa [hv]using hj
    ·have hsb:=seg_bound r (by simp at hl;omega)
     simp only[Bool.not_true]
     have hseg:=specClean_seg (splitL 47 ((strOfNums (unescI (47::r).length (47::r))).data.toList.drop 1)) [] [] (by rw[List.nil_append];omega) (by simp) (by have e0:(flatS ([]:List (List UInt8))).length=0:=rfl;omega)
     have hP:=specPct_go (47::r).length (47::r) [] [] (Nat.le_refl _) (by simp at hl ⊢;omega) (by simp)
     have hres:Ev (fun k=>(spec_l7percent.f k (mkB (47::r))).bind fun t135=>(if 1≤(t135.size:Int)then((spec_l7split.f k (t135.extract 1 t135.size) 47).bind fun t136=>(spec_CleanPath.l1 k t136 ([]:List ByteArray) 0))else(none))) (mkB (pathOf (cleanK [] (splitL 47 ((strOfNums (unescI (47::r).length (47::r))).data.toList.drop 1))))):=by
      refine Ev.bind (a:=strOfNums (unescI (47::r).length (47::r))) (by simpa [spec_l7percent.f]using hP) ?_
      have h1:1≤((strOfNums (unescI (47::r).length (47::r))).size:Int):=by
       have:(strOfNums (unescI (47::r).length (47::r))).size=(strOfNums (unescI (47::r).length (47::r))).data.toList.length:=by rw[Array.length_toList];rfl
       rw[this,unesc_head];simp;omega
      simp only[if_pos h1,unesc_cut]
      refine(spec7split_is 47 _ (by omega)).bind ?_
      simpa using hseg
     have hh:=specClean_hash (47::r) (by omega) _ hres (47::r) [] rfl
     refine Ev.step (f:=fun k=>spec_CleanPath.l0 k (mkB (47::r)) 0) (fun k=>by simp only[spec_CleanPath.j0,Bool.false_eq_true,if_false]) ?_
     cases ha:(47::r).any fun b=>decide (b=35)||decide (b=63)
     ·rw[ha]at hh
      rw[if_pos (by refine⟨hl,rfl,?_,?_⟩<;>first|trivial|rfl|assumption)]
      simpa using hh
     ·rw[ha]at hh
      rw[if_neg (fun h=>by cases h.2.2.2)]
      simpa [mkB]using hh
   ·simp only[if_neg (fun h=>h47 ((u8_47 b).1 h))]
    rw[if_neg (fun h=>h47 (by simpa using h.2.1))]
    exact hj
  ·simp only[if_pos (show((b::r).length:Int)>200 by omega)]
   rw[if_neg (fun h=>hl h.1)]
   exact hj
theorem implCleanPath_is (s:ByteArray) (hs:s.size≤1048576):Ev (fun k=>impl_CleanPath.f k s) (mkB (cleanL (bl s))):=by
 have hj:Ev (fun k=>impl_CleanPath.j0 k s true) (mkB []):=Ev.step (f:=fun _=>some (⟨#[]⟩:ByteArray)) (fun k=>by simp only[impl_CleanPath.j0,if_true]) (Ev.now _)
 obtain⟨p,rfl⟩: ∃p,s=mkB p:=⟨bl s,(mk_bl s).symm⟩
 rw[bl_mk]
 have hpre:strings_HasPrefix.f (mkB p) (⟨#[47]⟩:ByteArray)=some (decide (p.head?=some 47)):=by
  unfold strings_HasPrefix.f stringslite_HasPrefix.f
  rw[show(⟨#[47]⟩:ByteArray)=mkB [47]from rfl,size_mk,size_mk]
  cases p with
  |nil=>rfl
  |cons b r=>
   rw[if_pos (by simp;omega),if_pos (by simp),if_pos (by simp;omega),extract_mk,toList_mk,toList_mk]
   simp
   rw[Bool.eq_iff_iff];simp
 have hca:strings_ContainsAny.f (mkB p) (⟨#[35,63]⟩:ByteArray)=some (p.any fun b=>decide (b=35)||decide (b=63)):=by
  unfold strings_ContainsAny.f strings_IndexAny.f
  rw[if_pos ⟨by rw[size_mk]at*;omega,rfl,by decide⟩,Option.bind_some]
  have e1:(⟨#[35,63]⟩:ByteArray).data.toList= [35,63]:=rfl
  have e2:(mkB p).data.toList=p:=bl_mk p
  rw[e1,e2,indexAny_any]
 unfold impl_CleanPath.f cleanL
 rw[hpre]
 simp only[Option.bind_some,decide_eq_true_eq]
 by_cases h47:p.head?=some 47
 ·simp only[if_pos h47,size_mk]
  by_cases hl:p.length≤200
  ·simp only[if_neg (show ¬(p.length:Int)>200 by omega)]
   refine(implAllVis_is (mkB p) (by rw[size_mk];omega)).bind ?_
   rw[bl_mk]
   cases hv:p.all visB
   ·simpa [hv]using hj
   ·simp only[if_true,hca,Option.bind_some]
    cases ha:p.any fun b=>decide (b=35)||decide (b=63)
    ·rw[if_pos (by refine⟨hl,h47,?_,?_⟩<;>first|trivial|rfl|assumption)]
     obtain⟨r,rfl⟩: ∃r,p=47::r:=by
      cases p with
      |nil=>cases h47
      |cons b r=>simp at h47;subst h47;exact⟨r,rfl⟩
     have hsb:=seg_bound r (by simp at hl;omega)
     have hne:=splitL_ne 47 ((strOfNums (unescI (47::r).length (47::r))).data.toList.drop 1)
     have hseg:=implClean_seg (splitL 47 ((strOfNums (unescI (47::r).length (47::r))).data.toList.drop 1)) hne _ [] [] rfl (by omega) (by simp) (by have e0:(flatS ([]:List (List UInt8))).length=0:=rfl;omega)
     rw[←cleanK_last _ [] hne]at hseg
     have hP:=implPct_go (47::r).length (47::r) [] [] (Nat.le_refl _) (by simp at hl ⊢;omega) (by simp)
     refine Ev.step (f:=fun k=>(impl_unescaped.f k (mkB (47::r))).bind fun t180=>(if 1≤(t180.size:Int)then((strings_Split.f (t180.extract 1 t180.size) (⟨#[47]⟩:ByteArray)).bind fun t181=>(impl_CleanPath.l0 k ([]:List ByteArray) t181 t181 (t181.length:Int) 0))else(none))) (fun k=>by simp only[impl_CleanPath.j0,Bool.false_eq_true,if_false]) ?_
     refine Ev.bind (a:=strOfNums (unescI (47::r).length (47::r))) (by simpa [impl_unescaped.f]using hP) ?_
     have h1:1≤((strOfNums (unescI (47::r).length (47::r))).size:Int):=by
      have:(strOfNums (unescI (47::r).length (47::r))).size=(strOfNums (unescI (47::r).length (47::r))).data.toList.length:=by rw[Array.length_toList];rfl
      rw[this,unesc_head];simp;omega
     simp only[if_pos h1,unesc_cut]
     simp only[stringsSplit_is _ 47 (show((strOfNums (unescI (47::r).length (47::r))).data.toList.drop 1).length≤1048576 by omega),Option.bind_some,List.length_map]
     simpa using hseg
    ·rw[if_neg (fun h=>by cases h.2.2.2)];exact hj
  ·simp only[if_pos (show(p.length:Int)>200 by omega)]
   rw[if_neg (fun h=>hl h.1)];exact hj
 ·simp only[if_neg h47]
  rw[if_neg (fun h=>h47 h.2.1)];exact hj
theorem within_is (n a b:Int):impl_within.f n a b=some (decide (a≤n)&&decide (n≤b)):=by
 unfold impl_within.f
 by_cases h:a≤n<;>simp[h]
def cutB (c:UInt8):List UInt8→List UInt8×List UInt8×Bool
 | []=>([],[],false)
 |b::l=>if b=c then([],l,true)else(b::(cutB c l).1,(cutB c l).2)
theorem cut_is (c:UInt8): ∀l:List UInt8,Lib.cut l [c]=cutB c l
 | []=>by simp[Lib.cut,Lib.index,cutB]
 |b::l=>by
  have ih:=cut_is c l
  have hb:=index_bound l [c]
  unfold Lib.cut at ih ⊢
  by_cases h:b=c
  ·subst h
   have hi:Lib.index (b::l) [b]=0:=by simp[Lib.index]
   rw[hi];simp[cutB]
  ·have hi:Lib.index (b::l) [c]=if Lib.index l [c]= -1 then-1 else Lib.index l [c]+1:=by
    have hc:(c==b)=false:=by simpa using fun x=>h x.symm
    simp only[Lib.index,List.isPrefixOf,hc,Bool.false_and,Bool.false_eq_true,if_false]
    by_cases hm:Lib.index l [c]= -1<;>simp[hm]
   rw[hi,cutB,if_neg h]
   by_cases hm:Lib.index l [c]= -1
   ·rw[hm]at ih
    rw[if_pos hm]
    rw[if_neg (by omega)]at ih ⊢
    rw[←ih]
   ·rw[if_neg hm]
    rw[if_pos (by omega)]at ih
    rw[if_pos (by omega),←ih]
    have e:(Lib.index l [c]+1).toNat=(Lib.index l [c]).toNat+1:=by omega
    rw[e]
    simp[Nat.add_right_comm]
theorem cutB_app (c:UInt8): ∀(pre r:List UInt8),(∀b∈pre,b≠c)→cutB c (pre++r)=(pre++(cutB c r).1,(cutB c r).2)
 | [],r,_=>rfl
 |b::pre,r,h=>by
  have ih:=cutB_app c pre r (fun x hx=>h x (List.mem_cons_of_mem _ hx))
  rw[List.cons_append,cutB,if_neg (h b (by simp)),ih];rfl
theorem cutB_len (c:UInt8): ∀l:List UInt8,(cutB c l).1.length+(cutB c l).2.1.length≤l.length
 | []=>by simp[cutB]
 |b::l=>by
  have ih:=cutB_len c l
  unfold cutB;split
  ·simp
  ·simp;omega
theorem upto_go (c:UInt8): ∀(r pre:List UInt8),(∀b∈pre,b≠c)→(pre++r).length≤9223372036854775806→Ev (fun k=>spec_l6upto.l0 k (mkB (pre++r)) (c.toNat:Int) pre.length) (mkB (cutB c (pre++r)).1)
 | [],pre,hp,hl=>by
  have e:(cutB c (pre++ [])).1=pre++ []:=by rw[cutB_app c pre [] hp];simp[cutB]
  rw[e]
  exact Ev.step (f:=fun _=>some (mkB (pre++ []))) (fun k=>by simp only[spec_l6upto.l0];rw[if_neg (by rw[size_mk];simp)]) (Ev.now _)
 |b::r,pre,hp,hl=>by
  simp at hl
  by_cases h:b=c
  ·subst h
   have e:(cutB b (pre++b::r)).1=pre:=by rw[cutB_app b pre _ hp];simp[cutB]
   rw[e]
   refine Ev.step (f:=fun _=>some (mkB pre)) (fun k=>?_) (Ev.now _)
   simp only[spec_l6upto.l0]
   rw[if_pos (size_lt_mid ..),if_pos (by omega),bt_mid,if_pos rfl,if_pos (by have:=size_lt_mid pre b r;omega),extract_mk]
   simp
  ·have ih:=upto_go c r (pre++ [b]) (by intro x hx;rcases List.mem_append.1 hx with h'|h';exact hp x h';simp at h';subst h';exact h) (by simp;omega)
   rw[←app_mid,len_snoc]at ih
   refine Ev.step (fun k=>?_) ih
   simp only[spec_l6upto.l0]
   rw[if_pos (size_lt_mid ..),if_pos (by omega),bt_mid,if_neg (fun e=>h ((u8_nat b c).1 e)),wrap_id (by omega) (by omega)]
theorem upto_is (c:UInt8) (s:ByteArray) (h:s.size≤9223372036854775806):Ev (fun k=>spec_l6upto.f k s (c.toNat:Int)) (mkB (cutB c (bl s)).1):=by
 have:=upto_go c (bl s) [] (by simp) (by simpa [size_bl]using h)
 simpa [mk_bl,spec_l6upto.f]using this
theorem hostLit_is (b:UInt8):impl_isHost_1.f (b.toNat:Int)=some (hostB b||decide (b=46)):=by
 have key: ∀n:Fin 256,impl_isHost_1.f ((UInt8.ofNat n.val).toNat:Int)=some (hostB (UInt8.ofNat n.val)||decide (UInt8.ofNat n.val=46)):=by decide+kernel
 have:=key ⟨b.toNat,b.toNat_lt⟩
 simpa using this
theorem slIndex_go (S:List (List UInt8)) (hS:S.length≤1000000): ∀(r pre:List (List UInt8)),S=pre++r→ ∃v:Int,Ev (fun k=>slices_Index_string_string.l0 k (S.map mkB) (⟨#[]⟩:ByteArray) (S.length:Int) (pre.length:Int)) v∧decide (v≥0)=r.contains []
 | [],pre,hp=>⟨-1,Ev.step (f:=fun _=>some (-1)) (fun k=>by rw[slices_Index_string_string.l0,if_neg (by rw[hp];simp)]) (Ev.now _),by decide⟩
 |x::r,pre,hp=>by
  have hlen:S.length=pre.length+(r.length+1):=by rw[hp];simp
  have hrd:rdOf ByteArray.empty (S.map mkB) (pre.length:Int)=mkB x:=by rw[hp];exact rdOf_mid pre x r
  have hlt:(pre.length:Int)<(S.length:Int):=by omega
  have hlt2:(pre.length:Int)<((S.map mkB).length:Int):=by rw[List.length_map];exact hlt
  have e0:(⟨#[]⟩:ByteArray).toList= []:=toList_mk []
  by_cases hx:x= []
  ·refine⟨(pre.length:Int),Ev.step (f:=fun _=>some (pre.length:Int)) (fun k=>?_) (Ev.now _),?_⟩
   ·rw[slices_Index_string_string.l0,if_pos hlt,if_pos (by omega),if_pos hlt2,hrd,toList_mk,e0,if_pos hx.symm]
   ·rw[decide_eq_true (by omega),hx];simp
  ·obtain⟨v,h1,h2⟩:=slIndex_go S hS r (pre++ [x]) (by rw[hp];simp)
   rw[len_snoc]at h1
   refine⟨v,Ev.step (fun k=>?_) h1,?_⟩
   ·rw[slices_Index_string_string.l0,if_pos hlt,if_pos (by omega),if_pos hlt2,hrd,toList_mk,e0,if_neg (fun h=>hx h.symm),wrap_id (by omega) (by omega)]
   ·rw[h2,List.contains_cons]
    have:(([]:List UInt8)==x)=false:=beq_eq_false_iff_ne.2 (fun h=>hx h.symm)
    rw[this,Bool.false_or]
theorem implHost_is (l:List UInt8) (hl:l.length≤1048576):Ev (fun k=>impl_isHost.f k (mkB l)) (hostL l):=by
 have hj:Ev (fun k=>impl_isHost.j0 k (mkB l) true) false:=Ev.step (f:=fun _=>some false) (fun k=>by rw[impl_isHost.j0,if_pos rfl]) (Ev.now _)
 unfold impl_isHost.f
 rw[hostL_is,within_is,size_mk]
 simp only[Option.bind_some]
 by_cases hb:1≤l.length∧l.length≤60
 ·have d:(decide ((1:Int)≤(l.length:Int))&&decide ((l.length:Int)≤60))=true:=by rw[decide_eq_true (show(1:Int)≤(l.length:Int)by omega),decide_eq_true (show(l.length:Int)≤60 by omega)];rfl
  simp only[d,if_true,decide_eq_true hb.1,decide_eq_true hb.2,Bool.true_and]
  have ha:=all_ev impl_all__impl_isHost_1.l0 (fun _ x=>impl_isHost_1.f x) (fun b=>hostB b||decide (b=46)) (fun b=>Ev.const (hostLit_is b)) (fun k s i=>by rw[impl_all__impl_isHost_1.l0]) (mkB l) (by rw[size_mk];omega)
  rw[bl_mk]at ha
  refine Ev.bind (a:=l.all fun b=>hostB b||decide (b=46)) (by simpa [impl_all__impl_isHost_1.f]using ha) ?_
  cases hall:l.all fun b=>hostB b||decide (b=46)
  ·simpa using hj
  ·simp only[Bool.not_true,Bool.true_and]
   have hsl:=splitL_len 46 l
   obtain⟨v,h1,h2⟩:=slIndex_go (splitL 46 l) (by omega) (splitL 46 l) [] rfl
   refine Ev.step (f:=fun k=>(slices_Contains_string_string.f k ((splitL 46 l).map mkB) (⟨#[]⟩:ByteArray)).bind fun t=>some (!t)) (fun k=>by rw[impl_isHost.j0,if_neg Bool.false_ne_true,stringsSplit_is l 46 hl,Option.bind_some]) ?_
   have hc:Ev (fun k=>slices_Contains_string_string.f k ((splitL 46 l).map mkB) (⟨#[]⟩:ByteArray)) ((splitL 46 l).contains []):=by
    unfold slices_Contains_string_string.f slices_Index_string_string.f
    rw[List.length_map]
    refine h1.bind ?_
    rw[h2];exact Ev.now _
   exact hc.bind (Ev.now _)
 ·have d:(decide ((1:Int)≤(l.length:Int))&&decide ((l.length:Int)≤60))=false:=by
   by_cases h1:1≤l.length
   ·rw[decide_eq_false (show ¬(l.length:Int)≤60 by omega),Bool.and_false]
   ·rw[decide_eq_false (show ¬(1:Int)≤(l.length:Int)by omega),Bool.false_and]
  have d2:(decide (1≤l.length)&&decide (l.length≤60))=false:=by
   by_cases h1:1≤l.length
   ·rw[decide_eq_false (show ¬l.length≤60 by omega),Bool.and_false]
   ·rw[decide_eq_false h1,Bool.false_and]
  simp only[d,d2,Bool.false_eq_true,if_false,Bool.false_and]
  exact hj
theorem cutB_whole (c:UInt8): ∀l:List UInt8,decide ((cutB c l).1=l)=!l.contains c
 | []=>rfl
 |b::r=>by
  have ih:=cutB_whole c r
  by_cases h:b=c
  ·subst h;simp[cutB]
  ·have hc:(c==b)=false:=beq_eq_false_iff_ne.2 (fun e=>h e.symm)
   rw[cutB,if_neg h,List.contains_cons,hc,Bool.false_or,←ih]
   exact decide_eq_decide.2 (by simp)
theorem index_has (c:UInt8): ∀l:List UInt8,decide (Lib.index l [c]≥0)=l.contains c
 | []=>by simp[Lib.index]
 |b::r=>by
  have ih:=index_has c r
  have hb:=index_bound r [c]
  by_cases h:b=c
  ·subst h;simp[Lib.index]
  ·have hc:(c==b)=false:=beq_eq_false_iff_ne.2 (fun e=>h e.symm)
   rw[List.contains_cons,hc,Bool.false_or,←ih]
   simp only[Lib.index,List.isPrefixOf,hc,Bool.false_and,Bool.false_eq_true,if_false]
   by_cases hm:Lib.index r [c]= -1
   ·simp[hm]
   ·rw[if_neg (by simpa using hm)];exact decide_eq_decide.2 (by omega)
def tailL (h:List UInt8) (p:Nat) (path q:List UInt8) (hq:Bool):Bool:=q.all visB&&!q.contains 35&&decide ((urlL h p path q hq).length≤200)
def urlOkL (h:List UInt8) (p:Int) (path q:List UInt8) (hq:Bool):Bool:=
 hostL h&&(decide (1≤p)&&decide (p≤65535))&&(decide (path≠ [])&&decide (cleanL path=path))&&(hq||decide (q= []))&&tailL h p.toNat path q hq
theorem upto35 (q:List UInt8) (hq:q.length≤1048576):Ev (fun k=>spec_l6upto.f k (mkB q) 35) (mkB (cutB 35 q).1):=by
 have:=upto_is 35 (mkB q) (by rw[size_mk];omega)
 rw[bl_mk]at this
 exact this
theorem specTail_is (h:List UInt8) (p:Nat) (path q:List UInt8) (hq:Bool) (hp:p≤65535) (h1:h.length≤1048576) (h2:path.length≤1048576) (h3:q.length≤1048576) (hok:hq=true∨q= []):
  Ev (fun k=>spec_UrlOk.j0 k false (mkB h) (p:Int) (mkB path) (mkB q) hq) (tailL h p path q hq):=by
 have ht:Ev (fun k=>(spec_l7text.f k (mkB h) (p:Int) (mkB path) (mkB q) hq).bind fun t=>some (decide ((t.size:Int)≤200))) (decide ((urlL h p path q hq).length≤200)):=by
  refine(specText_is h p path q hq (by omega) (by omega) (by omega) (by omega)).bind ?_
  rw[size_mk,show decide (((urlL h p path q hq).length:Int)≤200)=decide ((urlL h p path q hq).length≤200)from decide_eq_decide.2 (by omega)]
  exact Ev.now _
 have hu:Ev (fun k=>(spec_l6upto.f k (mkB q) 35).bind fun t=>(if t.toList=(mkB q).toList then((spec_l7text.f k (mkB h) (p:Int) (mkB path) (mkB q) hq).bind fun t179=>(some (decide ((t179.size:Int)≤200))))else(some false))) (!q.contains 35&&decide ((urlL h p path q hq).length≤200)):=by
  refine(upto35 q h3).bind ?_
  rw[toList_mk,toList_mk,←cutB_whole 35 q]
  by_cases hc:(cutB 35 q).1=q
  ·simp only[if_pos hc,decide_eq_true hc,Bool.true_and];exact ht
  ·simp only[if_neg hc,decide_eq_false hc,Bool.false_and];exact Ev.now _
 by_cases hbig:q.length>200
 ·have hq1:hq=true:=hok.resolve_right (fun e=>by rw[e]at hbig;simp at hbig)
  have hlen: ¬(urlL h p path q hq).length≤200:=by
   rw[hq1];unfold urlL queryL;rw[if_pos rfl];simp only[List.length_append,List.length_cons];omega
  have e:tailL h p path q hq=false:=by unfold tailL;rw[decide_eq_false hlen,Bool.and_false]
  rw[e]
  exact Ev.step (f:=fun _=>some false) (fun k=>by rw[spec_UrlOk.j0,if_neg Bool.false_ne_true,if_pos (by rw[size_mk];omega)]) (Ev.now _)
 ·by_cases h0:q= []
  ·have e:tailL h p path q hq=(!q.contains 35&&decide ((urlL h p path q hq).length≤200)):=by unfold tailL;rw[h0];rfl
   rw[e]
   exact Ev.step (fun k=>by rw[spec_UrlOk.j0,if_neg Bool.false_ne_true,if_neg (by rw[size_mk];omega),if_pos (by rw[toList_mk];exact h0)]) hu
  ·refine Ev.step (f:=fun k=>(spec_l6visible.f k (mkB q)).bind fun t180=>(if t180=true then((spec_l6upto.f k (mkB q) 35).bind fun t=>(if t.toList=(mkB q).toList then((spec_l7text.f k (mkB h) (p:Int) (mkB path) (mkB q) hq).bind fun t179=>(some (decide ((t179.size:Int)≤200))))else(some false)))else(some false))) (fun k=>by rw[spec_UrlOk.j0,if_neg Bool.false_ne_true,if_neg (by rw[size_mk];omega),if_neg (by rw[toList_mk];exact h0)]) ?_
   refine(specVisible_is (mkB q) (by rw[size_mk];omega)).bind ?_
   have hl1:1≤q.length:=List.length_pos_iff.2 h0
   rw[bl_mk,size_mk,decide_eq_true hl1,Bool.and_true]
   unfold tailL
   cases hv:q.all visB
   ·simpa using Ev.now false
   ·simpa using hu
theorem implTail_is (h:List UInt8) (p:Nat) (path q:List UInt8) (hq:Bool) (hp:p≤65535) (h1:h.length≤1048576) (h2:path.length≤1048576) (h3:q.length≤1048576):
  Ev (fun k=>impl_UrlOk.j0 k false (mkB h) (p:Int) (mkB path) (mkB q) hq) ((hq||decide (q= []))&&tailL h p path q hq):=by
 have hx:(impl_urlText.f (mkB h) (p:Int) (mkB path) (mkB q) hq).bind (fun t=>some (decide ((t.size:Int)≤200)))=some (decide ((urlL h p path q hq).length≤200)):=by
  rw[implText_is h p path q hq (by omega) (by omega) (by omega) (by omega),Option.bind_some,size_mk,show decide (((urlL h p path q hq).length:Int)≤200)=decide ((urlL h p path q hq).length≤200)from decide_eq_decide.2 (by omega)]
 have hc:strings_Contains.f (mkB q) (⟨#[35]⟩:ByteArray)=some (q.contains 35):=by
  unfold strings_Contains.f strings_Index.f
  rw[if_pos (by rw[size_mk];omega),Option.bind_some]
  have e1:(⟨#[35]⟩:ByteArray).data.toList= [35]:=rfl
  have e2:(mkB q).data.toList=q:=bl_mk q
  rw[e1,e2,index_has]
 refine Ev.step (f:=fun k=>(impl_all__impl_isVisible.f k (mkB q)).bind fun t256=>(if t256=true then(if q.contains 35=true then(some false)else(if hq=true then some (decide ((urlL h p path q hq).length≤200))else(if q= []then some (decide ((urlL h p path q hq).length≤200))else(some false))))else(some false))) (fun k=>?_) ?_
 ·rw[impl_UrlOk.j0,if_neg Bool.false_ne_true]
  simp only[hc,hx,Option.bind_some,toList_mk]
 ·refine(implAllVis_is (mkB q) (by rw[size_mk];omega)).bind ?_
  rw[bl_mk]
  unfold tailL
  cases hv:q.all visB
  ·simpa using Ev.now false
  ·simp only[if_true,Bool.true_and]
   cases hcc:q.contains 35
   ·simp only[Bool.false_eq_true,if_false,Bool.not_false,Bool.true_and]
    cases hq
    ·by_cases h0:q= []
     ·simp only[Bool.false_eq_true,if_false,if_pos h0,decide_eq_true h0,Bool.false_or,Bool.true_and];exact Ev.now _
     ·simp only[Bool.false_eq_true,if_false,if_neg h0,decide_eq_false h0,Bool.false_or,Bool.false_and];exact Ev.now _
    ·simp only[if_true,Bool.true_or,Bool.true_and];exact Ev.now _
   ·simp only[if_true,Bool.not_true,Bool.false_and,Bool.and_false];exact Ev.now _
theorem specUrlOk_is (h:List UInt8) (p:Int) (path q:List UInt8) (hq:Bool) (h1:h.length≤1048576) (h2:path.length≤1048576) (h3:q.length≤1048576):
  Ev (fun k=>spec_UrlOk.f k (mkB h) p (mkB path) (mkB q) hq) (urlOkL h p path q hq):=by
 have hj:Ev (fun k=>spec_UrlOk.j0 k true (mkB h) p (mkB path) (mkB q) hq) false:=Ev.step (f:=fun _=>some false) (fun k=>by rw[spec_UrlOk.j0,if_pos rfl]) (Ev.now _)
 unfold spec_UrlOk.f urlOkL
 have hh:=specHost_is (mkB h) (by rw[size_mk];exact h1)
 rw[bl_mk]at hh
 refine hh.bind ?_
 cases hhv:hostL h
 ·simpa using hj
 simp only[if_true,Bool.true_and]
 by_cases p1:p<1
 ·simp only[if_pos p1,decide_eq_false (show ¬1≤p by omega),Bool.false_and];exact hj
 by_cases p2:p>65535
 ·simp only[if_neg p1,if_pos p2,decide_eq_false (show ¬p≤65535 by omega),Bool.and_false,Bool.false_and];exact hj
 obtain⟨n,rfl⟩: ∃n:Nat,p=n:=⟨p.toNat,by omega⟩
 simp only[if_neg p1,if_neg p2,decide_eq_true (show 1≤(n:Int)by omega),decide_eq_true (show(n:Int)≤65535 by omega),Bool.and_self,Bool.true_and,toList_mk,Int.toNat_natCast]
 by_cases h0:path= []
 ·simp only[if_pos h0,decide_eq_false (show ¬path≠ []from fun x=>x h0),Bool.false_and];exact hj
 simp only[if_neg h0,decide_eq_true (show path≠ []from h0),Bool.true_and]
 have hc:=specCleanPath_is (mkB path) (by rw[size_mk];exact h2)
 rw[bl_mk]at hc
 refine hc.bind ?_
 rw[toList_mk]
 by_cases he:cleanL path=path
 ·simp only[if_pos he,decide_eq_true he,Bool.true_and]
  cases hq
  ·simp only[Bool.false_eq_true,if_false,Bool.false_or]
   by_cases hq0:q= []
   ·have e:(q !=([]:List UInt8))=false:=by rw[hq0];rfl
    simp only[e,decide_eq_true hq0,Bool.true_and]
    exact specTail_is h n path q false (by omega) h1 h2 h3 (.inr hq0)
   ·have e:(q !=([]:List UInt8))=true:=bne_iff_ne.2 hq0
    simp only[e,decide_eq_false hq0,Bool.false_and]
    exact hj
  ·simp only[if_true,Bool.true_or,Bool.true_and]
   exact specTail_is h n path q true (by omega) h1 h2 h3 (.inl rfl)
 ·simp only[if_neg he,decide_eq_false he,Bool.false_and];exact hj
theorem implUrlOk_is (h:List UInt8) (p:Int) (path q:List UInt8) (hq:Bool) (h1:h.length≤1048576) (h2:path.length≤1048576) (h3:q.length≤1048576):
  Ev (fun k=>impl_UrlOk.f k (mkB h) p (mkB path) (mkB q) hq) (urlOkL h p path q hq):=by
 have hj:Ev (fun k=>impl_UrlOk.j0 k true (mkB h) p (mkB path) (mkB q) hq) false:=Ev.step (f:=fun _=>some false) (fun k=>by rw[impl_UrlOk.j0,if_pos rfl]) (Ev.now _)
 unfold impl_UrlOk.f urlOkL
 refine(implHost_is h h1).bind ?_
 cases hhv:hostL h
 ·simpa using hj
 simp only[if_true,Bool.true_and,within_is,Option.bind_some]
 by_cases hp:1≤p∧p≤65535
 ·obtain⟨n,rfl⟩: ∃n:Nat,p=n:=⟨p.toNat,by omega⟩
  simp only[decide_eq_true hp.1,decide_eq_true hp.2,Bool.and_self,if_true,Bool.true_and,toList_mk,Int.toNat_natCast]
  by_cases h0:path= []
  ·simp only[if_pos h0,decide_eq_false (show ¬path≠ []from fun x=>x h0),Bool.false_and];exact hj
  simp only[if_neg h0,decide_eq_true (show path≠ []from h0),Bool.true_and]
  have hc:=implCleanPath_is (mkB path) (by rw[size_mk];exact h2)
  rw[bl_mk]at hc
  refine hc.bind ?_
  rw[toList_mk]
  by_cases he:cleanL path=path
  ·have e:(cleanL path !=path)=false:=by rw[he];simp
   simp only[e,decide_eq_true he,Bool.true_and]
   exact implTail_is h n path q hq (by omega) h1 h2 h3
  ·have e:(cleanL path !=path)=true:=bne_iff_ne.2 he
   simp only[e,decide_eq_false he,Bool.false_and];exact hj
 ·have d:(decide (1≤p)&&decide (p≤65535))=false:=by
   by_cases h1:1≤p
   ·rw[decide_eq_false (show ¬p≤65535 by omega),Bool.and_false]
   ·rw[decide_eq_false h1,Bool.false_and]
  simp only[d,Bool.false_eq_true,if_false,Bool.false_and];exact hj
theorem urlOkL_port {h:List UInt8} {p:Int} {path q:List UInt8} {hq:Bool} (hu:urlOkL h p path q hq=true): ∃n:Nat,p=n∧n≤65535∧hostL h=true∧path.length≤200∧q.length≤200:=by
 unfold urlOkL tailL at hu
 simp only[Bool.and_eq_true,decide_eq_true_eq]at hu
 refine⟨p.toNat,by omega,by omega,hu.1.1.1.1,?_,?_⟩
 ·have:=hu.2.2
  unfold urlL at this
  simp only[List.length_append]at this
  omega
 ·have:=hu.2.2
  have h4:=hu.1.2
  unfold urlL queryL at this
  cases hq
  ·simp at h4;rw[h4];simp
  ·rw[if_pos rfl]at this
   simp only[List.length_append,List.length_cons]at this
   omega
theorem host_pieces {h:List UInt8} (hh:hostL h=true):h.length≤60∧ ∀x∈splitL 46 h,x≠ []:=by
 unfold hostL at hh
 simp only[Bool.and_eq_true,decide_eq_true_eq,List.all_eq_true]at hh
 refine⟨hh.1.2,fun x hx e=>?_⟩
 have:=hh.2 x hx
 rw[e]at this
 simp[hostP]at this
def isDig (c:UInt8):Bool:=decide (48≤c.toNat)&&decide (c.toNat≤57)
def dvalF (acc:Nat) (l:List UInt8):Nat:=l.foldl (fun a c=>a*10+(c.toNat-48)) acc
def dval (l:List UInt8):Nat:=dvalF 0 l
theorem dvalF_append (acc:Nat) (l m:List UInt8):dvalF acc (l++m)=dvalF (dvalF acc l) m:=by simp[dvalF]
theorem digit_toNat (d:Nat) (h:d<10):(UInt8.ofNat (48+d)).toNat=48+d:=by simp;omega
theorem dval_dec (n:Nat):dval (Lib.decDigits n)=n∧(Lib.decDigits n).all isDig=true∧Lib.decDigits n≠ []:=by
 induction n using Nat.strongRecOn with
 |_ n ih=>
  by_cases h:n<10
  ·rw[Lib.decDigits,dif_pos h]
   refine⟨?_,?_,by simp⟩
   ·simp only[dval,dvalF,List.foldl_cons,List.foldl_nil,digit_toNat n h];omega
   ·simp only[List.all_cons,List.all_nil,isDig,digit_toNat n h];simp;omega
  ·obtain⟨h1,h2,h3⟩:=ih (n/10) (by omega)
   rw[Lib.decDigits,dif_neg h]
   refine⟨?_,?_,by simp⟩
   ·rw[dval,dvalF_append,←dval,h1]
    simp only[dvalF,List.foldl_cons,List.foldl_nil,digit_toNat (n%10) (by omega)];omega
   ·rw[List.all_append,h2]
    simp only[List.all_cons,List.all_nil,isDig,digit_toNat (n%10) (show n%10<10 by omega)];simp;omega
theorem dvalF_lt: ∀(l:List UInt8) (acc m:Nat),l.all isDig=true→acc<10^m→dvalF acc l<10^(m+l.length)
 | [],acc,m,_,h=>by simpa [dvalF]using h
 |c::r,acc,m,ha,h=>by
  simp only[List.all_cons,Bool.and_eq_true,isDig,decide_eq_true_eq]at ha
  have:=dvalF_lt r (acc*10+(c.toNat-48)) (m+1) ha.2 (by rw[Nat.pow_succ];omega)
  rw[List.length_cons,show m+(r.length+1)=m+1+r.length by omega]
  exact this
theorem dval_lt15 (l:List UInt8) (hd:l.all isDig=true) (hl:l.length≤15):dval l≤999999999999999:=by
 have h1:=dvalF_lt l 0 0 hd (by decide)
 have h2:10^(0+l.length)≤10^15:=Nat.pow_le_pow_right (by decide) (by omega)
 have h3:(10:Nat)^15=1000000000000000:=by decide
 unfold dval
 omega
def rdec (l:List UInt8):Int×Bool:=if Lib.decDigits (dval l)=l∧l.length≤15 then((dval l:Int),true)else(0,false)
theorem l1digit_dig (c:UInt8):spec_l1digit.f (c.toNat:Int)=some (isDig c):=by
 have:c.toNat<256:=c.toNat_lt
 unfold spec_l1digit.f isDig
 by_cases h1:48≤c.toNat
 ·rw[if_pos (by omega),decide_eq_true h1,Bool.true_and];congr 1;exact decide_eq_decide.2 (by omega)
 ·rw[if_neg (by omega),decide_eq_false h1,Bool.false_and]
theorem specReadDec_go: ∀(r pre:List UInt8) (acc:Nat),acc<10^pre.length→(pre++r).length≤15→r.all isDig=true→
  Ev (fun k=>spec_ReadDec.l0 k (mkB (pre++r)) (acc:Int) pre.length) (if Lib.decDigits (dvalF acc r)=pre++r then((dvalF acc r:Int),true)else(0,false))
 | [],pre,acc,ha,hl,_=>by
  have h15:(10:Nat)^pre.length≤10^15:=Nat.pow_le_pow_right (by decide) (by simpa using hl)
  have h3:(10:Nat)^15=1000000000000000:=by decide
  have hd:=(specDec_is acc (by omega)).bind (f:=fun _ (t:ByteArray)=>if t.toList=(mkB (pre++ [])).toList then some ((acc:Int),true)else some ((0:Int),false)) (r:=if Lib.decDigits acc=pre++ []then((acc:Int),true)else((0:Int),false)) (by
   simp only[toList_mk]
   split<;>exact Ev.now _)
  refine Ev.step (fun k=>?_) hd
  simp only[spec_ReadDec.l0]
  rw[if_neg (by rw[size_mk];simp)]
 |c::r,pre,acc,ha,hl,hd=>by
  simp only[List.all_cons,Bool.and_eq_true]at hd
  have hc:48≤c.toNat∧c.toNat≤57:=by have:=hd.1;simpa [isDig]using this
  have hl':pre.length<15:=by simp at hl;omega
  have h15:(10:Nat)^pre.length≤10^14:=Nat.pow_le_pow_right (by decide) (by omega)
  have h3:(10:Nat)^14=100000000000000:=by decide
  have ih:=specReadDec_go r (pre++ [c]) (acc*10+(c.toNat-48)) (by rw[List.length_append,List.length_singleton,Nat.pow_succ];omega) (by rw[←app_mid];exact hl) hd.2
  rw[←app_mid,len_snoc]at ih
  have e:dvalF acc (c::r)=dvalF (acc*10+(c.toNat-48)) r:=rfl
  rw[e]
  refine Ev.step (fun k=>?_) ih
  simp only[spec_ReadDec.l0]
  rw[if_pos (size_lt_mid ..),if_pos (by omega),bt_mid,l1digit_dig,hd.1]
  simp only[Option.bind_some,if_true]
  rw[wrap_id (a:=(acc:Int)*10) (by omega) (by omega),wrap_id (by omega) (by omega),wrap_id (a:=(pre.length:Int)+1) (by omega) (by omega)]
  congr 1
  omega
theorem specReadDec_bad: ∀(r pre:List UInt8) (acc:Int),(pre++r).length≤15→r.all isDig=false→Ev (fun k=>spec_ReadDec.l0 k (mkB (pre++r)) acc pre.length) ((0:Int),false)
 | [],pre,acc,_,hd=>by simp at hd
 |c::r,pre,acc,hl,hd=>by
  have hw:wrap64 ((pre.length:Int)+1)=(pre.length:Int)+1:=by simp at hl;exact wrap_id (by omega) (by omega)
  by_cases hc:isDig c=true
  ·have ih:=fun acc'=>specReadDec_bad r (pre++ [c]) acc' (by rw[←app_mid];exact hl) (by simpa [hc]using hd)
   simp only[←app_mid,len_snoc]at ih
   refine Ev.step (fun k=>?_) (ih (wrap64 ((wrap64 (acc*10))+(((c.toNat:Int)-48)%256))))
   simp only[spec_ReadDec.l0]
   rw[if_pos (size_lt_mid ..),if_pos (by omega),bt_mid,l1digit_dig,hc,hw]
   simp only[Option.bind_some,if_true]
  ·refine Ev.step (f:=fun _=>some ((0:Int),false)) (fun k=>?_) (Ev.now _)
   simp only[spec_ReadDec.l0]
   rw[if_pos (size_lt_mid ..),if_pos (by omega),bt_mid,l1digit_dig]
   simp only[Option.bind_some,if_neg hc]
theorem specReadDec_is (l:List UInt8) (hl:l.length≤1099511627776):Ev (fun k=>spec_ReadDec.f k (mkB l)) (rdec l):=by
 have hj:Ev (fun k=>spec_ReadDec.j0 k (mkB l) true) ((0:Int),false):=Ev.step (f:=fun _=>some ((0:Int),false)) (fun k=>by simp[spec_ReadDec.j0]) (Ev.now _)
 unfold spec_ReadDec.f
 by_cases h0:l= []
 ·have:rdec l=(0,false):=by unfold rdec;rw[if_neg (by rintro⟨h,_⟩;subst h0;exact(dval_dec _).2.2 h)]
  have hz:((mkB l).size:Int)=0:=by rw[size_mk,h0];rfl
  rw[this]
  simp only[if_pos hz];exact hj
 ·have h1:1≤l.length:=List.length_pos_iff.2 h0
  have hz: ¬((mkB l).size:Int)=0:=by rw[size_mk];omega
  simp only[if_neg hz]
  by_cases h15:l.length≤15
  ·have e:decide (((mkB l).size:Int)>15)=false:=decide_eq_false (by rw[size_mk];omega)
   rw[e]
   refine Ev.step (f:=fun k=>spec_ReadDec.l0 k (mkB l) 0 0) (fun k=>by simp[spec_ReadDec.j0]) ?_
   by_cases hd:l.all isDig=true
   ·have:=specReadDec_go l [] 0 (by decide) (by simpa using h15) hd
    have e2:rdec l=if Lib.decDigits (dvalF 0 l)= []++l then((dvalF 0 l:Int),true)else(0,false):=by
     unfold rdec dval
     simp only[List.nil_append]
     by_cases hh:Lib.decDigits (dvalF 0 l)=l
     ·rw[if_pos ⟨hh,h15⟩,if_pos hh]
     ·rw[if_neg (fun q=>hh q.1),if_neg hh]
    rw[e2];exact this
   ·have e2:rdec l=(0,false):=by
     unfold rdec
     rw[if_neg]
     rintro⟨hh,_⟩
     exact hd (by have:=(dval_dec (dval l)).2.1;rwa [hh]at this)
    rw[e2]
    exact specReadDec_bad l [] 0 (by simpa using h15) (by simpa using hd)
  ·have e:decide (((mkB l).size:Int)>15)=true:=decide_eq_true (by rw[size_mk];omega)
   have e2:rdec l=(0,false):=by unfold rdec;rw[if_neg (fun q=>h15 q.2)]
   rw[e,e2];exact hj
theorem parse_digits: ∀(l:List UInt8) (acc m:Nat),l.all isDig=true→acc<10^m→m+l.length≤15→Lib.parseUint10 acc l= .ok (dvalF acc l)
 | [],acc,m,_,_,_=>rfl
 |c::r,acc,m,hd,ha,hm=>by
  simp only[List.all_cons,Bool.and_eq_true]at hd
  have hc:48≤c.toNat∧c.toNat≤57:=by have:=hd.1;simpa [isDig]using this
  simp only[List.length_cons]at hm
  have h15:(10:Nat)^m≤10^14:=Nat.pow_le_pow_right (by decide) (by omega)
  have h3:(10:Nat)^14=100000000000000:=by decide
  rw[Lib.parseUint10,if_pos hc,if_neg (by omega),if_neg (by omega),parse_digits r _ (m+1) hd.2 (by rw[Nat.pow_succ];omega) (by omega)]
  rfl
theorem implReadDec_ok (l:List UInt8):impl_ReadDec.ok l=rdec l:=by
 unfold impl_ReadDec.ok
 by_cases h:Lib.decDigits (dval l)=l∧l.length≤15
 ·obtain⟨h1,h2⟩:=h
  have hall:l.all isDig=true:=by have:=(dval_dec (dval l)).2.1;rwa [h1]at this
  have hne:l≠ []:=by have:=(dval_dec (dval l)).2.2;rwa [h1]at this
  have hlt:=dval_lt15 l hall h2
  have hp:Lib.parseMag l= .ok (dval l):=by
   unfold Lib.parseMag
   rw[if_neg hne,parse_digits l 0 0 hall (by decide) (by omega)];rfl
  have hat:Lib.atoiAll l= .ok (dval l:Int):=by
   cases l with
   |nil=>exact absurd rfl hne
   |cons c r=>
    have hc:48≤c.toNat∧c.toNat≤57:=by
     simp only[List.all_cons,Bool.and_eq_true]at hall
     have:=hall.1;simpa [isDig]using this
    unfold Lib.atoiAll
    simp only[if_neg (show ¬(c.toNat=43∨c.toNat=45)by omega),hp]
    rw[if_neg (by omega),if_neg (by omega),if_neg (by omega)]
  rw[hat,rdec,if_pos ⟨h1,h2⟩]
  simp only[]
  rw[if_pos ⟨by omega,by omega,by unfold Lib.itoa;rw[if_neg (by omega),Int.toNat_natCast];exact h1⟩]
 ·have hr:rdec l=(0,false):=by unfold rdec;rw[if_neg h]
  rw[hr]
  cases hA:Lib.atoiAll l with
  | «syntax» =>rfl
  |range=>rfl
  |ok v=>
   simp only[]
   rw[if_neg]
   rintro⟨h0,h1,h2⟩
   obtain⟨n,rfl⟩: ∃n:Nat,v=n:=⟨v.toNat,by omega⟩
   have h3:Lib.decDigits n=l:=by rw[←h2];unfold Lib.itoa;rw[if_neg (by omega),Int.toNat_natCast]
   have h4:dval l=n:=by rw[←h3];exact(dval_dec n).1
   exact h ⟨by rw[h4,h3],by rw[←h3,Lib.decDigits_length];exact nDigits_le15 n (by omega)⟩
theorem implReadDec_is (l:List UInt8) (hl:l.length≤1099511627776):impl_ReadDec.f (mkB l)=some (rdec l):=by
 unfold impl_ReadDec.f
 rw[if_pos (by rw[size_mk];exact hl),←implReadDec_ok]
 rfl
def sqB (b:UInt8):Bool:= [47,63].contains b
def authL (r:List UInt8):List UInt8:=r.takeWhile fun b=>!sqB b
def behL (r:List UInt8):List UInt8:=r.dropWhile fun b=>!sqB b
theorem auth_beh (r:List UInt8):authL r++behL r=r:=List.takeWhile_append_dropWhile
theorem auth_no: ∀(r:List UInt8),∀b∈authL r,b≠47∧b≠63
 | [],b,h=>by simp[authL]at h
 |x::r,b,h=>by
  unfold authL at h
  rw[List.takeWhile_cons]at h
  by_cases hx:sqB x=true
  ·simp[hx]at h
  ·simp only[Bool.not_eq_true]at hx
   simp only[hx,Bool.not_false,if_true,List.mem_cons]at h
   rcases h with rfl|h
   ·constructor
    ·rintro rfl;cases hx
    ·rintro rfl;cases hx
   ·exact auth_no r b h
theorem beh_head: ∀r:List UInt8,behL r= []∨(∃t,behL r=47::t)∨ ∃t,behL r=63::t
 | []=> .inl rfl
 |x::r=>by
  unfold behL
  rw[List.dropWhile_cons]
  by_cases hx:sqB x=true
  ·simp only[hx,Bool.not_true,Bool.false_eq_true,if_false]
   simp[sqB]at hx
   rcases hx with rfl|rfl
   ·exact .inr (.inl ⟨r,rfl⟩)
   ·exact .inr (.inr ⟨r,rfl⟩)
  ·simp only[Bool.not_eq_true]at hx
   simp only[hx,Bool.not_false,if_true]
   exact beh_head r
theorem indexAny_sq: ∀r:List UInt8,Lib.indexAny r [47,63]=if behL r= []then-1 else((authL r).length:Int)
 | []=>rfl
 |x::r=>by
  have ih:=indexAny_sq r
  unfold behL authL at ih ⊢
  rw[List.dropWhile_cons,List.takeWhile_cons,Lib.indexAny]
  by_cases hx:sqB x=true
  ·have hx2:=hx
   unfold sqB at hx2
   simp only[hx,hx2,Bool.not_true,Bool.false_eq_true,if_false,if_true]
   simp
  ·simp only[Bool.not_eq_true]at hx
   have hx2:=hx
   unfold sqB at hx2
   simp only[hx,hx2,Bool.not_false,Bool.false_eq_true,if_false,if_true,ih]
   by_cases hb:(List.dropWhile (fun b=>!sqB b) r)= []
   ·simp[hb]
   ·simp only[if_neg hb]
    rw[if_neg (by simp<;>omega)]
    simp
theorem cutB_false (c:UInt8): ∀l:List UInt8,(cutB c l).2.2=false→(cutB c l).1=l∧(cutB c l).2.1= []
 | [],_=>⟨rfl,rfl⟩
 |x::l,h=>by
  by_cases hx:x=c
  ·rw[cutB,if_pos hx]at h;cases h
  ·rw[cutB,if_neg hx]at h ⊢
   obtain⟨h1,h2⟩:=cutB_false c l h
   exact⟨by rw[h1],h2⟩
theorem cutB_true (c:UInt8): ∀l:List UInt8,(cutB c l).2.2=true→l=(cutB c l).1++c::(cutB c l).2.1
 | [],h=>by cases h
 |x::l,h=>by
  by_cases hx:x=c
  ·rw[cutB,if_pos hx];simp[hx]
  ·rw[cutB,if_neg hx]at h ⊢
   have:=cutB_true c l h
   simp[←this]
theorem cutB_1len (c:UInt8) (l:List UInt8):(cutB c l).1.length<l.length↔(cutB c l).2.2=true:=by
 cases h:(cutB c l).2.2
 ·have:=(cutB_false c l h).1;rw[this];simp
 ·have:=cutB_true c l h
  have e:=congrArg List.length this
  simp at e;simp;omega
theorem cutB_drop (c:UInt8) (l:List UInt8) (h:(cutB c l).2.2=true):l.drop ((cutB c l).1.length+1)=(cutB c l).2.1:=by
 have:=cutB_true c l h
 generalize (cutB c l).1=a at this ⊢
 generalize (cutB c l).2.1=b at this ⊢
 subst this
 simp
theorem front_is (r:List UInt8):(cutB 63 r).1=authL r++(cutB 63 (behL r)).1∧(cutB 63 r).2=(cutB 63 (behL r)).2:=by
 have:=cutB_app 63 (authL r) (behL r) (fun b hb=>(auth_no r b hb).2)
 rw[auth_beh]at this
 rw[this]
 exact⟨rfl,rfl⟩
theorem auth_is (r:List UInt8):(cutB 47 (authL r++(cutB 63 (behL r)).1)).1=authL r:=by
 rw[cutB_app 47 (authL r) _ (fun b hb=>(auth_no r b hb).1)]
 rcases beh_head r with h|⟨t,h⟩|⟨t,h⟩
 ·rw[h];simp[cutB]
 ·rw[h];simp[cutB]
 ·rw[h];simp[cutB]
abbrev UrlR:=ByteArray×Int×ByteArray×ByteArray×Bool×Bool
def noUrl:UrlR:=((⟨#[]⟩:ByteArray),0,(⟨#[]⟩:ByteArray),(⟨#[]⟩:ByteArray),false,false)
theorem cleanL_len (p:List UInt8):(cleanL p).length≤10000:=by
 unfold cleanL
 split
 ·rename_i h
  obtain⟨h1,h2,_,_⟩:=h
  cases p with
  |nil=>cases h2
  |cons b r=>
   simp at h2;subst h2
   have hb:=seg_bound r (by simp at h1;omega)
   have hf:=cleanK_flat (splitL 47 ((strOfNums (unescI (47::r).length (47::r))).data.toList.drop 1)) []
   generalize cleanK [] (splitL 47 ((strOfNums (unescI (47::r).length (47::r))).data.toList.drop 1))=K at hf ⊢
   have e0:(flatS ([]:List (List UInt8))).length=0:=rfl
   unfold pathOf
   split
   ·simp
   ·omega
 ·simp
theorem cutB_lens (c:UInt8) (l:List UInt8):(cutB c l).1.length≤l.length∧(cutB c l).2.1.length≤l.length:=by
 have:=cutB_len c l;omega
theorem part_lens (r:List UInt8):(authL r).length≤r.length∧(behL r).length≤r.length:=by
 have:=congrArg List.length (auth_beh r)
 rw[List.length_append]at this;omega
theorem stringsCut_is (c:UInt8) (l:List UInt8) (h:l.length≤1048576):strings_Cut.f (mkB l) (⟨#[c]⟩:ByteArray)=some (mkB (cutB c l).1,mkB (cutB c l).2.1,(cutB c l).2.2):=by
 unfold strings_Cut.f
 rw[if_pos (by rw[size_mk];omega),show(⟨#[c]⟩:ByteArray).data.toList= [c]from rfl,show(mkB l).data.toList=l from bl_mk l,cut_is]
 rfl
theorem take_mk (l:List UInt8) (n:Nat):(mkB l).extract 0 n=mkB (l.take n):=by rw[extract_mk];simp
theorem drop_mk (l:List UInt8) (n:Nat):(mkB l).extract n (mkB l).size=mkB (l.drop n):=by rw[extract_mk,size_mk,List.take_of_length_le (by simp)]
theorem implReadPath_is (b:List UInt8) (hb:b.length≤1048576):impl_readPath.f (mkB b)=some ((⟨#[]⟩:ByteArray),0,mkB (cutB 63 b).1,mkB (cutB 63 b).2.1,(cutB 63 b).2.2):=by
 unfold impl_readPath.f
 rw[stringsCut_is 63 b hb];rfl
theorem uptoL (c:UInt8) (l:List UInt8) (h:l.length≤1048576):Ev (fun k=>spec_l6upto.f k (mkB l) (c.toNat:Int)) (mkB (cutB c l).1):=by
 have:=upto_is c (mkB l) (by rw[size_mk];omega)
 rw[bl_mk]at this
 exact this
def labHead:List UInt8:= [115,104,97,49,58]
def labelR (l:List UInt8):Bool:=decide (l.length=37)&&decide (l.take 5=labHead)&&(l.drop 5).all letOk
theorem specLabel_is (l:List UInt8) (hl:l.length≤1048576): ∃x,Ev (fun k=>spec_ReadLabel.f k (mkB l)) (x,labelR l):=by
 unfold spec_ReadLabel.f labelR
 rw[size_mk]
 by_cases h:l.length=37
 ·have hz:(l.length:Int)=37:=by omega
  simp only[if_pos hz,if_pos (show(0:Int)≤5 by decide),if_pos (show(5:Int)≤(l.length:Int)by omega),decide_eq_true h,Bool.true_and]
  have hx:(mkB l).extract 0 5=mkB (l.take 5):=by rw[extract_mk];simp
  have hd:(mkB l).extract 5 (mkB l).size=mkB (l.drop 5):=by rw[extract_mk,size_mk,List.take_of_length_le (by simp)]
  rw[hx,toList_mk]
  by_cases ht:l.take 5=labHead
  ·obtain⟨x,e⟩:=specRB32_is (l.drop 5) (by rw[List.length_drop];omega)
   refine⟨x,?_⟩
   rw[decide_eq_true ht,Bool.true_and]
   rw[size_mk]at hd
   simp only[if_pos (show l.take 5= [115,104,97,49,58]from ht),hd]
   exact e.bind (Ev.now _)
  ·rw[decide_eq_false ht,Bool.false_and]
   simp only[if_neg (show ¬l.take 5= [115,104,97,49,58]from ht)]
   exact⟨_,Ev.now _⟩
 ·have hz: ¬(l.length:Int)=37:=by omega
  simp only[if_neg hz,decide_eq_false h,Bool.false_and]
  exact⟨_,Ev.now _⟩
theorem labPrefix_is (l:List UInt8) (hl:l.length≤1048576):strings_CutPrefix.f (mkB l) (⟨#[115,104,97,49,58]⟩:ByteArray)=some (if l.take 5=labHead then(mkB (l.drop 5),true)else(mkB l,false)):=by
 have hz:((⟨#[115,104,97,49,58]⟩:ByteArray).size:Int)=5:=rfl
 have hP:(⟨#[115,104,97,49,58]⟩:ByteArray).toList=labHead:=toList_mk labHead
 have hx:(mkB l).extract 0 5=mkB (l.take 5):=by rw[extract_mk];simp
 have hd:(mkB l).extract 5 l.length=mkB (l.drop 5):=by rw[extract_mk,List.take_of_length_le (by simp)]
 unfold strings_CutPrefix.f stringslite_CutPrefix.f stringslite_HasPrefix.f
 rw[hz,size_mk,hP,show(5:Int).toNat=5 from rfl,hx,toList_mk,hd]
 by_cases h5:(l.length:Int)≥5
 ·rw[if_pos h5,if_pos (by decide),if_pos (by omega)]
  simp only[Option.bind_some]
  by_cases ht:l.take 5=labHead
  ·have hb:(l.take 5==labHead)=true:=beq_iff_eq.2 ht
   rw[hb,if_pos rfl,if_pos (by decide),if_pos (by omega),if_pos ht];rfl
  ·have hb:(l.take 5==labHead)=false:=beq_eq_false_iff_ne.2 ht
   rw[hb,if_neg Bool.false_ne_true,if_neg ht];rfl
 ·have ht: ¬l.take 5=labHead:=by
   intro e
   have:=congrArg List.length e
   rw[List.length_take]at this
   simp[labHead]at this
   omega
  rw[if_neg h5,if_neg ht];rfl
theorem implLabel_is (l:List UInt8) (hl:l.length≤1048576): ∃x,Ev (fun k=>impl_ReadLabel.f k (mkB l)) (x,labelR l):=by
 unfold impl_ReadLabel.f labelR
 rw[labPrefix_is l hl]
 simp only[Option.bind_some]
 by_cases ht:l.take 5=labHead
 ·rw[if_pos ht]
  simp only[if_true,size_mk,List.length_drop,decide_eq_true ht,Bool.and_true]
  by_cases h:l.length=37
  ·obtain⟨x,e⟩:=implRB32_is (l.drop 5) (by rw[List.length_drop];omega)
   refine⟨x,?_⟩
   simp only[if_pos (show((l.length-5:Nat):Int)=32 by omega),decide_eq_true h,Bool.true_and]
   exact e.bind (Ev.now _)
  ·have hn: ¬((l.length-5:Nat):Int)=32:=by omega
   simp only[if_neg hn,decide_eq_false h,Bool.false_and]
   exact⟨_,Ev.now _⟩
 ·rw[if_neg ht]
  simp only[Bool.false_eq_true,if_false,decide_eq_false ht,Bool.and_false,Bool.false_and]
  exact⟨_,Ev.now _⟩
def crlf2:List UInt8:= [13,10,13,10]
def headEnd (l:List UInt8):Int:=if Lib.index l crlf2= -1 then-1 else Lib.index l crlf2+4
theorem split_go: ∀(r pre:List UInt8),(pre++r).length≤9223372036854775000→
  Ev (fun k=>spec_l8split.l0 k (mkB (pre++r)) pre.length) (if Lib.index r crlf2= -1 then-1 else pre.length+Lib.index r crlf2+4)
 | [],pre,hl=>by
  simp at hl
  refine Ev.step (f:=fun _=>some (-1)) (fun k=>?_) (by simpa [Lib.index,crlf2]using Ev.now (-1:Int))
  simp only[spec_l8split.l0]
  rw[wrap_id (by omega) (by omega),if_neg (by rw[size_mk];simp<;>omega)]
 |b::r,pre,hl=>by
  have hl2:=hl
  simp at hl2
  by_cases hs:(b::r).length<4
  ·have hi:Lib.index (b::r) crlf2= -1:=index_short _ _ hs
   refine Ev.step (f:=fun _=>some (-1)) (fun k=>?_) (by simpa [hi]using Ev.now (-1:Int))
   simp at hs
   simp only[spec_l8split.l0]
   rw[wrap_id (by omega) (by omega),if_neg (by rw[size_mk];simp<;>omega)]
  ·have ih:=split_go r (pre++ [b]) (by rw[←app_mid];exact hl)
   rw[←app_mid,len_snoc]at ih
   simp at hs
   have hex:((mkB (pre++b::r)).extract ((pre.length:Int)).toNat (((pre.length:Int)+4):Int).toNat).toList=(b::r).take 4:=by
    rw[extract_mk,toList_mk]
    have:(((pre.length:Int)+4):Int).toNat-((pre.length:Int)).toNat=4:=by omega
    rw[this];simp
   have hcell: ∀k,spec_l8split.l0 (k+1) (mkB (pre++b::r)) pre.length=if(b::r).take 4=crlf2 then some ((pre.length:Int)+4)else spec_l8split.l0 k (mkB (pre++b::r)) (pre.length+1):=by
    intro k
    simp only[spec_l8split.l0]
    rw[wrap_id (a:=(pre.length:Int)+4) (by omega) (by omega),wrap_id (a:=(pre.length:Int)+1) (by omega) (by omega),if_pos (by rw[size_mk];simp<;>omega),if_pos (by omega),if_pos (size_lt_mid ..),bt_mid,hex]
    by_cases hb:(b.toNat:Int)=13
    ·rw[if_pos hb,if_pos (by omega)];rfl
    ·rw[if_neg hb,if_neg]
     intro h
     have:b=13:=by
      have:=congrArg List.head? h
      simpa [crlf2]using this
     subst this;exact hb rfl
   have hpre:crlf2.isPrefixOf (b::r)=decide ((b::r).take 4=crlf2):=by
    rw[Bool.eq_iff_iff,List.isPrefixOf_iff_prefix,decide_eq_true_iff,List.prefix_iff_eq_take]
    constructor
    ·intro h;exact h.symm
    ·intro h;exact h.symm
   by_cases h4:(b::r).take 4=crlf2
   ·have hi:Lib.index (b::r) crlf2=0:=by unfold Lib.index;rw[hpre,if_pos (decide_eq_true h4)]
    refine Ev.step (f:=fun _=>some ((pre.length:Int)+4)) (fun k=>by rw[hcell,if_pos h4]) ?_
    rw[hi];simpa using Ev.now ((pre.length:Int)+4)
   ·have hi:Lib.index (b::r) crlf2=if Lib.index r crlf2= -1 then-1 else Lib.index r crlf2+1:=by
     rw[Lib.index,hpre,decide_eq_false h4,if_neg (by simp)]
     by_cases hm:Lib.index r crlf2= -1<;>simp[hm]
    refine Ev.step (f:=fun k=>spec_l8split.l0 k (mkB (pre++b::r)) (pre.length+1)) (fun k=>by rw[hcell,if_neg h4]) ?_
    rw[hi]
    have hbd:=index_bound r crlf2
    by_cases hm:Lib.index r crlf2= -1
    ·simpa [hm]using ih
    ·rw[if_neg hm]at ih ⊢
     rw[if_neg (by omega)]
     have e:(pre.length:Int)+(Lib.index r crlf2+1)+4=(pre.length:Int)+1+Lib.index r crlf2+4:=by omega
     rw[e];exact ih
theorem split_is (s:ByteArray) (hs:s.size≤9223372036854775000):Ev (fun k=>spec_l8split.f k s) (headEnd (bl s)):=by
 have:=split_go (bl s) [] (by simpa [size_bl]using hs)
 simpa [mk_bl,spec_l8split.f,headEnd]using this
theorem headEnd_bound (l:List UInt8):headEnd l= -1∨(4≤headEnd l∧headEnd l≤l.length):=by
 unfold headEnd
 have:=index_bound l crlf2
 have e:crlf2.length=4:=rfl
 split<;>omega
theorem divided_is (s:ByteArray) (hs:s.size<4294967281):impl_divided.f s=some (if headEnd (bl s)<0 then((⟨#[]⟩:ByteArray),(⟨#[]⟩:ByteArray),false)else(s.extract 0 (headEnd (bl s)).toNat,s.extract (headEnd (bl s)).toNat s.size,true)):=by
 have hx:strings_Index.f s (⟨#[13,10,13,10]⟩:ByteArray)=some (Lib.index (bl s) crlf2):=by
  unfold strings_Index.f;rw[if_pos hs];rfl
 unfold impl_divided.f
 rw[hx]
 simp only[Option.bind_some]
 have hb:=index_bound (bl s) crlf2
 have e:crlf2.length=4:=rfl
 rw[size_bl]at hb
 by_cases h:Lib.index (bl s) crlf2= -1
 ·rw[if_pos (by omega),headEnd,if_pos h,if_pos (by omega)]
 ·rw[if_neg (by omega),wrap_id (by omega) (by omega),if_pos (by omega),if_pos (by omega),headEnd,if_neg h,if_neg (by omega)]
def lowS (s:ByteArray):ByteArray:=strOfNums ((bytesOf s).map lowI)
theorem lowS_size (s:ByteArray):(lowS s).size=s.size:=by
 unfold lowS;rw[size_strOf,List.length_map]
 show(bytesOf s).length=_
 rw[bytesOf,List.length_map,Array.length_toList];rfl
def lowL (l:List UInt8):List UInt8:=bl (lowS (mkB l))
theorem lowL_len (l:List UInt8):(lowL l).length=l.length:=by unfold lowL;rw[size_bl,lowS_size,size_mk]
def urlIf (h:List UInt8) (p:Int) (path q:List UInt8) (hq:Bool):UrlR:=if urlOkL h p path q hq=true then(mkB h,p,mkB path,mkB q,hq,true)else noUrl
def pathR (b:List UInt8):List UInt8:=if(cutB 63 b).1= []then [47]else cleanL (cutB 63 b).1
def restR (r:List UInt8):UrlR:=
 if(cutB 58 (authL r)).2.2=true then(if(rdec (cutB 58 (authL r)).2.1).2=true then urlIf (lowL (cutB 58 (authL r)).1) (rdec (cutB 58 (authL r)).2.1).1 (pathR (behL r)) (cutB 63 (behL r)).2.1 (cutB 63 (behL r)).2.2 else noUrl)
 else urlIf (lowL (cutB 58 (authL r)).1) 80 (pathR (behL r)) (cutB 63 (behL r)).2.1 (cutB 63 (behL r)).2.2
def headR (s:List UInt8):Bool:=decide (s.length≤200)&&s.all visB&&!s.contains 35&&decide (7≤s.length)&&decide (lowL (s.take 7)= [104,116,116,112,58,47,47])
def readUrlR (s:List UInt8):UrlR:=if headR s=true then restR (s.drop 7)else noUrl
theorem cleanL_slash:cleanL [47]= [47]:=by decide+kernel
theorem urlOkL_nil (p:Int) (path q:List UInt8) (hq:Bool):urlOkL [] p path q hq=false:=by
 unfold urlOkL hostL;simp
theorem restR_nil:restR []=noUrl:=by
 unfold restR
 rw[if_neg (by decide)]
 have e:(cutB 58 (authL [])).1= []:=rfl
 have e2:lowL []= []:=List.length_eq_zero_iff.1 (by rw[lowL_len];rfl)
 rw[e,e2,urlIf,urlOkL_nil,if_neg Bool.false_ne_true]
theorem urlIf_cases (h:List UInt8) (p:Int) (path q:List UInt8) (hq:Bool):urlIf h p path q hq=noUrl∨(urlOkL h p path q hq=true∧urlIf h p path q hq=(mkB h,p,mkB path,mkB q,hq,true)):=by
 unfold urlIf
 by_cases hu:urlOkL h p path q hq=true
 ·rw[if_pos hu];exact .inr ⟨hu,rfl⟩
 ·rw[if_neg hu];exact .inl rfl
theorem readUrlR_cases (s:List UInt8):readUrlR s=noUrl∨ ∃h p path q hq,urlOkL h p path q hq=true∧readUrlR s=(mkB h,p,mkB path,mkB q,hq,true):=by
 unfold readUrlR
 split
 ·unfold restR
  have key: ∀h p path q hq,urlIf h p path q hq=noUrl∨ ∃h' p' path' q' hq',urlOkL h' p' path' q' hq'=true∧urlIf h p path q hq=(mkB h',p',mkB path',mkB q',hq',true):=by
   intro h p path q hq
   rcases urlIf_cases h p path q hq with e|⟨hu,e⟩
   ·exact .inl e
   ·exact .inr ⟨_,_,_,_,_,hu,e⟩
  split
  ·split
   ·exact key _ _ _ _ _
   ·exact .inl rfl
  ·exact key _ _ _ _ _
 ·exact .inl rfl
def canonR (s:List UInt8):ByteArray×Bool:=
 if(readUrlR s).2.2.2.2.2=true then(mkB (urlL (bl (readUrlR s).1) (readUrlR s).2.1.toNat (bl (readUrlR s).2.2.1) (bl (readUrlR s).2.2.2.1) (readUrlR s).2.2.2.2.1),true)else((⟨#[]⟩:ByteArray),false)
theorem specFold_is (s:ByteArray) (h:s.size≤1099511627776):spec_Fold.f s=some (lowS s):=by unfold spec_Fold.f;rw[if_pos h];rfl
theorem specFoldL (l:List UInt8) (h:l.length≤1048576):spec_Fold.f (mkB l)=some (mkB (lowL l)):=by
 rw[specFold_is _ (by rw[size_mk];omega),lowL,mk_bl]
theorem specRU_j2 (r h:List UInt8) (p:Int) (path:List UInt8) (hr:r.length≤1048576) (h1:h.length≤1048576) (h2:path.length≤1048576):
  Ev (fun k=>spec_ReadUrl.j2 k (mkB r) (mkB (cutB 63 r).1) (mkB h) p (mkB path) (⟨#[]⟩:ByteArray) false) (urlIf h p path (cutB 63 r).2.1 (cutB 63 r).2.2):=by
 have hl:=cutB_lens 63 r
 have hlt:=cutB_1len 63 r
 have hu:=specUrlOk_is h p path (cutB 63 r).2.1 (cutB 63 r).2.2 h1 h2 (by omega)
 cases hq:(cutB 63 r).2.2
 ·have hn:=(cutB_false 63 r hq).2
  rw[hq]at hlt
  rw[hq,hn]at hu
  rw[hn]
  refine Ev.step (f:=fun k=>(spec_UrlOk.f k (mkB h) p (mkB path) (⟨#[]⟩:ByteArray) false).bind fun t197=>(if t197=true then(some (mkB h,p,mkB path,(⟨#[]⟩:ByteArray),false,true))else(some ((⟨#[]⟩:ByteArray),0,(⟨#[]⟩:ByteArray),(⟨#[]⟩:ByteArray),false,false)))) (fun k=>by rw[spec_ReadUrl.j2,if_neg (by rw[size_mk,size_mk];have hn2: ¬(cutB 63 r).1.length<r.length:=fun h=>Bool.false_ne_true (hlt.1 h);omega)]) ?_
  refine hu.bind ?_
  unfold urlIf
  cases urlOkL h p path [] false<;>exact Ev.now _
 ·have hd:=cutB_drop 63 r hq
  rw[hq]at hlt
  rw[hq]at hu
  have hlt':=hlt.2 rfl
  have hw:wrap64 (((cutB 63 r).1.length:Int)+1)=(((cutB 63 r).1.length+1:Nat):Int):=by rw[wrap_id (by omega) (by omega)];omega
  refine Ev.step (f:=fun k=>(spec_UrlOk.f k (mkB h) p (mkB path) (mkB (cutB 63 r).2.1) true).bind fun t196=>(if t196=true then(some (mkB h,p,mkB path,mkB (cutB 63 r).2.1,true,true))else(some ((⟨#[]⟩:ByteArray),0,(⟨#[]⟩:ByteArray),(⟨#[]⟩:ByteArray),false,false)))) (fun k=>by
   rw[spec_ReadUrl.j2,if_pos (by rw[size_mk,size_mk];omega),size_mk,hw,if_pos (by omega),if_pos (by rw[size_mk];omega),Int.toNat_natCast,drop_mk,hd]) ?_
  refine hu.bind ?_
  unfold urlIf
  cases urlOkL h p path (cutB 63 r).2.1 true<;>exact Ev.now _
theorem specRU_j1 (r h:List UInt8) (p:Int) (hr:r.length≤1048576) (h1:h.length≤1048576):
  Ev (fun k=>spec_ReadUrl.j1 k (mkB r) (mkB (cutB 63 r).1) (mkB (authL r)) (mkB h) p (⟨#[47]⟩:ByteArray) (⟨#[]⟩:ByteArray) false) (urlIf h p (pathR (behL r)) (cutB 63 (behL r)).2.1 (cutB 63 (behL r)).2.2):=by
 have hpl:=part_lens r
 have hcl:=cutB_lens 63 (behL r)
 obtain⟨f1,f2⟩:=front_is r
 have hcl2:=cutB_lens 63 r
 rw[←f2]
 by_cases h0:(cutB 63 (behL r)).1= []
 ·have e:pathR (behL r)= [47]:=by unfold pathR;rw[if_pos h0]
  have hj:=specRU_j2 r h p [47] hr h1 (by simp)
  rw[e]
  refine Ev.step (fun k=>?_) hj
  rw[spec_ReadUrl.j1,if_neg (by rw[size_mk,size_mk,f1,h0,List.append_nil];omega)]
  rfl
 ·have e:pathR (behL r)=cleanL (cutB 63 (behL r)).1:=by unfold pathR;rw[if_neg h0]
  have hpos:0<(cutB 63 (behL r)).1.length:=List.length_pos_iff.2 h0
  have hj:=specRU_j2 r h p (cleanL (cutB 63 (behL r)).1) hr h1 (by have:=cleanL_len (cutB 63 (behL r)).1;omega)
  rw[e]
  have hlen:(cutB 63 r).1.length=(authL r).length+(cutB 63 (behL r)).1.length:=by rw[f1,List.length_append]
  refine Ev.step (f:=fun k=>(spec_CleanPath.f k (mkB (cutB 63 (behL r)).1)).bind fun t195=>(spec_ReadUrl.j2 k (mkB r) (mkB (cutB 63 r).1) (mkB h) p t195 (⟨#[]⟩:ByteArray) false)) (fun k=>by
   rw[spec_ReadUrl.j1,if_pos (by rw[size_mk,size_mk,hlen];omega),size_mk,if_pos (by omega),if_pos (by rw[size_mk,hlen];omega),Int.toNat_natCast,drop_mk]
   rw[show(cutB 63 r).1.drop (authL r).length=(cutB 63 (behL r)).1 by rw[f1];simp]) ?_
  have hc:=specCleanPath_is (mkB (cutB 63 (behL r)).1) (by rw[size_mk];omega)
  rw[bl_mk]at hc
  exact hc.bind hj
theorem specRU_j0 (s:List UInt8) (hs:s.length≤1048576) (h7:7≤s.length):Ev (fun k=>spec_ReadUrl.j0 k (mkB s) false) (restR (s.drop 7)):=by
 have hrl:(s.drop 7).length≤1048576:=by rw[List.length_drop];omega
 refine Ev.step (f:=fun k=>(spec_l6upto.f k (mkB (s.drop 7)) 63).bind fun t188=>((spec_l6upto.f k t188 47).bind fun t189=>((spec_l6upto.f k t189 58).bind fun t190=>((spec_Fold.f t190).bind fun t191=>(if(t190.size:Int)<(t189.size:Int)then(if 0≤(wrap64 ((t190.size:Int)+1))then(if(wrap64 ((t190.size:Int)+1))≤(t189.size:Int)then((spec_ReadDec.f k (t189.extract ((wrap64 ((t190.size:Int)+1)):Int).toNat t189.size)).bind fun bt193=>(if bt193.2=true then(spec_ReadUrl.j1 k (mkB (s.drop 7)) t188 t189 t191 bt193.1 (⟨#[47]⟩:ByteArray) (⟨#[]⟩:ByteArray) false)else(some ((⟨#[]⟩:ByteArray),0,(⟨#[]⟩:ByteArray),(⟨#[]⟩:ByteArray),false,false))))else(none))else(none))else(spec_ReadUrl.j1 k (mkB (s.drop 7)) t188 t189 t191 80 (⟨#[47]⟩:ByteArray) (⟨#[]⟩:ByteArray) false)))))) (fun k=>by
  rw[spec_ReadUrl.j0,if_neg Bool.false_ne_true,if_pos (by rw[size_mk];omega),drop_mk]) ?_
 generalize s.drop 7=r at hrl ⊢
 obtain⟨f1,f2⟩:=front_is r
 have hpl:=part_lens r
 have hcl:=cutB_lens 63 r
 have hal:=cutB_lens 58 (authL r)
 refine(uptoL 63 r hrl).bind ?_
 have ha:(cutB 47 (cutB 63 r).1).1=authL r:=by rw[f1,auth_is]
 have hu2:=uptoL 47 (cutB 63 r).1 (by omega)
 rw[ha]at hu2
 refine hu2.bind ?_
 refine(uptoL 58 (authL r) (by omega)).bind ?_
 rw[specFoldL _ (by omega)]
 simp only[Option.bind_some,size_mk]
 have hlt:=cutB_1len 58 (authL r)
 unfold restR
 cases hp:(cutB 58 (authL r)).2.2
 ·rw[hp]at hlt
  simp only[if_neg (show ¬((cutB 58 (authL r)).1.length:Int)<((authL r).length:Int)by have hn2: ¬(cutB 58 (authL r)).1.length<(authL r).length:=fun h=>Bool.false_ne_true (hlt.1 h);omega),Bool.false_eq_true,if_false]
  exact specRU_j1 r _ 80 hrl (by rw[lowL_len];omega)
 ·rw[hp]at hlt
  have hlt':=hlt.2 rfl
  have hd:=cutB_drop 58 (authL r) hp
  have hw:wrap64 (((cutB 58 (authL r)).1.length:Int)+1)=(((cutB 58 (authL r)).1.length+1:Nat):Int):=by rw[wrap_id (by omega) (by omega)];omega
  have hx:(mkB (authL r)).extract ((cutB 58 (authL r)).1.length+1) (authL r).length=mkB (cutB 58 (authL r)).2.1:=by
   have:=drop_mk (authL r) ((cutB 58 (authL r)).1.length+1)
   rw[size_mk]at this;rw[this,hd]
  simp only[if_pos (show((cutB 58 (authL r)).1.length:Int)<((authL r).length:Int)by omega),hw,if_pos (show(0:Int)≤(((cutB 58 (authL r)).1.length+1:Nat):Int)by omega),if_pos (show(((cutB 58 (authL r)).1.length+1:Nat):Int)≤((authL r).length:Int)by omega),Int.toNat_natCast,hx,if_true]
  refine(specReadDec_is _ (by omega)).bind ?_
  cases hok:(rdec (cutB 58 (authL r)).2.1).2
  ·simp only[Bool.false_eq_true,if_false];exact Ev.now _
  ·simp only[if_true]
   exact specRU_j1 r _ _ hrl (by rw[lowL_len];omega)
theorem specReadUrl_is (s:List UInt8) (hs:s.length≤1048576):Ev (fun k=>spec_ReadUrl.f k (mkB s)) (readUrlR s):=by
 have hj:Ev (fun k=>spec_ReadUrl.j0 k (mkB s) true) noUrl:=Ev.step (f:=fun _=>some noUrl) (fun k=>by rw[spec_ReadUrl.j0,if_pos rfl];rfl) (Ev.now _)
 unfold spec_ReadUrl.f readUrlR
 rw[size_mk]
 by_cases h200:s.length≤200
 ·simp only[if_neg (show ¬(s.length:Int)>200 by omega)]
  by_cases h8:(s.length:Int)<8
  ·simp only[if_pos h8]
   by_cases hh:headR s=true
   ·rw[if_pos hh]
    unfold headR at hh
    simp only[Bool.and_eq_true,decide_eq_true_eq]at hh
    have:s.drop 7= []:=List.drop_eq_nil_of_le (by omega)
    rw[this,restR_nil];exact hj
   ·rw[if_neg hh];exact hj
  ·simp only[if_neg h8]
   refine(specVisible_is (mkB s) (by rw[size_mk];omega)).bind ?_
   rw[bl_mk,size_mk,decide_eq_true (show 1≤s.length by omega),Bool.and_true]
   unfold headR
   rw[decide_eq_true h200,decide_eq_true (show 7≤s.length by omega)]
   cases hv:s.all visB
   ·simpa using hj
   ·simp only[if_true,Bool.true_and,Bool.and_true]
    refine(uptoL 35 s hs).bind ?_
    rw[toList_mk,toList_mk]
    rw[←cutB_whole 35 s]
    by_cases hc:(cutB 35 s).1=s
    ·simp only[if_pos hc,decide_eq_true hc,Bool.true_and,if_pos (show(0:Int)≤7 by decide),if_pos (show(7:Int)≤(s.length:Int)by omega),take_mk]
     rw[specFoldL _ (by rw[List.length_take];omega)]
     simp only[Option.bind_some,toList_mk]
     by_cases hb:lowL (s.take 7)= [104,116,116,112,58,47,47]
     ·rw[decide_eq_true hb,if_pos rfl,hb]
      exact specRU_j0 s hs (by omega)
     ·rw[decide_eq_false hb,if_neg Bool.false_ne_true,bne_iff_ne.2 hb]
      exact hj
    ·simp only[if_neg hc,decide_eq_false hc,Bool.false_and,Bool.false_eq_true,if_false];exact hj
 ·simp only[if_pos (show(s.length:Int)>200 by omega)]
  rw[if_neg (by unfold headR;rw[decide_eq_false h200];simp)]
  exact hj
theorem specCanon_is (s:List UInt8) (hs:s.length≤1048576):Ev (fun k=>spec_Canon.f k (mkB s)) (canonR s):=by
 unfold spec_Canon.f canonR
 refine(specReadUrl_is s hs).bind ?_
 rcases readUrlR_cases s with e|⟨h,p,path,q,hq,hu,e⟩
 ·rw[e]
  have e0:(noUrl:UrlR).2.2.2.2.2=false:=rfl
  simp only[e0,Bool.false_eq_true,if_false];exact Ev.now _
 ·rw[e]
  obtain⟨n,rfl,hn,hh,h2,h3⟩:=urlOkL_port hu
  have h1:=(host_pieces hh).1
  simp only[if_true,bl_mk,Int.toNat_natCast]
  have ht:Ev (fun k=>spec_UrlText.f k (mkB h) (n:Int) (mkB path) (mkB q) hq) (mkB (urlL h n path q hq)):=by
   unfold spec_UrlText.f
   refine(specUrlOk_is h n path q hq (by omega) (by omega) (by omega)).bind ?_
   simp only[hu,if_true]
   refine(specText_is h n path q hq (by omega) (by omega) (by omega) (by omega)).bind ?_
   exact Ev.now _
  refine ht.bind ?_
  exact Ev.now _
theorem implFold_is (s:ByteArray) (h:s.size≤1099511627776):impl_Fold.f s=some (lowS s):=by unfold impl_Fold.f;rw[if_pos h];rfl
theorem implFoldL (l:List UInt8) (h:l.length≤1048576):impl_Fold.f (mkB l)=some (mkB (lowL l)):=by
 rw[implFold_is _ (by rw[size_mk];omega),lowL,mk_bl]
theorem stringsHas_is (c:UInt8) (l:List UInt8) (h:l.length≤1048576):strings_Contains.f (mkB l) (⟨#[c]⟩:ByteArray)=some (l.contains c):=by
 unfold strings_Contains.f strings_Index.f
 rw[if_pos (by rw[size_mk];omega),Option.bind_some]
 have e1:(⟨#[c]⟩:ByteArray).data.toList= [c]:=rfl
 have e2:(mkB l).data.toList=l:=bl_mk l
 rw[e1,e2,index_has]
theorem implRU_j3 (h:List UInt8) (p:Int) (path q:List UInt8) (hq:Bool) (h1:h.length≤1048576) (h2:path.length≤1048576) (h3:q.length≤1048576):
  Ev (fun k=>impl_ReadUrl.j3 k (mkB h) p (mkB path) (mkB q) hq) (urlIf h p (cleanL path) q hq):=by
 refine Ev.step (f:=fun k=>(impl_CleanPath.f k (mkB path)).bind fun t296=>((impl_UrlOk.f k (mkB h) p t296 (mkB q) hq).bind fun t297=>(if t297=true then(some (mkB h,p,t296,mkB q,hq,true))else(some ((⟨#[]⟩:ByteArray),0,(⟨#[]⟩:ByteArray),(⟨#[]⟩:ByteArray),false,false))))) (fun k=>by rw[impl_ReadUrl.j3]) ?_
 have hc:=implCleanPath_is (mkB path) (by rw[size_mk];omega)
 rw[bl_mk]at hc
 refine hc.bind ?_
 refine(implUrlOk_is h p (cleanL path) q hq h1 (by have:=cleanL_len path;omega) h3).bind ?_
 unfold urlIf
 cases urlOkL h p (cleanL path) q hq<;>exact Ev.now _
theorem implRU_j2 (h:List UInt8) (p:Int) (b:List UInt8) (h1:h.length≤1048576) (hb:b.length≤1048576):
  Ev (fun k=>impl_ReadUrl.j2 k (mkB h) p (mkB (cutB 63 b).1) (mkB (cutB 63 b).2.1) (cutB 63 b).2.2) (urlIf h p (pathR b) (cutB 63 b).2.1 (cutB 63 b).2.2):=by
 have hl:=cutB_lens 63 b
 unfold pathR
 by_cases h0:(cutB 63 b).1= []
 ·have hj:=implRU_j3 h p [47] (cutB 63 b).2.1 (cutB 63 b).2.2 h1 (by simp) (by omega)
  rw[cleanL_slash]at hj
  rw[if_pos h0]
  exact Ev.step (fun k=>by rw[impl_ReadUrl.j2,toList_mk,if_pos h0];rfl) hj
 ·have hj:=implRU_j3 h p (cutB 63 b).1 (cutB 63 b).2.1 (cutB 63 b).2.2 h1 (by omega) (by omega)
  rw[if_neg h0]
  exact Ev.step (fun k=>by rw[impl_ReadUrl.j2,toList_mk,if_neg h0]) hj
theorem implRU_j1 (r:List UInt8) (hr:r.length≤1048576):Ev (fun k=>impl_ReadUrl.j1 k (mkB r) ((authL r).length:Int)) (restR r):=by
 have hpl:=part_lens r
 have hal:=cutB_lens 58 (authL r)
 have e1:r.take (authL r).length=authL r:=by
  have:=congrArg (List.take (authL r).length) (auth_beh r)
  rw[List.take_left]at this;exact this.symm
 have e2:r.drop (authL r).length=behL r:=by
  have:=congrArg (List.drop (authL r).length) (auth_beh r)
  rw[List.drop_left]at this;exact this.symm
 refine Ev.step (f:=fun k=>(if(cutB 58 (authL r)).2.2=true then((impl_ReadDec.f (mkB (cutB 58 (authL r)).2.1)).bind fun bt294=>(if bt294.2=true then(impl_ReadUrl.j2 k (mkB (lowL (cutB 58 (authL r)).1)) bt294.1 (mkB (cutB 63 (behL r)).1) (mkB (cutB 63 (behL r)).2.1) (cutB 63 (behL r)).2.2)else(some noUrl)))else(impl_ReadUrl.j2 k (mkB (lowL (cutB 58 (authL r)).1)) 80 (mkB (cutB 63 (behL r)).1) (mkB (cutB 63 (behL r)).2.1) (cutB 63 (behL r)).2.2))) (fun k=>by
  rw[impl_ReadUrl.j1,if_pos (by omega),if_pos (by rw[size_mk];omega),Int.toNat_natCast,take_mk,drop_mk,e1,e2,stringsCut_is 58 _ (by omega),Option.bind_some,implReadPath_is _ (by omega),Option.bind_some,implFoldL _ (by omega),Option.bind_some]
  rfl) ?_
 unfold restR
 cases hp:(cutB 58 (authL r)).2.2
 ·simp only[Bool.false_eq_true,if_false]
  exact implRU_j2 _ 80 (behL r) (by rw[lowL_len];omega) (by omega)
 ·simp only[if_true,implReadDec_is _ (show(cutB 58 (authL r)).2.1.length≤1099511627776 by omega),Option.bind_some]
  cases hok:(rdec (cutB 58 (authL r)).2.1).2
  ·simp only[Bool.false_eq_true,if_false];exact Ev.now _
  ·simp only[if_true]
   exact implRU_j2 _ _ (behL r) (by rw[lowL_len];omega) (by omega)
theorem implRU_j0 (s:List UInt8) (hs:s.length≤1048576) (h7:7≤s.length):Ev (fun k=>impl_ReadUrl.j0 k (mkB s) false) (restR (s.drop 7)):=by
 have hrl:(s.drop 7).length≤1048576:=by rw[List.length_drop];omega
 have hia:strings_IndexAny.f (mkB (s.drop 7)) (⟨#[47,63]⟩:ByteArray)=some (Lib.indexAny (s.drop 7) [47,63]):=by
  unfold strings_IndexAny.f
  rw[if_pos ⟨by rw[size_mk];omega,rfl,by decide⟩]
  simp[mkB]
 refine Ev.step (fun k=>?_) (implRU_j1 (s.drop 7) hrl)
 rw[impl_ReadUrl.j0,if_neg Bool.false_ne_true,if_pos (by rw[size_mk];omega),drop_mk,hia,Option.bind_some,indexAny_sq]
 by_cases hb:behL (s.drop 7)= []
 ·have e:=auth_beh (s.drop 7)
  rw[hb,List.append_nil]at e
  rw[if_pos hb,if_pos (by decide),size_mk,e]
 ·rw[if_neg hb,if_neg (by omega)]
theorem implReadUrl_is (s:List UInt8) (hs:s.length≤1048576):Ev (fun k=>impl_ReadUrl.f k (mkB s)) (readUrlR s):=by
 have hj:Ev (fun k=>impl_ReadUrl.j0 k (mkB s) true) noUrl:=Ev.step (f:=fun _=>some noUrl) (fun k=>by rw[impl_ReadUrl.j0,if_pos rfl];rfl) (Ev.now _)
 unfold impl_ReadUrl.f readUrlR headR
 rw[size_mk]
 by_cases h200:s.length≤200
 ·simp only[if_neg (show ¬(s.length:Int)>200 by omega),decide_eq_true h200,Bool.true_and]
  refine(implAllVis_is (mkB s) (by rw[size_mk];omega)).bind ?_
  rw[bl_mk]
  cases hv:s.all visB
  ·simpa using hj
  ·simp only[if_true,Bool.true_and,stringsHas_is 35 s hs,Option.bind_some]
   cases hc:s.contains 35
   ·simp only[Bool.false_eq_true,if_false,Bool.not_false,Bool.true_and]
    by_cases h7:(s.length:Int)<7
    ·simp only[if_pos h7,decide_eq_false (show ¬7≤s.length by omega),Bool.false_and,Bool.false_eq_true,if_false];exact hj
    ·simp only[if_neg h7,decide_eq_true (show 7≤s.length by omega),Bool.true_and,if_pos (show(0:Int)≤7 by decide),if_pos (show(7:Int)≤(s.length:Int)by omega),take_mk]
     rw[implFoldL _ (by rw[List.length_take];omega)]
     simp only[Option.bind_some,toList_mk]
     by_cases hb:lowL (s.take 7)= [104,116,116,112,58,47,47]
     ·rw[decide_eq_true hb,if_pos rfl,hb]
      exact implRU_j0 s hs (by omega)
     ·rw[decide_eq_false hb,if_neg Bool.false_ne_true,bne_iff_ne.2 hb]
      exact hj
   ·simp only[if_true,Bool.not_true,Bool.false_and,Bool.false_eq_true,if_false];exact hj
 ·simp only[if_pos (show(s.length:Int)>200 by omega),decide_eq_false h200,Bool.false_and,Bool.false_eq_true,if_false]
  exact hj
theorem implCanon_is (s:List UInt8) (hs:s.length≤1048576):Ev (fun k=>impl_Canon.f k (mkB s)) (canonR s):=by
 unfold impl_Canon.f canonR
 refine(implReadUrl_is s hs).bind ?_
 rcases readUrlR_cases s with e|⟨h,p,path,q,hq,hu,e⟩
 ·rw[e]
  have e0:(noUrl:UrlR).2.2.2.2.2=false:=rfl
  simp only[e0,Bool.false_eq_true,if_false];exact Ev.now _
 ·rw[e]
  obtain⟨n,rfl,hn,hh,h2,h3⟩:=urlOkL_port hu
  have h1:=(host_pieces hh).1
  simp only[if_true,bl_mk,Int.toNat_natCast]
  rw[implText_is h n path q hq (by omega) (by omega) (by omega) (by omega)]
  exact Ev.now _
def canB (url:List UInt8):Bool:=if(canonR url).2=true then((canonR url).1.toList==(mkB url).toList)else false
theorem specCanB (url:List UInt8) (h:url.length≤1048576):Ev (fun k=>spec_l8canon.f k (mkB url)) (canB url):=by
 unfold spec_l8canon.f canB
 refine(specCanon_is url h).bind ?_
 by_cases c:(canonR url).2=true
 ·simp only[if_pos c];exact Ev.now _
 ·simp only[if_neg c];exact Ev.now _
theorem implCanB (url:List UInt8) (h:url.length≤1048576):Ev (fun k=>impl_isCanonical.f k (mkB url)) (canB url):=by
 unfold impl_isCanonical.f canB
 refine(implCanon_is url h).bind ?_
 by_cases c:(canonR url).2=true
 ·simp only[if_pos c];exact Ev.now _
 ·simp only[if_neg c];exact Ev.now _
def hasP (b:List UInt8):Bool:=decide (0≤headEnd b)
def payP (b:List UInt8):List UInt8:=if headEnd b<0 then []else b.drop (headEnd b).toNat
theorem payP_len (b:List UInt8):(payP b).length≤b.length:=by unfold payP;split<;>simp
theorem specPay (b:List UInt8) (h:b.length≤1048576):Ev (fun k=>spec_Payload.f k (mkB b)) (mkB (payP b),hasP b):=by
 have hb:=headEnd_bound b
 unfold spec_Payload.f payP hasP
 have hs:=split_is (mkB b) (by rw[size_mk];omega)
 rw[bl_mk]at hs
 refine hs.bind ?_
 by_cases h2:headEnd b<0
 ·simp only[if_pos h2,decide_eq_false (show ¬0≤headEnd b by omega)];exact Ev.now _
 ·simp only[if_neg h2,if_pos (show 0≤headEnd b by omega),if_pos (show headEnd b≤(b.length:Int)by omega),decide_eq_true (show 0≤headEnd b by omega),extract_mk,size_mk,List.take_of_length_le (show(b.drop (headEnd b).toNat).length≤b.length-(headEnd b).toNat by rw[List.length_drop];omega)]
  exact Ev.now _
theorem implDiv (b:List UInt8) (h:b.length≤1048576): ∃x,impl_divided.f (mkB b)=some (x,mkB (payP b),hasP b):=by
 have hb:=headEnd_bound b
 have hd:=divided_is (mkB b) (by rw[size_mk];omega)
 rw[bl_mk]at hd
 rw[hd]
 unfold payP hasP
 by_cases h2:headEnd b<0
 ·simp only[if_pos h2,decide_eq_false (show ¬0≤headEnd b by omega)];exact⟨_,rfl⟩
 ·simp only[if_neg h2,decide_eq_true (show 0≤headEnd b by omega),extract_mk,size_mk,List.take_of_length_le (show(b.drop (headEnd b).toNat).length≤b.length-(headEnd b).toNat by rw[List.length_drop];omega)]
  exact⟨_,rfl⟩
def recTail (kind id refers:Int) (lab blk:List UInt8):Bool:=
 if kind=0 then(if lab= []then refers==0 else false)
 else if kind=1 then(if lab= []then(if refers=0 then hasP blk else false)else false)
 else if kind=2 then(if refers=0 then(if hasP blk=true then lab==labB (payP blk)else false)else false)
 else if kind=3 then(if 1≤refers then(if refers<id then(if labelR lab=true then(if hasP blk=true then payP blk== []else false)else false)else false)else false)
 else if kind=4 then(if lab= []then refers==0 else false)else false
def recR (kind id t:Int) (url:List UInt8) (refers:Int) (lab blk:List UInt8):Bool:=
 if id<0 then false else if id>999999 then false else if ¬(0≤t∧t≤253402300799)then false else if blk.length>4000 then false
 else if kind=0 then(if url= []then recTail kind id refers lab blk else false)else(if canB url=true then recTail kind id refers lab blk else false)
theorem specRec_tail (kind id t refers:Int) (url lab blk:List UInt8) (hu:url.length≤1048576) (hlb:lab.length≤1048576) (hb:blk.length≤4000) (hk:kind=0→url= []):
  Ev (fun k=>spec_RecOk.j0 k false kind id t (mkB url) refers (mkB lab) (mkB blk)) (recTail kind id refers lab blk):=by
 have hpl:=payP_len blk
 obtain⟨x,hx⟩:=specLabel_is lab hlb
 unfold recTail
 refine Ev.step (fun k=>by rw[spec_RecOk.j0,if_neg Bool.false_ne_true]) ?_
 refine(specPay blk (by omega)).bind ?_
 simp only[toList_mk]
 by_cases k0:kind=0
 ·have hu0:=hk k0
  simp only[if_pos k0,if_pos hu0]
  by_cases hl:lab= []
  ·simp only[if_pos hl];exact Ev.now _
  ·simp only[if_neg hl];exact Ev.now _
 simp only[if_neg k0]
 by_cases k1:kind=1
 ·simp only[if_pos k1]
  by_cases hl:lab= []
  ·simp only[if_pos hl]
   by_cases hr:refers=0
   ·simp only[if_pos hr];exact Ev.now _
   ·simp only[if_neg hr];exact Ev.now _
  ·simp only[if_neg hl];exact Ev.now _
 simp only[if_neg k1]
 by_cases k2:kind=2
 ·simp only[if_pos k2]
  by_cases hr:refers=0
  ·simp only[if_pos hr]
   by_cases hh:hasP blk=true
   ·simp only[if_pos hh]
    refine(specLab_is (payP blk) (by omega)).bind ?_
    simp only[toList_mk];exact Ev.now _
   ·simp only[if_neg hh];exact Ev.now _
  ·simp only[if_neg hr];exact Ev.now _
 simp only[if_neg k2]
 by_cases k3:kind=3
 ·simp only[if_pos k3]
  refine hx.bind ?_
  by_cases h1:1≤refers
  ·simp only[if_pos h1,if_pos (show refers≥1 from h1)]
   by_cases h2:refers<id
   ·simp only[if_pos h2]
    by_cases h3:labelR lab=true
    ·simp only[if_pos h3]
     by_cases hh:hasP blk=true
     ·simp only[if_pos hh];exact Ev.now _
     ·simp only[if_neg hh];exact Ev.now _
    ·simp only[if_neg h3];exact Ev.now _
   ·simp only[if_neg h2];exact Ev.now _
  ·simp only[if_neg h1,if_neg (show ¬refers≥1 from h1)];exact Ev.now _
 simp only[if_neg k3]
 by_cases k4:kind=4
 ·simp only[if_pos k4]
  by_cases hl:lab= []
  ·simp only[if_pos hl];exact Ev.now _
  ·simp only[if_neg hl];exact Ev.now _
 ·simp only[if_neg k4];exact Ev.now _
theorem specRec_no (kind id t refers:Int) (url lab blk:ByteArray):Ev (fun k=>spec_RecOk.j0 k true kind id t url refers lab blk) false:=
 Ev.step (f:=fun _=>some false) (fun k=>by rw[spec_RecOk.j0,if_pos rfl]) (Ev.now _)
theorem specRec_is (kind id t refers:Int) (url lab blk:List UInt8) (hu:url.length≤1048576) (hlb:lab.length≤1048576) (hb:blk.length≤1048576):
  Ev (fun k=>spec_RecOk.f k kind id t (mkB url) refers (mkB lab) (mkB blk)) (recR kind id t url refers lab blk):=by
 unfold spec_RecOk.f recR
 by_cases c1:id<0
 ·simp only[if_pos c1];exact specRec_no ..
 simp only[if_neg c1]
 by_cases c2:id>999999
 ·simp only[if_pos c2];exact specRec_no ..
 simp only[if_neg c2]
 have ht:spec_l2time.f t=some (decide (0≤t∧t≤253402300799)):=by
  unfold spec_l2time.f
  by_cases h0:t≥0
  ·rw[if_pos h0];by_cases h1:t≤253402300799
   ·rw[decide_eq_true h1,decide_eq_true ⟨h0,h1⟩]
   ·rw[decide_eq_false h1,decide_eq_false (by omega)]
  ·rw[if_neg h0,decide_eq_false (by omega)]
 simp only[ht,Option.bind_some]
 by_cases c3:0≤t∧t≤253402300799
 ·simp only[decide_eq_true c3,if_true,if_neg (show ¬ ¬(0≤t∧t≤253402300799)from fun h=>h c3),size_mk]
  by_cases c4:blk.length>4000
  ·simp only[if_pos c4,if_pos (show(blk.length:Int)>4000 by omega)];exact specRec_no ..
  simp only[if_neg c4,if_neg (show ¬(blk.length:Int)>4000 by omega)]
  by_cases k0:kind=0
  ·simp only[if_pos k0]
   by_cases hu0:url= []
   ·simp only[if_pos hu0];exact specRec_tail kind id t refers url lab blk hu hlb (by omega) (fun _=>hu0)|>(by simpa [hu0]using ·)
   ·simp only[if_neg hu0]
    refine Ev.step (fun k=>by rw[spec_RecOk.j0,if_neg Bool.false_ne_true]) ?_
    refine(specPay blk (by omega)).bind ?_
    simp only[toList_mk,if_pos k0,if_neg hu0]
    exact Ev.now _
  ·simp only[if_neg k0]
   refine(specCanB url hu).bind ?_
   cases hc:canB url
   ·simp only[Bool.not_false,Bool.false_eq_true,if_false];exact specRec_no ..
   ·simp only[Bool.not_true,if_true];exact specRec_tail kind id t refers url lab blk hu hlb (by omega) (fun h=>absurd h k0)
 ·simp only[decide_eq_false c3,Bool.false_eq_true,if_false,if_pos c3];exact specRec_no ..
theorem withinR_is (x a b:Int):impl_within.f x a b=some (decide (a≤x∧x≤b)):=by
 unfold impl_within.f
 by_cases h0:a≤x
 ·rw[if_pos h0];by_cases h1:x≤b
  ·rw[decide_eq_true h1,decide_eq_true ⟨h0,h1⟩]
  ·rw[decide_eq_false h1,decide_eq_false (by omega)]
 ·rw[if_neg h0,decide_eq_false (by omega)]
theorem implRec_no (kind id t refers:Int) (url lab blk:ByteArray):Ev (fun k=>impl_RecOk.j0 k true kind id t url refers lab blk) false:=
 Ev.step (f:=fun _=>some false) (fun k=>by rw[impl_RecOk.j0,if_pos rfl]) (Ev.now _)
theorem implRec_no1 (kind id t refers:Int) (url lab blk:ByteArray):Ev (fun k=>impl_RecOk.j1 k true kind id t url refers lab blk) false:=
 Ev.step (f:=fun _=>some false) (fun k=>by rw[impl_RecOk.j1,if_pos rfl]) (Ev.now _)
theorem implRec_j2 (kind id t refers:Int) (url:ByteArray) (lab blk:List UInt8) (hk:0≤kind∧kind≤4) (hid:0≤id∧id≤999999) (hlb:lab.length≤1048576) (hb:blk.length≤4000):
  Ev (fun k=>impl_RecOk.j2 k (mkB (payP blk)) (hasP blk) (if kind=3 then false else(refers !=0)) kind id t url refers (mkB lab) (mkB blk)) (recTail kind id refers lab blk):=by
 have hpl:=payP_len blk
 obtain⟨x,hx⟩:=implLabel_is lab hlb
 unfold recTail
 refine Ev.step (fun k=>by rw[impl_RecOk.j2]) ?_
 simp only[toList_mk]
 by_cases k3:kind=3
 ·subst k3
  simp only[if_true,Bool.false_eq_true,if_false,show ¬((3:Int)=0)by decide,show ¬((3:Int)=1)by decide,show ¬((3:Int)=2)by decide]
  refine hx.bind ?_
  rw[wrap_id (a:=id-1) (by omega) (by omega)]
  simp only[withinR_is,Option.bind_some]
  by_cases h1:1≤refers
  ·by_cases h2:refers<id
   ·simp only[if_pos h1,if_pos h2,decide_eq_true (show 1≤refers∧refers≤id-1 by omega),if_true]
    by_cases h3:labelR lab=true
    ·simp only[if_pos h3]
     by_cases hh:hasP blk=true
     ·simp only[if_pos hh];exact Ev.now _
     ·simp only[if_neg hh];exact Ev.now _
    ·simp only[if_neg h3];exact Ev.now _
   ·simp only[if_pos h1,if_neg h2,decide_eq_false (show ¬(1≤refers∧refers≤id-1)by omega),Bool.false_eq_true,if_false];exact Ev.now _
  ·simp only[if_neg h1,decide_eq_false (show ¬(1≤refers∧refers≤id-1)by omega),Bool.false_eq_true,if_false];exact Ev.now _
 simp only[if_neg k3]
 by_cases hr:refers=0
 ·simp only[hr,bne_self_eq_false,Bool.false_eq_true,if_false,if_true,beq_self_eq_true]
  by_cases k1:kind=1
  ·simp only[if_pos k1,if_neg (show ¬kind=0 by omega)]
   by_cases hl:lab= []
   ·simp only[if_pos hl];exact Ev.now _
   ·simp only[if_neg hl];exact Ev.now _
  simp only[if_neg k1]
  by_cases k2:kind=2
  ·simp only[if_pos k2,if_neg (show ¬kind=0 by omega)]
   by_cases hh:hasP blk=true
   ·simp only[if_pos hh]
    refine(implLab_is (payP blk) (by omega)).bind ?_
    simp only[toList_mk];exact Ev.now _
   ·simp only[if_neg hh];exact Ev.now _
  simp only[if_neg k2]
  have hd: ∀l:List UInt8,(l== [])=(if l= []then true else false):=by intro l;cases l<;>rfl
  rw[hd]
  by_cases k0:kind=0
  ·simp only[if_pos k0];exact Ev.now _
  ·simp only[if_neg k0,if_pos (show kind=4 by omega)];exact Ev.now _
 ·have hb':(refers !=0)=true:=bne_iff_ne.mpr hr
  have hb2:(refers==0)=false:=beq_eq_false_iff_ne.mpr hr
  simp only[hb',hb2,if_true,if_neg hr]
  have e:(if kind=0 then(if lab= []then false else false)else if kind=1 then(if lab= []then false else false)else if kind=2 then false else if kind=4 then(if lab= []then false else false)else false)=false:=by split<;>(try split)<;>(try split)<;>(try split)<;>(try split)<;>rfl
  simp only[e]
  exact Ev.now _
theorem implRec_is (kind id t refers:Int) (url lab blk:List UInt8) (hu:url.length≤1048576) (hlb:lab.length≤1048576) (hb:blk.length≤1048576):
  Ev (fun k=>impl_RecOk.f k kind id t (mkB url) refers (mkB lab) (mkB blk)) (recR kind id t url refers lab blk):=by
 unfold impl_RecOk.f recR impl_isId.f impl_isTime.f
 simp only[withinR_is,Option.bind_some]
 by_cases ck:0≤kind∧kind≤4
 ·simp only[decide_eq_true ck,if_true]
  by_cases c1:id<0
  ·simp only[if_pos c1,decide_eq_false (show ¬(0≤id∧id≤999999)by omega),Bool.false_eq_true,if_false];exact implRec_no ..
  simp only[if_neg c1]
  by_cases c2:id>999999
  ·simp only[if_pos c2,decide_eq_false (show ¬(0≤id∧id≤999999)by omega),Bool.false_eq_true,if_false];exact implRec_no ..
  simp only[if_neg c2,decide_eq_true (show 0≤id∧id≤999999 by omega),if_true]
  by_cases c3:0≤t∧t≤253402300799
  ·simp only[decide_eq_true c3,if_true,if_neg (show ¬ ¬(0≤t∧t≤253402300799)from fun h=>h c3),size_mk]
   by_cases c4:blk.length>4000
   ·simp only[if_pos c4,decide_eq_true (show(blk.length:Int)>4000 by omega)];exact implRec_no ..
   simp only[if_neg c4,decide_eq_false (show ¬(blk.length:Int)>4000 by omega)]
   have j1:Ev (fun k=>impl_RecOk.j1 k false kind id t (mkB url) refers (mkB lab) (mkB blk)) (recTail kind id refers lab blk):=by
    obtain⟨x,hx⟩:=implDiv blk (by omega)
    refine Ev.step (fun k=>?_) (implRec_j2 kind id t refers (mkB url) lab blk ck (by omega) hlb (by omega))
    rw[impl_RecOk.j1,if_neg Bool.false_ne_true,hx,Option.bind_some]
    by_cases k3:kind=3
    ·simp only[if_pos k3]
    ·simp only[if_neg k3]
   refine Ev.step (fun k=>by rw[impl_RecOk.j0,if_neg Bool.false_ne_true]) ?_
   by_cases k0:kind=0
   ·simp only[if_pos k0,toList_mk]
    by_cases hu0:url= []
    ·simp only[if_pos hu0];simpa [hu0,k0]using j1
    ·simp only[if_neg hu0];exact implRec_no1 ..
   ·simp only[if_neg k0]
    refine(implCanB url hu).bind ?_
    cases hc:canB url
    ·simp only[Bool.not_false,Bool.false_eq_true,if_false];exact implRec_no1 ..
    ·simp only[Bool.not_true,if_true];exact j1
  ·simp only[decide_eq_false c3,Bool.false_eq_true,if_false,if_pos c3];exact implRec_no ..
 ·simp only[decide_eq_false ck,Bool.false_eq_true,if_false]
  have e:(if id<0 then false else if id>999999 then false else if ¬(0≤t∧t≤253402300799)then false else if blk.length>4000 then false
   else if kind=0 then(if url= []then recTail kind id refers lab blk else false)else(if canB url=true then recTail kind id refers lab blk else false))=false:=by
   have hr:recTail kind id refers lab blk=false:=by
    unfold recTail
    rw[if_neg (by omega),if_neg (by omega),if_neg (by omega),if_neg (by omega),if_neg (by omega)]
   rw[hr]
   split<;>(try split)<;>(try split)<;>(try split)<;>(try split)<;>(try split)<;>rfl
  rw[e]
  exact implRec_no ..
def urn:List UInt8:= [60,117,114,110,58,115,116,105,108,108,114,111,111,109,58]
theorem lit_mk (l:List UInt8):(⟨l.toArray⟩:ByteArray)=mkB l:=rfl
theorem specIdText_is (n:Nat) (h:n≤999999999999999):Ev (fun k=>spec_IdText.f k (n:Int)) (if n≤999999 then mkB (urn++Lib.decDigits n++ [62])else(⟨#[]⟩:ByteArray)):=by
 unfold spec_IdText.f
 simp only[if_neg (show ¬(n:Int)<0 by omega)]
 by_cases h1:(n:Int)>999999
 ·simp only[if_pos h1,if_neg (show ¬n≤999999 by omega)];exact Ev.now _
 ·simp only[if_neg h1,if_pos (show n≤999999 by omega)]
  have hlen:(mkB (Lib.decDigits n)).size≤15:=by rw[size_mk,Lib.decDigits_length];exact nDigits_le15 _ h
  have hsz:((⟨#[60,117,114,110,58,115,116,105,108,108,114,111,111,109,58]⟩:ByteArray)++mkB (Lib.decDigits n)).size+1≤9223372036854775807:=by
   rw[ByteArray.size_append,show(⟨#[60,117,114,110,58,115,116,105,108,108,114,111,111,109,58]⟩:ByteArray).size=15 from rfl];omega
  refine(specDec_is n h).bind ?_
  simp only[if_pos (show 15+(mkB (Lib.decDigits n)).size≤9223372036854775807 by omega),if_pos hsz]
  have e:mkB (urn++Lib.decDigits n++ [62])=(⟨#[60,117,114,110,58,115,116,105,108,108,114,111,111,109,58]⟩:ByteArray)++mkB (Lib.decDigits n)++(⟨#[62]⟩:ByteArray):=by
   rw[←mk_append,←mk_append];rfl
  rw[e];exact Ev.now _
def leapD (y:Int):Prop:=y%4=0∧(y%100≠0∨y%400=0)
instance (y:Int):Decidable (leapD y):=by unfold leapD;infer_instance
def yearD (y:Int):Int:=if leapD y then 366 else 365
def befD (y:Int):Int:=365*(y-1970)+(y-1)/4-(y-1)/100+(y-1)/400-477
def monD (y m:Int):Int:=if m=2 then(if leapD y then 29 else 28)else if m=4∨m=6∨m=9∨m=11 then 30 else 31
theorem befD_up (y:Int):befD (y+1)=befD y+yearD y:=by
 unfold befD yearD
 by_cases h:leapD y
 ·rw[if_pos h];unfold leapD at h;omega
 ·rw[if_neg h];unfold leapD at h;omega
theorem yearD_pos (y:Int):365≤yearD y∧yearD y≤366:=by unfold yearD;split<;>omega
theorem monD_pos (y m:Int):28≤monD y m∧monD y m≤31:=by unfold monD;repeat' split<;>omega
theorem befD_0:befD 1970=0:=by decide
theorem befD_low (n:Nat):befD (1970+n)≤366*n:=by unfold befD;omega
theorem befD_mono (a:Int) (n:Nat):befD a+365*n≤befD (a+n):=by
 induction n with
 |zero=>simp
 |succ n ih=>
  have h:=befD_up (a+n)
  have h2:=yearD_pos (a+n)
  have e:a+((n+1:Nat):Int)=a+n+1:=by omega
  rw[e];omega
theorem yr_ex (D:Int) (h0:0≤D) (h1:D≤2932896): ∃Y:Int,1970≤Y∧Y≤9999∧befD Y≤D∧D<befD (Y+1):=by
 have key: ∀n:Nat,D<befD (1970+n)→ ∃m:Nat,m<n∧befD (1970+m)≤D∧D<befD (1970+m+1):=by
  intro n
  induction n with
  |zero=>intro h;have:=befD_0;simp at h;omega
  |succ n ih=>
   intro h
   by_cases c:D<befD (1970+n)
   ·obtain⟨m,a,b⟩:=ih c;exact⟨m,by omega,b⟩
   ·refine⟨n,by omega,by omega,?_⟩
    have e:(1970:Int)+((n+1:Nat):Int)=1970+n+1:=by omega
    rw[e]at h;exact h
 have e:befD (1970+(8030:Nat))=2932897:=by decide
 obtain⟨m,a,b,c⟩:=key 8030 (by omega)
 exact⟨1970+m,by omega,by omega,b,c⟩
def restD (y:Int):Nat→Int→Int
 |0,_=>0
 |n+1,m=>monD y m+restD y n (m+1)
theorem restD_12 (y:Int):restD y 12 1=yearD y:=by
 unfold yearD
 by_cases h:leapD y<;>simp[restD,monD,h]
def mgoD (y:Int):Nat→Int→Int→Int×Int
 |0,d,m=>(d,m)
 |n+1,d,m=>if d≥monD y m then mgoD y n (d-monD y m) (m+1)else(d,m)
theorem mgoD_is (y:Int): ∀(n:Nat) (d m:Int),0≤d→d<restD y n m→0≤(mgoD y n d m).1∧(mgoD y n d m).1<monD y (mgoD y n d m).2∧m≤(mgoD y n d m).2∧(mgoD y n d m).2<m+n
 |0,d,m,h0,h1=>by simp[restD]at h1;omega
 |n+1,d,m,h0,h1=>by
  unfold mgoD
  unfold restD at h1
  by_cases c:d≥monD y m
  ·rw[if_pos c]
   have:=mgoD_is y n (d-monD y m) (m+1) (by omega) (by omega)
   omega
  ·rw[if_neg c];refine⟨h0,?_,?_,?_⟩<;>dsimp only<;>omega
def digsD:Nat→Nat→List UInt8
 |0,_=> []
 |c+1,n=>digsD c (n/10)++ [UInt8.ofNat (48+n%10)]
theorem digsD_len: ∀c n,(digsD c n).length=c
 |0,_=>rfl
 |c+1,n=>by rw[digsD,List.length_append,digsD_len c];rfl
theorem digsD_zero: ∀c,digsD c 0=List.replicate c 48
 |0=>rfl
 |c+1=>by rw[digsD,Nat.zero_div,digsD_zero c,List.replicate_succ'];rfl
theorem digsD_pad: ∀(c n:Nat),n<10^(c+1)→List.replicate (c+1-(Lib.decDigits n).length) 48++Lib.decDigits n=digsD (c+1) n
 |0,n,h=>by
  have h10:n<10:=by simpa using h
  rw[Lib.decDigits,dif_pos h10,digsD,digsD,Nat.mod_eq_of_lt h10];rfl
 |c+1,n,h=>by
  by_cases h10:n<10
  ·rw[Lib.decDigits,dif_pos h10,digsD,Nat.div_eq_of_lt h10,digsD_zero,Nat.mod_eq_of_lt h10];rfl
  ·have ih:=digsD_pad c (n/10) (by rw[Nat.pow_succ]at h;omega)
   rw[Lib.decDigits,dif_neg h10,digsD,←ih,List.length_append,List.length_singleton,Nat.add_sub_add_right,List.append_assoc]
theorem wid (a:Int) (h0: -9223372036854775808≤a) (h1:a≤9223372036854775807):wrap64 a=a:=wrap_id h0 h1
theorem tdv (a n:Int) (h:0≤a):Int.tdiv a n=a/n:=Int.tdiv_eq_ediv_of_nonneg h
theorem tmd (a n:Int) (h:0≤a):Int.tmod a n=a%n:=Int.tmod_eq_emod_of_nonneg h
theorem implBef_is (y:Int) (h0:1970≤y) (h1:y≤20000):impl_daysBefore.f y=some (befD y):=by
 unfold impl_daysBefore.f befD
 rw[wid (y-1970) (by omega) (by omega),wid (365*(y-1970)) (by omega) (by omega),wid (y-1) (by omega) (by omega),tdv _ 4 (by omega),tdv _ 100 (by omega),tdv _ 400 (by omega),
  wid ((y-1)/4) (by omega) (by omega),wid ((y-1)/100) (by omega) (by omega),wid ((y-1)/400) (by omega) (by omega),wid (365*(y-1970)+(y-1)/4) (by omega) (by omega),
  wid (365*(y-1970)+(y-1)/4-(y-1)/100) (by omega) (by omega),wid (365*(y-1970)+(y-1)/4-(y-1)/100+(y-1)/400) (by omega) (by omega),wid _ (by omega) (by omega)]
theorem specLeap_is (y:Int) (h0:0≤y):spec_l2leap.f y=some (decide (leapD y)):=by
 unfold spec_l2leap.f
 rw[tmd _ _ h0,tmd _ _ h0,tmd _ _ h0]
 by_cases h4:y%4=0
 ·rw[if_pos h4]
  by_cases h100:y%100=0
  ·rw[if_pos h100];congr 1
   by_cases h400:y%400=0
   ·rw[decide_eq_true (show leapD y from⟨h4,.inr h400⟩),h400];rfl
   ·rw[decide_eq_false (show ¬leapD y from fun h=>by unfold leapD at h;omega)];exact beq_eq_false_iff_ne.2 h400
  ·rw[if_neg h100,decide_eq_true (show leapD y from⟨h4,.inl h100⟩)]
 ·rw[if_neg h4,decide_eq_false (show ¬leapD y from fun h=>h4 h.1)]
theorem specYear_is (y:Int) (h0:0≤y):spec_l2year.f y=some (yearD y):=by
 unfold spec_l2year.f yearD
 rw[specLeap_is y h0,Option.bind_some]
 by_cases h:leapD y<;>simp[h]
theorem specMon_is (y m:Int) (h0:0≤y):spec_l2days.f y m=some (monD y m):=by
 unfold spec_l2days.f monD
 by_cases h2:m=2
 ·rw[if_pos h2,if_pos h2,specLeap_is y h0,Option.bind_some]
  by_cases h:leapD y<;>simp[h]
 ·rw[if_neg h2,if_neg h2]
  by_cases h4:m=4<;>by_cases h6:m=6<;>by_cases h9:m=9<;>by_cases h11:m=11<;>simp[h4,h6,h9,h11]
theorem implMon_is (y m:Int) (h0:0≤y):Ev (fun k=>impl_daysOf.f k y m) (monD y m):=by
 have hj:Ev (fun k=>impl_daysOf.j0 k m false) (if m=2 then 28 else if m=4∨m=6∨m=9∨m=11 then 30 else 31):=by
  refine Ev.step (f:=fun _=>some (if m=2 then 28 else if m=4∨m=6∨m=9∨m=11 then 30 else 31)) (fun k=>?_) (Ev.now _)
  rw[impl_daysOf.j0,if_neg Bool.false_ne_true]
  by_cases h2:m=2
  ·rw[if_pos h2,if_pos h2]
  ·rw[if_neg h2,if_neg h2]
   by_cases h4:m=4<;>by_cases h6:m=6<;>by_cases h9:m=9<;>by_cases h11:m=11<;>simp[h4,h6,h9,h11]
 have ht:Ev (fun k=>impl_daysOf.j0 k m true) 29:=Ev.step (f:=fun _=>some 29) (fun k=>by rw[impl_daysOf.j0,if_pos rfl]) (Ev.now _)
 unfold impl_daysOf.f monD
 rw[tmd _ _ h0,tmd _ _ h0,tmd _ _ h0]
 by_cases h2:m=2
 ·rw[if_pos h2]at hj
  simp only[if_pos h2]
  have h400:Ev (fun k=>impl_daysOf.j0 k m (y%400==0)) (if y%400=0 then 29 else 28):=by
   by_cases h:y%400=0
   ·rw[if_pos h,h];exact ht
   ·rw[if_neg h,beq_eq_false_iff_ne.2 h];exact hj
  by_cases h4:y%4=0
  ·simp only[if_pos h4]
   by_cases h100:y%100=0
   ·simp only[if_pos h100]
    have e:(if leapD y then(29:Int)else 28)=if y%400=0 then 29 else 28:=by
     by_cases h:y%400=0
     ·rw[if_pos h,if_pos (show leapD y from⟨h4,.inr h⟩)]
     ·rw[if_neg h,if_neg (fun q=>by unfold leapD at q;omega)]
    rw[e];exact h400
   ·simp only[if_neg h100]
    rw[if_pos (show leapD y from⟨h4,.inl h100⟩)];exact ht
  ·simp only[if_neg h4]
   rw[if_neg (fun q=>h4 (show leapD y from q).1)]
   rw[if_neg (show ¬y%400=0 by omega)]at h400
   exact h400
 ·rw[if_neg h2]at hj
  simp only[if_neg h2];exact hj
abbrev Six:=Int×Int×Int×Int×Int×Int
theorem specMon_go (y h mi s:Int) (h0:0≤y): ∀(n:Nat) (d m:Int),0≤d→d<restD y n m→1≤m→m+n≤13→d≤400→
  Ev (fun k=>spec_CivilOf.l1 k d y m 0 h mi s) (y,(mgoD y n d m).2,(mgoD y n d m).1+1,h,mi,s,true)
 |0,d,m,h1,h2,_,_,_=>by simp[restD]at h2;omega
 |n+1,d,m,h1,h2,h3,h4,h5=>by
  have hm:=monD_pos y m
  unfold restD at h2
  by_cases c:d≥monD y m
  ·have ih:=specMon_go y h mi s h0 n (d-monD y m) (m+1) (by omega) (by omega) (by omega) (by omega) (by omega)
   have e:mgoD y (n+1) d m=mgoD y n (d-monD y m) (m+1):=by rw[mgoD,if_pos c]
   rw[e]
   exact Ev.step (fun k=>by rw[spec_CivilOf.l1,specMon_is y m h0,Option.bind_some,if_pos c,Option.bind_some,wid _ (by omega) (by omega),wid _ (by omega) (by omega)]) ih
  ·have e:mgoD y (n+1) d m=(d,m):=by rw[mgoD,if_neg c]
   rw[e]
   exact Ev.step (f:=fun _=>some (y,m,d+1,h,mi,s,true)) (fun k=>by rw[spec_CivilOf.l1,specMon_is y m h0,Option.bind_some,if_neg c,wid _ (by omega) (by omega)]) (Ev.now _)
theorem implMon_go (y x h mi s:Int) (h0:0≤y): ∀(n:Nat) (d m:Int),0≤d→d<restD y n m→1≤m→m+n≤13→d≤400→
  Ev (fun k=>impl_civilOf.l1 k d y m x h mi s) (y,(mgoD y n d m).2,(mgoD y n d m).1+1,h,mi,s)
 |0,d,m,h1,h2,_,_,_=>by simp[restD]at h2;omega
 |n+1,d,m,h1,h2,h3,h4,h5=>by
  have hm:=monD_pos y m
  unfold restD at h2
  by_cases c:d≥monD y m
  ·have ih:=implMon_go y x h mi s h0 n (d-monD y m) (m+1) (by omega) (by omega) (by omega) (by omega) (by omega)
   have e:mgoD y (n+1) d m=mgoD y n (d-monD y m) (m+1):=by rw[mgoD,if_pos c]
   rw[e]
   refine Ev.step (fun k=>by rw[impl_civilOf.l1]) ?_
   refine(implMon_is y m h0).bind ?_
   simp only[if_pos c]
   refine(implMon_is y m h0).bind ?_
   rw[wid _ (by omega) (by omega),wid _ (by omega) (by omega)];exact ih
  ·have e:mgoD y (n+1) d m=(d,m):=by rw[mgoD,if_neg c]
   rw[e]
   refine Ev.step (fun k=>by rw[impl_civilOf.l1]) ?_
   refine(implMon_is y m h0).bind ?_
   simp only[if_neg c]
   rw[wid _ (by omega) (by omega)];exact Ev.now _
theorem befD_le (y:Int) (n:Nat):befD y≤befD (y+n):=by have:=befD_mono y n;omega
theorem specYr_go (D h mi s:Int) {r:Int×Int×Int×Int×Int×Int×Bool}: ∀(n:Nat) (y:Int),1970≤y→y+n≤9999→befD (y+n)≤D→D<befD (y+n+1)→D≤2932896→0≤befD y→
  Ev (fun k=>spec_CivilOf.l1 k (D-befD (y+n)) (y+n) 1 0 h mi s) r→Ev (fun k=>spec_CivilOf.l0 k (D-befD y) y 1 0 h mi s) r
 |0,y,h0,h1,h2,h3,h4,h5,hr=>by
  have e:y+((0:Nat):Int)=y:=by simp
  rw[e]at h2 h3 hr
  have hu:=befD_up y
  exact Ev.step (fun k=>by rw[spec_CivilOf.l0,specYear_is y (by omega),Option.bind_some,if_neg (by omega)]) hr
 |n+1,y,h0,h1,h2,h3,h4,h5,hr=>by
  have e:y+((n+1:Nat):Int)=(y+1)+(n:Int):=by omega
  rw[e]at h1 h2 h3 hr
  have hu:=befD_up y
  have hp:=yearD_pos y
  have hm:=befD_le (y+1) n
  have ih:=specYr_go D h mi s n (y+1) (by omega) h1 h2 h3 h4 (by omega) hr
  refine Ev.step (fun k=>?_) ih
  rw[spec_CivilOf.l0,specYear_is y (by omega),Option.bind_some,if_pos (by omega),Option.bind_some,wid _ (by omega) (by omega),wid _ (by omega) (by omega),show D-befD y-yearD y=D-befD (y+1)by omega]
theorem implYr_go (D h mi s:Int) {r:Six}: ∀(n:Nat) (y:Int),1970≤y→y+n≤9999→befD (y+n)≤D→D<befD (y+n+1)→D≤2932896→0≤befD (y+n)→
  Ev (fun k=>impl_civilOf.l1 k (D-befD (y+n)) (y+n) 1 0 h mi s) r→Ev (fun k=>impl_civilOf.l0 k D y 1 0 h mi s) r
 |0,y,h0,h1,h2,h3,h4,h5,hr=>by
  have e:y+((0:Nat):Int)=y:=by simp
  rw[e]at h2 h3 hr h5
  refine Ev.step (fun k=>?_) hr
  rw[impl_civilOf.l0,wid (y+1) (by omega) (by omega),implBef_is (y+1) (by omega) (by omega),Option.bind_some,if_neg (by omega),implBef_is y h0 (by omega),Option.bind_some,wid _ (by omega) (by omega)]
 |n+1,y,h0,h1,h2,h3,h4,h5,hr=>by
  have e:y+((n+1:Nat):Int)=(y+1)+(n:Int):=by omega
  rw[e]at h1 h2 h3 hr h5
  have hm:=befD_le (y+1) n
  have ih:=implYr_go D h mi s n (y+1) (by omega) h1 h2 h3 h4 h5 hr
  refine Ev.step (fun k=>?_) ih
  rw[impl_civilOf.l0,wid (y+1) (by omega) (by omega),implBef_is (y+1) (by omega) (by omega),Option.bind_some,if_pos (by omega)]
theorem civil_at (t Y:Int) (h0:0≤t) (h1:t≤253402300799) (y0:1970≤Y) (y1:Y≤9999) (y2:befD Y≤t/86400) (y3:t/86400<befD (Y+1)):
  (1≤(mgoD Y 12 (t/86400-befD Y) 1).2∧(mgoD Y 12 (t/86400-befD Y) 1).2≤12)∧(1≤(mgoD Y 12 (t/86400-befD Y) 1).1+1∧(mgoD Y 12 (t/86400-befD Y) 1).1+1≤31)∧
  Ev (fun k=>spec_CivilOf.f k t) (Y,(mgoD Y 12 (t/86400-befD Y) 1).2,(mgoD Y 12 (t/86400-befD Y) 1).1+1,t/3600%24,t/60%60,t%60,true)∧
  Ev (fun k=>impl_civilOf.f k t) (Y,(mgoD Y 12 (t/86400-befD Y) 1).2,(mgoD Y 12 (t/86400-befD Y) 1).1+1,t/3600%24,t/60%60,t%60):=by
 have hD0:0≤t/86400:=by omega
 have hD1:t/86400≤2932896:=by omega
 have hup:=befD_up Y
 have hyp:=yearD_pos Y
 have hB0:0≤befD Y:=by
  have:=befD_le 1970 (Y-1970).toNat
  rw[show(1970:Int)+((Y-1970).toNat:Int)=Y by omega]at this
  have:=befD_0;omega
 have hr12:=restD_12 Y
 have hd0:0≤t/86400-befD Y:=by omega
 have hd1:t/86400-befD Y<restD Y 12 1:=by omega
 obtain⟨g0,g1,g2,g3⟩:=mgoD_is Y 12 _ 1 hd0 hd1
 have hmp:=monD_pos Y (mgoD Y 12 (t/86400-befD Y) 1).2
 refine⟨⟨g2,by omega⟩,⟨?_,?_⟩,?_,?_⟩
 ·omega
 ·omega
 ·have ht:spec_l2time.f t=some true:=by
   unfold spec_l2time.f
   rw[if_pos (show t≥0 from h0),decide_eq_true h1]
  unfold spec_CivilOf.f
  simp only[ht,Option.bind_some,if_true]
  rw[tdv _ _ h0,tdv _ _ h0,tdv _ _ h0,tmd t 60 h0,wid (t/86400) (by omega) (by omega),wid (t/3600) (by omega) (by omega),wid (t/60) (by omega) (by omega),tmd (t/3600) 24 (by omega),tmd (t/60) 60 (by omega)]
  have:=specYr_go (t/86400) (t/3600%24) (t/60%60) (t%60) (Y-1970).toNat 1970 (by omega) (by omega) (by rw[show(1970:Int)+((Y-1970).toNat:Int)=Y by omega];exact y2) (by rw[show(1970:Int)+((Y-1970).toNat:Int)=Y by omega];exact y3) hD1 (by rw[befD_0];omega)
   (by rw[show(1970:Int)+((Y-1970).toNat:Int)=Y by omega];exact specMon_go Y _ _ _ (by omega) 12 _ 1 hd0 hd1 (by omega) (by omega) (by omega))
  rw[befD_0,Int.sub_zero]at this
  exact this
 ·have hy0:=befD_low (t/86400/366).toNat
  have hn:((t/86400/366).toNat:Int)=t/86400/366:=by omega
  rw[hn]at hy0
  have hle:1970+t/86400/366≤Y:=by
   by_cases c:1970+t/86400/366≤Y
   ·exact c
   ·have:=befD_le (Y+1) (1970+t/86400/366-(Y+1)).toNat
    rw[show(Y+1)+((1970+t/86400/366-(Y+1)).toNat:Int)=1970+t/86400/366 by omega]at this
    omega
  unfold impl_civilOf.f
  rw[tdv t 86400 h0,tmd t 86400 h0,wid (t/86400) (by omega) (by omega),tdv _ 366 (by omega),wid (t/86400/366) (by omega) (by omega),wid (1970+_) (by omega) (by omega),tdv _ 3600 (by omega),tdv _ 60 (by omega),wid (t%86400/3600) (by omega) (by omega),wid (t%86400/60) (by omega) (by omega),tmd _ 60 (by omega),tmd _ 60 (by omega)]
  have e1:t%86400/3600=t/3600%24:=by omega
  have e2:t%86400/60%60=t/60%60:=by omega
  have e3:t%86400%60=t%60:=by omega
  rw[e1,e2]
  try rw[e3]
  refine implYr_go (t/86400) _ _ _ (Y-(1970+t/86400/366)).toNat (1970+t/86400/366) (by omega) (by omega) ?_ ?_ hD1 ?_ ?_
  all_goals rw[show(1970+t/86400/366)+((Y-(1970+t/86400/366)).toNat:Int)=Y by omega]
  ·exact y2
  ·exact y3
  ·exact hB0
  ·exact implMon_go Y _ _ _ _ (by omega) 12 _ 1 hd0 hd1 (by omega) (by omega) (by omega)
theorem Ev.ifp {α:Type} {c:Prop} [Decidable c] {f g:Nat→Option α} {r:α} (hc:c) (h:Ev f r):Ev (fun k=>if c then f k else g k) r:=by simp only[if_pos hc];exact h
theorem specPad_go (c:Nat): ∀(j:Nat) (l:List UInt8),l.length+j=c→c≤100→Ev (fun k=>spec_l2pad.l0 k (c:Int) (mkB l)) (mkB (List.replicate j 48++l))
 |0,l,h,hc=>Ev.step (f:=fun _=>some (mkB l)) (fun k=>by rw[spec_l2pad.l0,size_mk,if_neg (by omega)]) (Ev.now _)
 |j+1,l,h,hc=>by
  have ih:=specPad_go c j (48::l) (by simp;omega) hc
  have e:List.replicate j (48:UInt8)++48::l=List.replicate (j+1) 48++l:=by rw[List.replicate_succ',List.append_assoc];rfl
  rw[e]at ih
  refine Ev.step (fun k=>?_) ih
  rw[spec_l2pad.l0,size_mk,if_pos (by omega),if_pos (by omega),show(⟨#[48]⟩:ByteArray)=mkB [48]from rfl,mk_append]
  rfl
theorem specPad_is (n c:Nat) (hc:c+1≤10) (h:n<10^(c+1)):Ev (fun k=>spec_l2pad.f k (n:Int) ((c+1:Nat):Int)) (mkB (digsD (c+1) n)):=by
 have hp:=digsD_pad c n h
 have hl:=congrArg List.length hp
 rw[List.length_append,List.length_replicate,digsD_len]at hl
 have hb:(10:Nat)^(c+1)≤10^10:=Nat.pow_le_pow_right (by omega) hc
 have h10:(10:Nat)^10=10000000000:=by decide
 unfold spec_l2pad.f
 refine(specDec_is n (by omega)).bind ?_
 have:=specPad_go (c+1) (c+1-(Lib.decDigits n).length) (Lib.decDigits n) (by omega) (by omega)
 rw[hp]at this
 exact this
theorem implDig_go: ∀(c n:Nat) (out:List UInt8),n≤1000000→out.length+c≤100→Ev (fun k=>impl_digits.l0 k (n:Int) (c:Int) (mkB out)) (mkB (digsD c n++out))
 |0,n,out,_,_=>Ev.step (f:=fun _=>some (mkB out)) (fun k=>by rw[impl_digits.l0,if_neg (by omega)]) (Ev.now _)
 |c+1,n,out,hn,ho=>by
  have ih:=implDig_go c (n/10) (UInt8.ofNat (48+n%10)::out) (by omega) (by simp;omega)
  have e:digsD (c+1) n++out=digsD c (n/10)++UInt8.ofNat (48+n%10)::out:=by rw[digsD,List.append_assoc];rfl
  rw[e]
  refine Ev.step (fun k=>?_) ih
  have hi:=itoa_is (n%10) (by omega)
  rw[Lib.decDigits_one (show n%10<10 by omega)]at hi
  rw[impl_digits.l0,if_pos (by omega),tmd _ _ (by omega),tdv _ _ (by omega),show((n:Int)%10)=((n%10:Nat):Int)by omega,hi,Option.bind_some,size_mk,size_mk,if_pos (by simp;omega),mk_append,wid _ (by omega) (by omega),wid _ (by omega) (by omega),
   show((n:Int)/10)=((n/10:Nat):Int)by omega,show(((c+1:Nat):Int)-1)=(c:Int)by omega]
  rfl
theorem implDig_is (n c:Nat) (hn:n≤1000000) (hc:c≤100):Ev (fun k=>impl_digits.f k (n:Int) (c:Int)) (mkB (digsD c n)):=by
 have:=implDig_go c n [] hn (by simpa using hc)
 rw[List.append_nil]at this
 exact this
def preD (y:Int):Nat→Int
 |0=>0
 |n+1=>preD y n+monD y ((n:Int)+1)
theorem preD_pos (y:Int): ∀n:Nat,28*(n:Int)≤preD y n∧preD y n≤31*(n:Int)
 |0=>by simp[preD]
 |n+1=>by
  have h:=preD_pos y n
  have hm:=monD_pos y ((n:Int)+1)
  rw[preD];omega
theorem restD_split (y:Int): ∀(n j:Nat) (m:Int),restD y (n+j) m=restD y n m+restD y j (m+n)
 |0,j,m=>by simp[restD]
 |n+1,j,m=>by
  have h:=restD_split y n j (m+1)
  have e:n+1+j=(n+j)+1:=by omega
  rw[e,restD,restD,h,show m+1+(n:Int)=m+((n+1:Nat):Int)by omega];omega
theorem restD_pre (y:Int): ∀n:Nat,restD y n 1=preD y n
 |0=>rfl
 |n+1=>by
  have h:=restD_split y n 1 1
  rw[restD_pre y n]at h
  rw[h,preD]
  simp only[restD]
  rw[show(1:Int)+(n:Int)=(n:Int)+1 by omega];omega
theorem restD_nonneg (y:Int): ∀(n:Nat) (m:Int),0≤restD y n m
 |0,m=>by simp[restD]
 |n+1,m=>by
  have h:=restD_nonneg y n (m+1)
  have hm:=monD_pos y m
  rw[restD];omega
theorem mgoD_to (y r:Int): ∀(n j:Nat) (m:Int),0≤r→r<monD y (m+n)→mgoD y (n+(j+1)) (restD y n m+r) m=(r,m+n)
 |0,j,m,h0,h1=>by
  have e:restD y 0 m+r=r:=by simp[restD]
  have e2:m+((0:Nat):Int)=m:=by simp
  rw[e2]at h1
  rw[Nat.zero_add,e,mgoD,if_neg (by omega),e2]
 |n+1,j,m,h0,h1=>by
  have hn:=restD_nonneg y n (m+1)
  have e:n+1+(j+1)=(n+(j+1))+1:=by omega
  have e2:m+((n+1:Nat):Int)=m+1+(n:Int):=by omega
  rw[e2]at h1
  have ih:=mgoD_to y r n j (m+1) h0 h1
  rw[e,mgoD,restD,if_pos (by omega),show monD y m+restD y n (m+1)+r-monD y m=restD y n (m+1)+r by omega,ih,e2]
def secD (Y:Int) (n:Nat) (d h mi s:Int):Int:=(((befD Y+preD Y n+d-1)*24+h)*60+mi)*60+s
theorem secD_day (Y:Int) (n:Nat) (d h mi s:Int) (hh:0≤h∧h≤23) (hm:0≤mi∧mi≤59) (hs:0≤s∧s≤59):
  secD Y n d h mi s/86400=befD Y+preD Y n+d-1∧secD Y n d h mi s/3600%24=h∧secD Y n d h mi s/60%60=mi∧secD Y n d h mi s%60=s:=by
 unfold secD
 obtain⟨X,hX⟩: ∃X,befD Y+preD Y n+d-1=X:=⟨_,rfl⟩
 rw[hX]
 omega
theorem civil_back (Y:Int) (n:Nat) (d h mi s:Int) (hY:1970≤Y∧Y≤9999) (hn:n≤11) (hd:1≤d∧d≤monD Y ((n:Int)+1)) (hh:0≤h∧h≤23) (hm:0≤mi∧mi≤59) (hs:0≤s∧s≤59):
  (0≤secD Y n d h mi s∧secD Y n d h mi s≤253402300799)∧Ev (fun k=>spec_CivilOf.f k (secD Y n d h mi s)) (Y,(n:Int)+1,d,h,mi,s,true)∧Ev (fun k=>impl_civilOf.f k (secD Y n d h mi s)) (Y,(n:Int)+1,d,h,mi,s):=by
 obtain⟨e1,e2,e3,e4⟩:=secD_day Y n d h mi s hh hm hs
 have hp:=preD_pos Y n
 have hmm:=monD_pos Y ((n:Int)+1)
 have h12:=restD_12 Y
 have hsp:=restD_split Y n (11-n) 1
 have hsp2:=restD_split Y (n+1) (11-n) 1
 rw[show n+1+(11-n)=12 by omega,restD_pre Y (n+1),preD]at hsp2
 have hnn:=restD_nonneg Y (11-n) (1+((n+1:Nat):Int))
 have hup:=befD_up Y
 have hB0:0≤befD Y:=by
  have:=befD_le 1970 (Y-1970).toNat
  rw[show(1970:Int)+((Y-1970).toNat:Int)=Y by omega]at this
  have:=befD_0;omega
 have hB1:befD (Y+1)≤2932897:=by
  have:=befD_le (Y+1) (10000-(Y+1)).toNat
  rw[show Y+1+((10000-(Y+1)).toNat:Int)=10000 by omega]at this
  have e:befD 10000=2932897:=by decide
  omega
 have y2:befD Y≤secD Y n d h mi s/86400:=by omega
 have y3:secD Y n d h mi s/86400<befD (Y+1):=by omega
 have t0:0≤secD Y n d h mi s:=by omega
 have t1:secD Y n d h mi s≤253402300799:=by omega
 obtain⟨_,_,c1,c2⟩:=civil_at _ Y t0 t1 hY.1 hY.2 y2 y3
 have hg:mgoD Y 12 (secD Y n d h mi s/86400-befD Y) 1=(d-1,1+(n:Int)):=by
  have:=mgoD_to Y (d-1) n (11-n) 1 (by omega) (by rw[show(1:Int)+(n:Int)=(n:Int)+1 by omega];omega)
  rw[show n+(11-n+1)=12 by omega,restD_pre]at this
  rw[←this,e1];congr 1;omega
 rw[hg,e2,e3,e4]at c1 c2
 have ed:d-1+1=d:=by omega
 have en:(1:Int)+(n:Int)=(n:Int)+1:=by omega
 simp only[ed,en]at c1 c2
 exact⟨⟨t0,t1⟩,c1,c2⟩
theorem civil_sec (t:Int) (h0:0≤t) (h1:t≤253402300799): ∃(Y:Int) (n:Nat) (d h mi s:Int),t=secD Y n d h mi s∧(1970≤Y∧Y≤9999)∧n≤11∧(1≤d∧d≤monD Y ((n:Int)+1))∧(0≤h∧h≤23)∧(0≤mi∧mi≤59)∧(0≤s∧s≤59):=by
 obtain⟨Y,y0,y1,y2,y3⟩:=yr_ex (t/86400) (by omega) (by omega)
 have hup:=befD_up Y
 have h12:=restD_12 Y
 have key: ∀(k:Nat) (x:Int),k≤12→0≤x→x<restD Y k (((12-k:Nat):Int)+1)→ ∃n:Nat,12-k≤n∧n≤11∧preD Y n≤x+preD Y (12-k)∧x+preD Y (12-k)<preD Y n+monD Y ((n:Int)+1):=by
  intro k
  induction k with
  |zero=>intro x _ hx0 hx;simp[restD]at hx;omega
  |succ k ih=>
   intro x hk hx0 hx
   rw[restD]at hx
   by_cases c:x<monD Y (((12-(k+1):Nat):Int)+1)
   ·exact⟨12-(k+1),by omega,by omega,by omega,by omega⟩
   ·have e:12-k=(12-(k+1))+1:=by omega
    have ep:preD Y (12-k)=preD Y (12-(k+1))+monD Y (((12-(k+1):Nat):Int)+1):=by rw[e,preD]
    have ei:(((12-k:Nat)):Int)+1=((12-(k+1):Nat):Int)+1+1:=by omega
    obtain⟨n,a,b,c1,c2⟩:=ih (x-monD Y (((12-(k+1):Nat):Int)+1)) (by omega) (by omega) (by rw[ei];omega)
    exact⟨n,by omega,b,by omega,by omega⟩
 obtain⟨n,_,hn,c1,c2⟩:=key 12 (t/86400-befD Y) (by omega) (by omega) (by
  show _<restD Y 12 (((0:Nat):Int)+1)
  rw[show((0:Nat):Int)+1=1 by rfl,h12];omega)
 have e0:preD Y (12-12)=0:=rfl
 rw[e0]at c1 c2
 refine⟨Y,n,t/86400-befD Y-preD Y n+1,t/3600%24,t/60%60,t%60,?_,⟨y0,y1⟩,hn,⟨by omega,by omega⟩,⟨by omega,by omega⟩,⟨by omega,by omega⟩,⟨by omega,by omega⟩⟩
 unfold secD
 rw[show befD Y+preD Y n+(t/86400-befD Y-preD Y n+1)-1=t/86400 by omega]
 omega
def validD (Y M d h mi s:Int):Prop:=1970≤Y∧Y≤9999∧1≤M∧M≤12∧1≤d∧d≤monD Y M∧0≤h∧h≤23∧0≤mi∧mi≤59∧0≤s∧s≤59
instance (Y M d h mi s:Int):Decidable (validD Y M d h mi s):=by unfold validD;infer_instance
def warcL (Y M d h mi s:Nat):List UInt8:=digsD 4 Y++ [45]++digsD 2 M++ [45]++digsD 2 d++ [84]++(digsD 2 h++ [58]++digsD 2 mi++ [58]++digsD 2 s)++ [90]
theorem warcL_len (Y M d h mi s:Nat):(warcL Y M d h mi s).length=20:=by simp[warcL,digsD_len]
theorem specClock_is (Y M d:Int) (h mi s:Nat) (hh:h≤23) (hmi:mi≤59) (hse:s≤59):Ev (fun k=>spec_l2clock.f k Y M d (h:Int) (mi:Int) (s:Int)) (mkB (digsD 2 h++ [58]++digsD 2 mi++ [58]++digsD 2 s)):=by
 have z:=digsD_len
 have a4:=specPad_is h 1 (by decide) (show h<100 by omega)
 have a5:=specPad_is mi 1 (by decide) (show mi<100 by omega)
 have a6:=specPad_is s 1 (by decide) (show s<100 by omega)
 have ec:(⟨#[58]⟩:ByteArray)=mkB [58]:=rfl
 unfold spec_l2clock.f
 simp only[ec]
 refine a4.bind (Ev.ifp (by simp only[mk_append,size_mk,List.length_append,List.length_cons,List.length_nil,z];omega) (a5.bind (Ev.ifp (by simp only[mk_append,size_mk,List.length_append,List.length_cons,List.length_nil,z];omega) (Ev.ifp (by simp only[mk_append,size_mk,List.length_append,List.length_cons,List.length_nil,z];omega) (a6.bind (Ev.ifp (by simp only[mk_append,size_mk,List.length_append,List.length_cons,List.length_nil,z];omega) ?_))))))
 simp only[mk_append]
 exact Ev.now _
theorem warc_of (t:Int) (h0:0≤t) (h1:t≤253402300799) (Y M d h mi s:Nat) (hY:Y≤9999) (hM:M≤12) (hd:d≤31) (hh:h≤23) (hmi:mi≤59) (hse:s≤59)
  (hs:Ev (fun k=>spec_CivilOf.f k t) ((Y:Int),(M:Int),(d:Int),(h:Int),(mi:Int),(s:Int),true)) (hi:Ev (fun k=>impl_civilOf.f k t) ((Y:Int),(M:Int),(d:Int),(h:Int),(mi:Int),(s:Int))):
  Ev (fun k=>spec_WarcDate.f k t) (mkB (warcL Y M d h mi s))∧Ev (fun k=>impl_WarcDate.f k t) (mkB (warcL Y M d h mi s)):=by
 unfold warcL
 have z:=digsD_len
 have a1:=specPad_is Y 3 (by decide) (show Y<10000 by omega)
 have a2:=specPad_is M 1 (by decide) (show M<100 by omega)
 have a3:=specPad_is d 1 (by decide) (show d<100 by omega)
 have ac:=specClock_is (Y:Int) (M:Int) (d:Int) h mi s hh hmi hse
 have b1:=implDig_is Y 4 (by omega) (by decide)
 have b2:=implDig_is M 2 (by omega) (by decide)
 have b3:=implDig_is d 2 (by omega) (by decide)
 have b4:=implDig_is h 2 (by omega) (by decide)
 have b5:=implDig_is mi 2 (by omega) (by decide)
 have b6:=implDig_is s 2 (by omega) (by decide)
 have e45:(⟨#[45]⟩:ByteArray)=mkB [45]:=rfl
 have e84:(⟨#[84]⟩:ByteArray)=mkB [84]:=rfl
 have e58:(⟨#[58]⟩:ByteArray)=mkB [58]:=rfl
 have e90:(⟨#[90]⟩:ByteArray)=mkB [90]:=rfl
 refine⟨?_,?_⟩
 ·unfold spec_WarcDate.f
  refine hs.bind ?_
  simp only[if_true,e45,e84,e90]
  refine a1.bind (Ev.ifp (by simp only[mk_append,size_mk,List.length_append,List.length_cons,List.length_nil,z];omega) (a2.bind (Ev.ifp (by simp only[mk_append,size_mk,List.length_append,List.length_cons,List.length_nil,z];omega) (Ev.ifp (by simp only[mk_append,size_mk,List.length_append,List.length_cons,List.length_nil,z];omega) (a3.bind (Ev.ifp (by simp only[mk_append,size_mk,List.length_append,List.length_cons,List.length_nil,z];omega) (Ev.ifp (by simp only[mk_append,size_mk,List.length_append,List.length_cons,List.length_nil,z];omega)
   (ac.bind (Ev.ifp (by simp only[mk_append,size_mk,List.length_append,List.length_cons,List.length_nil,z];omega) (Ev.ifp (by simp only[mk_append,size_mk,List.length_append,List.length_cons,List.length_nil,z];omega) ?_))))))))))
  simp only[mk_append]
  exact Ev.now _
 ·have ht:impl_isTime.f t=some true:=by
   unfold impl_isTime.f;rw[within_is]
   rw[decide_eq_true h0,decide_eq_true h1];rfl
  unfold impl_WarcDate.f impl_dateText.f
  refine Ev.bind (a:=mkB (digsD 4 Y++ [45]++digsD 2 M++ [45]++digsD 2 d++ [84]++digsD 2 h++ [58]++digsD 2 mi++ [58]++digsD 2 s++ [90])) ?_ ?_
  ·simp only[ht,Option.bind_some,if_true,e45,e84,e58,e90]
   refine hi.bind ?_
   refine b1.bind (Ev.ifp (by simp only[mk_append,size_mk,List.length_append,List.length_cons,List.length_nil,z];omega) (b2.bind (Ev.ifp (by simp only[mk_append,size_mk,List.length_append,List.length_cons,List.length_nil,z];omega) (Ev.ifp (by simp only[mk_append,size_mk,List.length_append,List.length_cons,List.length_nil,z];omega)
    (b3.bind (Ev.ifp (by simp only[mk_append,size_mk,List.length_append,List.length_cons,List.length_nil,z];omega) (Ev.ifp (by simp only[mk_append,size_mk,List.length_append,List.length_cons,List.length_nil,z];omega)
    (b4.bind (Ev.ifp (by simp only[mk_append,size_mk,List.length_append,List.length_cons,List.length_nil,z];omega) (Ev.ifp (by simp only[mk_append,size_mk,List.length_append,List.length_cons,List.length_nil,z];omega)
    (b5.bind (Ev.ifp (by simp only[mk_append,size_mk,List.length_append,List.length_cons,List.length_nil,z];omega) (Ev.ifp (by simp only[mk_append,size_mk,List.length_append,List.length_cons,List.length_nil,z];omega)
    (b6.bind (Ev.ifp (by simp only[mk_append,size_mk,List.length_append,List.length_cons,List.length_nil,z];omega) (Ev.ifp (by simp only[mk_append,size_mk,List.length_append,List.length_cons,List.length_nil,z];omega) ?_))))))))))))))))
   simp only[mk_append]
   exact Ev.now _
  ·have e:digsD 4 Y++ [45]++digsD 2 M++ [45]++digsD 2 d++ [84]++digsD 2 h++ [58]++digsD 2 mi++ [58]++digsD 2 s++ [90]=digsD 4 Y++ [45]++digsD 2 M++ [45]++digsD 2 d++ [84]++(digsD 2 h++ [58]++digsD 2 mi++ [58]++digsD 2 s)++ [90]:=by simp only[List.append_assoc]
   rw[e];exact Ev.now _
theorem warc_back (t:Int) (h0:0≤t) (h1:t≤253402300799): ∃Y M d h mi s:Nat,validD Y M d h mi s∧t=secD Y ((M:Int)-1).toNat d h mi s∧Ev (fun k=>spec_WarcDate.f k t) (mkB (warcL Y M d h mi s))∧Ev (fun k=>impl_WarcDate.f k t) (mkB (warcL Y M d h mi s)):=by
 obtain⟨Y,n,d,h,mi,s,rfl,hY,hn,hd,hh,hm,hs⟩:=civil_sec t h0 h1
 have hmp:=monD_pos Y ((n:Int)+1)
 have nat: ∀x:Int,0≤x→ ∃n:Nat,x=(n:Int):=fun x q=>⟨x.toNat,by omega⟩
 obtain⟨_,b1,b2⟩:=civil_back Y n d h mi s hY hn hd hh hm hs
 obtain⟨Y,rfl⟩:=nat Y (by omega)
 obtain⟨d,rfl⟩:=nat d (by omega)
 obtain⟨h,rfl⟩:=nat h (by omega)
 obtain⟨mi,rfl⟩:=nat mi (by omega)
 obtain⟨s,rfl⟩:=nat s (by omega)
 have en:(n:Int)+1=((n+1:Nat):Int):=by omega
 rw[en]at b1 b2
 obtain⟨s1,s2⟩:=warc_of _ h0 h1 Y (n+1) d h mi s (by omega) (by omega) (by omega) (by omega) (by omega) (by omega) b1 b2
 refine⟨Y,n+1,d,h,mi,s,⟨hY.1,hY.2,by omega,by omega,hd.1,by rw[←en];exact hd.2,hh.1,hh.2,hm.1,hm.2,hs.1,hs.2⟩,?_,s1,s2⟩
 rw[show(((n+1:Nat):Int)-1).toNat=n by omega]
def kindL (kd:Int):List UInt8:=if kd=0 then [119,97,114,99,105,110,102,111]else if kd=1 then [114,101,113,117,101,115,116]else if kd=2 then [114,101,115,112,111,110,115,101]else if kd=3 then [114,101,118,105,115,105,116]else if kd=4 then [109,101,116,97,100,97,116,97]else []
theorem kindL_len (kd:Int):(kindL kd).length≤8:=by unfold kindL;split;decide;split;decide;split;decide;split;decide;split<;>decide
theorem specKind_is (kd:Int):spec_KindName.f kd=some (mkB (kindL kd)):=by
 unfold spec_KindName.f kindL
 by_cases k0:kd=0
 ·simp only[if_pos k0];rfl
 by_cases k1:kd=1
 ·simp only[if_neg k0,if_pos k1];rfl
 by_cases k2:kd=2
 ·simp only[if_neg k0,if_neg k1,if_pos k2];rfl
 by_cases k3:kd=3
 ·simp only[if_neg k0,if_neg k1,if_neg k2,if_pos k3];rfl
 by_cases k4:kd=4
 ·simp only[if_neg k0,if_neg k1,if_neg k2,if_neg k3,if_pos k4];rfl
 simp only[if_neg k0,if_neg k1,if_neg k2,if_neg k3,if_neg k4];rfl
theorem implKind_is (kd:Int):impl_KindName.f kd=some (mkB (kindL kd)):=by
 unfold impl_KindName.f
 rw[withinR_is]
 by_cases h:0≤kd∧kd≤4
 ·simp only[decide_eq_true h,Option.bind_some,if_true]
  rcases(by omega:kd=0∨kd=1∨kd=2∨kd=3∨kd=4)with rfl|rfl|rfl|rfl|rfl<;>rfl
 ·simp only[decide_eq_false h,Option.bind_some,Bool.false_eq_true,if_false]
  unfold kindL
  rw[if_neg (by omega),if_neg (by omega),if_neg (by omega),if_neg (by omega),if_neg (by omega)];rfl
def idL (n:Nat):List UInt8:=urn++Lib.decDigits n++ [62]
theorem decLen15 (n:Nat) (h:n≤999999999999999):(Lib.decDigits n).length≤15:=by rw[Lib.decDigits_length];exact nDigits_le15 _ h
theorem idL_len (n:Nat) (h:n≤999999):(idL n).length≤31:=by have:=decLen15 n (by omega);unfold idL urn;simp;omega
theorem specId_ok (n:Nat) (h:n≤999999):Ev (fun k=>spec_IdText.f k (n:Int)) (mkB (idL n)):=by have:=specIdText_is n (by omega);rw[if_pos h]at this;exact this
theorem implId_ok (n:Nat) (h:n≤999999):impl_IdText.f (n:Int)=some (mkB (idL n)):=by
 unfold impl_IdText.f impl_isId.f
 rw[withinR_is,decide_eq_true (by omega:(0:Int)≤n∧(n:Int)≤999999)]
 simp only[Option.bind_some,if_true,itoa_is n (by omega)]
 have hlen:=decLen15 n (by omega)
 simp only[lit_mk,mk_append,size_mk,List.length_append,List.length_cons,List.length_nil,Nat.reduceAdd]
 rw[if_pos (by omega),if_pos (by omega)];rfl
theorem Ev.pos {α:Type} {c:Prop} [Decidable c] {f g:Nat→Option α} {v:α} (h:c) (e:Ev f v):Ev (fun k=>if c then f k else g k) v:=by simp only[if_pos h];exact e
theorem Ev.neg {α:Type} {c:Prop} [Decidable c] {f g:Nat→Option α} {v:α} (h: ¬c) (e:Ev g v):Ev (fun k=>if c then f k else g k) v:=by simp only[if_neg h];exact e
def tail3 (kd:Int) (blk:List UInt8):List UInt8:= [87,65,82,67,45,66,108,111,99,107,45,68,105,103,101,115,116,58,32]++labB blk++ [13,10,67,111,110,116,101,110,116,45,84,121,112,101,58,32,97,112,112,108,105,99,97,116,105,111,110,47]++(if kd=0∨kd=4 then [119,97,114,99,45,102,105,101,108,100,115]else [104,116,116,112])++ [13,10,67,111,110,116,101,110,116,45,76,101,110,103,116,104,58,32]++Lib.decDigits blk.length++ [13,10,13,10]++blk++ [13,10,13,10]
def tail2 (kd:Int) (lab blk:List UInt8):List UInt8:=(if kd=2∨kd=3 then [87,65,82,67,45,80,97,121,108,111,97,100,45,68,105,103,101,115,116,58,32]++lab++ [13,10]else [])++tail3 kd blk
def tail0 (kd:Int) (rf:Nat) (lab blk:List UInt8):List UInt8:=(if kd=3 then [87,65,82,67,45,82,101,102,101,114,115,45,84,111,58,32]++idL rf++ [13,10,87,65,82,67,45,80,114,111,102,105,108,101,58,32,105,100,101,110,116,105,99,97,108,45,112,97,121,108,111,97,100,45,100,105,103,101,115,116,13,10]else [])++tail2 kd lab blk
def recL (kd:Int) (id:Nat) (date url:List UInt8) (rf:Nat) (lab blk:List UInt8):List UInt8:= [87,65,82,67,47,49,46,49,13,10,87,65,82,67,45,84,121,112,101,58,32]++kindL kd++ [13,10,87,65,82,67,45,82,101,99,111,114,100,45,73,68,58,32]++idL id++ [13,10,87,65,82,67,45,68,97,116,101,58,32]++date++ [13,10]++(if kd=0 then []else [87,65,82,67,45,84,97,114,103,101,116,45,85,82,73,58,32]++url++ [13,10])++tail0 kd rf lab blk
theorem specT3 (s:List UInt8) (kd id tm rf:Int) (url lab:ByteArray) (blk:List UInt8) (hs:s.length≤9000000) (hb:blk.length≤4000):Ev (fun k=>spec_l8text.j3 k (mkB s) kd id tm url rf lab (mkB blk)) (mkB (s++tail3 kd blk)):=by
 have hl:=labB_len blk
 have hd:=decLen15 blk.length (by omega)
 refine Ev.step (fun k=>by rw[spec_l8text.j3]) ?_
 simp only[lit_mk,mk_append,size_mk,List.length_append,List.length_cons,List.length_nil,Nat.reduceAdd]
 refine Ev.pos (by omega) ?_
 refine(specLab_is blk (by omega)).bind ?_
 simp only[mk_append,size_mk,List.length_append,List.length_cons,List.length_nil,Nat.reduceAdd,hl]
 refine Ev.pos (by omega) ?_
 refine Ev.pos (by omega) ?_
 unfold tail3
 by_cases k0:kd=0
 ·simp only[if_pos k0,if_pos (Or.inl k0:kd=0∨kd=4)]
  refine Ev.pos (by omega) ?_
  refine Ev.pos (by omega) ?_
  refine(specDec_is blk.length (by omega)).bind ?_
  simp only[mk_append,size_mk,List.length_append,List.length_cons,List.length_nil,Nat.reduceAdd,hl]
  refine Ev.pos (by omega) ?_
  refine Ev.pos (by omega) ?_
  refine Ev.pos (by omega) ?_
  refine Ev.pos (by omega) ?_
  simp only[←List.append_assoc];exact Ev.now _
 by_cases k4:kd=4
 ·simp only[if_neg k0,if_pos k4,if_pos (Or.inr k4:kd=0∨kd=4)]
  refine Ev.pos (by omega) ?_
  refine Ev.pos (by omega) ?_
  refine(specDec_is blk.length (by omega)).bind ?_
  simp only[mk_append,size_mk,List.length_append,List.length_cons,List.length_nil,Nat.reduceAdd,hl]
  refine Ev.pos (by omega) ?_
  refine Ev.pos (by omega) ?_
  refine Ev.pos (by omega) ?_
  refine Ev.pos (by omega) ?_
  simp only[←List.append_assoc];exact Ev.now _
 ·simp only[if_neg k0,if_neg k4,if_neg (show ¬(kd=0∨kd=4)by omega)]
  refine Ev.pos (by omega) ?_
  refine Ev.pos (by omega) ?_
  refine(specDec_is blk.length (by omega)).bind ?_
  simp only[mk_append,size_mk,List.length_append,List.length_cons,List.length_nil,Nat.reduceAdd,hl]
  refine Ev.pos (by omega) ?_
  refine Ev.pos (by omega) ?_
  refine Ev.pos (by omega) ?_
  refine Ev.pos (by omega) ?_
  simp only[←List.append_assoc];exact Ev.now _
theorem specT2 (s:List UInt8) (kd id tm rf:Int) (url:ByteArray) (lab blk:List UInt8) (hs:s.length≤6000000) (hlb:lab.length≤1048576) (hb:blk.length≤4000):Ev (fun k=>spec_l8text.j1 k (mkB s) kd id tm url rf (mkB lab) (mkB blk)) (mkB (s++tail2 kd lab blk)):=by
 have go: ∀c:Bool,(c=true)=(kd=2∨kd=3)→Ev (fun k=>spec_l8text.j2 k (mkB s) c kd id tm url rf (mkB lab) (mkB blk)) (mkB (s++tail2 kd lab blk)):=by
  intro c hc
  refine Ev.step (fun k=>by rw[spec_l8text.j2]) ?_
  unfold tail2
  by_cases k2:c=true
  ·rw[if_pos (show kd=2∨kd=3 from hc ▸ k2)]
   refine Ev.pos k2 ?_
   simp only[lit_mk,mk_append,size_mk,List.length_append,List.length_cons,List.length_nil,Nat.reduceAdd]
   refine Ev.pos (by omega) ?_
   refine Ev.pos (by omega) ?_
   refine Ev.pos (by omega) ?_
   have:=specT3 (s++ [87,65,82,67,45,80,97,121,108,111,97,100,45,68,105,103,101,115,116,58,32]++lab++ [13,10]) kd id tm rf url (mkB lab) blk (by simp;omega) hb
   simp only[List.append_assoc]at this ⊢;exact this
  ·rw[if_neg (show ¬(kd=2∨kd=3)from fun h=>k2 (hc.symm ▸ h))]
   refine Ev.neg k2 ?_
   exact specT3 s kd id tm rf url (mkB lab) blk (by omega) hb
 refine Ev.step (fun k=>by rw[spec_l8text.j1]) ?_
 by_cases k2:kd=2
 ·simp only[if_pos k2];exact go true (by simp[k2])
 ·simp only[if_neg k2];exact go (kd==3) (by simp[k2])
theorem specT0 (s:List UInt8) (kd id tm:Int) (rf:Nat) (url:ByteArray) (lab blk:List UInt8) (hs:s.length≤4000000) (hlb:lab.length≤1048576) (hb:blk.length≤4000) (hr:kd=3→rf≤999999):Ev (fun k=>spec_l8text.j0 k (mkB s) kd id tm url (rf:Int) (mkB lab) (mkB blk)) (mkB (s++tail0 kd rf lab blk)):=by
 refine Ev.step (fun k=>by rw[spec_l8text.j0]) ?_
 unfold tail0
 by_cases k3:kd=3
 ·have hil:=idL_len rf (hr k3)
  rw[if_pos (show kd=3 from k3)]
  refine Ev.pos k3 ?_
  simp only[lit_mk,mk_append,size_mk,List.length_append,List.length_cons,List.length_nil,Nat.reduceAdd]
  refine Ev.pos (by omega) ?_
  refine(specId_ok rf (hr k3)).bind ?_
  simp only[mk_append,size_mk,List.length_append,List.length_cons,List.length_nil,Nat.reduceAdd]
  refine Ev.pos (by omega) ?_
  refine Ev.pos (by omega) ?_
  have:=specT2 (s++ [87,65,82,67,45,82,101,102,101,114,115,45,84,111,58,32]++idL rf++ [13,10,87,65,82,67,45,80,114,111,102,105,108,101,58,32,105,100,101,110,116,105,99,97,108,45,112,97,121,108,111,97,100,45,100,105,103,101,115,116,13,10]) kd id tm (rf:Int) url lab blk (by simp;omega) hlb hb
  simp only[List.append_assoc]at this ⊢;exact this
 ·rw[if_neg (show ¬kd=3 from k3)]
  refine Ev.neg k3 ?_
  exact specT2 s kd id tm rf url lab blk (by omega) hlb hb
theorem specT_is (kd:Int) (id:Nat) (tm:Int) (date url:List UInt8) (rf:Nat) (lab blk:List UInt8) (hi:id≤999999) (hd:date.length=20) (hdt:Ev (fun k=>spec_WarcDate.f k tm) (mkB date)) (hu:url.length≤1048576) (hlb:lab.length≤1048576) (hb:blk.length≤4000) (hr:kd=3→rf≤999999):Ev (fun k=>spec_l8text.f k kd (id:Int) tm (mkB url) (rf:Int) (mkB lab) (mkB blk)) (mkB (recL kd id date url rf lab blk)):=by
 have hkl:=kindL_len kd
 have hil:=idL_len id hi
 unfold spec_l8text.f recL
 rw[specKind_is]
 simp only[Option.bind_some,lit_mk,mk_append,size_mk,List.length_append,List.length_cons,List.length_nil,Nat.reduceAdd]
 refine Ev.pos (by omega) ?_
 refine Ev.pos (by omega) ?_
 refine(specId_ok id hi).bind ?_
 simp only[mk_append,size_mk,List.length_append,List.length_cons,List.length_nil,Nat.reduceAdd]
 refine Ev.pos (by omega) ?_
 refine Ev.pos (by omega) ?_
 refine hdt.bind ?_
 simp only[mk_append,size_mk,List.length_append,List.length_cons,List.length_nil,Nat.reduceAdd,hd]
 refine Ev.pos (by omega) ?_
 refine Ev.pos (by omega) ?_
 have go:=fun s hs=>specT0 s kd (id:Int) tm rf (mkB url) lab blk hs hlb hb hr
 by_cases k0:kd=0
 ·rw[if_pos (show kd=0 from k0),List.append_nil]
  refine Ev.pos k0 ?_
  exact go _ (by simp;omega)
 ·rw[if_neg (show ¬kd=0 from k0)]
  refine Ev.neg k0 ?_
  refine Ev.pos (by omega) ?_
  refine Ev.pos (by omega) ?_
  refine Ev.pos (by omega) ?_
  simp only[←List.append_assoc]
  exact go _ (by simp;omega)
theorem lnL (a v:List UInt8):impl_recText_ln (mkB a) (mkB v)=a++ [58,32]++v++ [13,10]:=by
 unfold impl_recText_ln;simp only[lit_mk,mk_append];rfl
set_option maxRecDepth 100000 in
theorem implT_is (kd:Int) (id:Nat) (tm:Int) (date url:List UInt8) (rf:Nat) (lab blk:List UInt8) (hi:id≤999999) (hd:date.length=20) (hdt:Ev (fun k=>impl_WarcDate.f k tm) (mkB date)) (hu:url.length≤1048576) (hlb:lab.length≤1048576) (hb:blk.length≤4000) (hr:kd=3→rf≤999999):Ev (fun k=>impl_recText.f k kd (id:Int) tm (mkB url) (rf:Int) (mkB lab) (mkB blk)) (mkB (recL kd id date url rf lab blk)):=by
 have hkl:=kindL_len kd
 have hil:=idL_len id hi
 have hl:=labB_len blk
 have hdl:=decLen15 blk.length (by omega)
 unfold impl_recText.f
 rw[implKind_is,implId_ok id hi]
 simp only[Option.bind_some]
 refine hdt.bind ?_
 obtain⟨v,hv,hvl,hve⟩: ∃v:List UInt8,(if kd=3 then impl_IdText.f (rf:Int)else some ByteArray.empty)=some (mkB v)∧v.length≤31∧(kd=3→v=idL rf):=by
  by_cases k3:kd=3
  ·exact⟨idL rf,by rw[if_pos k3,implId_ok rf (hr k3)],idL_len rf (hr k3),fun _=>rfl⟩
  ·exact⟨[],by rw[if_neg k3];rfl,by decide,fun h=>absurd h k3⟩
 rw[hv]
 simp only[Option.bind_some]
 refine(implLab_is blk (by omega)).bind ?_
 simp only[size_mk,itoa_is blk.length (by omega),Option.bind_some,impl_recText_lim]
 refine Ev.pos ⟨by omega,by omega,by omega,by omega,by omega,by omega,by omega,by omega,by omega⟩ ?_
 have e:impl_recText_tx kd (mkB (kindL kd)) (mkB (idL id)) (mkB date) (mkB url) (mkB v) (mkB lab) (mkB (labB blk)) (mkB (Lib.decDigits blk.length)) (mkB blk)=recL kd id date url rf lab blk:=by
  unfold impl_recText_tx recL tail0 tail2 tail3
  by_cases k3:kd=3
  ·rw[hve k3];simp only[if_neg (show ¬(kd=0∨kd=4)by omega),lit_mk,mk_append,lnL];subst k3
   simp[mkB]
  ·simp only[lit_mk,mk_append,if_neg k3]
   by_cases k4:kd=0∨kd=4
   ·simp only[if_pos k4,lnL];simp[mkB]
   ·simp only[if_neg k4,lnL];simp[mkB]
 rw[e]
 exact Ev.now _
theorem recR_parts {kd id tm rf:Int} {url lab blk:List UInt8} (h:recR kd id tm url rf lab blk=true):0≤id∧id≤999999∧0≤tm∧tm≤253402300799∧blk.length≤4000∧(kd=3→1≤rf∧rf<id)∧(kd≠3→rf=0):=by
 unfold recR at h
 split at h
 ·cases h
 split at h
 ·cases h
 split at h
 ·cases h
 split at h
 ·cases h
 have hT:recTail kd id rf lab blk=true:=by
  split at h
  ·split at h
   ·exact h
   ·cases h
  ·split at h
   ·exact h
   ·cases h
 refine⟨by omega,by omega,by omega,by omega,by omega,fun k3=>?_,fun k3=>?_⟩
 ·unfold recTail at hT
  rw[if_neg (by omega),if_neg (by omega),if_neg (by omega),if_pos k3]at hT
  split at hT
  ·split at hT
   ·exact⟨by omega,by omega⟩
   ·cases hT
  ·cases hT
 ·unfold recTail at hT
  split at hT
  ·split at hT
   ·simpa using hT
   ·cases hT
  split at hT
  ·split at hT
   ·split at hT
    ·assumption
    ·cases hT
   ·cases hT
  split at hT
  ·split at hT
   ·assumption
   ·cases hT
  split at hT
  ·split at hT
   ·simpa using hT
   ·cases hT
  ·cases hT
theorem recText_both (kd id tm rf:Int) (url lab blk:List UInt8) (hu:url.length≤1048576) (hlb:lab.length≤1048576) (hb:blk.length≤1048576):
  ∃x:List UInt8,Ev (fun k=>spec_RecText.f k kd id tm (mkB url) rf (mkB lab) (mkB blk)) (mkB x)∧Ev (fun k=>impl_RecText.f k kd id tm (mkB url) rf (mkB lab) (mkB blk)) (mkB x):=by
 have hS:=specRec_is kd id tm rf url lab blk hu hlb hb
 have hI:=implRec_is kd id tm rf url lab blk hu hlb hb
 unfold spec_RecText.f impl_RecText.f
 by_cases ok:recR kd id tm url rf lab blk=true
 ·obtain⟨h0,h1,h2,h3,h4,h5,h6⟩:=recR_parts ok
  obtain⟨n,rfl⟩: ∃n:Nat,id=n:=⟨id.toNat,by omega⟩
  obtain⟨Y,M,d,h,mi,s,_,_,hd1,hd2⟩:=warc_back tm h2 h3
  have hdl:=warcL_len Y M d h mi s
  generalize warcL Y M d h mi s=date at hd1 hd2 hdl
  rw[ok]at hS hI
  obtain⟨m,rfl⟩: ∃m:Nat,rf=m:=⟨rf.toNat,by by_cases k3:kd=3;(have:=h5 k3;omega);(have:=h6 k3;omega)⟩
  have hr:kd=3→m≤999999:=fun k=>by have:=h5 k;omega
  refine⟨recL kd n date url m lab blk,hS.bind ?_,hI.bind ?_⟩
  ·simp only[if_true];exact(specT_is kd n tm date url m lab blk (by omega) hdl hd1 hu hlb h4 hr).bind (Ev.now _)
  ·simp only[if_true];exact(implT_is kd n tm date url m lab blk (by omega) hdl hd2 hu hlb h4 hr).bind (Ev.now _)
 ·rw[Bool.eq_false_iff.mpr ok]at hS hI
  refine⟨[],hS.bind ?_,hI.bind ?_⟩
  ·simp only[Bool.false_eq_true,if_false];exact Ev.now _
  ·simp only[Bool.false_eq_true,if_false];exact Ev.now _
theorem FnExactRecText:laws_FnExactRecText.Pure:=by
 intro kind id t url refers lab blk ⟨_,_,_,h3,_,h5,h6⟩
 refine Ev.rounds ?_
 unfold laws_FnExactRecText.f laws_szRec.f
 rw[wrap_id (a:=1048576-(url.size:Int)) (by omega) (by omega)]
 by_cases c1:(1048576:Int)-(url.size:Int)<0
 ·simp only[if_pos c1,Option.bind_some,if_pos (show(-1:Int)<0 by decide)];exact Ev.now _
 simp only[if_neg c1]
 rw[wrap_id (a:=1048576-(url.size:Int)-(lab.size:Int)) (by omega) (by omega)]
 by_cases c2:(1048576:Int)-(url.size:Int)-(lab.size:Int)<0
 ·simp only[if_pos c2,Option.bind_some,if_pos (show(-1:Int)<0 by decide)];exact Ev.now _
 simp only[if_neg c2]
 rw[wrap_id (a:=1048576-(url.size:Int)-(lab.size:Int)-(blk.size:Int)) (by omega) (by omega)]
 by_cases c3:(1048576:Int)-(url.size:Int)-(lab.size:Int)-(blk.size:Int)<0
 ·simp only[if_pos c3,Option.bind_some,if_pos (show(-1:Int)<0 by decide)];exact Ev.now _
 simp only[if_neg c3,Option.bind_some,laws_toRec.f]
 obtain⟨x,hS,hI⟩:=recText_both kind id t refers (bl url) (bl lab) (bl blk) (by rw[size_bl];omega) (by rw[size_bl];omega) (by rw[size_bl];omega)
 rw[mk_bl,mk_bl,mk_bl]at hS hI
 refine hS.bind ?_
 refine hI.bind ?_
 simp only[if_true]
 exact Ev.now _
end Go.Proofs.YthmehmehoehlpaaGreatDoor.Pure
