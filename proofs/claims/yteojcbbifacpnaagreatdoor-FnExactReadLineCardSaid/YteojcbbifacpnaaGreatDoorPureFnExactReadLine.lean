/- ReadLine of the program and of the reference agree, and the call returns true, for every string. No condition. -/
import Derived.Test.YteojcbbifacpnaaGreatDoorGFnExactReadLinex35
import Derived.Laws.BitsLemmas
import Derived.Laws.Strings
import Derived.Lib.AtoiAll
import Derived.Lib.Index
import Derived.Lib.IndexAny
import Derived.Lib.IndexMore
import Derived.Lib.ItoaNum
import Derived.Lib.Join
import Derived.Lib.SplitLaws
import Derived.OpenShut
namespace Go.Proofs.YteojcbbifacpnaaGreatDoor.Pure
open Go.RowKit Go.Proofs.YteojcbbifacpnaaGreatDoor.GFnExactReadLine Go.Proofs.YteojcbbifacpnaaGreatDoorW.PrintWords Go.Proofs.YteojcbbifacpnaaGreatDoorW.PrintLast Go.Proofs.YteojcbbifacpnaaGreatDoorW.PrintMore
set_option linter.unusedVariables false
set_option linter.unusedSimpArgs false
theorem toList_inj {a b:ByteArray} (h:a.toList=b.toList):a=b:=by
 rw[ByteArray.toList_eq,ByteArray.toList_eq]at h
 cases a;cases b;simp_all
theorem cK0 {α:Type} (pre:List α) (x:α) (r:List α) (z:α):(pre++x::r).getD ((pre.length:Int).toNat) z=x:=by simp[List.getD]
theorem qF {a:Int} (h1: -9223372036854775808≤a) (h2:a≤9223372036854775807):wrap64 a=a:=by unfold wrap64;omega
theorem len_mid {α:Type} (pre:List α) (x:α) (r:List α):(pre.length:Int)<((pre++x::r).length:Int):=by simp;omega
theorem jQ {α:Type} (pre:List α) (x:α) (r:List α):pre++x::r=(pre++ [x])++r:=by simp
theorem zP {α:Type} (pre:List α) (x:α):((pre++ [x]).length:Int)=(pre.length:Int)+1:=by simp
theorem fX1 (xs:List Int):(strOfNums xs).size=xs.length:=by
 show(strOfNums xs).data.size=_
 simp[strOfNums]
def mkB (l:List UInt8):ByteArray:=⟨l.toArray⟩
def bl (s:ByteArray):List UInt8:=s.data.toList
theorem bV9 (s:ByteArray):mkB (bl s)=s:=by cases s;simp[mkB,bl]
theorem xY (l:List UInt8):bl (mkB l)=l:=by simp[mkB,bl]
theorem qC (l:List UInt8):(mkB l).size=l.length:=by show(mkB l).data.size=_;simp[mkB]
theorem bV0 (s:ByteArray):(bl s).length=s.size:=by rw[bl,Array.length_toList];rfl
theorem cZ3 (s:ByteArray):s.toList=bl s:=ByteArray.toList_eq s
theorem yF (l:List UInt8):(mkB l).toList=l:=by rw[cZ3,xY]
theorem getB (l:List UInt8) (i:Nat) (h:i<(mkB l).size):(mkB l)[i]'h=l[i]'(by rwa [qC]at h):=by
 show(mkB l).data[i]'h=_
 simp[mkB]
theorem bt_at_ (l:List UInt8) (i:Nat) (h:i<l.length):bt (mkB l) (i:Int)=((l[i]'h).toNat:Int):=by
 unfold bt
 rw[dif_pos (by rw[qC];simpa using h),getB]
 simp
theorem jR (pre:List UInt8) (b:UInt8) (r:List UInt8):bt (mkB (pre++b::r)) (pre.length:Int)=(b.toNat:Int):=by
 rw[bt_at_ _ _ (by simp)]
 simp
theorem jO (l:List UInt8) (i j:Nat):(mkB l).extract i j=mkB ((l.drop i).take (j-i)):=by
 apply toList_inj
 rw[yF,cZ3,bl,ByteArray.data_extract,Array.toList_extract]
 simp[mkB,List.extract]
theorem eZ6 (pre:List UInt8) (b:UInt8) (r:List UInt8):(pre++b::r).drop (pre.length+1)=r:=by
 rw[jQ,List.drop_left' (by simp)]
theorem wO (pre:List UInt8) (b:UInt8) (r:List UInt8):(pre.length:Int)<((mkB (pre++b::r)).size:Int):=by rw[qC];exact len_mid ..
theorem eZ0 (b:UInt8):(b.toNat:Int)<256:=by have:=b.toNat_lt;omega
theorem dW5 (b:UInt8):((b.toNat:Int)).toNat.toUInt8=b:=by simp
theorem eZ4 (F:Nat→ByteArray→Int→Option Bool) (G:Nat→Int→Option Bool) (p:UInt8→Bool) (hG: ∀b:UInt8,Ev (fun k=>G k b.toNat) (p b))
  (hF: ∀k s i,F (k+1) s i=if i<(s.size:Int)then(if 0≤i then(G k (bt s i)).bind fun t=>(if t=true then F k s (wrap64 (i+1))else some false)else none)else some true):
  ∀(r pre:List UInt8),(pre++r).length≤9223372036854775806→Ev (fun k=>F k (mkB (pre++r)) pre.length) (r.all p)
 | [],pre,_=>Ev.step (f:=fun _=>some true) (fun k=>by rw[hF,qC];simp) (Ev.now _)
 |b::r,pre,hl=>by
  have ih:=eZ4 F G p hG hF r (pre++ [b]) (by rw[←jQ];exact hl)
  rw[←jQ,zP]at ih
  simp at hl
  refine Ev.step (f:=fun k=>(G k b.toNat).bind fun t=>(if t=true then F k (mkB (pre++b::r)) (pre.length+1)else some false)) (fun k=>?_) ?_
  ·rw[hF,if_pos (wO ..),if_pos (by omega),jR,qF (by omega) (by omega)]
  refine(hG b).bind ?_
  cases hp:p b
  ·simpa [List.all_cons,hp]using Ev.now false
  ·simpa [List.all_cons,hp]using ih
theorem cY9 (F:Nat→ByteArray→Int→Option Bool) (G:Nat→Int→Option Bool) (p:UInt8→Bool) (hG: ∀b:UInt8,Ev (fun k=>G k b.toNat) (p b))
  (hF: ∀k s i,F (k+1) s i=if i<(s.size:Int)then(if 0≤i then(G k (bt s i)).bind fun t=>(if t=true then F k s (wrap64 (i+1))else some false)else none)else some true)
  (s:ByteArray) (hs:s.size≤9223372036854775806):Ev (fun k=>F k s 0) ((bl s).all p):=by
 have:=eZ4 F G p hG hF (bl s) [] (by simpa [bV0]using hs)
 simpa [bV9]using this
theorem Ev.const {α:Type} {x:Option α} {r:α} (h:x=some r):Ev (fun _=>x) r:=⟨0,fun _ _=>h⟩
def wn (b:Nat) (l:List Nat):Nat:=l.foldl (fun a c=>a*b+c) 0
theorem aW0 (b:Nat) (l:List Nat) (x:Nat):wn b (l++ [x])=wn b l*b+x:=by simp[wn]
theorem wn_inj (b:Nat) (hb:0<b): ∀(n:Nat) (l m:List Nat),l.length=n→m.length=n→(∀x∈l,x<b)→(∀x∈m,x<b)→wn b l=wn b m→l=m:=by
 intro n
 induction n with
 |zero=>intro l m hl hm _ _ _;rw[List.length_eq_zero_iff.1 hl,List.length_eq_zero_iff.1 hm]
 |succ n ih=>
  intro l m hl hm h1 h2 h
  rcases List.eq_nil_or_concat l with rfl|⟨l',x,rfl⟩
  ·cases hl
  rcases List.eq_nil_or_concat m with rfl|⟨m',y,rfl⟩
  ·cases hm
  rw[List.concat_eq_append]at*
  rw[List.concat_eq_append]at*
  rw[aW0,aW0]at h
  have hx:x<b:=h1 x (by simp)
  have hy:y<b:=h2 y (by simp)
  have e1:x=y:=by
   have:=congrArg (· %b) h
   simp only[Nat.mul_add_mod_self_right,Nat.mod_eq_of_lt hx,Nat.mod_eq_of_lt hy]at this
   exact this
  have e2:wn b l'=wn b m':=by
   rw[e1]at h
   exact Nat.eq_of_mul_eq_mul_right hb (Nat.add_right_cancel h)
  rw[ih l' m' (by simp at hl;exact hl) (by simp at hm;exact hm) (fun z hz=>h1 z (by simp[hz])) (fun z hz=>h2 z (by simp[hz])) e2,e1]
def cV9 (b:UInt8):Int:=if 65≤b.toNat∧b.toNat≤90 then(b.toNat:Int)-65 else if 50≤b.toNat∧b.toNat≤55 then(b.toNat:Int)-24 else-1
def aQ2 (b:UInt8):Nat:=(cV9 b).toNat
def wW (b:UInt8):Bool:=decide (0≤cV9 b)
def dQ1 (v:Nat):UInt8:=if v<26 then UInt8.ofNat (65+v)else UInt8.ofNat (24+v)
theorem aZ1 (b:UInt8):(wW b=true→dQ1 (aQ2 b)=b∧aQ2 b<32∧cV9 b=(aQ2 b:Int))∧(wW b=false→cV9 b= -1):=by
 have key: ∀n:Fin 256,(wW (UInt8.ofNat n.val)=true→dQ1 (aQ2 (UInt8.ofNat n.val))=UInt8.ofNat n.val∧aQ2 (UInt8.ofNat n.val)<32∧cV9 (UInt8.ofNat n.val)=(aQ2 (UInt8.ofNat n.val):Int))∧(wW (UInt8.ofNat n.val)=false→cV9 (UInt8.ofNat n.val)= -1):=by decide+kernel
 have:=key ⟨b.toNat,b.toNat_lt⟩
 simp only[UInt8.ofNat_toNat]at this
 exact this
def LETB:ByteArray:=⟨#[65,66,67,68,69,70,71,72,73,74,75,76,77,78,79,80,81,82,83,84,85,86,87,88,89,90,50,51,52,53,54,55]⟩
theorem bt_let (v:Nat) (hv:v<32):bt LETB (v:Int)=((dQ1 v).toNat:Int):=by
 have key: ∀n:Fin 32,bt LETB (n.val:Int)=((dQ1 n.val).toNat:Int):=by decide+kernel
 exact key ⟨v,hv⟩
theorem fQ5 (l:List UInt8) (h:l.all wW=true):(l.map aQ2).map dQ1=l:=by
 rw[List.map_map]
 conv=>rhs;rw[←List.map_id l]
 refine List.map_congr_left fun b hb=>?_
 exact((aZ1 b).1 (List.all_eq_true.1 h b hb)).1
theorem dZ9 (J:List Nat):strOfNums (J.map fun v=>((dQ1 v).toNat:Int))=mkB (J.map dQ1):=by simp[strOfNums,mkB,Function.comp_def]
def wb (l:List UInt8):Nat:=wn 32 (l.map aQ2)
theorem fX4 (l:List UInt8) (b:UInt8):wb (l++ [b])=wb l*32+aQ2 b:=by unfold wb;rw[List.map_append];exact aW0 _ _ _
theorem eX7 (A:List Nat) (x:Nat):(A++ [x]).map (fun v:Nat=>(v:Int))=A.map (fun v:Nat=>(v:Int))++ [(x:Int)]:=by simp
theorem eJ0 (A:List Nat):strOfNums (A.map fun v:Nat=>(v:Int))=mkB (A.map fun v=>UInt8.ofNat v):=by
 simp[strOfNums,mkB,Function.comp_def]
theorem bt_nat (A R:List Nat) (x:Nat) (hx:x<256):bt (mkB ((A++x::R).map fun v=>UInt8.ofNat v)) (A.length:Int)=(x:Int):=by
 rw[List.map_append,List.map_cons]
 have:=jR (A.map fun v=>UInt8.ofNat v) (UInt8.ofNat x) (R.map fun v=>UInt8.ofNat v)
 rw[List.length_map]at this
 rw[this]
 simp;omega
theorem or5 (x d:Int) (hx:0≤x) (hx1:x<4096) (hd:0≤d) (hd1:d<32):Go.bits .or .i64 (x*32) d=x*32+d:=
 bits_join .i64 62 (by decide) (fun n h0 h1=>by rw[IntKind.wrap_i64];omega) 5 (x*32) d (by omega) (by omega) (by omega) hd (by omega) (by omega)
theorem or8 (x d:Int) (hx:0≤x) (hx1:x<4096) (hd:0≤d) (hd1:d<256):Go.bits .or .i64 (x*256) d=x*256+d:=
 bits_join .i64 62 (by decide) (fun n h0 h1=>by rw[IntKind.wrap_i64];omega) 8 (x*256) d (by omega) (by omega) (by omega) hd (by omega) (by omega)
theorem and4095 (x:Int) (hx:0≤x) (hx1:x<1000000):Go.bits .and .i64 x 4095=x%4096:=
 bits_mask .i64 62 (by decide) (fun n h0 h1=>by rw[IntKind.wrap_i64];omega) 12 (by decide) x hx (by omega)
theorem and31 (x:Int) (hx:0≤x) (hx1:x<1000000):Go.bits .and .i64 x 31=x%32:=
 bits_mask .i64 62 (by decide) (fun n h0 h1=>by rw[IntKind.wrap_i64];omega) 5 (by decide) x hx (by omega)
theorem fZ5 (x c:Nat) (hc:c≤63):shr .i64 (x:Int) (c:Int)=((x/2^c:Nat):Int):=by
 unfold shr
 have e:min ((c:Int)).toNat IntKind.i64.bits=c:=by rw[Int.toNat_natCast];exact Nat.min_eq_left (by show c≤64;omega)
 rw[e];simp
theorem fK7 (V W c d:Nat) (hW:W=V/2^c) (hc:c+5<8) (hd:d<32):W=(V*32+d)/2^(c+5):=by
 have h:c=0∨c=1∨c=2:=by omega
 rcases h with rfl|rfl|rfl<;>simp only[Nat.reduceAdd,Nat.reducePow]at* <;>omega
theorem fW7 (V W c d:Nat) (hW:W=V/2^(c+3)) (hc:c<5) (hd:d<32):W*256+((V%4096*32+d)%4096/2^c)%256=(V*32+d)/2^c:=by
 have h:c=0∨c=1∨c=2∨c=3∨c=4:=by omega
 rcases h with rfl|rfl|rfl|rfl|rfl<;>simp only[Nat.reduceAdd,Nat.reducePow]at* <;>omega
theorem enc_step (T W c:Nat) (hW:W=T/2^(c+5)) (hc:c<8):W*32+(T%8192/2^c)%32=T/2^c:=by
 have h:c=0∨c=1∨c=2∨c=3∨c=4∨c=5∨c=6∨c=7:=by omega
 rcases h with rfl|rfl|rfl|rfl|rfl|rfl|rfl|rfl<;>simp only[Nat.reduceAdd,Nat.reducePow]at* <;>omega
theorem and31n (Q:Nat) (h:Q≤8191):Go.bits .and .i64 (Q:Int) 31=((Q%32:Nat):Int):=by rw[and31 _ (by omega) (by omega)];omega
theorem mod256n (Q:Nat):(Q:Int)%256=((Q%256:Nat):Int):=by omega
def letJ (J:List Nat):List Int:=J.map fun v=>((dQ1 v).toNat:Int)
theorem fW1 (D:List Nat) (T i:Nat) (res:ByteArray) (hi:i≤1000):
  ∀(c:Nat) (J:List Nat),c<13→wn 32 J=T/2^c→(∀x∈J,x<32)→5*J.length+c≤50000→
  (∀(c':Nat) (J':List Nat),c'<5→wn 32 J'=T/2^c'→(∀x∈J',x<32)→5*J'.length+c'=5*J.length+c→
   Ev (fun k=>yJ.l0 k (mkB (D.map fun v=>UInt8.ofNat v)) (letJ J') ((T%32:Nat):Int) (c':Int) ((i+1:Nat):Int)) res)→
  Ev (fun k=>yJ.l1 k (mkB (D.map fun v=>UInt8.ofNat v)) (letJ J) ((T%8192:Nat):Int) (c:Int) (i:Int)) res:=by
 intro c
 induction c using Nat.strongRecOn with
 |_ c ih=>
  intro J hc hw hJ hl hK
  have h31:Go.bits .and .i64 ((T%8192:Nat):Int) 31=((T%32:Nat):Int):=by rw[and31 _ (by omega) (by omega)];omega
  by_cases h5:c<5
  ·refine Ev.step (fun k=>?_) (hK c J h5 hw hJ rfl)
   have ec:((i+1:Nat):Int)=(i:Int)+1:=by omega
   rw[yJ.l1,if_neg (by omega),h31,qF (a:=(i:Int)+1) (by omega) (by omega),ec]
  ·obtain⟨e,rfl⟩: ∃e,c=e+5:=⟨c-5,by omega⟩
   have hst:=enc_step T (wn 32 J) e hw (by omega)
   have hlt:(T%8192/2^e)%32<32:=Nat.mod_lt _ (by decide)
   have hih:=ih e (by omega) (J++ [(T%8192/2^e)%32]) (by omega) (by rw[aW0];exact hst) (by
    intro x hx
    rcases List.mem_append.1 hx with hx|hx
    ·exact hJ x hx
    ·simp at hx;omega) (by rw[List.length_append,List.length_singleton];omega) (fun c' J' h1 h2 h3 h4=>hK c' J' h1 h2 h3 (by rw[List.length_append,List.length_singleton]at h4;omega))
   refine Ev.step (fun k=>?_) hih
   have hw5:wrap64 (((e+5:Nat):Int)-5)=(e:Int):=by rw[qF (by omega) (by omega)];omega
   have hsh:shr .i64 ((T%8192:Nat):Int) (e:Int)=((T%8192/2^e:Nat):Int):=fZ5 _ _ (by omega)
   have hdl:T%8192/2^e≤T%8192:=Nat.div_le_self _ _
   have hm:Go.bits .and .i64 ((T%8192/2^e:Nat):Int) 31=(((T%8192/2^e)%32:Nat):Int):=and31n _ (by omega)
   rw[yJ.l1,if_pos (by omega),hw5,hsh,hm,if_pos (by omega),if_pos (by omega),if_pos (by omega),if_pos (by unfold letJ;rw[List.length_map];omega)]
   have hbt:=bt_let _ hlt
   unfold LETB at hbt
   rw[hbt]
   unfold letJ
   rw[List.map_append]
   rfl
theorem fY8 (W x c:Nat) (hx:x<256) (hc:c<5):W/2^c=(W*256+x)/2^(c+8):=by
 have h:c=0∨c=1∨c=2∨c=3∨c=4:=by omega
 rcases h with rfl|rfl|rfl|rfl|rfl<;>simp only[Nat.reduceAdd,Nat.reducePow]<;>omega
theorem dV1 (D:List Nat) (hD: ∀x∈D,x<256) (h20:D.length=20) (l:List UInt8) (hl:l.all wW=true) (h32:l.length=32) (hv:wb l=wn 256 D):
  ∀(R A:List Nat) (c:Nat) (J:List Nat),D=A++R→c<5→wn 32 J=wn 256 A/2^c→(∀x∈J,x<32)→5*J.length+c=8*A.length→
  Ev (fun k=>yJ.l0 k (mkB (D.map fun v=>UInt8.ofNat v)) (letJ J) ((wn 256 A%32:Nat):Int) (c:Int) (A.length:Int)) (mkB l)
 | [],A,c,J,hA,hc,hw,hJ,hn=>by
  rw[List.append_nil]at hA
  subst hA
  have hc0:c=0:=by omega
  have hJ32:J.length=32:=by omega
  subst hc0
  rw[Nat.pow_zero,Nat.div_one,←hv]at hw
  have e:J=l.map aQ2:=wn_inj 32 (by decide) 32 J (l.map aQ2) hJ32 (by rw[List.length_map];exact h32) hJ (by
   intro x hx
   obtain⟨b,hb,rfl⟩:=List.mem_map.1 hx
   exact((aZ1 b).1 (List.all_eq_true.1 hl b hb)).2.1) hw
  refine Ev.step (f:=fun _=>some (mkB l)) (fun k=>?_) (Ev.now _)
  rw[yJ.l0,if_neg (by rw[qC,List.length_map];omega),if_neg (by omega)]
  unfold letJ
  rw[dZ9,e,fQ5 l hl]
 |x::R,A,c,J,hA,hc,hw,hJ,hn=>by
  have hx:x<256:=hD x (by rw[hA];simp)
  have hAl:A.length<20:=by have:=congrArg List.length hA;simp at this;omega
  have e1:wn 256 (A++ [x])=wn 256 A*256+x:=aW0 _ _ _
  have hin:=fW1 D (wn 256 A*256+x) A.length (mkB l) (by omega) (c+8) J (by omega) (by rw[hw];exact fY8 _ _ _ hx hc) hJ (by omega) (by
   intro c' J' h1 h2 h3 h4
   have ih:=dV1 D hD h20 l hl h32 hv R (A++ [x]) c' J' (by rw[hA];simp) h1 (by rw[e1];exact h2) h3 (by rw[List.length_append,List.length_singleton];omega)
   rw[e1,List.length_append,List.length_singleton]at ih
   exact ih)
  refine Ev.step (fun k=>?_) hin
  have hb:bt (mkB (D.map fun v=>UInt8.ofNat v)) (A.length:Int)=(x:Int):=by rw[hA];exact bt_nat A R x hx
  have ho:Go.bits .or .i64 (wrap64 (((wn 256 A%32:Nat):Int)*256)) (wrap64 (x:Int))=(((wn 256 A*256+x)%8192:Nat):Int):=by
   rw[qF (a:=(x:Int)) (by omega) (by omega),qF (a:=((wn 256 A%32:Nat):Int)*256) (by omega) (by omega),or8 _ _ (by omega) (by omega) (by omega) (by omega)]
   omega
  have ec:((c+8:Nat):Int)=(c:Int)+8:=by omega
  rw[yJ.l0,if_pos (by rw[qC,List.length_map];omega),if_pos (by omega),hb,ho,qF (a:=(c:Int)+8) (by omega) (by omega),ec]
theorem eW9 (D:List Nat) (hD: ∀x∈D,x<256) (h20:D.length=20) (l:List UInt8) (hl:l.all wW=true) (h32:l.length=32) (hv:wb l=wn 256 D):
  Ev (fun k=>yJ.f k (strOfNums (D.map fun v:Nat=>(v:Int)))) (mkB l):=by
 rw[eJ0]
 exact dV1 D hD h20 l hl h32 hv D [] 0 [] rfl (by decide) rfl (by simp) rfl
theorem idx_is (b:UInt8):strings_IndexByte.f LETB (b.toNat:Int)=some (cV9 b):=by
 have key: ∀n:Fin 256,Lib.indexByte LETB.data.toList (UInt8.ofNat n.val)=cV9 (UInt8.ofNat n.val):=by decide+kernel
 have:=key ⟨b.toNat,b.toNat_lt⟩
 simp only[UInt8.ofNat_toNat]at this
 unfold strings_IndexByte.f
 rw[←this]
 simp
theorem dZ5 (k:Nat) (L:ByteArray) (X:List Int) (bits c i d bits' c' i':Int) (hi:i<(L.size:Int)) (h0:0≤i) (hx:strings_IndexByte.f (⟨#[65,66,67,68,69,70,71,72,73,74,75,76,77,78,79,80,81,82,83,84,85,86,87,88,89,90,50,51,52,53,54,55]⟩:ByteArray) (bt L i)=some d) (hd: ¬d<0)
  (hb:Go.bits .and .i64 (Go.bits .or .i64 (wrap64 (bits*32)) d) 4095=bits') (hc:wrap64 (c+5)=c') (hi':wrap64 (i+1)=i') (h8: ¬c'≥8):
  wF.l0 (k+1) L X bits c i=wF.l0 k L X bits' c' i':=by
 rw[wF.l0,if_pos hi,if_pos h0,hx,Option.bind_some,if_neg hd,hb,hc,if_neg h8,hi']
theorem cZ9 (k:Nat) (L:ByteArray) (X:List Int) (bits c i d bits' c' i' c'' q:Int) (hi:i<(L.size:Int)) (h0:0≤i) (hx:strings_IndexByte.f (⟨#[65,66,67,68,69,70,71,72,73,74,75,76,77,78,79,80,81,82,83,84,85,86,87,88,89,90,50,51,52,53,54,55]⟩:ByteArray) (bt L i)=some d) (hd: ¬d<0)
  (hb:Go.bits .and .i64 (Go.bits .or .i64 (wrap64 (bits*32)) d) 4095=bits') (hc:wrap64 (c+5)=c') (hi':wrap64 (i+1)=i') (h8:c'≥8) (hc8:wrap64 (c'-8)=c'') (h0'':0≤c'') (hX:X.length<140737488355328) (hq:shr .i64 bits' c''%256=q):
  wF.l0 (k+1) L X bits c i=wF.l0 k L (X++ [q]) bits' c'' i':=by
 rw[wF.l0,if_pos hi,if_pos h0,hx,Option.bind_some,if_neg hd,hb,hc,if_pos h8,hc8,if_pos h0'',if_pos hX,hq,hi']
theorem eJ4 (k:Nat) (L:ByteArray) (X:List Int) (bits c i d:Int) (hi:i<(L.size:Int)) (h0:0≤i) (hx:strings_IndexByte.f (⟨#[65,66,67,68,69,70,71,72,73,74,75,76,77,78,79,80,81,82,83,84,85,86,87,88,89,90,50,51,52,53,54,55]⟩:ByteArray) (bt L i)=some d) (hd:d<0):
  wF.l0 (k+1) L X bits c i=some ((⟨#[]⟩:ByteArray),false):=by
 rw[wF.l0,if_pos hi,if_pos h0,hx,Option.bind_some,if_pos hd]
theorem bJ4 (a b:Nat) (h:a+b≤1000000):wrap64 ((a:Int)+(b:Int))=((a+b:Nat):Int):=by rw[qF (by omega) (by omega)];omega
theorem fW6 (a b:Nat) (h:a+b≤1000000):wrap64 (((a+b:Nat):Int)-(b:Int))=(a:Int):=by rw[qF (by omega) (by omega)];omega
theorem bits5n (N d:Nat) (hN:N<4096) (hd:d<32):Go.bits .and .i64 (Go.bits .or .i64 (wrap64 ((N:Int)*32)) (d:Int)) 4095=(((N*32+d)%4096:Nat):Int):=by
 rw[qF (by omega) (by omega),or5 _ _ (by omega) (by omega) (by omega) (by omega),and4095 _ (by omega) (by omega)]
 omega
theorem bQ2 (l:List UInt8) (h32:l.length=32): ∀(r pre:List UInt8) (A:List Nat) (c:Nat),l=pre++r→pre.all wW=true→c<8→wn 256 A=wb pre/2^c→(∀x∈A,x<256)→8*A.length+c=5*pre.length→
  ∃x,Ev (fun k=>wF.l0 k (mkB l) (A.map fun v:Nat=>(v:Int)) ((wb pre%4096:Nat):Int) (c:Int) (pre.length:Int)) (x,r.all wW)
 | [],pre,A,c,hl,ha,hc,hw,hA,hn=>by
  rw[List.append_nil]at hl
  subst hl
  have hc0:c=0:=by omega
  subst hc0
  rw[Nat.pow_zero,Nat.div_one]at hw
  refine⟨strOfNums (A.map fun v:Nat=>(v:Int)),Ev.step (f:=fun k=>(yJ.f k (strOfNums (A.map fun v:Nat=>(v:Int)))).bind fun t377=>(if t377.toList=(mkB l).toList then(some (strOfNums (A.map fun v:Nat=>(v:Int)),true))else(some ((⟨#[]⟩:ByteArray),false)))) (fun k=>by
   rw[wF.l0,if_neg (by rw[qC];omega),if_neg (by rw[List.length_map];omega)]) ?_⟩
  refine(eW9 A hA (by omega) l ha h32 hw.symm).bind ?_
  rw[if_pos rfl]
  exact Ev.now _
 |b::r,pre,A,c,hl,ha,hc,hw,hA,hn=>by
  have hpl:pre.length<32:=by have:=congrArg List.length hl;simp at this;omega
  have hbt:bt (mkB l) (pre.length:Int)=(b.toNat:Int):=by rw[hl];exact jR pre b r
  have hsz:(pre.length:Int)<((mkB l).size:Int):=by rw[qC];omega
  have h0p:(0:Int)≤(pre.length:Int):=by omega
  have hix:=idx_is b
  rw[←hbt]at hix
  cases hok:wW b
  ·have hv:=(aZ1 b).2 hok
   refine⟨(⟨#[]⟩:ByteArray),Ev.step (f:=fun _=>some ((⟨#[]⟩:ByteArray),false)) (fun k=>eJ4 k _ _ _ _ _ _ hsz h0p hix (by rw[hv];decide)) ?_⟩
   rw[List.all_cons,hok];exact Ev.now _
  ·obtain⟨_,hd,hv⟩:=(aZ1 b).1 hok
   have ha2:(pre++ [b]).all wW=true:=by rw[List.all_append,ha];simp[hok]
   have hwb:=fX4 pre b
   have hN:wb pre%4096<4096:=Nat.mod_lt _ (by decide)
   have e4:(wb pre%4096*32+aQ2 b)%4096=wb (pre++ [b])%4096:=by rw[hwb];omega
   have hdn: ¬cV9 b<0:=by rw[hv];omega
   rw[List.all_cons,hok,Bool.true_and]
   by_cases h8:c+5<8
   ·obtain⟨x,hx⟩:=bQ2 l h32 r (pre++ [b]) A (c+5) (by rw[hl];simp) ha2 h8 (by rw[hw,hwb];exact fK7 _ _ c _ rfl h8 hd) hA (by rw[List.length_append,List.length_singleton];omega)
    rw[zP]at hx
    have hn8: ¬((c+5:Nat):Int)≥8:=by omega
    have hbits:=bits5n (wb pre%4096) (aQ2 b) hN hd
    rw[e4,←hv]at hbits
    exact⟨x,Ev.step (fun k=>dZ5 k _ _ _ _ _ _ _ _ _ hsz h0p hix hdn hbits (bJ4 c 5 (by omega)) (bJ4 pre.length 1 (by omega)) hn8) hx⟩
   ·obtain⟨e,rfl⟩: ∃e,c=e+3:=⟨c-3,by omega⟩
    have hst:=fW7 (wb pre) (wn 256 A) e (aQ2 b) hw (by omega) hd
    rw[e4]at hst
    have hs:shr .i64 ((wb (pre++ [b])%4096:Nat):Int) (e:Int)=((wb (pre++ [b])%4096/2^e:Nat):Int):=fZ5 _ _ (by omega)
    generalize wb (pre++ [b])%4096/2^e=Q at hst hs
    have hQ:Q%256<256:=Nat.mod_lt _ (by decide)
    obtain⟨x,hx⟩:=bQ2 l h32 r (pre++ [b]) (A++ [Q%256]) e (by rw[hl];simp) ha2 (by omega) (by rw[aW0,hst,hwb]) (by
     intro y hy
     rcases List.mem_append.1 hy with hy|hy
     ·exact hA y hy
     ·simp at hy;omega) (by rw[List.length_append,List.length_append,List.length_singleton,List.length_singleton];omega)
    rw[zP,eX7]at hx
    have h8e:((e+8:Nat):Int)≥8:=by omega
    have h0e:(0:Int)≤(e:Int):=by omega
    have hal:((A.map fun v:Nat=>(v:Int)).length)<140737488355328:=by rw[List.length_map];omega
    have hq:shr .i64 ((wb (pre++ [b])%4096:Nat):Int) (e:Int)%256=((Q%256:Nat):Int):=by rw[hs];exact mod256n Q
    have hbits:=bits5n (wb pre%4096) (aQ2 b) hN hd
    rw[e4,←hv]at hbits
    exact⟨x,Ev.step (fun k=>cZ9 k _ _ _ _ _ _ _ _ _ _ _ hsz h0p hix hdn hbits (bJ4 (e+3) 5 (by omega)) (bJ4 pre.length 1 (by omega)) h8e (fW6 e 8 (by omega)) h0e hal hq) hx⟩
theorem eK8 (l:List UInt8) (h32:l.length=32): ∃x,Ev (fun k=>wF.f k (mkB l)) (x,l.all wW):=
 bQ2 l h32 l [] [] 0 rfl rfl (by decide) rfl (by simp) rfl
theorem eW6 (x c:Nat) (hc:c≤63):shr .i64 (x:Int) (c:Int)=((x/2^c:Nat):Int):=by
 unfold shr
 have e:min ((c:Int)).toNat IntKind.i64.bits=c:=by rw[Int.toNat_natCast];exact Nat.min_eq_left (by show c≤64;omega)
 rw[e];simp
theorem and1n (Q:Nat) (h:Q≤1000000):Go.bits .and .i64 (Q:Int) 1=((Q%2:Nat):Int):=by
 have:=bits_mask .i64 62 (by decide) (fun n h0 h1=>by rw[IntKind.wrap_i64];omega) 1 (by decide) (Q:Int) (by omega) (by omega)
 have e:((2:Int)^1-1)=1:=by decide
 rw[e]at this
 rw[this];omega
theorem fQ9 (b:Nat) (l:List Nat): ∀m:List Nat,wn b (l++m)=wn b l*b^m.length+wn b m:=by
 intro m
 generalize hn:m.length=n
 induction n generalizing m with
 |zero=>rw[List.length_eq_zero_iff.1 hn];simp[wn]
 |succ n ih=>
  rcases List.eq_nil_or_concat m with rfl|⟨m',x,rfl⟩
  ·cases hn
  ·rw[List.concat_eq_append]at*
   rw[←List.append_assoc,aW0,aW0,ih m' (by simp at hn;exact hn),Nat.pow_succ,Nat.add_mul,Nat.mul_assoc];omega
theorem wn_lt (b:Nat) (hb:0<b): ∀m:List Nat,(∀x∈m,x<b)→wn b m<b^m.length:=by
 intro m
 generalize hn:m.length=n
 induction n generalizing m with
 |zero=>intro _;rw[List.length_eq_zero_iff.1 hn];simp[wn]
 |succ n ih=>
  intro h
  rcases List.eq_nil_or_concat m with rfl|⟨m',x,rfl⟩
  ·cases hn
  ·rw[List.concat_eq_append]at*
   have h1:=ih m' (by simp at hn;exact hn) (fun y hy=>h y (by simp[hy]))
   have h2:x<b:=h x (by simp)
   rw[aW0,Nat.pow_succ]
   calc wn b m'*b+x<wn b m'*b+b:=by omega
    _=(wn b m'+1)*b:=by rw[Nat.add_mul,Nat.one_mul]
    _≤b^n*b:=Nat.mul_le_mul_right _ h1
theorem fX8 (N m:Nat):N/2^m=2*(N/2^(m+1))+N/2^m%2:=by
 rw[Nat.pow_succ,←Nat.div_div_eq_div_mul];omega
theorem bit_of (W b r:Nat) (hb:b<256) (hr:r<8):(W*256+b)/2^(7-r)%2=b/2^(7-r)%2:=by
 have h:r=0∨r=1∨r=2∨r=3∨r=4∨r=5∨r=6∨r=7:=by omega
 rcases h with rfl|rfl|rfl|rfl|rfl|rfl|rfl|rfl<;>simp only[Nat.reduceSub,Nat.reducePow]<;>omega
theorem eX4 (q:Nat) (h:q≤1000000):wrap64 (q:Int)=(q:Int):=qF (by omega) (by omega)
theorem eY9 (r:Nat) (h:r<8):wrap64 (7-(r:Int))=((7-r:Nat):Int):=by rw[qF (by omega) (by omega)];omega
theorem l1bit_is (D:List Nat) (hD: ∀x∈D,x<256) (h20:D.length=20) (at_:Nat) (ha:at_<160):
  aQ1.f (mkB (D.map fun v=>UInt8.ofNat v)) (at_:Int)=some ((wn 256 D/2^(159-at_)%2:Nat):Int):=by
 obtain⟨q,r,hr,rfl⟩: ∃q r,r<8∧at_=8*q+r:=⟨at_/8,at_%8,by omega,by omega⟩
 have hq:q<20:=by omega
 obtain⟨A,b,R,hAR,hA⟩: ∃A b R,D=A++b::R∧A.length=q:=by
  refine⟨D.take q,D[q],D.drop (q+1),?_,by rw[List.length_take];omega⟩
  rw[←List.drop_eq_getElem_cons (by omega),List.take_append_drop]
 have hb:b<256:=hD b (by rw[hAR];simp)
 have hR:R.length=19-q:=by have:=congrArg List.length hAR;simp at this;omega
 have hRl:=wn_lt 256 (by decide) R (fun x hx=>hD x (by rw[hAR];simp[hx]))
 have hbt:bt (mkB (D.map fun v=>UInt8.ofNat v)) (q:Int)=(b:Int):=by rw[←hA,hAR];exact bt_nat A R b hb
 have hw:wn 256 D/2^(159-(8*q+r))%2=b/2^(7-r)%2:=by
  have e1:159-(8*q+r)=8*R.length+(7-r):=by omega
  have e2:D=(A++ [b])++R:=by rw[hAR];simp
  have e3:(2:Nat)^(8*R.length)=256^R.length:=by rw[Nat.pow_mul]
  rw[e1,Nat.pow_add,e3,←Nat.div_div_eq_div_mul,e2,fQ9,Nat.mul_comm (wn 256 (A++ [b])),Nat.mul_add_div (Nat.pow_pos (by decide)),Nat.div_eq_of_lt hRl,Nat.add_zero,aW0]
  exact bit_of _ b r hb hr
 have t1:Int.tdiv ((8*q+r:Nat):Int) 8=(q:Int):=by rw[Int.tdiv_eq_ediv_of_nonneg (by omega)];omega
 have t2:Int.tmod ((8*q+r:Nat):Int) 8=(r:Int):=by rw[Int.tmod_eq_emod_of_nonneg (by omega)];omega
 have hs:=eW6 b (7-r) (by omega)
 have hm:=and1n (b/2^(7-r)) (by have:=Nat.div_le_self b (2^(7-r));omega)
 have hsz:((mkB (D.map fun v=>UInt8.ofNat v)).size:Int)=20:=by rw[qC,List.length_map,h20];rfl
 have c1: ¬(q:Int)≥20:=by omega
 have c2:(0:Int)≤(q:Int):=by omega
 have c3:(q:Int)<20:=by omega
 have c4:(0:Int)≤((7-r:Nat):Int):=by omega
 have w1:=eX4 q (by omega)
 have w2:=eY9 r hr
 have w3:=eX4 b (Nat.le_trans (Nat.le_of_lt hb) (by decide))
 rw[hw]
 unfold aQ1.f
 rw[t1,t2,w1,w2,hsz,hbt,w3,hs,hm,if_neg c1,if_pos c2,if_pos c3,if_pos c4]
theorem aW1 (k:Nat) (L:ByteArray) (X:List Int) (i v j t v' j' n:Int) (hj:j<5) (hn:wrap64 (i+j)=n) (ht:aQ1.f L n=some t) (hv:wrap64 ((wrap64 (2*v))+t)=v') (hj':wrap64 (j+1)=j'):
  kI.l1 (k+1) L X i v j=kI.l1 k L X i v' j':=by
 rw[kI.l1,if_pos hj,hn,ht,Option.bind_some,hv,hj']
theorem eY6 (k:Nat) (L:ByteArray) (X:List Int) (i v c i':Int) (h0:0≤v) (h32:v<32) (hX:X.length<140737488355328) (hc:bt (⟨#[65,66,67,68,69,70,71,72,73,74,75,76,77,78,79,80,81,82,83,84,85,86,87,88,89,90,50,51,52,53,54,55]⟩:ByteArray) v=c) (hi:wrap64 (i+5)=i'):
  kI.l1 (k+1) L X i v 5=kI.l0 k L (X++ [c]) i':=by
 rw[kI.l1,if_neg (by decide),if_pos h0,if_pos h32,if_pos hX,hc,hi]
theorem vT (a b:Nat) (h:a+b≤1000000):wrap64 ((a:Int)+(b:Int))=((a+b:Nat):Int):=by rw[qF (by omega) (by omega)];omega
theorem bY2 (v t:Nat) (h:v≤1000) (ht:t≤1):wrap64 ((wrap64 (2*(v:Int)))+(t:Int))=((2*v+t:Nat):Int):=by
 rw[qF (a:=2*(v:Int)) (by omega) (by omega),qF (by omega) (by omega)];omega
theorem cX8 (D:List Nat) (hD: ∀x∈D,x<256) (h20:D.length=20) (X:List Int) (hX:X.length<1000) (i:Nat) (hi:i+5≤160) (res:ByteArray)
  (hK: ∀v:Nat,v<32→wn 256 D/2^(160-(i+5))=32*(wn 256 D/2^(160-i))+v→Ev (fun k=>kI.l0 k (mkB (D.map fun v=>UInt8.ofNat v)) (X++ [((dQ1 v).toNat:Int)]) ((i+5:Nat):Int)) res):
  Ev (fun k=>kI.l1 k (mkB (D.map fun v=>UInt8.ofNat v)) X (i:Int) 0 0) res:=by
 have hb:=fun(a:Nat) (h:a<160)=>l1bit_is D hD h20 a h
 have hh: ∀a,a<160→wn 256 D/2^(160-(a+1))=2*(wn 256 D/2^(160-a))+wn 256 D/2^(159-a)%2:=by
  intro a ha
  have:=fX8 (wn 256 D) (159-a)
  rw[show 159-a+1=160-a by omega]at this
  rw[show 160-(a+1)=159-a by omega];exact this
 have b0:=hb (i+0) (by omega)
 have b1:=hb (i+1) (by omega)
 have b2:=hb (i+2) (by omega)
 have b3:=hb (i+3) (by omega)
 have b4:=hb (i+4) (by omega)
 have s0:=hh i (by omega)
 have s1:=hh (i+1) (by omega)
 have s2:=hh (i+1+1) (by omega)
 have s3:=hh (i+1+1+1) (by omega)
 have s4:=hh (i+1+1+1+1) (by omega)
 rw[Nat.add_zero]at b0
 simp only[Nat.add_assoc,Nat.reduceAdd]at s1 s2 s3 s4
 have l0:wn 256 D/2^(159-i)%2<2:=Nat.mod_lt _ (by decide)
 have l1:wn 256 D/2^(159-(i+1))%2<2:=Nat.mod_lt _ (by decide)
 have l2:wn 256 D/2^(159-(i+2))%2<2:=Nat.mod_lt _ (by decide)
 have l3:wn 256 D/2^(159-(i+3))%2<2:=Nat.mod_lt _ (by decide)
 have l4:wn 256 D/2^(159-(i+4))%2<2:=Nat.mod_lt _ (by decide)
 generalize wn 256 D/2^(159-i)%2=t0 at*
 generalize wn 256 D/2^(159-(i+1))%2=t1 at*
 generalize wn 256 D/2^(159-(i+2))%2=t2 at*
 generalize wn 256 D/2^(159-(i+3))%2=t3 at*
 generalize wn 256 D/2^(159-(i+4))%2=t4 at*
 have hfin:=hK (2*(2*(2*(2*(2*0+t0)+t1)+t2)+t3)+t4) (by omega) (by omega)
 have hlt:2*(2*(2*(2*(2*0+t0)+t1)+t2)+t3)+t4<32:=by omega
 have hbt:=bt_let _ hlt
 unfold LETB at hbt
 refine Ev.step (fun k=>aW1 k _ _ _ _ _ _ _ _ _ (by decide) (vT i 0 (by omega)) b0 (bY2 0 t0 (by omega) (by omega)) (vT 0 1 (by decide))) ?_
 refine Ev.step (fun k=>aW1 k _ _ _ _ _ _ _ _ _ (by decide) (vT i 1 (by omega)) b1 (bY2 _ t1 (by omega) (by omega)) (vT 1 1 (by decide))) ?_
 refine Ev.step (fun k=>aW1 k _ _ _ _ _ _ _ _ _ (by decide) (vT i 2 (by omega)) b2 (bY2 _ t2 (by omega) (by omega)) (vT 2 1 (by decide))) ?_
 refine Ev.step (fun k=>aW1 k _ _ _ _ _ _ _ _ _ (by decide) (vT i 3 (by omega)) b3 (bY2 _ t3 (by omega) (by omega)) (vT 3 1 (by decide))) ?_
 refine Ev.step (fun k=>aW1 k _ _ _ _ _ _ _ _ _ (by decide) (vT i 4 (by omega)) b4 (bY2 _ t4 (by omega) (by omega)) (vT 4 1 (by decide))) ?_
 exact Ev.step (fun k=>eY6 k _ _ _ _ _ _ (by omega) (by omega) (by omega) hbt (vT i 5 (by omega))) hfin
def dY0 (J:List Nat):List Int:=J.map fun v=>((dQ1 v).toNat:Int)
theorem fK1 (D:List Nat) (hD: ∀x∈D,x<256) (h20:D.length=20) (l:List UInt8) (hl:l.all wW=true) (h32:l.length=32) (hv:wb l=wn 256 D):
  ∀(n i:Nat) (J:List Nat),i+n=32→J.length=i→(∀x∈J,x<32)→wn 32 J=wn 256 D/2^(160-5*i)→
  Ev (fun k=>kI.l0 k (mkB (D.map fun v=>UInt8.ofNat v)) (dY0 J) ((5*i:Nat):Int)) (mkB l):=by
 have hsz:wrap64 (8*((mkB (D.map fun v=>UInt8.ofNat v)).size:Int))=160:=by rw[qC,List.length_map,h20,qF (by decide) (by decide)];rfl
 intro n
 induction n with
 |zero=>
  intro i J hi hJl hJ hw
  obtain rfl:i=32:=by omega
  rw[Nat.sub_self,Nat.pow_zero,Nat.div_one,←hv]at hw
  have e:J=l.map aQ2:=wn_inj 32 (by decide) 32 J (l.map aQ2) hJl (by rw[List.length_map];exact h32) hJ (by
   intro x hx
   obtain⟨b,hb,rfl⟩:=List.mem_map.1 hx
   exact((aZ1 b).1 (List.all_eq_true.1 hl b hb)).2.1) hw
  refine Ev.step (f:=fun _=>some (mkB l)) (fun k=>?_) (Ev.now _)
  rw[kI.l0,hsz,if_neg (by decide)]
  unfold dY0
  rw[dZ9,e,fQ5 l hl]
 |succ n ih=>
  intro i J hi hJl hJ hw
  refine Ev.step (fun k=>?_) (cX8 D hD h20 (dY0 J) (by unfold dY0;rw[List.length_map];omega) (5*i) (by omega) (mkB l) (fun v hv32 hvv=>?_))
  ·have c1:((5*i:Nat):Int)<160:=by omega
   rw[kI.l0,hsz,if_pos c1]
  ·have:=ih (i+1) (J++ [v]) (by omega) (by rw[List.length_append,List.length_singleton];omega) (by
    intro x hx
    rcases List.mem_append.1 hx with hx|hx
    ·exact hJ x hx
    ·simp at hx;omega) (by rw[aW0,hw,show 160-5*(i+1)=160-(5*i+5)by omega,hvv,Nat.mul_comm])
   rw[show 5*(i+1)=5*i+5 by omega]at this
   have e:dY0 (J++ [v])=dY0 J++ [((dQ1 v).toNat:Int)]:=by unfold dY0;rw[List.map_append];rfl
   rw[e]at this
   exact this
theorem fY0 (D:List Nat) (hD: ∀x∈D,x<256) (h20:D.length=20) (l:List UInt8) (hl:l.all wW=true) (h32:l.length=32) (hv:wb l=wn 256 D):
  Ev (fun k=>kI.f k (strOfNums (D.map fun v:Nat=>(v:Int)))) (mkB l):=by
 rw[eJ0]
 unfold kI.f
 simp only[if_neg (show ¬((mkB (D.map fun v=>UInt8.ofNat v)).size:Int)>4000 by rw[qC,List.length_map];omega)]
 refine fK1 D hD h20 l hl h32 hv 32 0 [] rfl rfl (by simp) ?_
 have hlt:=wn_lt 256 (by decide) D hD
 rw[h20]at hlt
 have e:(256:Nat)^20=2^(160-5*0):=by decide
 rw[e]at hlt
 rw[Nat.div_eq_of_lt hlt];rfl
def PB (acc:List Int) (at_ X:Nat):Prop:= ∃(A:List Nat) (r Y n:Nat),acc=A.map (fun v:Nat=>(v:Int))++(if n=0 then []else((Y*2^(8-r):Nat):Int)::List.replicate (n-1) 0)∧8*A.length+r=at_∧A.length+n=20∧r<8∧Y<2^r∧(∀x∈A,x<256)∧wn 256 A*2^r+Y=X
theorem PB_step (acc:List Int) (at_ X t:Nat) (h:PB acc at_ X) (ha:at_<160) (ht:t≤1):
  PB (if t=1 then acc.set (at_/8) ((rd acc ((at_/8:Nat):Int)+((2^(7-at_%8):Nat):Int))%256)else acc) (at_+1) (2*X+t)∧acc.length=20:=by
 obtain⟨A,r,Y,n,hacc,h1,h2,h3,h4,h5,h6⟩:=h
 have hn:n≠0:=by omega
 obtain⟨m,rfl⟩: ∃m,n=m+1:=⟨n-1,by omega⟩
 have hq:at_/8=A.length:=by omega
 have hr:at_%8=r:=by omega
 rw[if_neg hn,Nat.add_sub_cancel]at hacc
 have hlen:acc.length=20:=by rw[hacc];simp;omega
 refine⟨?_,hlen⟩
 rw[hq,hr]
 have hrd:rd acc (A.length:Int)=((Y*2^(8-r):Nat):Int):=by
  rw[hacc]
  show(A.map _++_).getD (A.length:Int).toNat 0=_
  rw[Int.toNat_natCast,List.getD_eq_getElem?_getD,List.getElem?_append_right (by simp)]
  simp
 have hset: ∀z:Int,acc.set A.length z=A.map (fun v:Nat=>(v:Int))++z::List.replicate m 0:=by
  intro z
  rw[hacc,List.set_append_right _ _ (by simp)]
  simp
 have hb:Y*2^(8-r)+2^(7-r)<256∧(2*Y+1)*2^(7-r)=Y*2^(8-r)+2^(7-r)∧2*Y*2^(7-r)=Y*2^(8-r):=by
  have h:r=0∨r=1∨r=2∨r=3∨r=4∨r=5∨r=6∨r=7:=by omega
  rcases h with rfl|rfl|rfl|rfl|rfl|rfl|rfl|rfl<;>simp only[Nat.reduceSub,Nat.reducePow]at* <;>omega
 obtain⟨hb1,hb2,hb3⟩:=hb
 have hacc2:(if t=1 then acc.set A.length ((rd acc (A.length:Int)+((2^(7-r):Nat):Int))%256)else acc)=A.map (fun v:Nat=>(v:Int))++(((2*Y+t)*2^(7-r):Nat):Int)::List.replicate m 0:=by
  by_cases ht1:t=1
  ·rw[if_pos ht1,hset,hrd,ht1,hb2]
   congr 2
   omega
  ·have ht0:t=0:=by omega
   rw[if_neg ht1,ht0,Nat.add_zero,hb3,hacc]
 rw[hacc2]
 by_cases h7:r=7
 ·subst h7
  refine⟨A++ [2*Y+t],0,0,m,?_,by rw[List.length_append,List.length_singleton];omega,by rw[List.length_append,List.length_singleton];omega,by decide,by decide,?_,by rw[aW0,←h6];simp only[Nat.reducePow];omega⟩
  ·rw[eX7,List.append_assoc]
   congr 1
   simp only[Nat.sub_self,Nat.pow_zero,Nat.mul_one,Nat.zero_mul,List.singleton_append]
   congr 1
   cases m with
   |zero=>rfl
   |succ m=>rw[if_neg (by omega),Nat.add_sub_cancel];rfl
  ·intro x hx
   rcases List.mem_append.1 hx with hx|hx
   ·exact h5 x hx
   ·simp at hx
    simp only[Nat.reducePow]at h4
    omega
 ·refine⟨A,r+1,2*Y+t,m+1,?_,by omega,h2,by omega,by rw[Nat.pow_succ];omega,h5,by rw[Nat.pow_succ,←h6,←Nat.mul_assoc];omega⟩
  rw[if_neg (by omega),Nat.add_sub_cancel,show 8-(r+1)=7-r by omega]
theorem PB_zero:PB (List.replicate 20 0) 0 0:=⟨[],0,0,20,by simp[List.replicate],rfl,rfl,by decide,by decide,by simp,rfl⟩
theorem PB_end (acc:List Int) (X:Nat) (h:PB acc 160 X): ∃A:List Nat,acc=A.map (fun v:Nat=>(v:Int))∧A.length=20∧(∀x∈A,x<256)∧wn 256 A=X:=by
 obtain⟨A,r,Y,n,hacc,h1,h2,h3,h4,h5,h6⟩:=h
 have hn:n=0:=by omega
 have hr:r=0:=by omega
 subst hn;subst hr
 rw[if_pos rfl,List.append_nil]at hacc
 rw[Nat.pow_zero]at h4
 refine⟨A,hacc,by omega,h5,?_⟩
 rw[Nat.pow_zero,Nat.mul_one]at h6;omega
theorem eW1 (k:Nat) (L:ByteArray) (X:List Int) (i d j n q e s g j':Int) (hj:j<5) (hn:wrap64 ((wrap64 (5*i))+j)=n) (hq:wrap64 (Int.tdiv n 8)=q) (hl:q<(X.length:Int)) (hs:wrap64 (4-j)=s) (h0s:0≤s) (hb:Go.bits .and .i64 (shr .i64 d s) 1=1) (h0q:0≤q) (he:wrap64 (7-(Int.tmod n 8))=e) (h0e:0≤e) (hg:(rd X q+shl .u8 1 e)%256=g) (hj':wrap64 (j+1)=j'):
  zC.l1 (k+1) L X i d j=zC.l1 k L (X.set q.toNat g) i d j':=by
 rw[zC.l1,if_pos hj,hn,hq,if_pos hl,hs,if_pos h0s,if_pos hb,if_pos h0q,he,if_pos h0e,hg,hj']
theorem dY4 (k:Nat) (L:ByteArray) (X:List Int) (i d j n q s j':Int) (hj:j<5) (hn:wrap64 ((wrap64 (5*i))+j)=n) (hq:wrap64 (Int.tdiv n 8)=q) (hl:q<(X.length:Int)) (hs:wrap64 (4-j)=s) (h0s:0≤s) (hb: ¬Go.bits .and .i64 (shr .i64 d s) 1=1) (hj':wrap64 (j+1)=j'):
  zC.l1 (k+1) L X i d j=zC.l1 k L X i d j':=by
 rw[zC.l1,if_pos hj,hn,hq,if_pos hl,hs,if_pos h0s,if_neg hb,hj']
theorem shl_u8 (e:Nat) (he:e<8):shl .u8 1 (e:Int)=((2^e:Nat):Int):=by
 have h:e=0∨e=1∨e=2∨e=3∨e=4∨e=5∨e=6∨e=7:=by omega
 rcases h with rfl|rfl|rfl|rfl|rfl|rfl|rfl|rfl<;>decide
theorem aX2 (L:ByteArray) (acc:List Int) (i d j X:Nat) (hi:i<32) (hj:j<5) (hd:d<32) (hP:PB acc (5*i+j) X) (ok:Bool)
  (hK: ∀acc',PB acc' (5*i+(j+1)) (2*X+d/2^(4-j)%2)→ ∃x:ByteArray,Ev (fun k=>zC.l1 k L acc' (i:Int) (d:Int) ((j+1:Nat):Int)) (x,ok)):
  ∃x:ByteArray,Ev (fun k=>zC.l1 k L acc (i:Int) (d:Int) (j:Int)) (x,ok):=by
 have ht:d/2^(4-j)%2≤1:=by have:=Nat.mod_lt (d/2^(4-j)) (show 0<2 by decide);omega
 obtain⟨hP',hlen⟩:=PB_step acc (5*i+j) X (d/2^(4-j)%2) hP (by omega) ht
 obtain⟨x,hk⟩:=hK _ hP'
 have hsh:=eW6 d (4-j) (by omega)
 have hm:=and1n (d/2^(4-j)) (by have:=Nat.div_le_self d (2^(4-j));omega)
 have hdiv:Int.tdiv ((5*i+j:Nat):Int) 8=(((5*i+j)/8:Nat):Int):=by rw[Int.tdiv_eq_ediv_of_nonneg (by omega)];omega
 have hmod:Int.tmod ((5*i+j:Nat):Int) 8=(((5*i+j)%8:Nat):Int):=by rw[Int.tmod_eq_emod_of_nonneg (by omega)];omega
 have hql:(((5*i+j)/8:Nat):Int)<(acc.length:Int):=by rw[hlen];omega
 have h0s:(0:Int)≤((4-j:Nat):Int):=by omega
 have h0q:(0:Int)≤(((5*i+j)/8:Nat):Int):=by omega
 have h0e:(0:Int)≤((7-(5*i+j)%8:Nat):Int):=by omega
 have hj5:(j:Int)<5:=by omega
 have hshl:=shl_u8 (7-(5*i+j)%8) (by omega)
 have W1:wrap64 ((wrap64 (5*(i:Int)))+(j:Int))=((5*i+j:Nat):Int):=by
  rw[qF (a:=5*(i:Int)) (by omega) (by omega),qF (by omega) (by omega)];omega
 have W2:wrap64 (((5*i+j)/8:Nat):Int)=(((5*i+j)/8:Nat):Int):=by clear W1;exact qF (by omega) (by omega)
 have W3:wrap64 (4-(j:Int))=((4-j:Nat):Int):=by clear W1 W2;rw[qF (by omega) (by omega)];omega
 have W4:wrap64 (7-(((5*i+j)%8:Nat):Int))=((7-(5*i+j)%8:Nat):Int):=by clear W1 W2 W3;rw[qF (by omega) (by omega)];omega
 have W5:wrap64 ((j:Int)+1)=((j+1:Nat):Int):=by clear W1 W2 W3 W4;exact vT j 1 (by omega)
 rw[←hdiv]at W2
 rw[←hmod]at W4
 rw[hdiv]at W2
 by_cases h1:d/2^(4-j)%2=1
 ·rw[if_pos h1]at hk
  refine⟨x,Ev.step (fun k=>?_) hk⟩
  have e:=eW1 k L acc (i:Int) (d:Int) (j:Int) _ _ _ _ _ _ hj5 W1 (by rw[hdiv];exact W2) hql W3 h0s (by rw[hsh,hm,h1];rfl) h0q W4 h0e rfl W5
  rw[e,hshl,Int.toNat_natCast]
 ·rw[if_neg h1]at hk
  refine⟨x,Ev.step (fun k=>?_) hk⟩
  exact dY4 k L acc (i:Int) (d:Int) (j:Int) _ _ _ _ hj5 W1 (by rw[hdiv];exact W2) hql W3 h0s (by rw[hsh,hm];intro hh;exact h1 (Int.ofNat_inj.1 hh)) W5
theorem cY3 (b:UInt8):Ev (fun k=>xO.f k (b.toNat:Int)) (cV9 b):=by
 have hb:b.toNat<256:=b.toNat_lt
 unfold xO.f cV9
 by_cases h65:(b.toNat:Int)≥65
 ·simp only[if_pos h65]
  by_cases h90:(b.toNat:Int)≤90
  ·rw[if_pos (by omega)]
   refine Ev.step (f:=fun _=>some ((b.toNat:Int)-65)) (fun k=>?_) (Ev.now _)
   rw[xO.j0,if_pos (decide_eq_true h90)]
   congr 1;omega
  ·rw[if_neg (by omega),if_neg (by omega)]
   refine Ev.step (f:=fun _=>some (-1)) (fun k=>?_) (Ev.now _)
   rw[xO.j0,if_neg (by rw[decide_eq_false h90];exact Bool.false_ne_true),if_pos (by omega),if_neg (by omega)]
 ·simp only[if_neg h65]
  rw[if_neg (by omega)]
  by_cases h50:50≤b.toNat∧b.toNat≤55
  ·rw[if_pos h50]
   refine Ev.step (f:=fun _=>some ((b.toNat:Int)-24)) (fun k=>?_) (Ev.now _)
   rw[xO.j0,if_neg Bool.false_ne_true,if_pos (by omega),if_pos (by omega)]
   congr 1;omega
  ·rw[if_neg h50]
   refine Ev.step (f:=fun _=>some (-1)) (fun k=>?_) (Ev.now _)
   rw[xO.j0,if_neg Bool.false_ne_true]
   by_cases h:(b.toNat:Int)≥50
   ·rw[if_pos h,if_neg (by omega)]
   ·rw[if_neg h]
theorem five_sum (V d:Nat) (hd:d<32):2*(2*(2*(2*(2*V+d/2^(4-0)%2)+d/2^(4-1)%2)+d/2^(4-2)%2)+d/2^(4-3)%2)+d/2^(4-4)%2=V*32+d:=by
 simp only[Nat.reduceSub,Nat.reducePow];omega
theorem cZ5 (l:List UInt8) (h32:l.length=32): ∀(r pre:List UInt8) (acc:List Int),l=pre++r→pre.all wW=true→PB acc (5*pre.length) (wb pre)→
  ∃x,Ev (fun k=>zC.l0 k (mkB l) acc (pre.length:Int)) (x,r.all wW)
 | [],pre,acc,hl,ha,hP=>by
  rw[List.append_nil]at hl
  subst hl
  rw[h32]at hP
  obtain⟨A,hA,hA20,hA256,hw⟩:=PB_end acc _ hP
  subst hA
  refine⟨strOfNums (A.map fun v:Nat=>(v:Int)),Ev.step (f:=fun k=>(kI.f k (strOfNums (A.map fun v:Nat=>(v:Int)))).bind fun t212=>(if t212.toList=(mkB l).toList then(some (strOfNums (A.map fun v:Nat=>(v:Int)),true))else(some ((⟨#[]⟩:ByteArray),false)))) (fun k=>by
   rw[zC.l0,if_neg (by rw[qC];omega)]) ?_⟩
  refine(fY0 A hA256 hA20 l ha h32 hw.symm).bind ?_
  rw[if_pos rfl]
  exact Ev.now _
 |b::r,pre,acc,hl,ha,hP=>by
  have hpl:pre.length<32:=by have:=congrArg List.length hl;simp at this;omega
  have hbt:bt (mkB l) (pre.length:Int)=(b.toNat:Int):=by rw[hl];exact jR pre b r
  have hsz:(pre.length:Int)<((mkB l).size:Int):=by rw[qC];omega
  have h0p:(0:Int)≤(pre.length:Int):=by omega
  have hstep: ∀k,zC.l0 (k+1) (mkB l) acc (pre.length:Int)=(xO.f k (b.toNat:Int)).bind fun t213=>(if t213<0 then(some ((⟨#[]⟩:ByteArray),false))else(zC.l1 k (mkB l) acc (pre.length:Int) t213 0)):=by
   intro k
   rw[zC.l0,if_pos hsz,if_pos h0p,hbt]
  cases hok:wW b
  ·have hv:=(aZ1 b).2 hok
   refine⟨(⟨#[]⟩:ByteArray),Ev.step hstep ((cY3 b).bind ?_)⟩
   rw[hv,List.all_cons,hok]
   exact Ev.now _
  ·obtain⟨_,hd,hv⟩:=(aZ1 b).1 hok
   have ha2:(pre++ [b]).all wW=true:=by rw[List.all_append,ha];simp[hok]
   rw[List.all_cons,hok,Bool.true_and]
   have key: ∀acc',PB acc' (5*pre.length+(4+1)) (2*(2*(2*(2*(2*wb pre+aQ2 b/2^(4-0)%2)+aQ2 b/2^(4-1)%2)+aQ2 b/2^(4-2)%2)+aQ2 b/2^(4-3)%2)+aQ2 b/2^(4-4)%2)→ ∃x,Ev (fun k=>zC.l1 k (mkB l) acc' (pre.length:Int) (aQ2 b:Int) ((4+1:Nat):Int)) (x,r.all wW):=by
    intro acc' hP'
    rw[five_sum _ _ hd,←fX4]at hP'
    have e5:5*pre.length+(4+1)=5*(pre++ [b]).length:=by rw[List.length_append,List.length_singleton];omega
    rw[e5]at hP'
    obtain⟨x,hx⟩:=cZ5 l h32 r (pre++ [b]) acc' (by rw[hl];simp) ha2 hP'
    rw[zP]at hx
    refine⟨x,Ev.step (fun k=>?_) hx⟩
    rw[zC.l1,if_neg (by decide),qF (a:=(pre.length:Int)+1) (by omega) (by omega)]
   obtain⟨x,hx⟩:=aX2 (mkB l) acc pre.length (aQ2 b) 0 (wb pre) hpl (by decide) hd hP (r.all wW) (fun a1 p1=>
    aX2 (mkB l) a1 pre.length (aQ2 b) 1 _ hpl (by decide) hd p1 (r.all wW) (fun a2 p2=>
     aX2 (mkB l) a2 pre.length (aQ2 b) 2 _ hpl (by decide) hd p2 (r.all wW) (fun a3 p3=>
      aX2 (mkB l) a3 pre.length (aQ2 b) 3 _ hpl (by decide) hd p3 (r.all wW) (fun a4 p4=>
       aX2 (mkB l) a4 pre.length (aQ2 b) 4 _ hpl (by decide) hd p4 (r.all wW) key))))
   refine⟨x,Ev.step hstep ((cY3 b).bind ?_)⟩
   have hnn: ¬(aQ2 b:Int)<0:=by omega
   rw[hv]
   simp only[if_neg hnn]
   exact hx
theorem eV8 (l:List UInt8) (h32:l.length=32): ∃x,Ev (fun k=>zC.f k (mkB l)) (x,l.all wW):=by
 obtain⟨x,hx⟩:=cZ5 l h32 l [] (List.replicate 20 0) rfl rfl PB_zero
 refine⟨x,?_⟩
 have hz:((mkB l).size:Int)=32:=by rw[qC,h32];rfl
 have hw:wrap64 (Int.tdiv (wrap64 ((32:Int)*5)) 8)=20:=by
  have e:Int.tdiv ((32:Int)*5) 8=20:=by decide
  rw[qF (a:=(32:Int)*5) (by decide) (by decide),e];exact qF (by decide) (by decide)
 unfold zC.f
 rw[hz,hw]
 simp only[if_neg (show ¬(32:Int)>6400 by decide),if_pos (show(0:Int)≤20 by decide),if_pos (show(20:Int).toNat≤281474976710656 by decide)]
 exact hx
theorem bJ2: ∀(l sub:List UInt8),Lib.index l sub= -1∨(0≤Lib.index l sub∧Lib.index l sub+sub.length≤l.length)
 | [],sub=>by cases sub<;>simp[Lib.index]
 |b::l,sub=>by
  unfold Lib.index
  by_cases hp:sub.isPrefixOf (b::l)=true
  ·have:=(List.isPrefixOf_iff_prefix.1 hp).length_le
   rw[if_pos hp];right;simp at this ⊢;omega
  ·rw[if_neg hp]
   rcases bJ2 l sub with h|h
   ·left;simp[h]
   ·right
    have:(Lib.index l sub== -1)=false:=by simp;omega
    rw[this];simp;omega
def vG (c:UInt8):List UInt8→List (List UInt8)
 | []=> [[]]
 |b::r=>if b=c then []::vG c r else((vG c r).headD []|>(b:: ·))::(vG c r).tail
theorem vZ (c:UInt8): ∀l,vG c l≠ []
 | []=>by simp[vG]
 |b::r=>by unfold vG;split<;>simp
theorem vW (c:UInt8): ∀l:List UInt8,(∀b∈l,b≠c)→vG c l= [l]
 | [],_=>rfl
 |b::r,h=>by
  have ih:=vW c r (fun x hx=>h x (List.mem_cons_of_mem _ hx))
  rw[vG,if_neg (h b (by simp)),ih];rfl
theorem yQ (c:UInt8): ∀(mid r:List UInt8),(∀b∈mid,b≠c)→vG c (mid++c::r)=mid::vG c r
 | [],r,_=>by simp[vG]
 |b::mid,r,h=>by
  have ih:=yQ c mid r (fun x hx=>h x (List.mem_cons_of_mem _ hx))
  rw[List.cons_append,vG,if_neg (h b (by simp)),ih];rfl
theorem bV4 (c:UInt8): ∀l:List UInt8,(∀b∈l,b≠c)∨ ∃mid r,l=mid++c::r∧ ∀b∈mid,b≠c
 | []=> .inl (by simp)
 |b::r=>by
  by_cases h:b=c
  ·subst h;exact .inr ⟨[],r,rfl,by simp⟩
  ·rcases bV4 c r with h1|⟨mid,r',rfl,h1⟩
   ·exact .inl (by intro x hx;rcases List.mem_cons.1 hx with rfl|hx;exact h;exact h1 x hx)
   ·exact .inr ⟨b::mid,r',rfl,by intro x hx;rcases List.mem_cons.1 hx with rfl|hx;exact h;exact h1 x hx⟩
theorem dQ9 (c:UInt8): ∀(mid r:List UInt8),(∀b∈mid,b≠c)→Lib.index (mid++c::r) [c]=(mid.length:Int)
 | [],r,_=>by simp[Lib.index]
 |b::mid,r,h=>by
  have ih:=dQ9 c mid r (fun x hx=>h x (List.mem_cons_of_mem _ hx))
  have hc:(c==b)=false:=by simpa using fun x=>h b (by simp) x.symm
  simp only[List.cons_append,Lib.index,List.isPrefixOf,hc,Bool.false_and,Bool.false_eq_true,if_false,ih]
  rw[if_neg (by simp<;>omega)];simp
theorem dY8 (c:UInt8): ∀(n:Nat) (l:List UInt8),l.count c=n→Lib.splitK [c] 0 n l=vG c l
 |0,l,h=>by
  have: ∀b∈l,b≠c:=fun b hb e=>by subst e;exact(List.count_eq_zero.1 h) hb
  rw[vW c l this];rfl
 |n+1,l,h=>by
  rcases bV4 c l with h1|⟨mid,r,rfl,h1⟩
  ·have:l.count c=0:=List.count_eq_zero.2 (fun hm=>h1 c hm rfl)
   omega
  ·have hm:mid.count c=0:=List.count_eq_zero.2 (fun hm=>h1 c hm rfl)
   have hr:r.count c=n:=by simp[List.count_append,hm]at h;exact h
   rw[Lib.splitK,dQ9 c mid r h1,if_neg (by simp<;>omega),yQ c mid r h1]
   simp only[Int.toNat_natCast,Nat.add_zero,List.length_singleton]
   rw[List.take_left' rfl,show(mid++c::r).drop (mid.length+1)=r from eZ6 mid c r,dY8 c n r hr]
theorem gQ0 (X:List ByteArray) (Y:List (List UInt8)) (h:X.map (·.data.toList)=Y):X=Y.map mkB:=by
 rw[←h,List.map_map]
 have:(mkB ∘ fun x:ByteArray=>x.data.toList)=id:=by funext x;exact bV9 x
 rw[this,List.map_id]
theorem wX (l:List UInt8) (c:UInt8) (h:l.length≤1048576):strings_Split.f (mkB l) (⟨#[c]⟩:ByteArray)=some ((vG c l).map mkB):=by
 unfold strings_Split.f
 rw[if_pos ⟨by rw[qC];omega,Nat.le_refl _⟩]
 congr 1
 apply gQ0
 rw[Lib.splitB_data]
 have e1:(⟨#[c]⟩:ByteArray).data.toList= [c]:=rfl
 have e2:(mkB l).data.toList=l:=xY l
 show Lib.splitK _ 0 (Lib.count (mkB l).data.toList (⟨#[c]⟩:ByteArray).data.toList) _=_
 rw[e1,e2,Lib.count_one]
 exact dY8 c _ l rfl
theorem eJ8 (pre m suf:List UInt8):((pre++(m++suf)).drop pre.length).take (pre.length+m.length-pre.length)=m:=by simp
theorem bt_mid2 (pre m:List UInt8) (b:UInt8) (suf:List UInt8) (i:Int) (hi:i=(pre.length:Int)+(m.length:Int)):bt (mkB (pre++(m++b::suf))) i=(b.toNat:Int):=by
 have:=jR (pre++m) b suf
 rw[List.append_assoc]at this
 rw[hi,←this];simp
theorem u8_nat (b c:UInt8):(b.toNat:Int)=(c.toNat:Int)↔b=c:=by rw[←UInt8.toNat_inj];omega
theorem aJ8 (c:UInt8): ∀(r mid done:List UInt8) (acc:List ByteArray),(∀b∈mid,b≠c)→(done++(mid++r)).length≤1048576→acc.length≤done.length→
  Ev (fun k=>qG.l0 k (mkB (done++(mid++r))) (c.toNat:Int) acc (done.length:Int) ((done.length:Int)+(mid.length:Int))) (acc++(vG c (mid++r)).map mkB)
 | [],mid,done,acc,hm,hl,ha=>by
  simp only[List.append_nil]at hl ⊢
  have hl2:=hl
  simp at hl2
  rw[vW c mid hm]
  have hx:(mkB (done++mid)).extract (done.length:Int).toNat ((done.length:Int)+(mid.length:Int)).toNat=mkB mid:=by
   have:=eJ8 done mid []
   rw[List.append_nil]at this
   rw[jO,Int.toNat_natCast,show((done.length:Int)+(mid.length:Int)).toNat=done.length+mid.length by omega,this]
  have hw:wrap64 ((done.length:Int)+(mid.length:Int)+1)=(done.length:Int)+(mid.length:Int)+1:=qF (by omega) (by omega)
  refine Ev.step (f:=fun k=>qG.l0 k (mkB (done++mid)) (c.toNat:Int) (acc++ [mkB mid]) ((done.length:Int)+(mid.length:Int)+1) ((done.length:Int)+(mid.length:Int)+1)) (fun k=>?_) ?_
  ·simp only[qG.l0]
   rw[if_pos (by rw[qC];simp),if_pos (by rw[qC];simp),if_pos (by omega),if_pos (by omega),if_pos (by omega),hx,hw]
  ·refine Ev.step (f:=fun _=>some (acc++ [mkB mid])) (fun k=>?_) (Ev.now _)
   simp only[qG.l0]
   rw[if_neg (by rw[qC];simp;omega)]
 |b::r,mid,done,acc,hm,hl,ha=>by
  have hl2:=hl
  simp at hl2
  have hw:wrap64 ((done.length:Int)+(mid.length:Int)+1)=(done.length:Int)+(mid.length:Int)+1:=qF (by omega) (by omega)
  have hle:(done.length:Int)+(mid.length:Int)≤((mkB (done++(mid++b::r))).size:Int):=by rw[qC];simp;omega
  have hne: ¬(done.length:Int)+(mid.length:Int)=((mkB (done++(mid++b::r))).size:Int):=by rw[qC];simp;omega
  have hlt:(done.length:Int)+(mid.length:Int)<((mkB (done++(mid++b::r))).size:Int):=by rw[qC];simp;omega
  have hb:=bt_mid2 done mid b r _ rfl
  by_cases h:b=c
  ·subst h
   have ih:=aJ8 b r [] (done++mid++ [b]) (acc++ [mkB mid]) (by simp) (by simp;omega) (by simp;omega)
   have e:(done++mid++ [b])++([]++r)=done++(mid++b::r):=by simp
   have e2:((done++mid++ [b]).length:Int)=(done.length:Int)+(mid.length:Int)+1:=by simp;omega
   rw[e,e2]at ih
   simp only[List.nil_append,List.length_nil,Int.natCast_zero,Int.add_zero]at ih
   rw[yQ b mid r hm,List.map_cons]
   have hx:(mkB (done++(mid++b::r))).extract (done.length:Int).toNat ((done.length:Int)+(mid.length:Int)).toNat=mkB mid:=by
    rw[jO,Int.toNat_natCast,show((done.length:Int)+(mid.length:Int)).toNat=done.length+mid.length by omega,eJ8]
   rw[show acc++mkB mid::(vG b r).map mkB=acc++ [mkB mid]++(vG b r).map mkB by simp]
   refine Ev.step (fun k=>?_) ih
   simp only[qG.l0]
   rw[if_pos hle,if_neg hne,if_pos (by omega),if_pos hlt,hb,if_pos rfl,if_pos (by omega),if_pos (by omega),if_pos (by omega),hx,hw]
  ·have ih:=aJ8 c r (mid++ [b]) done acc (by intro x hx;rcases List.mem_append.1 hx with h'|h';exact hm x h';simp at h';subst h';exact h) (by simp;omega) ha
   have e:done++(mid++ [b]++r)=done++(mid++b::r):=by simp
   have e2:(done.length:Int)+((mid++ [b]).length:Int)=(done.length:Int)+(mid.length:Int)+1:=by simp;omega
   have e3:mid++ [b]++r=mid++b::r:=by simp
   rw[e,e2,e3]at ih
   refine Ev.step (fun k=>?_) ih
   simp only[qG.l0]
   rw[if_pos hle,if_neg hne,if_pos (by omega),if_pos hlt,hb,if_neg (fun e=>h ((u8_nat b c).1 e)),hw]
theorem aQ0 (c:UInt8) (l:List UInt8) (h:l.length≤1048576):Ev (fun k=>qG.f k (mkB l) (c.toNat:Int)) ((vG c l).map mkB):=by
 have:=aJ8 c l [] [] [] (by simp) (by simpa using h) (by simp)
 simpa [qG.f]using this
def aQ7 (b:UInt8):Bool:=decide (97≤b.toNat)&&decide (b.toNat≤122)
def cZ2 (b:UInt8):Bool:=decide (65≤b.toNat)&&decide (b.toNat≤90)
def aJ6 (b:UInt8):Bool:=decide (48≤b.toNat)&&decide (b.toNat≤57)
theorem fQ0 (b:UInt8):xQ.f (b.toNat:Int)=some (aQ7 b):=by
 unfold xQ.f aQ7
 by_cases h:97≤b.toNat
 ·rw[if_pos (by omega)];congr 1;rw[Bool.eq_iff_iff];simp[h];omega
 ·rw[if_neg (by omega)];simp[h]
theorem fJ1 (b:UInt8):qT.f (b.toNat:Int)=some (cZ2 b):=by
 unfold qT.f cZ2
 by_cases h:65≤b.toNat
 ·rw[if_pos (by omega)];congr 1;rw[Bool.eq_iff_iff];simp[h];omega
 ·rw[if_neg (by omega)];simp[h]
theorem bJ8 (b:UInt8):kL.f (b.toNat:Int)=some (aJ6 b):=by
 unfold kL.f aJ6
 by_cases h:48≤b.toNat
 ·rw[if_pos (by omega)];congr 1;rw[Bool.eq_iff_iff];simp[h];omega
 ·rw[if_neg (by omega)];simp[h]
theorem bW8 (b:UInt8):jI.f (b.toNat:Int)=some (aJ6 b):=bJ8 b
theorem has_go (c:Int): ∀(r pre:List UInt8),(pre++r).length≤9223372036854775806→Ev (fun k=>vK.l0 k (mkB (pre++r)) c pre.length) (r.any fun x=>decide ((x.toNat:Int)=c))
 | [],pre,hl=>Ev.step (f:=fun _=>some false) (fun k=>by simp only[vK.l0];rw[if_neg (by rw[qC];simp)]) (Ev.now _)
 |b::r,pre,hl=>by
  have ih:=has_go c r (pre++ [b]) (by rw[←jQ];exact hl)
  rw[←jQ,zP]at ih
  simp at hl
  by_cases h:(b.toNat:Int)=c
  ·refine Ev.step (f:=fun _=>some true) (fun k=>?_) (by simpa [h]using Ev.now true)
   simp only[vK.l0]
   rw[if_pos (wO ..),if_pos (by omega),jR,if_pos h]
  ·refine Ev.step (fun k=>?_) (by simpa [h]using ih)
   simp only[vK.l0]
   rw[if_pos (wO ..),if_pos (by omega),jR,if_neg h,qF (by omega) (by omega)]
theorem has_is (set:List UInt8) (b:UInt8) (h:set.length≤9223372036854775806):Ev (fun k=>vK.f k (mkB set) (b.toNat:Int)) (set.contains b):=by
 have:=has_go (b.toNat:Int) set [] (by simpa using h)
 have e:(set.any fun x=>decide ((x.toNat:Int)=(b.toNat:Int)))=set.contains b:=by
  rw[←List.any_beq]
  congr 1
  funext x
  rw[Bool.eq_iff_iff]
  simp only[decide_eq_true_eq,beq_iff_eq]
  constructor
  ·intro h;exact(UInt8.toNat_inj.1 (by omega)).symm
  ·intro h;rw[h]
 rw[e]at this
 simpa [vK.f]using this
def xT (b:UInt8):Int:=if aJ6 b=true then(b.toNat:Int)-48 else if 97≤b.toNat∧b.toNat≤102 then(b.toNat:Int)-87 else if 65≤b.toNat∧b.toNat≤70 then(b.toNat:Int)-55 else-1
def aV4:List UInt8→Int→Int×Bool
 | [],n=>(n,true)
 |b::r,n=>if xT b<0 then(0,false)else aV4 r (16*n+xT b)
def bW3:Nat→Int
 |0=>268435456
 |m+1=>bW3 m/16
theorem dQ8: ∀m,0≤bW3 m∧bW3 m≤268435456
 |0=>by simp[bW3]
 |m+1=>by have:=dQ8 m;unfold bW3;omega
theorem bW9 (b:UInt8):xT b<16:=by
 unfold xT aJ6
 by_cases h:48≤b.toNat∧b.toNat≤57
 ·simp[h];omega
 ·rw[if_neg (by simp;omega)];split
  ·omega
  ·split<;>omega
theorem dZ3 (b:UInt8): ∃c:Int,qQ.f (b.toNat:Int)=some c∧0≤c∧c<256∧(65≤b.toNat∧b.toNat≤90→c=(b.toNat:Int)+32)∧(¬(65≤b.toNat∧b.toNat≤90)→c=(b.toNat:Int)):=by
 have:=eZ0 b
 unfold qQ.f
 by_cases h1:65≤b.toNat
 ·rw[if_pos (by omega)]
  by_cases h2:b.toNat≤90
  ·rw[if_pos (by omega)];exact⟨_,rfl,by omega,by omega,fun _=>by omega,fun h=>absurd ⟨h1,h2⟩ h⟩
  ·rw[if_neg (by omega)];exact⟨_,rfl,by omega,by omega,fun h=>absurd h.2 h2,fun _=>rfl⟩
 ·rw[if_neg (by omega)];exact⟨_,rfl,by omega,by omega,fun h=>absurd h.1 h1,fun _=>rfl⟩
theorem fJ3 (c:Int):jI.f c=some (decide (48≤c)&&decide (c≤57)):=by
 unfold jI.f
 by_cases h:c≥48
 ·rw[if_pos h,decide_eq_true (show 48≤c from h)];rfl
 ·rw[if_neg h,decide_eq_false (show ¬48≤c from h)];rfl
theorem bZ3: ∀(r pre:List UInt8) (n:Int),0≤n→n<bW3 r.length→(pre++r).length≤1000→Ev (fun k=>qH.l0 k (mkB (pre++r)) n pre.length) (aV4 r n)
 | [],pre,n,_,_,_=>Ev.step (f:=fun _=>some (n,true)) (fun k=>by simp only[qH.l0];rw[if_neg (by rw[qC];simp)]) (Ev.now _)
 |b::r,pre,n,h0,h1,hl=>by
  have hb:=dQ8 r.length
  have hv:=bW9 b
  have h1':n<bW3 r.length/16:=h1
  simp at hl
  have ih:=bZ3 r (pre++ [b]) (16*n+xT b)
  rw[←jQ,zP]at ih
  have hw:wrap64 ((pre.length:Int)+1)=(pre.length:Int)+1:=qF (by omega) (by omega)
  have hw0:wrap64 (n*16)=n*16:=qF (by omega) (by omega)
  obtain⟨c,hc,c0,c1,c2,c3⟩:=dZ3 b
  have hcell: ∀k,qH.l0 (k+1) (mkB (pre++b::r)) n pre.length=if xT b<0 then some (0,false)else qH.l0 k (mkB (pre++b::r)) (16*n+xT b) ((pre.length:Int)+1):=by
   intro k
   simp only[qH.l0]
   rw[if_pos (wO ..),if_pos (by omega),jR,hc]
   simp only[Option.bind_some,fJ3,hw,hw0]
   by_cases hd:48≤c∧c≤57
   ·have hbd:48≤b.toNat∧b.toNat≤57:=by
     by_cases hu:65≤b.toNat∧b.toNat≤90
     ·have:=c2 hu;omega
     ·have:=c3 hu;omega
    have e:=c3 (by omega)
    have hval:xT b=c-48:=by unfold xT aJ6;rw[if_pos (by simp[hbd])];omega
    rw[if_pos (by simp[hd]),if_neg (by omega),show(c-48)%256=c-48 by omega,qF (by omega) (by omega),hval,show n*16+(c-48)=16*n+(c-48)by omega]
   ·rw[if_neg (by simp;omega)]
    have hnd:aJ6 b=false:=by
     unfold aJ6
     by_cases hu:65≤b.toNat∧b.toNat≤90
     ·simp;omega
     ·have:=c3 hu;simp;omega
    by_cases h97:c≥97
    ·rw[if_pos h97]
     by_cases h102:c≤102
     ·have hval:xT b=c-87:=by
       unfold xT;rw[hnd,if_neg (by decide)]
       by_cases hu:65≤b.toNat∧b.toNat≤90
       ·have:=c2 hu;rw[if_neg (by omega),if_pos (by omega)];omega
       ·have:=c3 hu;rw[if_pos (by omega)];omega
      rw[if_pos h102,if_neg (by omega),show(c-97)%256=c-97 by omega,qF (a:=n*16+(c-97)) (by omega) (by omega),qF (by omega) (by omega),hval,show n*16+(c-97)+10=16*n+(c-87)by omega]
     ·have hval:xT b= -1:=by
       unfold xT;rw[hnd,if_neg (by decide)]
       by_cases hu:65≤b.toNat∧b.toNat≤90
       ·have:=c2 hu;rw[if_neg (by omega),if_neg (by omega)]
       ·have:=c3 hu;rw[if_neg (by omega),if_neg (by omega)]
      rw[if_neg h102,hval,if_pos (by decide)]
    ·have hval:xT b= -1:=by
      unfold xT;rw[hnd,if_neg (by decide)]
      by_cases hu:65≤b.toNat∧b.toNat≤90
      ·have:=c2 hu;omega
      ·have:=c3 hu;rw[if_neg (by omega),if_neg (by omega)]
     rw[if_neg h97,hval,if_pos (by decide)]
  by_cases hneg:xT b<0
  ·refine Ev.step (f:=fun _=>some (0,false)) (fun k=>by rw[hcell,if_pos hneg]) (by simpa [aV4,hneg]using Ev.now _)
  ·have er:aV4 (b::r) n=aV4 r (16*n+xT b):=by simp[aV4,hneg]
   rw[er]
   exact Ev.step (fun k=>by rw[hcell,if_neg hneg]) (ih (by omega) (by omega) (by simp;omega))
def cY0 (l:List UInt8):Int×Bool:=if l.length=0∨7<l.length then(0,false)else aV4 l 0
theorem fZ3 (m:Nat) (h:m≤7):0<bW3 m:=by
 have:m=0∨m=1∨m=2∨m=3∨m=4∨m=5∨m=6∨m=7:=by omega
 rcases this with rfl|rfl|rfl|rfl|rfl|rfl|rfl|rfl<;>decide
theorem dQ0 (l:List UInt8):Ev (fun k=>qH.f k (mkB l)) (cY0 l):=by
 have hj: ∀l:List UInt8,Ev (fun k=>qH.j0 k (mkB l) true) ((0:Int),false):=fun l=>Ev.step (f:=fun _=>some (0,false)) (fun k=>by simp only[qH.j0,if_true]) (Ev.now _)
 unfold qH.f cY0
 by_cases h0:l.length=0
 ·simp only[if_pos (show((mkB l).size:Int)=0 by rw[qC];omega),if_pos (show l.length=0∨7<l.length from .inl h0)]
  exact hj l
 ·simp only[if_neg (show ¬((mkB l).size:Int)=0 by rw[qC];omega)]
  by_cases h7:7<l.length
  ·simp only[decide_eq_true (show((mkB l).size:Int)>7 by rw[qC];omega),if_pos (show l.length=0∨7<l.length from .inr h7)]
   exact hj l
  ·have hg:=bZ3 l [] 0 (by omega) (fZ3 _ (by omega)) (by simp;omega)
   simp only[decide_eq_false (show ¬((mkB l).size:Int)>7 by rw[qC];omega),if_neg (show ¬(l.length=0∨7<l.length)by omega)]
   refine Ev.step (f:=fun k=>qH.l0 k (mkB l) 0 0) (fun k=>by simp only[qH.j0,Bool.false_eq_true,if_false]) ?_
   simpa using hg
theorem cJ0 (b:UInt8):Ev (fun k=>vJ.f k (b.toNat:Int)) (xT b):=by
 have hlt:=eZ0 b
 unfold vJ.f
 rw[bJ8]
 simp only[Option.bind_some]
 unfold xT
 cases hd:aJ6 b
 ·have hnd: ¬(48≤b.toNat∧b.toNat≤57):=by intro h;rw[aJ6]at hd;simp[h]at hd
  simp only[Bool.false_eq_true,if_false]
  have hf:Ev (fun k=>vJ.j0 k (b.toNat:Int) false) (if 65≤b.toNat∧b.toNat≤70 then(b.toNat:Int)-55 else-1):=by
   refine Ev.step (f:=fun _=>some (if 65≤b.toNat∧b.toNat≤70 then(b.toNat:Int)-55 else-1)) (fun k=>?_) (Ev.now _)
   simp only[vJ.j0,Bool.false_eq_true,if_false]
   by_cases h1:65≤b.toNat
   ·rw[if_pos (by omega)]
    by_cases h2:b.toNat≤70
    ·rw[if_pos (by omega),if_pos ⟨h1,h2⟩];congr 1;omega
    ·rw[if_neg (by omega),if_neg (by omega)]
   ·rw[if_neg (by omega),if_neg (by omega)]
  by_cases h1:97≤b.toNat
  ·simp only[if_pos (show(b.toNat:Int)≥97 by omega)]
   by_cases h2:b.toNat≤102
   ·simp only[decide_eq_true (show(b.toNat:Int)≤102 by omega),if_pos (show 97≤b.toNat∧b.toNat≤102 from⟨h1,h2⟩)]
    refine Ev.step (f:=fun _=>some ((b.toNat:Int)-87)) (fun k=>?_) (Ev.now _)
    simp only[vJ.j0,if_true];congr 1;omega
   ·simp only[decide_eq_false (show ¬(b.toNat:Int)≤102 by omega),if_neg (show ¬(97≤b.toNat∧b.toNat≤102)by omega)]
    exact hf
  ·simp only[if_neg (show ¬(b.toNat:Int)≥97 by omega),if_neg (show ¬(97≤b.toNat∧b.toNat≤102)by omega)]
   exact hf
 ·have hdd:48≤b.toNat∧b.toNat≤57:=by simpa [aJ6]using hd
  simp only[if_true]
  rw[show((b.toNat:Int)-48)%256=(b.toNat:Int)-48 by omega]
  exact Ev.now _
def aY6 (b:UInt8):Bool:=aQ7 b||aJ6 b||decide (b=45)
def cV8 (p:List UInt8):Bool:=!p.isEmpty&&p.all aY6
def aX4 (l:List UInt8):Bool:=decide (1≤l.length)&&decide (l.length≤60)&&(vG 46 l).all cV8
theorem u8_45 (b:UInt8):(b.toNat:Int)=45↔b=45:=by rw[←UInt8.toNat_inj];show _↔b.toNat=45;omega
theorem dV0 (pre:List (List UInt8)) (x:List UInt8) (r:List (List UInt8)):jB ByteArray.empty ((pre++x::r).map mkB) (pre.length:Int)=mkB x:=by
 rw[List.map_append,List.map_cons,jB,show(pre.length:Int)=((pre.map mkB).length:Int)by simp,cK0]
theorem cX5 (P:List ByteArray) (i:Int) (x:List UInt8) (hx:jB ByteArray.empty P i=mkB x) (hi:0≤i) (hi2:i<(P.length:Int)) (hP:P.length≤1000000) (hl:x.length≤1000000) (res:Bool) (hres:Ev (fun k=>kD.l0 k P (i+1)) res):
  ∀(r pre:List UInt8),x=pre++r→Ev (fun k=>kD.l1 k P i (pre.length:Int)) (r.all aY6&&res)
 | [],pre,hp=>by
  refine Ev.step (fun k=>?_) (by simpa using hres)
  simp only[kD.l1]
  rw[if_pos hi,if_pos hi2,hx,if_neg (by rw[qC,hp];simp),qF (by omega) (by omega)]
 |b::r,pre,hp=>by
  have ih:=cX5 P i x hx hi hi2 hP hl res hres r (pre++ [b]) (by rw[hp];simp)
  rw[zP]at ih
  have hxl:x.length=pre.length+(r.length+1):=by rw[hp];simp
  have hb:bt (mkB x) (pre.length:Int)=(b.toNat:Int):=by rw[hp];exact jR pre b r
  have hcell: ∀k,kD.l1 (k+1) P i (pre.length:Int)=if aY6 b=true then kD.l1 k P i ((pre.length:Int)+1)else some false:=by
   intro k
   simp only[kD.l1]
   rw[if_pos hi,if_pos hi2,hx,if_pos (by rw[qC];omega),if_pos (by omega),hb,bW8,qF (by omega) (by omega)]
   simp only[Option.bind_some]
   unfold aY6
   by_cases h1:97≤b.toNat
   ·rw[if_pos (by omega)]
    by_cases h2:b.toNat≤122
    ·rw[if_pos (by omega),if_pos (by simp[aQ7,h1,h2])]
    ·have e:aQ7 b=false:=by simp[aQ7,h2]
     rw[if_neg (by omega),e]
     cases aJ6 b
     ·by_cases h45:b=45
      ·rw[if_neg Bool.false_ne_true,if_pos ((u8_45 b).2 h45),if_pos (by simp[h45])]
      ·rw[if_neg Bool.false_ne_true,if_neg (fun h=>h45 ((u8_45 b).1 h)),if_neg (by simp[h45])]
     ·rw[if_pos rfl,if_pos (by simp)]
   ·have e:aQ7 b=false:=by simp[aQ7,h1]
    rw[if_neg (by omega),e]
    cases aJ6 b
    ·by_cases h45:b=45
     ·rw[if_neg Bool.false_ne_true,if_pos ((u8_45 b).2 h45),if_pos (by simp[h45])]
     ·rw[if_neg Bool.false_ne_true,if_neg (fun h=>h45 ((u8_45 b).1 h)),if_neg (by simp[h45])]
    ·rw[if_pos rfl,if_pos (by simp)]
  cases hh:aY6 b
  ·exact Ev.step (f:=fun _=>some false) (fun k=>by rw[hcell,if_neg (by rw[hh];decide)]) (by simpa [hh]using Ev.now false)
  ·exact Ev.step (fun k=>by rw[hcell,if_pos hh]) (by simpa [hh]using ih)
theorem cJ4 (S:List (List UInt8)) (hS:S.length≤1000000) (hx: ∀x∈S,x.length≤1000000): ∀(r pre:List (List UInt8)),S=pre++r→Ev (fun k=>kD.l0 k (S.map mkB) (pre.length:Int)) (r.all cV8)
 | [],pre,hp=>Ev.step (f:=fun _=>some true) (fun k=>by simp only[kD.l0];rw[if_neg (by rw[hp];simp)]) (Ev.now _)
 |x::r,pre,hp=>by
  have ih:=cJ4 S hS hx r (pre++ [x]) (by rw[hp];simp)
  rw[zP]at ih
  have hlen:S.length=pre.length+(r.length+1):=by rw[hp];simp
  have hrd:jB ByteArray.empty (S.map mkB) (pre.length:Int)=mkB x:=by rw[hp];exact dV0 pre x r
  have hlt:(pre.length:Int)<((S.map mkB).length:Int):=by simp;omega
  by_cases he:x= []
  ·refine Ev.step (f:=fun _=>some false) (fun k=>?_) (by simpa [cV8,he]using Ev.now false)
   simp only[kD.l0]
   rw[if_pos hlt,if_pos (by omega),hrd,yF,if_pos he]
  ·have hin:=cX5 (S.map mkB) (pre.length:Int) x hrd (by omega) hlt (by simpa using hS) (hx x (by rw[hp];simp)) _ ih x [] rfl
   refine Ev.step (f:=fun k=>kD.l1 k (S.map mkB) (pre.length:Int) 0) (fun k=>?_) ?_
   ·simp only[kD.l0]
    rw[if_pos hlt,if_pos (by omega),hrd,yF,if_neg he]
   ·have hne:x.isEmpty=false:=by cases x with|nil=>exact absurd rfl he|cons _ _=>rfl
    simpa [cV8,hne]using hin
theorem yY (c:UInt8): ∀l:List UInt8,(vG c l).length≤l.length+1∧ ∀x∈vG c l,x.length≤l.length
 | []=>by simp[vG]
 |b::r=>by
  have ih:=yY c r
  unfold vG
  by_cases h:b=c
  ·rw[if_pos h]
   refine⟨by simp;omega,fun x hx=>?_⟩
   rcases List.mem_cons.1 hx with rfl|hx
   ·simp
   ·have:=ih.2 x hx;simp;omega
  ·rw[if_neg h]
   cases hs:vG c r with
   |nil=>exact absurd hs (vZ c r)
   |cons a t=>
    rw[hs]at ih
    refine⟨by simp at ih ⊢;omega,fun x hx=>?_⟩
    rcases List.mem_cons.1 hx with rfl|hx
    ·have:=ih.2 a (by simp);simp;omega
    ·have:=ih.2 x (List.mem_cons_of_mem _ hx);simp;omega
theorem eZ5 (s:ByteArray) (hs:s.size≤1048576):Ev (fun k=>kD.f k s) (aX4 (bl s)):=by
 have hj:Ev (fun k=>kD.j0 k s true) false:=Ev.step (f:=fun _=>some false) (fun k=>by simp only[kD.j0,if_true]) (Ev.now _)
 obtain⟨l,rfl⟩: ∃l,s=mkB l:=⟨bl s,(bV9 s).symm⟩
 rw[xY]
 rw[qC]at hs
 unfold kD.f aX4
 rw[qC]
 by_cases h0:l.length=0
 ·simp only[if_pos (show(l.length:Int)=0 by omega),decide_eq_false (show ¬1≤l.length by omega),Bool.false_and];exact hj
 ·simp only[if_neg (show ¬(l.length:Int)=0 by omega),decide_eq_true (show 1≤l.length by omega),Bool.true_and]
  by_cases h60:l.length≤60
  ·simp only[decide_eq_false (show ¬(l.length:Int)>60 by omega),decide_eq_true h60,Bool.true_and]
   have hsl:=yY 46 l
   have:=cJ4 (vG 46 l) (by omega) (fun x hx=>by have:=hsl.2 x hx;omega) (vG 46 l) [] rfl
   refine Ev.step (f:=fun k=>(qG.f k (mkB l) 46).bind fun t=>kD.l0 k t 0) (fun k=>by simp only[kD.j0,Bool.false_eq_true,if_false]) ?_
   exact(aQ0 46 l hs).bind this
  ·simp only[decide_eq_true (show(l.length:Int)>60 by omega),decide_eq_false h60,Bool.false_and];exact hj
theorem dJ8 (c:UInt8) (p q:UInt8→Bool) (hq: ∀b,q b=(p b||decide (b=c))): ∀l:List UInt8,(vG c l).all (fun x=>x.all p)=true↔l.all q=true
 | []=>by simp[vG]
 |b::r=>by
  have ih:=dJ8 c p q hq r
  have hb:=hq b
  unfold vG
  by_cases h:b=c
  ·rw[if_pos h,List.all_cons,List.all_nil,Bool.true_and,ih,List.all_cons,hb];simp[h]
  ·rw[if_neg h]
   cases hs:vG c r with
   |nil=>exact absurd hs (vZ c r)
   |cons a t=>
    rw[hs]at ih
    simp only[List.headD_cons,List.tail_cons,List.all_cons,Bool.and_eq_true]at ih ⊢
    rw[hb,decide_eq_false h,Bool.or_false,←ih]
    constructor
    ·rintro⟨⟨h1,h2⟩,h3⟩;exact⟨h1,h2,h3⟩
    ·rintro⟨h1,h2,h3⟩;exact⟨⟨h1,h2⟩,h3⟩
theorem hostL_is (l:List UInt8):aX4 l=(decide (1≤l.length)&&decide (l.length≤60)&&l.all (fun b=>aY6 b||decide (b=46))&&!(vG 46 l).contains []):=by
 unfold aX4
 rw[Bool.and_assoc (decide _&&decide _)]
 congr 1
 rw[Bool.eq_iff_iff,Bool.and_eq_true,←dJ8 46 aY6 (fun b=>aY6 b||decide (b=46)) (fun _=>rfl) l]
 simp only[List.all_eq_true,cV8,Bool.and_eq_true,Bool.not_eq_true',List.contains_eq_mem,decide_eq_false_iff_not]
 constructor
 ·intro h
  exact⟨fun x hx=>(h x hx).2,fun hm=>by have:=(h [] hm).1;simp at this⟩
 ·rintro⟨h1,h2⟩ x hx
  refine⟨?_,h1 x hx⟩
  cases x with
  |nil=>exact absurd hx h2
  |cons _ _=>rfl
theorem cJ3 (n:Nat) (h:n<10):strOfNums [(wrap64 (48+(n:Int)))%256]=mkB [UInt8.ofNat (48+n)]:=by
 have e:(wrap64 (48+(n:Int)))%256=((48+n:Nat):Int):=by rw[qF (by omega) (by omega)];omega
 rw[e]
 show(⟨(([((48+n:Nat):Int)]:List Int).map fun n=>UInt8.ofNat n.toNat).toArray⟩:ByteArray)=_
 rw[List.map_cons,List.map_nil,Int.toNat_natCast]
 rfl
theorem xH (a b:List UInt8):mkB a++mkB b=mkB (a++b):=by
 cases h:mkB a++mkB b with|mk d=>
 have h3:(mkB a++mkB b).data.toList=a++b:=by simp[mkB]
 rw[h]at h3
 simp only[mkB,ByteArray.mk.injEq]
 apply Array.toList_inj.1
 rw[h3]
theorem aJ2 (n:Nat) (h:n≤999999999999999):Lib.nDigits n≤15:=by
 by_cases h1:Lib.nDigits n≤15
 ·exact h1
 ·have hk: ∀k u:Nat,u<10^(k+1)→Lib.nDigits u≤k+1:=by
   intro k
   induction k with
   |zero=>intro u hu;rw[Lib.nDigits_small (by simpa using hu)];omega
   |succ k ih=>
    intro u hu
    by_cases h10:u<10
    ·rw[Lib.nDigits_small h10];omega
    ·rw[Lib.nDigits_big h10]
     have:=ih (u/10) (by rw[Nat.pow_succ]at hu;omega)
     omega
  exact hk 14 n (by omega)
theorem aK1 (n:Nat) (h:n≤999999999999999):Ev (fun k=>qE.f k (n:Int)) (mkB (Lib.decDigits n)):=by
 induction n using Nat.strongRecOn with
 |_ n ih=>
  have hd:decide ((n:Int)>999999999999999)=false:=decide_eq_false (by omega)
  refine Ev.step (f:=fun k=>qE.j0 k (n:Int) false) (fun k=>by simp only[qE.f];rw[if_neg (by omega),hd]) ?_
  by_cases h10:n<10
  ·refine Ev.step (f:=fun _=>some (mkB (Lib.decDigits n))) (fun k=>?_) (Ev.now _)
   simp only[qE.j0,Bool.false_eq_true,if_false]
   rw[if_pos (by omega),cJ3 n h10,Lib.decDigits,dif_pos h10]
  ·have ih':=ih (n/10) (by omega) (by omega)
   have hlen:(mkB (Lib.decDigits (n/10))).size≤15:=by rw[qC,Lib.decDigits_length];exact aJ2 _ (by omega)
   have e1:wrap64 (Int.tdiv (n:Int) 10)=((n/10:Nat):Int):=by
    rw[Int.tdiv_eq_ediv_of_nonneg (by omega),qF (by omega) (by omega)];rfl
   have e2:Int.tmod (n:Int) 10=((n%10:Nat):Int):=by rw[Int.tmod_eq_emod_of_nonneg (by omega)];rfl
   refine Ev.step (f:=fun k=>(qE.f k ((n/10:Nat):Int)).bind fun t=>if t.size+(mkB [UInt8.ofNat (48+n%10)]).size≤9223372036854775807 then some (t++mkB [UInt8.ofNat (48+n%10)])else none) (fun k=>?_) ?_
   ·simp only[qE.j0,Bool.false_eq_true,if_false]
    rw[if_neg (by omega),e1,e2]
    simp only[Option.bind_some,cJ3 (n%10) (show n%10<10 by omega)]
   ·refine ih'.bind ?_
    have hs:(mkB [UInt8.ofNat (48+n%10)]).size=1:=by rw[qC];rfl
    have hdd:Lib.decDigits n=Lib.decDigits (n/10)++ [UInt8.ofNat (48+n%10)]:=by rw[Lib.decDigits,dif_neg h10]
    rw[if_pos (by omega),xH,hdd]
    exact Ev.now _
theorem bK4 (n:Nat) (h:n≤999999999999999):strconv_Itoa.f (n:Int)=some (mkB (Lib.decDigits n)):=by
 unfold strconv_Itoa.f
 rw[if_pos ⟨by omega,by omega⟩]
 unfold Lib.itoa
 rw[if_neg (by omega)]
 rfl
def aX5 (p:Nat):List UInt8:=if p=80 then []else 58::Lib.decDigits p
def aZ3 (q:List UInt8) (h:Bool):List UInt8:=if h=true then 63::q else []
def dQ3:List UInt8:= [104,116,116,112,58,47,47]
def aX7 (h:List UInt8) (p:Nat) (path q:List UInt8) (hq:Bool):List UInt8:=dQ3++h++aX5 p++path++aZ3 q hq
theorem aQ5 (p:Nat) (h:p≤999999999999999):(Lib.decDigits p).length≤15:=by rw[Lib.decDigits_length];exact aJ2 _ h
theorem bJ5 (p:Nat) (h:p≤999999999999999):(aX5 p).length≤16:=by
 have:=aQ5 p h
 unfold aX5;split
 ·simp
 ·simp;omega
theorem bX1 (q:List UInt8) (h:Bool):(aZ3 q h).length≤q.length+1:=by unfold aZ3;split<;>simp
theorem cV5 (a:ByteArray) (p:Nat) (b c:ByteArray) (d:Bool) (h:p≤999999999999999):Ev (fun k=>wT.f k a (p:Int) b c d) (mkB (aX5 p)):=by
 unfold wT.f aX5
 by_cases h80:p=80
 ·simp only[if_pos (show(p:Int)=80 by omega),if_pos h80];exact Ev.now _
 ·simp only[if_neg (show ¬(p:Int)=80 by omega),if_neg h80]
  refine(aK1 p h).bind ?_
  have:=aQ5 p h
  rw[if_pos (by rw[qC];omega),show(⟨#[58]⟩:ByteArray)=mkB [58]from rfl,xH]
  exact Ev.now _
theorem cX4 (a:ByteArray) (p:Nat) (b c:ByteArray) (d:Bool) (h:p≤999999999999999):xR.f a (p:Int) b c d=some (mkB (aX5 p)):=by
 unfold xR.f aX5
 by_cases h80:p=80
 ·rw[if_pos (show(p:Int)=80 by omega),if_pos h80];rfl
 ·have:=aQ5 p h
  rw[if_neg (show ¬(p:Int)=80 by omega),if_neg h80,bK4 p h,Option.bind_some,if_pos (by rw[qC];omega),show(⟨#[58]⟩:ByteArray)=mkB [58]from rfl,xH]
  rfl
theorem bY9 (a:ByteArray) (p:Int) (b:ByteArray) (c:List UInt8) (d:Bool) (h:c.length≤1000000000):yS.f a p b (mkB c) d=some (mkB (aZ3 c d)):=by
 unfold yS.f aZ3
 cases d
 ·rfl
 ·rw[if_pos rfl,if_pos rfl,if_pos (by rw[qC];omega),show(⟨#[63]⟩:ByteArray)=mkB [63]from rfl,xH];rfl
theorem cW3 (a:ByteArray) (p:Int) (b c:List UInt8) (d:Bool) (hb:b.length≤1000000000) (h:c.length≤1000000000):qR.f a p (mkB b) (mkB c) d=some (mkB (b++aZ3 c d)):=by
 unfold qR.f aZ3
 cases d
 ·simp
 ·rw[if_pos rfl,if_pos rfl,show(⟨#[63]⟩:ByteArray)=mkB [63]from rfl,xH,if_pos (by rw[qC];omega),if_pos (by rw[qC,qC];simp;omega),xH]
  simp
theorem eW4 (a:List UInt8) (p:Nat) (b c:List UInt8) (d:Bool) (h:p≤999999999999999) (ha:a.length≤1000000000) (hb:b.length≤1000000000) (hc:c.length≤1000000000):Ev (fun k=>vN.f k (mkB a) (p:Int) (mkB b) (mkB c) d) (mkB (aX7 a p b c d)):=by
 have h1:=bJ5 p h
 have h2:=bX1 c d
 have e0:(⟨#[104,116,116,112,58,47,47]⟩:ByteArray)=mkB dQ3:=rfl
 have e1:dQ3.length=7:=rfl
 unfold vN.f aX7
 simp only[e0,xH,qC]
 simp only[if_pos (show 7+a.length≤9223372036854775807 by omega)]
 refine(cV5 _ p _ _ d h).bind ?_
 rw[xH,qC]
 rw[if_pos (by rw[List.length_append];omega),if_pos (by rw[qC];simp only[List.length_append];omega),bY9 _ _ _ _ _ hc,Option.bind_some,xH,qC,qC,if_pos (by simp only[List.length_append];omega),xH]
 exact Ev.now _
theorem eQ6 (a:List UInt8) (p:Nat) (b c:List UInt8) (d:Bool) (h:p≤999999999999999) (ha:a.length≤1000000000) (hb:b.length≤1000000000) (hc:c.length≤1000000000):qN.f (mkB a) (p:Int) (mkB b) (mkB c) d=some (mkB (aX7 a p b c d)):=by
 have h1:=bJ5 p h
 have h2:=bX1 c d
 have e0:(⟨#[104,116,116,112,58,47,47]⟩:ByteArray)=mkB dQ3:=rfl
 have e1:dQ3.length=7:=rfl
 unfold qN.f aX7
 rw[e0,xH,if_pos (by rw[qC];omega),cX4 _ p _ _ d h,Option.bind_some,if_pos (by rw[qC,qC];simp only[List.length_append];omega),cW3 _ _ _ _ _ hb hc,Option.bind_some,xH,if_pos (by rw[qC,qC];simp only[List.length_append];omega),xH]
 simp only[List.append_assoc]
def cX9 (b:UInt8):Bool:=aQ7 b||cZ2 b||aJ6 b|| [45,46,95,126].contains b
theorem eW5 (b:UInt8):yU.f (b.toNat:Int)=some (cX9 b):=by
 have key: ∀n:Fin 256,yU.f ((UInt8.ofNat n.val).toNat:Int)=some (cX9 (UInt8.ofNat n.val)):=by decide+kernel
 have:=key ⟨b.toNat,b.toNat_lt⟩
 simpa using this
theorem eW3 (b:UInt8):Ev (fun k=>kW.f k (b.toNat:Int)) (cX9 b):=by
 have hh:Ev (fun k=>vK.f k (⟨#[45,46,95,126]⟩:ByteArray) (b.toNat:Int)) ([45,46,95,126].contains b):=has_is [45,46,95,126] b (by decide)
 have rest:Ev (fun k=>if aJ6 b=true then some true else(vK.f k (⟨#[45,46,95,126]⟩:ByteArray) (b.toNat:Int)).bind fun t=>some t) (aJ6 b|| [45,46,95,126].contains b):=by
  cases hd:aJ6 b
  ·simpa using hh.bind (f:=fun _ (t:Bool)=>some t) (Ev.now _)
  ·simpa using Ev.now true
 obtain⟨c,hc,c0,c1,c2,c3⟩:=dZ3 b
 unfold kW.f
 simp only[bW8,hc,Option.bind_some]
 unfold cX9
 by_cases hU:65≤b.toNat∧b.toNat≤90
 ·have e:=c2 hU
  have e1:cZ2 b=true:=by simp[cZ2,hU]
  simp only[if_pos (show c≥97 by omega),if_pos (show c≤122 by omega)]
  simpa [e1]using Ev.now true
 ·have e:=c3 hU
  have e1:cZ2 b=false:=by simp[cZ2];omega
  by_cases hL:97≤b.toNat
  ·by_cases hL2:b.toNat≤122
   ·have e2:aQ7 b=true:=by simp[aQ7,hL,hL2]
    simp only[if_pos (show c≥97 by omega),if_pos (show c≤122 by omega)]
    simpa [e2]using Ev.now true
   ·have e2:aQ7 b=false:=by simp[aQ7,hL2]
    simp only[if_pos (show c≥97 by omega),if_neg (show ¬c≤122 by omega)]
    simpa [e1,e2]using rest
  ·have e2:aQ7 b=false:=by simp[aQ7,hL]
   simp only[if_neg (show ¬c≥97 by omega)]
   simpa [e1,e2]using rest
def upI (b:UInt8):Int:=if 97≤b.toNat∧b.toNat≤122 then(b.toNat:Int)-32 else(b.toNat:Int)
theorem bQ8 (b:UInt8):vR.f (b.toNat:Int)=some (upI b):=by
 have:=eZ0 b
 unfold vR.f upI
 by_cases h:97≤b.toNat
 ·rw[if_pos (by omega)]
  by_cases h2:b.toNat≤122
  ·rw[if_pos (by omega),if_pos ⟨h,h2⟩];congr 1;omega
  ·rw[if_neg (by omega),if_neg (by omega)]
 ·rw[if_neg (by omega),if_neg (by omega)]
theorem hexUp (b:UInt8) (h: ¬xT b<0):bt (⟨#[48,49,50,51,52,53,54,55,56,57,65,66,67,68,69,70]⟩:ByteArray) (xT b)=upI b:=by
 have key: ∀n:Fin 256,xT (UInt8.ofNat n.val)<0∨bt (⟨#[48,49,50,51,52,53,54,55,56,57,65,66,67,68,69,70]⟩:ByteArray) (xT (UInt8.ofNat n.val))=upI (UInt8.ofNat n.val):=by decide+kernel
 have:=key ⟨b.toNat,b.toNat_lt⟩
 simp only[UInt8.ofNat_toNat]at this
 exact this.resolve_left h
theorem and15 (v:Int) (h0:0≤v) (h1:v<256):Go.bits .and .u8 v 15=v%16:=by
 have key: ∀n:Fin 256,Go.bits .and .u8 (n.val:Int) 15=(n.val:Int)%16:=by decide+kernel
 have:=key ⟨v.toNat,by omega⟩
 simpa [Int.toNat_of_nonneg h0]using this
def pct:List UInt8→Option (UInt8×UInt8×List UInt8)
 |c::d::r=>if xT c<0∨xT d<0 then none else some (c,d,r)
 |_=>none
def bQ9 (c d:UInt8):UInt8:=UInt8.ofNat (16*xT c+xT d).toNat
def aW6 (c d:UInt8):List Int:=if cX9 (bQ9 c d)=true then [((bQ9 c d).toNat:Int)]else [37,upI c,upI d]
def jK:Nat→List UInt8→List Int
 |0,_=> []
 |_+1,[]=> []
 |n+1,b::r=>if b=37 then(match pct r with|none=>37::jK n r|some (c,d,r')=>aW6 c d++jK n r')else(b.toNat:Int)::jK n r
theorem u8_37 (b:UInt8):(b.toNat:Int)=37↔b=37:=by rw[←UInt8.toNat_inj];show _↔b.toNat=37;omega
theorem eZ9 (c d:UInt8) (hc: ¬xT c<0) (hd: ¬xT d<0):((bQ9 c d).toNat:Int)=16*xT c+xT d:=by
 have h1:=bW9 c
 have h2:=bW9 d
 unfold bQ9
 rw[UInt8.toNat_ofNat']
 omega
theorem eV9 (c d:UInt8):(aW6 c d).length≤3:=by unfold aW6;split<;>simp
theorem bZ0: ∀(n:Nat) (r:List UInt8),r.length≤n→(jK n r).length≤r.length
 |0,[],_=>by simp[jK]
 |n+1,[],_=>by simp[jK]
 |n+1,b::r,h=>by
  simp at h
  unfold jK
  by_cases hb:b=37
  ·rw[if_pos hb]
   cases hp:pct r with
   |none=>have:=bZ0 n r h;simp;omega
   |some q=>
    obtain⟨c,d,r'⟩:=q
    have hr:r=c::d::r':=by
     unfold pct at hp
     split at hp
     ·split at hp
      ·cases hp
      ·injection hp with hp;injection hp with h1 h2;injection h2 with h2 h3;subst h1;subst h2;subst h3;rfl
     ·cases hp
    subst hr
    simp at h
    have:=bZ0 n r' (by omega)
    have:=eV9 c d
    simp;omega
  ·rw[if_neg hb];have:=bZ0 n r h;simp;omega
theorem dK9 (r:List UInt8) (h:r.length≤1):pct r=none:=by
 match r,h with
 | [],_=>rfl
 | [_],_=>rfl
theorem eV1 (c d:UInt8):cY0 [c,d]=if xT c<0∨xT d<0 then(0,false)else(16*xT c+xT d,true):=by
 unfold cY0
 rw[if_neg (by simp)]
 simp only[aV4]
 by_cases h1:xT c<0
 ·simp[h1]
 ·by_cases h2:xT d<0
  ·simp[h1,h2]
  ·simp[h1,h2]
theorem cK7: ∀r:List UInt8,¬r.length≤1→ ∃c d r',r=c::d::r'
 | [],h=>absurd (by simp) h
 | [_],h=>absurd (by simp) h
 |c::d::r',_=>⟨c,d,r',rfl⟩
theorem eY2 (k:Nat) (s:ByteArray) (acc:List Int) (i:Int) (c d:UInt8) (h0:0≤i) (h3:i+3≤(s.size:Int)) (hs:s.size≤2000000) (ha:acc.length≤2000000) (hb1:bt s (i+1)=(c.toNat:Int)) (hb2:bt s (i+2)=(d.toNat:Int)) (hx:s.extract (i+1).toNat (i+3).toNat=mkB [c,d]):
  kC.j1 (k+1) s acc i false=(qH.f k (mkB [c,d])).bind fun q=>if q.2=true then((kW.f k (q.1%256)).bind fun t=>if t=true then kC.l0 k s (acc++ [q.1%256]) (i+3)else kC.l0 k s (acc++ [37,upI c,upI d]) (i+3))else kC.l0 k s (acc++ [bt s i]) (i+1):=by
 have hw1:wrap64 (i+1)=i+1:=qF (by omega) (by omega)
 have hw2:wrap64 (i+2)=i+2:=qF (by omega) (by omega)
 have hw3:wrap64 (i+3)=i+3:=qF (by omega) (by omega)
 have hw4:wrap64 (i+2+1)=i+3:=by rw[qF (by omega) (by omega)];omega
 have g1:(0:Int)≤i+1:=by omega
 have g2:i+1≤i+3:=by omega
 have g3:acc.length<140737488355328:=by omega
 have g4:i+1<(s.size:Int):=by omega
 have g5:(0:Int)≤i+2:=by omega
 have g6:i+2<(s.size:Int):=by omega
 have g7:i<(s.size:Int):=by omega
 have g8:acc.length+ [(37:Int),upI c,upI d].length<140737488355328:=by simp only[List.length_cons,List.length_nil];omega
 rw[kC.j1,if_neg Bool.false_ne_true,hw1,hw3,if_pos g1,if_pos g2,if_pos h3,hx]
 congr 1
 funext q
 by_cases hq:q.2=true
 ·rw[if_pos hq,if_pos hq]
  congr 1
  funext t
  by_cases ht:t=true
  ·rw[if_pos ht,if_pos ht,if_pos g3,hw2,hw4]
  ·rw[if_neg ht,if_neg ht,if_pos g4,hb1,bQ8,Option.bind_some,hw2,if_pos g5,if_pos g6,hb2,bQ8,Option.bind_some,Option.bind_some,if_pos g8,hw4]
 ·rw[if_neg hq,if_neg hq,if_pos h0,if_pos g7,if_pos g3]
theorem fX0: ∀(n:Nat) (r pre:List UInt8) (acc:List Int),r.length≤n→(pre++r).length≤1048576→acc.length≤pre.length→
  Ev (fun k=>kC.l0 k (mkB (pre++r)) acc (pre.length:Int)) (strOfNums (acc++jK n r)):=by
 intro n
 induction n with
 |zero=>
  intro r pre acc hr hl ha
  obtain rfl:r= []:=List.length_eq_zero_iff.1 (by omega)
  refine Ev.step (f:=fun _=>some (strOfNums acc)) (fun k=>?_) (by simpa [jK]using Ev.now _)
  simp only[kC.l0];rw[if_neg (by rw[qC];simp)]
 |succ n ih=>
  intro r pre acc hr hl ha
  cases r with
  |nil=>
   refine Ev.step (f:=fun _=>some (strOfNums acc)) (fun k=>?_) (by simpa [jK]using Ev.now _)
   simp only[kC.l0];rw[if_neg (by rw[qC];simp)]
  |cons b r=>
   have hl2:=hl
   simp at hl2 hr
   have one: ∀z,jK (n+1) (b::r)=z::jK n r→z=(b.toNat:Int)→Ev (fun k=>kC.l0 k (mkB (pre++b::r)) (acc++ [bt (mkB (pre++b::r)) pre.length]) (wrap64 ((pre.length:Int)+1))) (strOfNums (acc++jK (n+1) (b::r))):=by
    intro z hz hzb
    have ih':=ih r (pre++ [b]) (acc++ [(b.toNat:Int)]) hr (by rw[←jQ];exact hl) (by simp;omega)
    rw[←jQ,zP]at ih'
    rw[jR,qF (by omega) (by omega),hz,hzb]
    simpa using ih'
   have two: ∀x,x=true→(∃z,jK (n+1) (b::r)=z::jK n r∧z=(b.toNat:Int))→Ev (fun k=>kC.j1 k (mkB (pre++b::r)) acc (pre.length:Int) x) (strOfNums (acc++jK (n+1) (b::r))):=by
    rintro x rfl ⟨z,hz,hzb⟩
    refine Ev.step (fun k=>?_) (one z hz hzb)
    simp only[kC.j1,if_true]
    rw[if_pos (by omega),if_pos (wO ..),if_pos (by omega)]
   by_cases hb:b=37
   ·subst hb
    have hu:jK (n+1) (37::r)=match pct r with|none=>37::jK n r|some (c,d,r')=>aW6 c d++jK n r':=by rw[jK,if_pos rfl]
    have hcell: ∀k,kC.l0 (k+1) (mkB (pre++37::r)) acc pre.length=kC.j1 k (mkB (pre++37::r)) acc pre.length (decide (r.length≤1)):=by
     intro k
     simp only[kC.l0]
     rw[if_pos (wO ..),if_pos (by omega),jR,if_pos (by rfl),qF (by omega) (by omega)]
     congr 1
     rw[qC]
     exact decide_eq_decide.2 (by simp;omega)
    refine Ev.step hcell ?_
    by_cases hs:r.length≤1
    ·simp only[decide_eq_true hs]
     exact two true rfl ⟨37,by rw[hu,dK9 r hs],rfl⟩
    ·simp only[decide_eq_false hs]
     obtain⟨c,d,r',rfl⟩:=cK7 r hs
     ·skip
      simp at hl2 hr
      have hx:(mkB (pre++37::c::d::r')).extract ((pre.length:Int)+1).toNat ((pre.length:Int)+3).toNat=mkB [c,d]:=by
       rw[jO,show((pre.length:Int)+1).toNat=pre.length+1 by omega,show((pre.length:Int)+3).toNat=pre.length+3 by omega,show pre.length+3-(pre.length+1)=2 by omega,eZ6];rfl
      have hw1:wrap64 ((pre.length:Int)+1)=(pre.length:Int)+1:=qF (by omega) (by omega)
      have hw2:wrap64 ((pre.length:Int)+2)=(pre.length:Int)+2:=qF (by omega) (by omega)
      have hw3:wrap64 ((pre.length:Int)+3)=(pre.length:Int)+3:=qF (by omega) (by omega)
      have hw4:wrap64 ((pre.length:Int)+2+1)=(pre.length:Int)+3:=by rw[qF (by omega) (by omega)];omega
      have hb1:bt (mkB (pre++37::c::d::r')) ((pre.length:Int)+1)=(c.toNat:Int):=by
       have:=jR (pre++ [37]) c (d::r');rw[zP,←jQ]at this;exact this
      have hb2:bt (mkB (pre++37::c::d::r')) ((pre.length:Int)+2)=(d.toNat:Int):=by
       have:=jR (pre++ [37]++ [c]) d r'
       simp only[List.length_append,List.length_singleton,List.append_assoc,List.singleton_append]at this
       simpa [Int.add_assoc]using this
      have hsz:((mkB (pre++37::c::d::r')).size:Int)=(pre.length:Int)+3+r'.length:=by rw[qC];simp;omega
      refine Ev.step (fun k=>eY2 k _ acc _ c d (by omega) (by omega) (by omega) (by omega) hb1 hb2 hx) ?_
      refine(dQ0 [c,d]).bind ?_
      rw[eV1]
      by_cases hh:xT c<0∨xT d<0
      ·simp only[if_pos hh,Bool.false_eq_true,if_false]
       have:=one 37 (by rw[hu];simp[pct,hh]) rfl
       rw[hw1]at this
       exact this
      ·simp only[if_neg hh,if_true]
       have hc: ¬xT c<0:=fun h=>hh (.inl h)
       have hd: ¬xT d<0:=fun h=>hh (.inr h)
       have hv:=eZ9 c d hc hd
       have hlt:=eZ0 (bQ9 c d)
       rw[show(16*xT c+xT d)%256=((bQ9 c d).toNat:Int)by omega]
       refine(eW3 (bQ9 c d)).bind ?_
       have e1:pre++37::c::d::r'=(pre++ [37,c,d])++r':=by simp
       have e2:((pre++ [37,c,d]).length:Int)=(pre.length:Int)+3:=by simp
       have hu2:jK (n+1) (37::c::d::r')=aW6 c d++jK n r':=by rw[hu];simp[pct,hh]
       rw[hu2]
       cases hf:cX9 (bQ9 c d)
       ·have ih':=ih r' (pre++ [37,c,d]) (acc++ [37,upI c,upI d]) (by omega) (by rw[←e1];exact hl) (by simp;omega)
        rw[←e1,e2]at ih'
        simp only[Bool.false_eq_true,if_false]
        simpa [aW6,hf]using ih'
       ·have ih':=ih r' (pre++ [37,c,d]) (acc++ [((bQ9 c d).toNat:Int)]) (by omega) (by rw[←e1];exact hl) (by simp;omega)
        rw[←e1,e2]at ih'
        simp only[if_true]
        simpa [aW6,hf]using ih'
   ·have hcell: ∀k,kC.l0 (k+1) (mkB (pre++b::r)) acc pre.length=kC.j1 k (mkB (pre++b::r)) acc pre.length true:=by
     intro k
     simp only[kC.l0]
     rw[if_pos (wO ..),if_pos (by omega),jR,if_neg (fun h=>hb ((u8_37 b).1 h))]
    refine Ev.step hcell ?_
    exact two true rfl ⟨(b.toNat:Int),by rw[jK,if_neg hb],rfl⟩
theorem fX2: ∀(n:Nat) (r pre:List UInt8) (acc:List Int),r.length≤n→(pre++r).length≤1048576→acc.length≤pre.length→
  Ev (fun k=>yB.l0 k (mkB (pre++r)) acc (pre.length:Int)) (strOfNums (acc++jK n r)):=by
 intro n
 induction n with
 |zero=>
  intro r pre acc hr hl ha
  obtain rfl:r= []:=List.length_eq_zero_iff.1 (by omega)
  refine Ev.step (f:=fun _=>some (strOfNums acc)) (fun k=>?_) (by simpa [jK]using Ev.now _)
  simp only[yB.l0];rw[if_neg (by rw[qC];simp)]
 |succ n ih=>
  intro r pre acc hr hl ha
  cases r with
  |nil=>
   refine Ev.step (f:=fun _=>some (strOfNums acc)) (fun k=>?_) (by simpa [jK]using Ev.now _)
   simp only[yB.l0];rw[if_neg (by rw[qC];simp)]
  |cons b r=>
   have hl2:=hl
   simp at hl2 hr
   have two:(∃z,jK (n+1) (b::r)=z::jK n r∧z=(b.toNat:Int))→Ev (fun k=>yB.j1 k (mkB (pre++b::r)) acc (pre.length:Int) true) (strOfNums (acc++jK (n+1) (b::r))):=by
    rintro⟨z,hz,hzb⟩
    have ih':=ih r (pre++ [b]) (acc++ [(b.toNat:Int)]) hr (by rw[←jQ];exact hl) (by simp;omega)
    rw[←jQ,zP]at ih'
    rw[hz,hzb]
    refine Ev.step (fun k=>?_) (by simpa using ih')
    simp only[yB.j1,if_true]
    rw[if_pos (by omega),if_pos (wO ..),if_pos (by omega),jR,qF (by omega) (by omega)]
   by_cases hb:b=37
   ·subst hb
    have hu:jK (n+1) (37::r)=match pct r with|none=>37::jK n r|some (c,d,r')=>aW6 c d++jK n r':=by rw[jK,if_pos rfl]
    have hw2:wrap64 ((pre.length:Int)+2)=(pre.length:Int)+2:=qF (by omega) (by omega)
    by_cases hs:r.length≤1
    ·refine Ev.step (f:=fun k=>yB.j1 k (mkB (pre++37::r)) acc (pre.length:Int) true) (fun k=>?_) (two ⟨37,by rw[hu,dK9 r hs],rfl⟩)
     simp only[yB.l0]
     rw[if_pos (wO ..),if_pos (by omega),jR,if_pos (by rfl),hw2,if_pos (by rw[qC];simp;omega)]
    ·obtain⟨c,d,r',rfl⟩:=cK7 r hs
     ·skip
      simp at hl2 hr
      have hw1:wrap64 ((pre.length:Int)+1)=(pre.length:Int)+1:=qF (by omega) (by omega)
      have hw4:wrap64 ((pre.length:Int)+2+1)=(pre.length:Int)+3:=by rw[qF (by omega) (by omega)];omega
      have hb1:bt (mkB (pre++37::c::d::r')) ((pre.length:Int)+1)=(c.toNat:Int):=by
       have:=jR (pre++ [37]) c (d::r');rw[zP,←jQ]at this;exact this
      have hb2:bt (mkB (pre++37::c::d::r')) ((pre.length:Int)+2)=(d.toNat:Int):=by
       have:=jR (pre++ [37]++ [c]) d r'
       simp only[List.length_append,List.length_singleton,List.append_assoc,List.singleton_append]at this
       simpa [Int.add_assoc]using this
      have hsz:((mkB (pre++37::c::d::r')).size:Int)=(pre.length:Int)+3+r'.length:=by rw[qC];simp;omega
      have hc16:=bW9 c
      have hd16:=bW9 d
      have hcell: ∀k,yB.l0 (k+1) (mkB (pre++37::c::d::r')) acc pre.length=(vJ.f k (c.toNat:Int)).bind fun t=>if t<0 then yB.j1 k (mkB (pre++37::c::d::r')) acc (pre.length:Int) true else(vJ.f k (d.toNat:Int)).bind fun u=>yB.j1 k (mkB (pre++37::c::d::r')) acc (pre.length:Int) (decide (u<0)):=by
       intro k
       simp only[yB.l0,hw1,hw2,hb1,hb2]
       rw[jR]
       simp only[hsz,if_pos (show(((37:UInt8).toNat:Nat):Int)=37 from rfl),if_pos (show(pre.length:Int)<(pre.length:Int)+3+r'.length by omega),if_pos (show(0:Int)≤(pre.length:Int)by omega),if_neg (show ¬(pre.length:Int)+2≥(pre.length:Int)+3+r'.length by omega),if_pos (show(0:Int)≤(pre.length:Int)+1 by omega),if_pos (show(pre.length:Int)+1<(pre.length:Int)+3+r'.length by omega),if_pos (show(0:Int)≤(pre.length:Int)+2 by omega),if_pos (show(pre.length:Int)+2<(pre.length:Int)+3+r'.length by omega)]
      refine Ev.step hcell ?_
      refine(cJ0 c).bind ?_
      by_cases hc:xT c<0
      ·simp only[if_pos hc]
       exact two ⟨37,by rw[hu];simp[pct,hc],rfl⟩
      simp only[if_neg hc]
      refine(cJ0 d).bind ?_
      by_cases hd:xT d<0
      ·simp only[decide_eq_true hd]
       exact two ⟨37,by rw[hu];simp[pct,hd],rfl⟩
      simp only[decide_eq_false hd]
      have hv:=eZ9 c d hc hd
      have hlt:=eZ0 (bQ9 c d)
      have hval:wrap64 (wrap64 (16*xT c)+xT d)%256=((bQ9 c d).toNat:Int):=by
       rw[qF (a:=16*xT c) (by omega) (by omega),qF (by omega) (by omega)];omega
      have hdiv:((bQ9 c d).toNat:Int)/16=xT c:=by omega
      have hmod:Go.bits .and .u8 ((bQ9 c d).toNat:Int) 15=xT d:=by rw[and15 _ (by omega) hlt];omega
      have hcell2: ∀k,yB.j1 (k+1) (mkB (pre++37::c::d::r')) acc pre.length false=(vJ.f k (c.toNat:Int)).bind fun t=>(vJ.f k (d.toNat:Int)).bind fun u=>(yU.f ((wrap64 ((wrap64 (16*t))+u))%256)).bind fun q=>if q=true then yB.l0 k (mkB (pre++37::c::d::r')) (acc++ [(wrap64 ((wrap64 (16*t))+u))%256]) ((pre.length:Int)+3)else(if 0≤(((wrap64 ((wrap64 (16*t))+u))%256)/16)then(if(((wrap64 ((wrap64 (16*t))+u))%256)/16)<16 then(if 0≤(Go.bits .and .u8 ((wrap64 ((wrap64 (16*t))+u))%256) 15)then(if(Go.bits .and .u8 ((wrap64 ((wrap64 (16*t))+u))%256) 15)<16 then yB.l0 k (mkB (pre++37::c::d::r')) (acc++ [37,bt (⟨#[48,49,50,51,52,53,54,55,56,57,65,66,67,68,69,70]⟩:ByteArray) (((wrap64 ((wrap64 (16*t))+u))%256)/16),bt (⟨#[48,49,50,51,52,53,54,55,56,57,65,66,67,68,69,70]⟩:ByteArray) (Go.bits .and .u8 ((wrap64 ((wrap64 (16*t))+u))%256) 15)]) ((pre.length:Int)+3)else none)else none)else none)else none):=by
       intro k
       simp only[yB.j1,Bool.false_eq_true,if_false,hw1,hw2,hw4,hb1,hb2,hsz,Option.bind_some]
       have l3: ∀x y z:Int,acc.length+ [x,y,z].length<140737488355328:=by intro x y z;simp;omega
       simp only[if_pos (show(0:Int)≤(pre.length:Int)+1 by omega),if_pos (show(pre.length:Int)+1<(pre.length:Int)+3+r'.length by omega),if_pos (show(0:Int)≤(pre.length:Int)+2 by omega),if_pos (show(pre.length:Int)+2<(pre.length:Int)+3+r'.length by omega),if_pos (show acc.length<140737488355328 by omega),if_pos (l3 _ _ _)]
      refine Ev.step hcell2 ?_
      refine(cJ0 c).bind ?_
      refine(cJ0 d).bind ?_
      simp only[hval,eW5,Option.bind_some,hdiv,hmod,hexUp c hc,hexUp d hd]
      simp only[if_pos (show 0≤xT c by omega),if_pos hc16,if_pos (show 0≤xT d by omega),if_pos hd16]
      have e1:pre++37::c::d::r'=(pre++ [37,c,d])++r':=by simp
      have e2:((pre++ [37,c,d]).length:Int)=(pre.length:Int)+3:=by simp
      have hu2:jK (n+1) (37::c::d::r')=aW6 c d++jK n r':=by rw[hu];simp[pct,hc,hd]
      rw[hu2]
      cases hf:cX9 (bQ9 c d)
      ·have ih':=ih r' (pre++ [37,c,d]) (acc++ [37,upI c,upI d]) (by omega) (by rw[←e1];exact hl) (by simp;omega)
       rw[←e1,e2]at ih'
       simp only[Bool.false_eq_true,if_false]
       simpa [aW6,hf]using ih'
      ·have ih':=ih r' (pre++ [37,c,d]) (acc++ [((bQ9 c d).toNat:Int)]) (by omega) (by rw[←e1];exact hl) (by simp;omega)
       rw[←e1,e2]at ih'
       simp only[if_true]
       simpa [aW6,hf]using ih'
   ·refine Ev.step (f:=fun k=>yB.j1 k (mkB (pre++b::r)) acc (pre.length:Int) true) (fun k=>?_) (two ⟨(b.toNat:Int),by rw[jK,if_neg hb],rfl⟩)
    simp only[yB.l0]
    rw[if_pos (wO ..),if_pos (by omega),jR,if_neg (fun h=>hb ((u8_37 b).1 h))]
def bX3 (b:UInt8):Bool:=decide (33≤b.toNat)&&decide (b.toNat≤126)
theorem fY2 (b:UInt8):jU.f (b.toNat:Int)=some (bX3 b):=by
 unfold jU.f bX3
 by_cases h:33≤b.toNat
 ·rw[if_pos (by omega),decide_eq_true h,Bool.true_and];congr 1;exact decide_eq_decide.2 (by omega)
 ·rw[if_neg (by omega),decide_eq_false h,Bool.false_and]
theorem bV6 (s:ByteArray) (hs:s.size≤9223372036854775806):Ev (fun k=>xE.f k s) ((bl s).all bX3):=
 cY9 xE.l0 (fun _ x=>jU.f x) bX3 (fun b=>Ev.const (fY2 b))
  (fun k s i=>by simp only[xE.l0]) s hs
theorem bQ3: ∀(r pre:List UInt8),(pre++r).length≤9223372036854775806→Ev (fun k=>yI.l0 k (mkB (pre++r)) pre.length) (r.all bX3&&decide (1≤(pre++r).length))
 | [], pre, _ => Ev.step (f := fun _ => some (decide (1 ≤ (pre ++ []).length))) (fun k => by
   simp only[yI.l0]
   rw[if_neg (by rw[qC];simp),qC]
   congr 1;exact decide_eq_decide.2 (by omega)) (by simpa using Ev.now _)
 |b::r,pre,hl=>by
  have ih:=bQ3 r (pre++ [b]) (by rw[←jQ];exact hl)
  rw[←jQ,zP]at ih
  have hw:wrap64 ((pre.length:Int)+1)=(pre.length:Int)+1:=by simp at hl;exact qF (by omega) (by omega)
  have hcell: ∀k,yI.l0 (k+1) (mkB (pre++b::r)) pre.length=if bX3 b=true then yI.l0 k (mkB (pre++b::r)) (pre.length+1)else some false:=by
   intro k
   simp only[yI.l0]
   rw[if_pos (wO ..),if_pos (by omega),jR,hw]
   by_cases h1:(b.toNat:Int)<33
   ·rw[if_pos h1,if_neg];simp[bX3];omega
   ·by_cases h2:(b.toNat:Int)>126
    ·rw[if_neg h1,if_pos h2,if_neg];simp[bX3];omega
    ·rw[if_neg h1,if_neg h2,if_pos];simp[bX3];omega
  by_cases hv:bX3 b=true
  ·refine Ev.step (fun k=>by rw[hcell,if_pos hv]) ?_
   simpa [hv]using ih
  ·refine Ev.step (f:=fun _=>some false) (fun k=>by rw[hcell,if_neg hv]) ?_
   simpa [hv]using Ev.now false
theorem bK3 (s:ByteArray) (hs:s.size≤9223372036854775806):Ev (fun k=>yI.f k s) ((bl s).all bX3&&decide (1≤s.size)):=by
 have:=bQ3 (bl s) [] (by simpa [bV0]using hs)
 simpa [yI.f,bV9,bV0]using this
def aY0:List (List UInt8)→List (List UInt8)→List (List UInt8)
 |kept,[]=>kept
 |kept,s::r=>if s= [46]then(if r= []then kept++ [[]]else aY0 kept r)else if s= [46,46]then(if r= []then kept.dropLast++ [[]]else aY0 kept.dropLast r)else aY0 (kept++ [s]) r
def aX6 (kept:List (List UInt8)) (s:List UInt8):List (List UInt8):=if s= [46]then kept else if s= [46,46]then kept.dropLast else kept++ [s]
def dotS (s:List UInt8):Bool:=decide (s= [46])||decide (s= [46,46])
theorem cZ4: ∀(segs kept:List (List UInt8)) (h:segs≠ []),aY0 kept segs=if dotS (segs.getLast h)=true then segs.foldl aX6 kept++ [[]]else segs.foldl aX6 kept
 | [s],kept,_=>by
  by_cases h1:s= [46]
  ·subst h1;simp[aY0,dotS,aX6]
  ·by_cases h2:s= [46,46]
   ·subst h2;simp[aY0,dotS,aX6]
   ·simp[aY0,dotS,aX6,h1,h2]
 |s::t::r,kept,_=>by
  have e:(s::t::r).getLast (by simp)=(t::r).getLast (by simp):=by simp
  rw[e,List.foldl_cons,←cZ4 (t::r) (aX6 kept s) (by simp)]
  unfold aX6
  rw[aY0]
  by_cases h1:s= [46]
  ·simp[h1]
  ·by_cases h2:s= [46,46]
   ·simp[h1,h2]
   ·simp[h1,h2]
def zR (l:List (List UInt8)):List UInt8:=l.flatMap (47:: ·)
theorem aZ9 (a b:List (List UInt8)):zR (a++b)=zR a++zR b:=by simp[zR]
theorem bZ4 (s:List UInt8):zR [s]=47::s:=by simp[zR]
theorem yW (s:List UInt8) (r:List (List UInt8)):zR (s::r)=47::s++zR r:=by simp[zR]
theorem dZ2 (l:List (List UInt8)):(zR l.dropLast).length≤(zR l).length:=by
 rcases List.eq_nil_or_concat l with rfl|⟨a,b,rfl⟩
 ·simp
 ·rw[List.concat_eq_append,List.dropLast_concat,aZ9];simp
theorem cW5: ∀l:List UInt8,zR (vG 47 l)=47::l
 | []=>by simp[vG,zR]
 |b::r=>by
  have ih:=cW5 r
  by_cases h:b=47
  ·subst h;rw[vG,if_pos rfl,yW,ih];simp
  ·rw[vG,if_neg h,yW]
   have hne:=vZ 47 r
   cases hs:vG 47 r with
   |nil=>exact absurd hs hne
   |cons x y=>rw[hs,yW]at ih;simp at ih;simp[ih]
theorem dX7 (l:List (List UInt8)):l.length≤(zR l).length:=by
 induction l with
 |nil=>simp
 |cons s r ih=>rw[yW];simp;omega
def aV6 (l:List (List UInt8)):List UInt8:=if zR l= []then [47]else zR l
theorem fJ9 (l:List (List UInt8)):47::Lib.join l [47]=aV6 l:=by
 unfold aV6
 cases l with
 |nil=>simp[Lib.join_nil,zR]
 |cons s r=>
  rw[if_neg (by simp[zR]),Lib.join_cons,yW]
  simp[Lib.joinTail,zR,List.flatMap]
theorem aJ0 (pre:List (List UInt8)) (x:List UInt8) (r:List (List UInt8)):jB ByteArray.empty ((pre++x::r).map mkB) (pre.length:Int)=mkB x:=by
 rw[List.map_append,List.map_cons,jB,show(pre.length:Int)=((pre.map mkB).length:Int)by simp,cK0]
theorem mkApp (a b:List UInt8):mkB a++mkB b=mkB (a++b):=by apply toList_inj;rw[yF,cZ3,bl,ByteArray.data_append];simp[mkB]
theorem bY7: ∀(r pre:List (List UInt8)) (acc:List UInt8),(pre++r).length≤1048576→acc.length+(zR r).length≤1048576→
  Ev (fun k=>yA.l2 k ((pre++r).map mkB) (mkB acc) (pre.length:Int)) (mkB (if acc++zR r= []then [47]else acc++zR r))
 | [],pre,acc,hl,ha=>by
  refine Ev.step (f:=fun _=>some (mkB (if acc= []then [47]else acc))) (fun k=>?_) (by simpa [zR]using Ev.now _)
  simp only[yA.l2]
  rw[if_neg (by simp),yF]
  by_cases h:acc= []
  ·rw[if_pos h,if_pos h];rfl
  ·rw[if_neg h,if_neg h]
 |x::r,pre,acc,hl,ha=>by
  rw[yW]at ha
  simp at ha hl
  have ih:=bY7 r (pre++ [x]) (acc++47::x) (by simp;omega) (by simp;omega)
  rw[←jQ,zP]at ih
  have e:acc++zR (x::r)=acc++47::x++zR r:=by rw[yW];simp
  rw[e]
  refine Ev.step (fun k=>?_) ih
  simp only[yA.l2]
  rw[aJ0,show(⟨#[47]⟩:ByteArray)=mkB [47]from rfl,mkApp,mkApp,if_pos (by simp;omega),if_pos (by rw[qC];omega),if_pos (by omega),if_pos (by rw[qC,qC];simp;omega),qF (by omega) (by omega)]
  simp
theorem aQ4: ∀(r pre kept:List (List UInt8)),(pre++r).length≤1048576→kept.length≤pre.length→(zR kept).length+(zR r).length≤1000000→
  Ev (fun k=>yA.l1 k ((pre++r).map mkB) (kept.map mkB) (pre.length:Int)) (mkB (aV6 (aY0 kept r)))
 | [],pre,kept,hl,hk,ha=>by
  have:=bY7 kept [] [] (by simp at hl ⊢;omega) (by simp;omega)
  refine Ev.step (f:=fun k=>yA.l2 k (kept.map mkB) (⟨#[]⟩:ByteArray) 0) (fun k=>by simp only[yA.l1];rw[if_neg (by simp)]) ?_
  show Ev (fun k=>yA.l2 k (kept.map mkB) (⟨#[]⟩:ByteArray) 0) (mkB (aV6 kept))
  exact this
 |s::r,pre,kept,hl,hk,ha=>by
  have hl2:=hl
  simp at hl2
  rw[yW]at ha
  simp at ha
  have hd:=dZ2 kept
  have hw:wrap64 ((pre.length:Int)+1)=(pre.length:Int)+1:=qF (by omega) (by omega)
  have hlen:(((pre++s::r).map mkB).length:Int)=(pre.length:Int)+1+r.length:=by simp;omega
  have hk1: ∀kept':List (List UInt8),kept'.length≤kept.length+1→(kept'.map mkB).length<8796093022208:=by intro kept' h;simp;omega
  have dots: ∀kept':List (List UInt8),kept'.length≤kept.length→(zR kept').length≤(zR kept).length→Ev (fun k=>yA.j5 k ((pre++s::r).map mkB) (kept'.map mkB) (pre.length:Int) true) (mkB (aV6 (if r= []then kept'++ [[]]else aY0 kept' r))):=by
   intro kept' h1 h2
   by_cases hr:r= []
   ·subst hr
    rw[if_pos rfl]
    have ih:=aQ4 [] (pre++ [s]) (kept'++ [[]]) (by simpa using hl2) (by simp;omega) (by rw[aZ9,bZ4];simp[zR]at ha h2 ⊢;omega)
    rw[List.append_nil,zP]at ih
    simp only[aY0]at ih
    refine Ev.step (fun k=>?_) ih
    simp only[yA.j5,if_true]
    rw[hw,hlen,if_pos (by simp),if_pos (hk1 _ (by omega))]
    simp[mkB]
   ·rw[if_neg hr]
    have ih:=aQ4 r (pre++ [s]) kept' (by simp;omega) (by simp;omega) (by omega)
    rw[←jQ,zP]at ih
    refine Ev.step (fun k=>?_) ih
    have:1≤r.length:=List.length_pos_iff.2 hr
    simp only[yA.j5,if_true]
    rw[hw,hlen,if_neg (by omega)]
  have h0:(0:Int)≤(pre.length:Int):=by omega
  have hlt:(pre.length:Int)<(((pre++s::r).map mkB).length:Int):=by rw[hlen];omega
  have hread: ∀t:List UInt8,((mkB s).toList=t)↔s=t:=fun t=>by rw[yF]
  by_cases h1:s= [46]
  ·rw[aY0,if_pos h1]
   refine Ev.step (f:=fun k=>yA.j3 k ((pre++s::r).map mkB) (kept.map mkB) (pre.length:Int) true) (fun k=>by simp only[yA.l1];rw[if_pos hlt,if_pos h0,aJ0,if_pos ((hread _).2 h1)]) ?_
   refine Ev.step (f:=fun k=>yA.j4 k ((pre++s::r).map mkB) (kept.map mkB) (pre.length:Int) true false) (fun k=>by simp only[yA.j3];rw[if_pos h0,if_pos hlt,aJ0,if_neg (fun h=>by have:=(hread _).1 h;rw[h1]at this;cases this)]) ?_
   refine Ev.step (f:=fun k=>yA.j5 k ((pre++s::r).map mkB) (kept.map mkB) (pre.length:Int) true) (fun k=>by simp only[yA.j4,Bool.false_eq_true,if_false]) ?_
   exact dots kept (Nat.le_refl _) (Nat.le_refl _)
  ·rw[aY0,if_neg h1]
   by_cases h2:s= [46,46]
   ·rw[if_pos h2]
    have hbq:((mkB s).toList==([46,46]:List UInt8))=true:=by rw[yF];exact beq_iff_eq.2 h2
    refine Ev.step (f:=fun k=>yA.j3 k ((pre++s::r).map mkB) (kept.map mkB) (pre.length:Int) true) (fun k=>by simp only[yA.l1];rw[if_pos hlt,if_pos h0,aJ0,if_neg (fun h=>h1 ((hread _).1 h)),hbq]) ?_
    refine Ev.step (f:=fun k=>yA.j4 k ((pre++s::r).map mkB) (kept.map mkB) (pre.length:Int) true (decide (((kept.map mkB).length:Int)>0))) (fun k=>by simp only[yA.j3];rw[if_pos h0,if_pos hlt,aJ0,if_pos ((hread _).2 h2)]) ?_
    by_cases hk0:kept= []
    ·subst hk0
     refine Ev.step (f:=fun k=>yA.j5 k ((pre++s::r).map mkB) (([]:List (List UInt8)).map mkB) (pre.length:Int) true) (fun k=>by simp[yA.j4]) ?_
     exact dots [] (Nat.le_refl _) (Nat.le_refl _)
    ·have hkl:1≤kept.length:=List.length_pos_iff.2 hk0
     have hwk:wrap64 (((kept.map mkB).length:Int)-1)=((kept.length-1:Nat):Int):=by rw[qF (by simp;omega) (by simp;omega)];simp;omega
     have htake:(kept.map mkB).take (kept.length-1)=kept.dropLast.map mkB:=by rw[List.map_dropLast,List.dropLast_eq_take];simp
     refine Ev.step (f:=fun k=>yA.j5 k ((pre++s::r).map mkB) (kept.dropLast.map mkB) (pre.length:Int) true) (fun k=>?_) (dots kept.dropLast (by simp) hd)
     simp only[yA.j4]
     rw[if_pos (decide_eq_true (by simp<;>omega)),hwk,if_pos (by omega),if_pos (by simp<;>omega),Int.toNat_natCast,htake]
   ·rw[if_neg h2]
    have hbq:((mkB s).toList==([46,46]:List UInt8))=false:=by rw[yF];exact beq_eq_false_iff_ne.2 h2
    refine Ev.step (f:=fun k=>yA.j3 k ((pre++s::r).map mkB) (kept.map mkB) (pre.length:Int) false) (fun k=>by simp only[yA.l1];rw[if_pos hlt,if_pos h0,aJ0,if_neg (fun h=>h1 ((hread _).1 h)),hbq]) ?_
    refine Ev.step (f:=fun k=>yA.j4 k ((pre++s::r).map mkB) (kept.map mkB) (pre.length:Int) false false) (fun k=>by simp only[yA.j3];rw[if_pos h0,if_pos hlt,aJ0,if_neg (fun h=>h2 ((hread _).1 h))]) ?_
    refine Ev.step (f:=fun k=>yA.j5 k ((pre++s::r).map mkB) (kept.map mkB) (pre.length:Int) false) (fun k=>by simp only[yA.j4,Bool.false_eq_true,if_false]) ?_
    have ih:=aQ4 r (pre++ [s]) (kept++ [s]) (by simp;omega) (by simp;omega) (by rw[aZ9,bZ4];simp;omega)
    rw[←jQ,zP,show(kept++ [s]).map mkB=kept.map mkB++ [mkB s]by simp]at ih
    refine Ev.step (fun k=>?_) ih
    simp only[yA.j5,Bool.false_eq_true,if_false]
    rw[if_pos h0,if_pos hlt,if_pos (hk1 _ (by omega)),aJ0,hw]
theorem dJ3 (l:List (List UInt8)):(l.map mkB).map (·.data.toList)=l:=by
 rw[List.map_map]
 have:((fun x:ByteArray=>x.data.toList) ∘ mkB)=id:=by funext x;exact xY x
 rw[this,List.map_id]
theorem aV7 (l:List (List UInt8)) (h:(zR l).length≤1048576): ∃j,strings_Join.f (l.map mkB) (⟨#[47]⟩:ByteArray)=some j∧j.size≤1048576∧(⟨#[47]⟩:ByteArray)++j=mkB (aV6 l):=by
 have hj:=fJ9 l
 have hln:(47::Lib.join l [47]).length≤1048577:=by
  rw[hj];unfold aV6;split
  ·simp
  ·omega
 simp at hln
 have hl:=dX7 l
 refine⟨mkB (Lib.join l [47]),?_,by rw[qC];omega,?_⟩
 ·unfold strings_Join.f
  rw[dJ3]
  have e:(⟨#[47]⟩:ByteArray).data.toList= [47]:=rfl
  rw[e,if_pos ⟨by simp;omega,by omega⟩];rfl
 ·rw[show(⟨#[47]⟩:ByteArray)=mkB [47]from rfl,mkApp,←hj];rfl
theorem bQ7 (S:List (List UInt8)) (hS:S≠ []): ∀(r pre out:List (List UInt8)),S=pre++r→S.length≤1000000→out.length≤pre.length→(zR out).length+(zR r).length≤1000000→
  Ev (fun k=>vD.l0 k (out.map mkB) (S.map mkB) (S.map mkB) (S.length:Int) (pre.length:Int)) (mkB (aV6 (if dotS (S.getLast hS)=true then r.foldl aX6 out++ [[]]else r.foldl aX6 out)))
 | [],pre,out,hp,hl,ho,ha=>by
  have hS1:1≤S.length:=List.length_pos_iff.2 hS
  have hw:wrap64 (((S.map mkB).length:Int)-1)=((S.length-1:Nat):Int):=by rw[qF (by simp;omega) (by simp;omega)];simp;omega
  have hrd:jB ByteArray.empty (S.map mkB) ((S.length-1:Nat):Int)=mkB (S.getLast hS):=by
   have e:S.dropLast++S.getLast hS:: []=S:=List.dropLast_concat_getLast hS
   have:=aJ0 S.dropLast (S.getLast hS) []
   rw[e,List.length_dropLast]at this
   exact this
  have hon:(out.map mkB).length<8796093022208:=by simp;subst hp;simp at hl;omega
  have hpl:S.length=pre.length:=by rw[hp];simp
  have hcell: ∀k,vD.l0 (k+1) (out.map mkB) (S.map mkB) (S.map mkB) (S.length:Int) (pre.length:Int)=if dotS (S.getLast hS)=true then(strings_Join.f (out.map mkB++ [(⟨#[]⟩:ByteArray)]) (⟨#[47]⟩:ByteArray)).bind fun t=>if 1+t.size≤9223372036854775807 then some ((⟨#[47]⟩:ByteArray)++t)else none else(strings_Join.f (out.map mkB) (⟨#[47]⟩:ByteArray)).bind fun t=>if 1+t.size≤9223372036854775807 then some ((⟨#[47]⟩:ByteArray)++t)else none:=by
   intro k
   simp only[vD.l0,hw,hrd,yF]
   rw[if_neg (by omega),if_pos (by omega),if_pos (by simp;omega)]
   unfold dotS
   by_cases h1:S.getLast hS= [46]
   ·rw[if_pos h1,if_pos hon,if_pos (by simp[h1])]
   ·rw[if_neg h1]
    by_cases h2:S.getLast hS= [46,46]
    ·rw[if_pos h2,if_pos hon,if_pos (by simp[h2])]
    ·rw[if_neg h2,if_neg (by simp[h1,h2])]
  refine Ev.step (f:=fun _=>some (mkB (aV6 (if dotS (S.getLast hS)=true then out++ [[]]else out)))) (fun k=>?_) (Ev.now _)
  rw[hcell]
  simp[zR]at ha
  by_cases hd:dotS (S.getLast hS)=true
  ·obtain⟨j,e1,e2,e3⟩:=aV7 (out++ [[]]) (by rw[aZ9,bZ4];simp[zR];omega)
   rw[List.map_append,List.map_singleton,show mkB []=(⟨#[]⟩:ByteArray)from rfl]at e1
   rw[if_pos hd,if_pos hd,e1,Option.bind_some,if_pos (by omega),e3]
  ·obtain⟨j,e1,e2,e3⟩:=aV7 out (by simp[zR];omega)
   rw[if_neg hd,if_neg hd,e1,Option.bind_some,if_pos (by omega),e3]
 |s::r,pre,out,hp,hl,ho,ha=>by
  have hd:=dZ2 out
  rw[yW]at ha
  simp at ha
  have hlen:S.length=pre.length+(r.length+1):=by rw[hp];simp
  have hw:wrap64 ((pre.length:Int)+1)=(pre.length:Int)+1:=qF (by omega) (by omega)
  have hrd:jB ByteArray.empty (S.map mkB) (pre.length:Int)=mkB s:=by rw[hp];exact aJ0 pre s r
  have ih:=fun out' h1 h2=>bQ7 S hS r (pre++ [s]) out' (by rw[hp];simp) hl h1 h2
  simp only[zP]at ih
  have hlt:(pre.length:Int)<(S.length:Int):=by omega
  have hlt2:(pre.length:Int)<((S.map mkB).length:Int):=by simp;omega
  rw[List.foldl_cons]
  by_cases h1:s= [46]
  ·have ih':=ih out (by simp;omega) (by omega)
   have e:aX6 out s=out:=by simp[aX6,h1]
   rw[e]
   refine Ev.step (fun k=>?_) ih'
   simp only[vD.l0]
   rw[if_pos hlt,if_pos (by omega),if_pos hlt2,hrd,yF,if_pos h1,hw]
  ·by_cases h2:s= [46,46]
   ·have ih':=ih out.dropLast (by simp;omega) (by omega)
    have e:aX6 out s=out.dropLast:=by simp[aX6,h2]
    rw[e]
    refine Ev.step (fun k=>?_) ih'
    have hmx:mx 0 (wrap64 (((out.map mkB).length:Int)-1))=((out.length-1:Nat):Int):=by
     rw[qF (by simp;omega) (by simp;omega)];unfold mx;simp;split<;>omega
    have htake:(out.map mkB).take (out.length-1)=out.dropLast.map mkB:=by rw[List.map_dropLast,List.dropLast_eq_take];simp
    simp only[vD.l0]
    rw[if_pos hlt,if_pos (by omega),if_pos hlt2,hrd,yF,if_neg h1,if_pos h2,hmx,if_pos (by omega),if_pos (by simp<;>omega),Int.toNat_natCast,htake,hw]
   ·have ih':=ih (out++ [s]) (by simp;omega) (by rw[aZ9,bZ4];simp;omega)
    have e:aX6 out s=out++ [s]:=by simp[aX6,h1,h2]
    rw[e]
    rw[List.map_append,List.map_singleton]at ih'
    refine Ev.step (fun k=>?_) ih'
    simp only[vD.l0]
    rw[if_pos hlt,if_pos (by omega),if_pos hlt2,hrd,yF,if_neg h1,if_neg h2,if_pos (by simp;omega),hw]
def bY0 (p:List UInt8):List UInt8:=
 if p.length≤200∧p.head?=some 47∧p.all bX3=true∧(p.any fun b=>decide (b=35)||decide (b=63))=false then aV6 (aY0 [] (vG 47 ((strOfNums (jK p.length p)).data.toList.drop 1)))else []
theorem bX9 (r:List UInt8):(strOfNums (jK (47::r).length (47::r))).data.toList=47::(strOfNums (jK r.length r)).data.toList:=by
 rw[List.length_cons,jK,if_neg (by decide)];simp[strOfNums]
theorem fW0 (l:List UInt8):(strOfNums (jK l.length l)).size≤l.length:=by
 rw[fX1];exact bZ0 _ _ (Nat.le_refl _)
theorem u8_35 (b:UInt8):(b.toNat:Int)=35↔b=35:=by rw[←UInt8.toNat_inj];show _↔b.toNat=35;omega
theorem u8_63 (b:UInt8):(b.toNat:Int)=63↔b=63:=by rw[←UInt8.toNat_inj];show _↔b.toNat=63;omega
theorem u8_47 (b:UInt8):(b.toNat:Int)=47↔b=47:=by rw[←UInt8.toNat_inj];show _↔b.toNat=47;omega
theorem bY1 (P:List UInt8) (hP:P.length≤1000) (res:ByteArray)
  (hres:Ev (fun k=>(kC.f k (mkB P)).bind fun t135=>(if 1≤(t135.size:Int)then((qG.f k (t135.extract 1 t135.size) 47).bind fun t136=>(yA.l1 k t136 ([]:List ByteArray) 0))else(none))) res):
  ∀(r pre:List UInt8),P=pre++r→Ev (fun k=>yA.l0 k (mkB P) (pre.length:Int)) (if(r.any fun b=>decide (b=35)||decide (b=63))=true then(⟨#[]⟩:ByteArray)else res)
 | [],pre,hp=>by
  refine Ev.step (fun k=>?_) (by simpa using hres)
  simp only[yA.l0]
  rw[if_neg (by rw[qC,hp];simp)]
 |b::r,pre,hp=>by
  have ih:=bY1 P hP res hres r (pre++ [b]) (by rw[hp];simp)
  rw[zP]at ih
  have hlen:P.length=pre.length+(r.length+1):=by rw[hp];simp
  have hb:bt (mkB P) (pre.length:Int)=(b.toNat:Int):=by rw[hp];exact jR pre b r
  have hlt:(pre.length:Int)<((mkB P).size:Int):=by rw[qC];omega
  by_cases h1:b=35
  ·refine Ev.step (f:=fun _=>some (⟨#[]⟩:ByteArray)) (fun k=>?_) (by simpa [h1]using Ev.now _)
   simp only[yA.l0]
   rw[if_pos hlt,if_pos (by omega),hb,if_pos ((u8_35 b).2 h1)]
  by_cases h2:b=63
  ·refine Ev.step (f:=fun _=>some (⟨#[]⟩:ByteArray)) (fun k=>?_) (by simpa [h2]using Ev.now _)
   simp only[yA.l0]
   rw[if_pos hlt,if_pos (by omega),hb,if_neg (fun h=>h1 ((u8_35 b).1 h)),if_pos ((u8_63 b).2 h2)]
  refine Ev.step (fun k=>?_) (by simpa [h1,h2]using ih)
  simp only[yA.l0]
  rw[if_pos hlt,if_pos (by omega),hb,if_neg (fun h=>h1 ((u8_35 b).1 h)),if_neg (fun h=>h2 ((u8_63 b).1 h)),qF (by omega) (by omega)]
theorem eQ2 (l:List UInt8):decide (Lib.indexAny l [35,63]≥0)=(l.any fun b=>decide (b=35)||decide (b=63)):=by
 induction l with
 |nil=>rfl
 |cons b r ih=>
  have hg:=Lib.indexAny_ge [35,63] r
  rw[Lib.indexAny,List.any_cons]
  by_cases h1:b=35
  ·simp[h1]
  by_cases h2:b=63
  ·simp[h2]
  rw[if_neg (by simp[h1,h2])]
  simp only[h1,h2,decide_false,Bool.or_false,Bool.false_or]
  rw[←ih]
  by_cases hm:Lib.indexAny r [35,63]= -1
  ·simp[hm]
  ·rw[if_neg (by simpa using hm)]
   exact decide_eq_decide.2 (by omega)
theorem dX9 (r:List UInt8):(strOfNums (jK (47::r).length (47::r))).extract 1 (strOfNums (jK (47::r).length (47::r))).size=mkB ((strOfNums (jK (47::r).length (47::r))).data.toList.drop 1):=by
 have e:=bX9 r
 have e2:strOfNums (jK (47::r).length (47::r))=mkB (47::(strOfNums (jK r.length r)).data.toList):=by rw[←bV9 (strOfNums _),bl,e]
 rw[e,e2,jO,qC,List.take_of_length_le (by simp)]
theorem dV8 (r:List UInt8) (h:r.length≤1000):(vG 47 ((strOfNums (jK (47::r).length (47::r))).data.toList.drop 1)).length≤2000∧(zR (vG 47 ((strOfNums (jK (47::r).length (47::r))).data.toList.drop 1))).length≤2000∧((strOfNums (jK (47::r).length (47::r))).data.toList.drop 1).length≤2000:=by
 have hz:(strOfNums (jK (47::r).length (47::r))).data.toList.length≤1001:=by
  rw[Array.length_toList];exact Nat.le_trans (fW0 (47::r)) (by simp;omega)
 generalize (strOfNums (jK (47::r).length (47::r))).data.toList=L at hz ⊢
 have hf:=cW5 (L.drop 1)
 have hl:=dX7 (vG 47 (L.drop 1))
 have hd:(L.drop 1).length≤1001:=by rw[List.length_drop];omega
 rw[hf]at hl ⊢
 simp only[List.length_cons]at hl ⊢
 omega
theorem cX3 (s:ByteArray) (hs:s.size≤1048576):Ev (fun k=>yA.f k s) (mkB (bY0 (bl s))):=by
 have hj:Ev (fun k=>yA.j0 k s true) (mkB []):=Ev.step (f:=fun _=>some (⟨#[]⟩:ByteArray)) (fun k=>by simp only[yA.j0,if_true]) (Ev.now _)
 obtain⟨p,rfl⟩: ∃p,s=mkB p:=⟨bl s,(bV9 s).symm⟩
 rw[xY]
 unfold yA.f bY0
 rw[qC]
 cases p with
 |nil=>simpa using hj
 |cons b r=>
  simp only[if_neg (show ¬((b::r).length:Int)=0 by simp;omega)]
  by_cases hl:(b::r).length≤200
  ·simp only[if_neg (show ¬((b::r).length:Int)>200 by omega),if_pos (show(0:Int)<((b::r).length:Int)by simp<;>omega)]
   have hb:bt (mkB (b::r)) 0=(b.toNat:Int):=by simpa using jR [] b r
   rw[hb]
   by_cases h47:b=47
   ·subst h47
    simp only[if_pos (show(((47:UInt8).toNat:Nat):Int)=47 from rfl)]
    refine(bK3 (mkB (47::r)) (by rw[qC];omega)).bind ?_
    rw[xY,qC,decide_eq_true (show 1≤(47::r).length by simp),Bool.and_true]
    cases hv:(47::r).all bX3
    ·simpa [hv]using hj
    ·have hsb:=dV8 r (by simp at hl;omega)
     simp only[Bool.not_true]
     have hseg:=aQ4 (vG 47 ((strOfNums (jK (47::r).length (47::r))).data.toList.drop 1)) [] [] (by rw[List.nil_append];omega) (by simp) (by have e0:(zR ([]:List (List UInt8))).length=0:=rfl;omega)
     have hP:=fX0 (47::r).length (47::r) [] [] (Nat.le_refl _) (by simp at hl ⊢;omega) (by simp)
     have hres:Ev (fun k=>(kC.f k (mkB (47::r))).bind fun t135=>(if 1≤(t135.size:Int)then((qG.f k (t135.extract 1 t135.size) 47).bind fun t136=>(yA.l1 k t136 ([]:List ByteArray) 0))else(none))) (mkB (aV6 (aY0 [] (vG 47 ((strOfNums (jK (47::r).length (47::r))).data.toList.drop 1))))):=by
      refine Ev.bind (a:=strOfNums (jK (47::r).length (47::r))) (by simpa [kC.f]using hP) ?_
      have h1:1≤((strOfNums (jK (47::r).length (47::r))).size:Int):=by
       have:(strOfNums (jK (47::r).length (47::r))).size=(strOfNums (jK (47::r).length (47::r))).data.toList.length:=by rw[Array.length_toList];rfl
       rw[this,bX9];simp;omega
      simp only[if_pos h1,dX9]
      refine(aQ0 47 _ (by omega)).bind ?_
      simpa using hseg
     have hh:=bY1 (47::r) (by omega) _ hres (47::r) [] rfl
     refine Ev.step (f:=fun k=>yA.l0 k (mkB (47::r)) 0) (fun k=>by simp only[yA.j0,Bool.false_eq_true,if_false]) ?_
     cases ha:(47::r).any fun b=>decide (b=35)||decide (b=63)
     ·rw[ha]at hh
      rw[if_pos (by refine⟨hl,rfl,?_,?_⟩<;>first|trivial|rfl|assumption)]
      simpa using hh
     ·rw[ha]at hh
      rw[if_neg (fun h=>by cases h.2.2.2)]
      simpa [mkB]using hh
   ·simp only[if_neg (fun h=>h47 ((u8_47 b).1 h))]
    rw[if_neg (fun h=>h47 (by simpa using h.2.1))]
    exact hj
  ·simp only[if_pos (show((b::r).length:Int)>200 by omega)]
   rw[if_neg (fun h=>hl h.1)]
   exact hj
theorem cX2 (s:ByteArray) (hs:s.size≤1048576):Ev (fun k=>vD.f k s) (mkB (bY0 (bl s))):=by
 have hj:Ev (fun k=>vD.j0 k s true) (mkB []):=Ev.step (f:=fun _=>some (⟨#[]⟩:ByteArray)) (fun k=>by simp only[vD.j0,if_true]) (Ev.now _)
 obtain⟨p,rfl⟩: ∃p,s=mkB p:=⟨bl s,(bV9 s).symm⟩
 rw[xY]
 have hpre:strings_HasPrefix.f (mkB p) (⟨#[47]⟩:ByteArray)=some (decide (p.head?=some 47)):=by
  unfold strings_HasPrefix.f stringslite_HasPrefix.f
  rw[show(⟨#[47]⟩:ByteArray)=mkB [47]from rfl,qC,qC]
  cases p with
  |nil=>rfl
  |cons b r=>
   rw[if_pos (by simp;omega),if_pos (by simp),if_pos (by simp;omega),jO,yF,yF]
   simp
   rw[Bool.eq_iff_iff];simp
 have hca:strings_ContainsAny.f (mkB p) (⟨#[35,63]⟩:ByteArray)=some (p.any fun b=>decide (b=35)||decide (b=63)):=by
  unfold strings_ContainsAny.f strings_IndexAny.f
  rw[if_pos ⟨by rw[qC]at*;omega,rfl,by decide⟩,Option.bind_some]
  have e1:(⟨#[35,63]⟩:ByteArray).data.toList= [35,63]:=rfl
  have e2:(mkB p).data.toList=p:=xY p
  rw[e1,e2,eQ2]
 unfold vD.f bY0
 rw[hpre]
 simp only[Option.bind_some,decide_eq_true_eq]
 by_cases h47:p.head?=some 47
 ·simp only[if_pos h47,qC]
  by_cases hl:p.length≤200
  ·simp only[if_neg (show ¬(p.length:Int)>200 by omega)]
   refine(bV6 (mkB p) (by rw[qC];omega)).bind ?_
   rw[xY]
   cases hv:p.all bX3
   ·simpa [hv]using hj
   ·simp only[if_true,hca,Option.bind_some]
    cases ha:p.any fun b=>decide (b=35)||decide (b=63)
    ·rw[if_pos (by refine⟨hl,h47,?_,?_⟩<;>first|trivial|rfl|assumption)]
     obtain⟨r,rfl⟩: ∃r,p=47::r:=by
      cases p with
      |nil=>cases h47
      |cons b r=>simp at h47;subst h47;exact⟨r,rfl⟩
     have hsb:=dV8 r (by simp at hl;omega)
     have hne:=vZ 47 ((strOfNums (jK (47::r).length (47::r))).data.toList.drop 1)
     have hseg:=bQ7 (vG 47 ((strOfNums (jK (47::r).length (47::r))).data.toList.drop 1)) hne _ [] [] rfl (by omega) (by simp) (by have e0:(zR ([]:List (List UInt8))).length=0:=rfl;omega)
     rw[←cZ4 _ [] hne]at hseg
     have hP:=fX2 (47::r).length (47::r) [] [] (Nat.le_refl _) (by simp at hl ⊢;omega) (by simp)
     refine Ev.step (f:=fun k=>(yB.f k (mkB (47::r))).bind fun t180=>(if 1≤(t180.size:Int)then((strings_Split.f (t180.extract 1 t180.size) (⟨#[47]⟩:ByteArray)).bind fun t181=>(vD.l0 k ([]:List ByteArray) t181 t181 (t181.length:Int) 0))else(none))) (fun k=>by simp only[vD.j0,Bool.false_eq_true,if_false]) ?_
     refine Ev.bind (a:=strOfNums (jK (47::r).length (47::r))) (by simpa [yB.f]using hP) ?_
     have h1:1≤((strOfNums (jK (47::r).length (47::r))).size:Int):=by
      have:(strOfNums (jK (47::r).length (47::r))).size=(strOfNums (jK (47::r).length (47::r))).data.toList.length:=by rw[Array.length_toList];rfl
      rw[this,bX9];simp;omega
     simp only[if_pos h1,dX9]
     simp only[wX _ 47 (show((strOfNums (jK (47::r).length (47::r))).data.toList.drop 1).length≤1048576 by omega),Option.bind_some,List.length_map]
     simpa using hseg
    ·rw[if_neg (fun h=>by cases h.2.2.2)];exact hj
  ·simp only[if_pos (show(p.length:Int)>200 by omega)]
   rw[if_neg (fun h=>hl h.1)];exact hj
 ·simp only[if_neg h47]
  rw[if_neg (fun h=>h47 h.2.1)];exact hj
theorem aJ3 (n a b:Int):vC.f n a b=some (decide (a≤n)&&decide (n≤b)):=by
 unfold vC.f
 by_cases h:a≤n<;>simp[h]
def jE (c:UInt8):List UInt8→List UInt8×List UInt8×Bool
 | []=>([],[],false)
 |b::l=>if b=c then([],l,true)else(b::(jE c l).1,(jE c l).2)
theorem cut_is (c:UInt8): ∀l:List UInt8,Lib.cut l [c]=jE c l
 | []=>by simp[Lib.cut,Lib.index,jE]
 |b::l=>by
  have ih:=cut_is c l
  have hb:=bJ2 l [c]
  unfold Lib.cut at ih ⊢
  by_cases h:b=c
  ·subst h
   have hi:Lib.index (b::l) [b]=0:=by simp[Lib.index]
   rw[hi];simp[jE]
  ·have hi:Lib.index (b::l) [c]=if Lib.index l [c]= -1 then-1 else Lib.index l [c]+1:=by
    have hc:(c==b)=false:=by simpa using fun x=>h x.symm
    simp only[Lib.index,List.isPrefixOf,hc,Bool.false_and,Bool.false_eq_true,if_false]
    by_cases hm:Lib.index l [c]= -1<;>simp[hm]
   rw[hi,jE,if_neg h]
   by_cases hm:Lib.index l [c]= -1
   ·rw[hm]at ih
    rw[if_pos hm]
    rw[if_neg (by omega)]at ih ⊢
    rw[←ih]
   ·rw[if_neg hm]
    rw[if_pos (by omega)]at ih
    rw[if_pos (by omega),←ih]
    have e:(Lib.index l [c]+1).toNat=(Lib.index l [c]).toNat+1:=by omega
    rw[e]
    simp[Nat.add_right_comm]
theorem bW2 (c:UInt8): ∀(pre r:List UInt8),(∀b∈pre,b≠c)→jE c (pre++r)=(pre++(jE c r).1,(jE c r).2)
 | [],r,_=>rfl
 |b::pre,r,h=>by
  have ih:=bW2 c pre r (fun x hx=>h x (List.mem_cons_of_mem _ hx))
  rw[List.cons_append,jE,if_neg (h b (by simp)),ih];rfl
theorem eQ8 (c:UInt8): ∀l:List UInt8,(jE c l).1.length+(jE c l).2.1.length≤l.length
 | []=>by simp[jE]
 |b::l=>by
  have ih:=eQ8 c l
  unfold jE;split
  ·simp
  ·simp;omega
theorem fW3 (c:UInt8): ∀(r pre:List UInt8),(∀b∈pre,b≠c)→(pre++r).length≤9223372036854775806→Ev (fun k=>qI.l0 k (mkB (pre++r)) (c.toNat:Int) pre.length) (mkB (jE c (pre++r)).1)
 | [],pre,hp,hl=>by
  have e:(jE c (pre++ [])).1=pre++ []:=by rw[bW2 c pre [] hp];simp[jE]
  rw[e]
  exact Ev.step (f:=fun _=>some (mkB (pre++ []))) (fun k=>by simp only[qI.l0];rw[if_neg (by rw[qC];simp)]) (Ev.now _)
 |b::r,pre,hp,hl=>by
  simp at hl
  by_cases h:b=c
  ·subst h
   have e:(jE b (pre++b::r)).1=pre:=by rw[bW2 b pre _ hp];simp[jE]
   rw[e]
   refine Ev.step (f:=fun _=>some (mkB pre)) (fun k=>?_) (Ev.now _)
   simp only[qI.l0]
   rw[if_pos (wO ..),if_pos (by omega),jR,if_pos rfl,if_pos (by have:=wO pre b r;omega),jO]
   simp
  ·have ih:=fW3 c r (pre++ [b]) (by intro x hx;rcases List.mem_append.1 hx with h'|h';exact hp x h';simp at h';subst h';exact h) (by simp;omega)
   rw[←jQ,zP]at ih
   refine Ev.step (fun k=>?_) ih
   simp only[qI.l0]
   rw[if_pos (wO ..),if_pos (by omega),jR,if_neg (fun e=>h ((u8_nat b c).1 e)),qF (by omega) (by omega)]
theorem fK5 (c:UInt8) (s:ByteArray) (h:s.size≤9223372036854775806):Ev (fun k=>qI.f k s (c.toNat:Int)) (mkB (jE c (bl s)).1):=by
 have:=fW3 c (bl s) [] (by simp) (by simpa [bV0]using h)
 simpa [bV9,qI.f]using this
theorem fQ2 (b:UInt8):jV.f (b.toNat:Int)=some (aY6 b||decide (b=46)):=by
 have key: ∀n:Fin 256,jV.f ((UInt8.ofNat n.val).toNat:Int)=some (aY6 (UInt8.ofNat n.val)||decide (UInt8.ofNat n.val=46)):=by decide+kernel
 have:=key ⟨b.toNat,b.toNat_lt⟩
 simpa using this
theorem dJ0 (S:List (List UInt8)) (hS:S.length≤1000000): ∀(r pre:List (List UInt8)),S=pre++r→ ∃v:Int,Ev (fun k=>zE.l0 k (S.map mkB) (⟨#[]⟩:ByteArray) (S.length:Int) (pre.length:Int)) v∧decide (v≥0)=r.contains []
 | [],pre,hp=>⟨-1,Ev.step (f:=fun _=>some (-1)) (fun k=>by rw[zE.l0,if_neg (by rw[hp];simp)]) (Ev.now _),by decide⟩
 |x::r,pre,hp=>by
  have hlen:S.length=pre.length+(r.length+1):=by rw[hp];simp
  have hrd:jB ByteArray.empty (S.map mkB) (pre.length:Int)=mkB x:=by rw[hp];exact dV0 pre x r
  have hlt:(pre.length:Int)<(S.length:Int):=by omega
  have hlt2:(pre.length:Int)<((S.map mkB).length:Int):=by rw[List.length_map];exact hlt
  have e0:(⟨#[]⟩:ByteArray).toList= []:=yF []
  by_cases hx:x= []
  ·refine⟨(pre.length:Int),Ev.step (f:=fun _=>some (pre.length:Int)) (fun k=>?_) (Ev.now _),?_⟩
   ·rw[zE.l0,if_pos hlt,if_pos (by omega),if_pos hlt2,hrd,yF,e0,if_pos hx.symm]
   ·rw[decide_eq_true (by omega),hx];simp
  ·obtain⟨v,h1,h2⟩:=dJ0 S hS r (pre++ [x]) (by rw[hp];simp)
   rw[zP]at h1
   refine⟨v,Ev.step (fun k=>?_) h1,?_⟩
   ·rw[zE.l0,if_pos hlt,if_pos (by omega),if_pos hlt2,hrd,yF,e0,if_neg (fun h=>hx h.symm),qF (by omega) (by omega)]
   ·rw[h2,List.contains_cons]
    have:(([]:List UInt8)==x)=false:=beq_eq_false_iff_ne.2 (fun h=>hx h.symm)
    rw[this,Bool.false_or]
theorem eZ7 (l:List UInt8) (hl:l.length≤1048576):Ev (fun k=>jM.f k (mkB l)) (aX4 l):=by
 have hj:Ev (fun k=>jM.j0 k (mkB l) true) false:=Ev.step (f:=fun _=>some false) (fun k=>by rw[jM.j0,if_pos rfl]) (Ev.now _)
 unfold jM.f
 rw[hostL_is,aJ3,qC]
 simp only[Option.bind_some]
 by_cases hb:1≤l.length∧l.length≤60
 ·have d:(decide ((1:Int)≤(l.length:Int))&&decide ((l.length:Int)≤60))=true:=by rw[decide_eq_true (show(1:Int)≤(l.length:Int)by omega),decide_eq_true (show(l.length:Int)≤60 by omega)];rfl
  simp only[d,if_true,decide_eq_true hb.1,decide_eq_true hb.2,Bool.true_and]
  have ha:=cY9 kG.l0 (fun _ x=>jV.f x) (fun b=>aY6 b||decide (b=46)) (fun b=>Ev.const (fQ2 b)) (fun k s i=>by rw[kG.l0]) (mkB l) (by rw[qC];omega)
  rw[xY]at ha
  refine Ev.bind (a:=l.all fun b=>aY6 b||decide (b=46)) (by simpa [kG.f]using ha) ?_
  cases hall:l.all fun b=>aY6 b||decide (b=46)
  ·simpa using hj
  ·simp only[Bool.not_true,Bool.true_and]
   have hsl:=yY 46 l
   obtain⟨v,h1,h2⟩:=dJ0 (vG 46 l) (by omega) (vG 46 l) [] rfl
   refine Ev.step (f:=fun k=>(wL.f k ((vG 46 l).map mkB) (⟨#[]⟩:ByteArray)).bind fun t=>some (!t)) (fun k=>by rw[jM.j0,if_neg Bool.false_ne_true,wX l 46 hl,Option.bind_some]) ?_
   have hc:Ev (fun k=>wL.f k ((vG 46 l).map mkB) (⟨#[]⟩:ByteArray)) ((vG 46 l).contains []):=by
    unfold wL.f zE.f
    rw[List.length_map]
    refine h1.bind ?_
    rw[h2];exact Ev.now _
   exact hc.bind (Ev.now _)
 ·have d:(decide ((1:Int)≤(l.length:Int))&&decide ((l.length:Int)≤60))=false:=by
   by_cases h1:1≤l.length
   ·rw[decide_eq_false (show ¬(l.length:Int)≤60 by omega),Bool.and_false]
   ·rw[decide_eq_false (show ¬(1:Int)≤(l.length:Int)by omega),Bool.false_and]
  have d2:(decide (1≤l.length)&&decide (l.length≤60))=false:=by
   by_cases h1:1≤l.length
   ·rw[decide_eq_false (show ¬l.length≤60 by omega),Bool.and_false]
   ·rw[decide_eq_false h1,Bool.false_and]
  simp only[d,d2,Bool.false_eq_true,if_false,Bool.false_and]
  exact hj
theorem dV2 (c:UInt8): ∀l:List UInt8,decide ((jE c l).1=l)=!l.contains c
 | []=>rfl
 |b::r=>by
  have ih:=dV2 c r
  by_cases h:b=c
  ·subst h;simp[jE]
  ·have hc:(c==b)=false:=beq_eq_false_iff_ne.2 (fun e=>h e.symm)
   rw[jE,if_neg h,List.contains_cons,hc,Bool.false_or,←ih]
   exact decide_eq_decide.2 (by simp)
theorem dV7 (c:UInt8): ∀l:List UInt8,decide (Lib.index l [c]≥0)=l.contains c
 | []=>by simp[Lib.index]
 |b::r=>by
  have ih:=dV7 c r
  have hb:=bJ2 r [c]
  by_cases h:b=c
  ·subst h;simp[Lib.index]
  ·have hc:(c==b)=false:=beq_eq_false_iff_ne.2 (fun e=>h e.symm)
   rw[List.contains_cons,hc,Bool.false_or,←ih]
   simp only[Lib.index,List.isPrefixOf,hc,Bool.false_and,Bool.false_eq_true,if_false]
   by_cases hm:Lib.index r [c]= -1
   ·simp[hm]
   ·rw[if_neg (by simpa using hm)];exact decide_eq_decide.2 (by omega)
def bJ1 (h:List UInt8) (p:Nat) (path q:List UInt8) (hq:Bool):Bool:=q.all bX3&&!q.contains 35&&decide ((aX7 h p path q hq).length≤200)
def yZ (h:List UInt8) (p:Int) (path q:List UInt8) (hq:Bool):Bool:=
 aX4 h&&(decide (1≤p)&&decide (p≤65535))&&(decide (path≠ [])&&decide (bY0 path=path))&&(hq||decide (q= []))&&bJ1 h p.toNat path q hq
theorem upto35 (q:List UInt8) (hq:q.length≤1048576):Ev (fun k=>qI.f k (mkB q) 35) (mkB (jE 35 q).1):=by
 have:=fK5 35 (mkB q) (by rw[qC];omega)
 rw[xY]at this
 exact this
theorem cQ4 (h:List UInt8) (p:Nat) (path q:List UInt8) (hq:Bool) (hp:p≤65535) (h1:h.length≤1048576) (h2:path.length≤1048576) (h3:q.length≤1048576) (hok:hq=true∨q= []):
  Ev (fun k=>xD.j0 k false (mkB h) (p:Int) (mkB path) (mkB q) hq) (bJ1 h p path q hq):=by
 have ht:Ev (fun k=>(vN.f k (mkB h) (p:Int) (mkB path) (mkB q) hq).bind fun t=>some (decide ((t.size:Int)≤200))) (decide ((aX7 h p path q hq).length≤200)):=by
  refine(eW4 h p path q hq (by omega) (by omega) (by omega) (by omega)).bind ?_
  rw[qC,show decide (((aX7 h p path q hq).length:Int)≤200)=decide ((aX7 h p path q hq).length≤200)from decide_eq_decide.2 (by omega)]
  exact Ev.now _
 have hu:Ev (fun k=>(qI.f k (mkB q) 35).bind fun t=>(if t.toList=(mkB q).toList then((vN.f k (mkB h) (p:Int) (mkB path) (mkB q) hq).bind fun t179=>(some (decide ((t179.size:Int)≤200))))else(some false))) (!q.contains 35&&decide ((aX7 h p path q hq).length≤200)):=by
  refine(upto35 q h3).bind ?_
  rw[yF,yF,←dV2 35 q]
  by_cases hc:(jE 35 q).1=q
  ·simp only[if_pos hc,decide_eq_true hc,Bool.true_and];exact ht
  ·simp only[if_neg hc,decide_eq_false hc,Bool.false_and];exact Ev.now _
 by_cases hbig:q.length>200
 ·have hq1:hq=true:=hok.resolve_right (fun e=>by rw[e]at hbig;simp at hbig)
  have hlen: ¬(aX7 h p path q hq).length≤200:=by
   rw[hq1];unfold aX7 aZ3;rw[if_pos rfl];simp only[List.length_append,List.length_cons];omega
  have e:bJ1 h p path q hq=false:=by unfold bJ1;rw[decide_eq_false hlen,Bool.and_false]
  rw[e]
  exact Ev.step (f:=fun _=>some false) (fun k=>by rw[xD.j0,if_neg Bool.false_ne_true,if_pos (by rw[qC];omega)]) (Ev.now _)
 ·by_cases h0:q= []
  ·have e:bJ1 h p path q hq=(!q.contains 35&&decide ((aX7 h p path q hq).length≤200)):=by unfold bJ1;rw[h0];rfl
   rw[e]
   exact Ev.step (fun k=>by rw[xD.j0,if_neg Bool.false_ne_true,if_neg (by rw[qC];omega),if_pos (by rw[yF];exact h0)]) hu
  ·refine Ev.step (f:=fun k=>(yI.f k (mkB q)).bind fun t180=>(if t180=true then((qI.f k (mkB q) 35).bind fun t=>(if t.toList=(mkB q).toList then((vN.f k (mkB h) (p:Int) (mkB path) (mkB q) hq).bind fun t179=>(some (decide ((t179.size:Int)≤200))))else(some false)))else(some false))) (fun k=>by rw[xD.j0,if_neg Bool.false_ne_true,if_neg (by rw[qC];omega),if_neg (by rw[yF];exact h0)]) ?_
   refine(bK3 (mkB q) (by rw[qC];omega)).bind ?_
   have hl1:1≤q.length:=List.length_pos_iff.2 h0
   rw[xY,qC,decide_eq_true hl1,Bool.and_true]
   unfold bJ1
   cases hv:q.all bX3
   ·simpa using Ev.now false
   ·simpa using hu
theorem eV4 (h:List UInt8) (p:Nat) (path q:List UInt8) (hq:Bool) (hp:p≤65535) (h1:h.length≤1048576) (h2:path.length≤1048576) (h3:q.length≤1048576):
  Ev (fun k=>wG.j0 k false (mkB h) (p:Int) (mkB path) (mkB q) hq) ((hq||decide (q= []))&&bJ1 h p path q hq):=by
 have hx:(qN.f (mkB h) (p:Int) (mkB path) (mkB q) hq).bind (fun t=>some (decide ((t.size:Int)≤200)))=some (decide ((aX7 h p path q hq).length≤200)):=by
  rw[eQ6 h p path q hq (by omega) (by omega) (by omega) (by omega),Option.bind_some,qC,show decide (((aX7 h p path q hq).length:Int)≤200)=decide ((aX7 h p path q hq).length≤200)from decide_eq_decide.2 (by omega)]
 have hc:strings_Contains.f (mkB q) (⟨#[35]⟩:ByteArray)=some (q.contains 35):=by
  unfold strings_Contains.f strings_Index.f
  rw[if_pos (by rw[qC];omega),Option.bind_some]
  have e1:(⟨#[35]⟩:ByteArray).data.toList= [35]:=rfl
  have e2:(mkB q).data.toList=q:=xY q
  rw[e1,e2,dV7]
 refine Ev.step (f:=fun k=>(xE.f k (mkB q)).bind fun t256=>(if t256=true then(if q.contains 35=true then(some false)else(if hq=true then some (decide ((aX7 h p path q hq).length≤200))else(if q= []then some (decide ((aX7 h p path q hq).length≤200))else(some false))))else(some false))) (fun k=>?_) ?_
 ·rw[wG.j0,if_neg Bool.false_ne_true]
  simp only[hc,hx,Option.bind_some,yF]
 ·refine(bV6 (mkB q) (by rw[qC];omega)).bind ?_
  rw[xY]
  unfold bJ1
  cases hv:q.all bX3
  ·simpa using Ev.now false
  ·simp only[if_true,Bool.true_and]
   cases hcc:q.contains 35
   ·simp only[Bool.false_eq_true,if_false,Bool.not_false,Bool.true_and]
    cases hq
    ·by_cases h0:q= []
     ·simp only[Bool.false_eq_true,if_false,if_pos h0,decide_eq_true h0,Bool.false_or,Bool.true_and];exact Ev.now _
     ·simp only[Bool.false_eq_true,if_false,if_neg h0,decide_eq_false h0,Bool.false_or,Bool.false_and];exact Ev.now _
    ·simp only[if_true,Bool.true_or,Bool.true_and];exact Ev.now _
   ·simp only[if_true,Bool.not_true,Bool.false_and,Bool.and_false];exact Ev.now _
theorem eY1 (h:List UInt8) (p:Int) (path q:List UInt8) (hq:Bool) (h1:h.length≤1048576) (h2:path.length≤1048576) (h3:q.length≤1048576):
  Ev (fun k=>xD.f k (mkB h) p (mkB path) (mkB q) hq) (yZ h p path q hq):=by
 have hj:Ev (fun k=>xD.j0 k true (mkB h) p (mkB path) (mkB q) hq) false:=Ev.step (f:=fun _=>some false) (fun k=>by rw[xD.j0,if_pos rfl]) (Ev.now _)
 unfold xD.f yZ
 have hh:=eZ5 (mkB h) (by rw[qC];exact h1)
 rw[xY]at hh
 refine hh.bind ?_
 cases hhv:aX4 h
 ·simpa using hj
 simp only[if_true,Bool.true_and]
 by_cases p1:p<1
 ·simp only[if_pos p1,decide_eq_false (show ¬1≤p by omega),Bool.false_and];exact hj
 by_cases p2:p>65535
 ·simp only[if_neg p1,if_pos p2,decide_eq_false (show ¬p≤65535 by omega),Bool.and_false,Bool.false_and];exact hj
 obtain⟨n,rfl⟩: ∃n:Nat,p=n:=⟨p.toNat,by omega⟩
 simp only[if_neg p1,if_neg p2,decide_eq_true (show 1≤(n:Int)by omega),decide_eq_true (show(n:Int)≤65535 by omega),Bool.and_self,Bool.true_and,yF,Int.toNat_natCast]
 by_cases h0:path= []
 ·simp only[if_pos h0,decide_eq_false (show ¬path≠ []from fun x=>x h0),Bool.false_and];exact hj
 simp only[if_neg h0,decide_eq_true (show path≠ []from h0),Bool.true_and]
 have hc:=cX3 (mkB path) (by rw[qC];exact h2)
 rw[xY]at hc
 refine hc.bind ?_
 rw[yF]
 by_cases he:bY0 path=path
 ·simp only[if_pos he,decide_eq_true he,Bool.true_and]
  cases hq
  ·simp only[Bool.false_eq_true,if_false,Bool.false_or]
   by_cases hq0:q= []
   ·have e:(q !=([]:List UInt8))=false:=by rw[hq0];rfl
    simp only[e,decide_eq_true hq0,Bool.true_and]
    exact cQ4 h n path q false (by omega) h1 h2 h3 (.inr hq0)
   ·have e:(q !=([]:List UInt8))=true:=bne_iff_ne.2 hq0
    simp only[e,decide_eq_false hq0,Bool.false_and]
    exact hj
  ·simp only[if_true,Bool.true_or,Bool.true_and]
   exact cQ4 h n path q true (by omega) h1 h2 h3 (.inl rfl)
 ·simp only[if_neg he,decide_eq_false he,Bool.false_and];exact hj
theorem bK9 (h:List UInt8) (p:Int) (path q:List UInt8) (hq:Bool) (h1:h.length≤1048576) (h2:path.length≤1048576) (h3:q.length≤1048576):
  Ev (fun k=>wG.f k (mkB h) p (mkB path) (mkB q) hq) (yZ h p path q hq):=by
 have hj:Ev (fun k=>wG.j0 k true (mkB h) p (mkB path) (mkB q) hq) false:=Ev.step (f:=fun _=>some false) (fun k=>by rw[wG.j0,if_pos rfl]) (Ev.now _)
 unfold wG.f yZ
 refine(eZ7 h h1).bind ?_
 cases hhv:aX4 h
 ·simpa using hj
 simp only[if_true,Bool.true_and,aJ3,Option.bind_some]
 by_cases hp:1≤p∧p≤65535
 ·obtain⟨n,rfl⟩: ∃n:Nat,p=n:=⟨p.toNat,by omega⟩
  simp only[decide_eq_true hp.1,decide_eq_true hp.2,Bool.and_self,if_true,Bool.true_and,yF,Int.toNat_natCast]
  by_cases h0:path= []
  ·simp only[if_pos h0,decide_eq_false (show ¬path≠ []from fun x=>x h0),Bool.false_and];exact hj
  simp only[if_neg h0,decide_eq_true (show path≠ []from h0),Bool.true_and]
  have hc:=cX2 (mkB path) (by rw[qC];exact h2)
  rw[xY]at hc
  refine hc.bind ?_
  rw[yF]
  by_cases he:bY0 path=path
  ·have e:(bY0 path !=path)=false:=by rw[he];simp
   simp only[e,decide_eq_true he,Bool.true_and]
   exact eV4 h n path q hq (by omega) h1 h2 h3
  ·have e:(bY0 path !=path)=true:=bne_iff_ne.2 he
   simp only[e,decide_eq_false he,Bool.false_and];exact hj
 ·have d:(decide (1≤p)&&decide (p≤65535))=false:=by
   by_cases h1:1≤p
   ·rw[decide_eq_false (show ¬p≤65535 by omega),Bool.and_false]
   ·rw[decide_eq_false h1,Bool.false_and]
  simp only[d,Bool.false_eq_true,if_false,Bool.false_and];exact hj
theorem aJ7 {h:List UInt8} {p:Int} {path q:List UInt8} {hq:Bool} (hu:yZ h p path q hq=true): ∃n:Nat,p=n∧n≤65535∧aX4 h=true∧path.length≤200∧q.length≤200:=by
 unfold yZ bJ1 at hu
 simp only[Bool.and_eq_true,decide_eq_true_eq]at hu
 refine⟨p.toNat,by omega,by omega,hu.1.1.1.1,?_,?_⟩
 ·have:=hu.2.2
  unfold aX7 at this
  simp only[List.length_append]at this
  omega
 ·have:=hu.2.2
  have h4:=hu.1.2
  unfold aX7 aZ3 at this
  cases hq
  ·simp at h4;rw[h4];simp
  ·rw[if_pos rfl]at this
   simp only[List.length_append,List.length_cons]at this
   omega
theorem bV2 {h:List UInt8} (hh:aX4 h=true):h.length≤60∧ ∀x∈vG 46 h,x≠ []:=by
 unfold aX4 at hh
 simp only[Bool.and_eq_true,decide_eq_true_eq,List.all_eq_true]at hh
 refine⟨hh.1.2,fun x hx e=>?_⟩
 have:=hh.2 x hx
 rw[e]at this
 simp[cV8]at this
def aJ4 (sep acc x:List UInt8):List UInt8:=if acc= []then x else acc++sep++x
def vY (l:List (List UInt8)):Nat:=(l.map (fun x=>x.length+1)).sum
theorem dJ7 (sep:List UInt8): ∀(r:List (List UInt8)) (acc:List UInt8),acc≠ []→(∀x∈r,x≠ [])→r.foldl (aJ4 sep) acc=acc++Lib.joinTail sep r
 | [],acc,_,_=>by simp[Lib.joinTail]
 |x::r,acc,ha,hr=>by
  have hx:x≠ []:=hr x (by simp)
  have ih:=dJ7 sep r (acc++sep++x) (by simp[ha]) (fun y hy=>hr y (List.mem_cons_of_mem _ hy))
  rw[List.foldl_cons,show aJ4 sep acc x=acc++sep++x by unfold aJ4;rw[if_neg ha],ih]
  simp[Lib.joinTail]
theorem fV3 (sep:List UInt8) (l:List (List UInt8)) (hl: ∀x∈l,x≠ []):l.foldl (aJ4 sep) []=Lib.join l sep:=by
 cases l with
 |nil=>rfl
 |cons x r=>
  rw[List.foldl_cons,show aJ4 sep [] x=x from rfl,dJ7 sep r x (hl x (by simp)) (fun y hy=>hl y (List.mem_cons_of_mem _ hy)),Lib.join_cons]
theorem dY2: ∀(n:Nat) (A M B:List ByteArray),M.length≤n→(A++M++B).length≤100000000→
  Ev (fun k=>xC.l0 k (A++M++B) (A.length:Int) ((A.length:Int)+(M.length:Int)-1)) (A++M.reverse++B):=by
 intro n
 induction n using Nat.strongRecOn with
 |_ n ih=>
  intro A M B hn hl
  by_cases h2:M.length≤1
  ·have hr:M.reverse=M:=by
    match M,h2 with
    | [],_=>rfl
    | [_],_=>rfl
   rw[hr]
   exact Ev.step (f:=fun _=>some (A++M++B)) (fun k=>by rw[xC.l0,if_neg (by omega)]) (Ev.now _)
  ·obtain⟨x,M',y,rfl⟩: ∃x M' y,M=x::(M'++ [y]):=by
    cases M with
    |nil=>simp at h2
    |cons x r=>
     rcases List.eq_nil_or_concat r with rfl|⟨a,b,rfl⟩
     ·simp at h2
     ·exact⟨x,a,b,by simp⟩
   have hl2:=hl
   simp at hl2
   have hn2:M'.length+2≤n:=by simpa using hn
   have ih':=ih M'.length (by omega) (A++ [y]) M' ([x]++B) (Nat.le_refl _) (by simp;omega)
   have e1:A++ [y]++M'++([x]++B)=A++y::(M'++x::B):=by simp
   have e2:A++ [y]++M'.reverse++([x]++B)=A++(x::(M'++ [y])).reverse++B:=by simp
   have e3:(((A++ [y]).length:Int))=(A.length:Int)+1:=by simp
   have e4:(((A++ [y]).length:Int)+(M'.length:Int)-1)=(A.length:Int)+((x::(M'++ [y])).length:Int)-1-1:=by simp;omega
   rw[e1,e2,e3]at ih'
   rw[e3]at e4
   rw[e4]at ih'
   have e0:A++x::(M'++ [y])++B=A++x::(M'++y::B):=by simp
   have hj:(A.length:Int)+((x::(M'++ [y])).length:Int)-1=((A.length+M'.length+1:Nat):Int):=by simp;omega
   rw[e0]
   rw[hj]at ih' ⊢
   have hzl:(A++x::(M'++y::B)).length=A.length+M'.length+2+B.length:=by simp;omega
   have r1:jB ByteArray.empty (A++x::(M'++y::B)) (A.length:Int)=x:=by rw[jB,cK0]
   have r2:jB ByteArray.empty (A++x::(M'++y::B)) ((A.length+M'.length+1:Nat):Int)=y:=by
    have:=cK0 (A++x::M') y B ByteArray.empty
    rw[jB]
    rw[show A++x::(M'++y::B)=(A++x::M')++y::B by simp]
    rw[show((A.length+M'.length+1:Nat):Int)=(((A++x::M').length:Nat):Int)by simp;omega]
    exact this
   have s1:(A++x::(M'++y::B)).set A.length y=A++y::(M'++y::B):=by simp[List.set_append]
   have s2:(A++y::(M'++y::B)).set (A.length+M'.length+1) x=A++y::(M'++x::B):=by
    rw[show A++y::(M'++y::B)=(A++y::M')++y::B by simp,show A.length+M'.length+1=(A++y::M').length by simp;omega]
    rw[List.set_append_right _ _ (Nat.le_refl _)]
    simp
   refine Ev.step (fun k=>?_) ih'
   rw[xC.l0,if_pos (by omega),if_pos (by omega),if_pos (by rw[hzl];omega),if_pos (by omega),if_pos (by rw[hzl];omega),r1,r2,Int.toNat_natCast,Int.toNat_natCast,s1,s2,qF (a:=(A.length:Int)+1) (by omega) (by omega),qF (by omega) (by omega)]
theorem cQ8 (l:List ByteArray) (hl:l.length≤100000000):Ev (fun k=>xC.f k l) l.reverse:=by
 have:=dY2 l.length [] l [] (Nat.le_refl _) (by simpa using hl)
 unfold xC.f
 rw[qF (by omega) (by omega)]
 simpa using this
theorem bK6 (l:List ByteArray) (hl:l.length≤100000000):Ev (fun k=>xU.f k l) l.reverse:=by
 unfold xU.f
 simp only[Option.bind_some,List.nil_append,List.length_nil,Nat.zero_add,if_pos (show l.length<8796093022208 by omega)]
 refine(cQ8 l hl).bind ?_
 exact Ev.now _
theorem join_sum (sep:List UInt8) (l:List (List UInt8)):(Lib.join l sep).length≤(sep.length+1)*vY l:=by
 have ht: ∀r:List (List UInt8),(Lib.joinTail sep r).length≤(sep.length+1)*vY r:=by
  intro r
  induction r with
  |nil=>simp[Lib.joinTail]
  |cons y r ih=>
   have e:Lib.joinTail sep (y::r)=sep++y++Lib.joinTail sep r:=by simp[Lib.joinTail]
   have e2:vY (y::r)=y.length+1+vY r:=by simp[vY]
   rw[e,e2]
   simp only[List.length_append]
   have h3:(sep.length+1)*(y.length+1+vY r)=(sep.length+1)*vY r+(sep.length+1)*(y.length+1):=by rw[Nat.mul_add,Nat.add_comm]
   have h4:(sep.length+1)*(y.length+1)=sep.length*y.length+sep.length+y.length+1:=by simp[Nat.add_mul,Nat.mul_add];omega
   omega
 cases l with
 |nil=>simp[Lib.join_nil]
 |cons x r=>
  have:=ht r
  have e2:vY (x::r)=x.length+1+vY r:=by simp[vY]
  rw[Lib.join_cons,e2,List.length_append]
  have h3:(sep.length+1)*(x.length+1+vY r)=(sep.length+1)*vY r+(sep.length+1)*(x.length+1):=by rw[Nat.mul_add,Nat.add_comm]
  have h4:(sep.length+1)*(x.length+1)=sep.length*x.length+sep.length+x.length+1:=by simp[Nat.add_mul,Nat.mul_add];omega
  omega
theorem aV1 (c:UInt8): ∀l:List UInt8,vY (vG c l)=l.length+1
 | []=>rfl
 |b::r=>by
  have ih:=aV1 c r
  unfold vG
  by_cases h:b=c
  ·rw[if_pos h];simp[vY]at ih ⊢;omega
  ·rw[if_neg h]
   cases hs:vG c r with
   |nil=>exact absurd hs (vZ c r)
   |cons a t=>rw[hs]at ih;simp[vY]at ih ⊢;omega
theorem bJ9 (l:List (List UInt8)):vY l.reverse=vY l:=by simp[vY]
def bK1 (h:List UInt8):List UInt8:=Lib.join (vG 46 h).reverse [44]
def aZ5 (h:List UInt8) (p:Int) (path q:List UInt8) (hq:Bool):List UInt8:=if yZ h p path q hq=true then bK1 h++aX5 p.toNat++ [41]++path++aZ3 q hq else []
theorem dJ4 (h:List UInt8):(bK1 h).length≤2*(h.length+1):=by
 have:=join_sum [44] (vG 46 h).reverse
 rw[bJ9,aV1]at this
 exact this
theorem eQ5 (h:List UInt8) (p:Int) (path q:List UInt8) (hq:Bool) (h1:h.length≤1048576) (h2:path.length≤1048576) (h3:q.length≤1048576):
  Ev (fun k=>yR.f k (mkB h) p (mkB path) (mkB q) hq) (mkB (aZ5 h p path q hq)):=by
 unfold yR.f aZ5
 refine(bK9 h p path q hq h1 h2 h3).bind ?_
 cases hu:yZ h p path q hq
 ·simp only[Bool.false_eq_true,if_false];exact Ev.now _
 ·obtain⟨n,rfl,hn,hh,hpl,hql⟩:=aJ7 hu
  obtain⟨hhl,hne⟩:=bV2 hh
  have hpo:=bJ5 n (by omega)
  have hqu:=bX1 q hq
  have hrv:=dJ4 h
  have hsl:=yY 46 h
  simp only[if_true,Int.toNat_natCast,wX h 46 (show h.length≤1048576 by omega),Option.bind_some]
  refine(bK6 _ (by rw[List.length_map];omega)).bind ?_
  have hj:strings_Join.f ((vG 46 h).map mkB).reverse (⟨#[44]⟩:ByteArray)=some (mkB (bK1 h)):=by
   unfold strings_Join.f
   rw[←List.map_reverse,dJ3]
   have e:(⟨#[44]⟩:ByteArray).data.toList= [44]:=rfl
   rw[e,if_pos ⟨by rw[List.length_map,List.length_reverse];omega,by have:=hrv;unfold bK1 at this;omega⟩]
   rfl
  rw[hj,Option.bind_some,cX4 _ n _ _ hq (by omega),Option.bind_some,cW3 _ _ path q hq (by omega) (by omega),show(⟨#[41]⟩:ByteArray)=mkB [41]from rfl]
  simp only[Option.bind_some,xH,qC]
  rw[if_pos (by omega),if_pos (by simp only[List.length_append];omega),if_pos (by simp only[List.length_append,List.length_singleton];omega),←List.append_assoc]
  exact Ev.now _
def vP (c:UInt8):Bool:=decide (48≤c.toNat)&&decide (c.toNat≤57)
def aW2 (acc:Nat) (l:List UInt8):Nat:=l.foldl (fun a c=>a*10+(c.toNat-48)) acc
def qV (l:List UInt8):Nat:=aW2 0 l
theorem bK0 (acc:Nat) (l m:List UInt8):aW2 acc (l++m)=aW2 (aW2 acc l) m:=by simp[aW2]
theorem zZ (d:Nat) (h:d<10):(UInt8.ofNat (48+d)).toNat=48+d:=by simp;omega
theorem aZ4 (n:Nat):qV (Lib.decDigits n)=n∧(Lib.decDigits n).all vP=true∧Lib.decDigits n≠ []:=by
 induction n using Nat.strongRecOn with
 |_ n ih=>
  by_cases h:n<10
  ·rw[Lib.decDigits,dif_pos h]
   refine⟨?_,?_,by simp⟩
   ·simp only[qV,aW2,List.foldl_cons,List.foldl_nil,zZ n h];omega
   ·simp only[List.all_cons,List.all_nil,vP,zZ n h];simp;omega
  ·obtain⟨h1,h2,h3⟩:=ih (n/10) (by omega)
   rw[Lib.decDigits,dif_neg h]
   refine⟨?_,?_,by simp⟩
   ·rw[qV,bK0,←qV,h1]
    simp only[aW2,List.foldl_cons,List.foldl_nil,zZ (n%10) (by omega)];omega
   ·rw[List.all_append,h2]
    simp only[List.all_cons,List.all_nil,vP,zZ (n%10) (show n%10<10 by omega)];simp;omega
theorem eX9: ∀(l:List UInt8) (acc m:Nat),l.all vP=true→acc<10^m→aW2 acc l<10^(m+l.length)
 | [],acc,m,_,h=>by simpa [aW2]using h
 |c::r,acc,m,ha,h=>by
  simp only[List.all_cons,Bool.and_eq_true,vP,decide_eq_true_eq]at ha
  have:=eX9 r (acc*10+(c.toNat-48)) (m+1) ha.2 (by rw[Nat.pow_succ];omega)
  rw[List.length_cons,show m+(r.length+1)=m+1+r.length by omega]
  exact this
theorem dK8 (l:List UInt8) (hd:l.all vP=true) (hl:l.length≤15):qV l≤999999999999999:=by
 have h1:=eX9 l 0 0 hd (by decide)
 have h2:10^(0+l.length)≤10^15:=Nat.pow_le_pow_right (by decide) (by omega)
 have h3:(10:Nat)^15=1000000000000000:=by decide
 unfold qV
 omega
def wN (l:List UInt8):Int×Bool:=if Lib.decDigits (qV l)=l∧l.length≤15 then((qV l:Int),true)else(0,false)
theorem cQ0 (n:Nat) (h:n≤999999999999999):wN (Lib.decDigits n)=((n:Int),true):=by
 unfold wN
 rw[(aZ4 n).1,if_pos ⟨rfl,by rw[Lib.decDigits_length];exact aJ2 n h⟩]
theorem aX8 (c:UInt8):jI.f (c.toNat:Int)=some (vP c):=by
 have:c.toNat<256:=c.toNat_lt
 unfold jI.f vP
 by_cases h1:48≤c.toNat
 ·rw[if_pos (by omega),decide_eq_true h1,Bool.true_and];congr 1;exact decide_eq_decide.2 (by omega)
 ·rw[if_neg (by omega),decide_eq_false h1,Bool.false_and]
theorem bV3: ∀(r pre:List UInt8) (acc:Nat),acc<10^pre.length→(pre++r).length≤15→r.all vP=true→
  Ev (fun k=>vE.l0 k (mkB (pre++r)) (acc:Int) pre.length) (if Lib.decDigits (aW2 acc r)=pre++r then((aW2 acc r:Int),true)else(0,false))
 | [],pre,acc,ha,hl,_=>by
  have h15:(10:Nat)^pre.length≤10^15:=Nat.pow_le_pow_right (by decide) (by simpa using hl)
  have h3:(10:Nat)^15=1000000000000000:=by decide
  have hd:=(aK1 acc (by omega)).bind (f:=fun _ (t:ByteArray)=>if t.toList=(mkB (pre++ [])).toList then some ((acc:Int),true)else some ((0:Int),false)) (r:=if Lib.decDigits acc=pre++ []then((acc:Int),true)else((0:Int),false)) (by
   simp only[yF]
   split<;>exact Ev.now _)
  refine Ev.step (fun k=>?_) hd
  simp only[vE.l0]
  rw[if_neg (by rw[qC];simp)]
 |c::r,pre,acc,ha,hl,hd=>by
  simp only[List.all_cons,Bool.and_eq_true]at hd
  have hc:48≤c.toNat∧c.toNat≤57:=by have:=hd.1;simpa [vP]using this
  have hl':pre.length<15:=by simp at hl;omega
  have h15:(10:Nat)^pre.length≤10^14:=Nat.pow_le_pow_right (by decide) (by omega)
  have h3:(10:Nat)^14=100000000000000:=by decide
  have ih:=bV3 r (pre++ [c]) (acc*10+(c.toNat-48)) (by rw[List.length_append,List.length_singleton,Nat.pow_succ];omega) (by rw[←jQ];exact hl) hd.2
  rw[←jQ,zP]at ih
  have e:aW2 acc (c::r)=aW2 (acc*10+(c.toNat-48)) r:=rfl
  rw[e]
  refine Ev.step (fun k=>?_) ih
  simp only[vE.l0]
  rw[if_pos (wO ..),if_pos (by omega),jR,aX8,hd.1]
  simp only[Option.bind_some,if_true]
  rw[qF (a:=(acc:Int)*10) (by omega) (by omega),qF (by omega) (by omega),qF (a:=(pre.length:Int)+1) (by omega) (by omega)]
  congr 1
  omega
theorem bV1: ∀(r pre:List UInt8) (acc:Int),(pre++r).length≤15→r.all vP=false→Ev (fun k=>vE.l0 k (mkB (pre++r)) acc pre.length) ((0:Int),false)
 | [],pre,acc,_,hd=>by simp at hd
 |c::r,pre,acc,hl,hd=>by
  have hw:wrap64 ((pre.length:Int)+1)=(pre.length:Int)+1:=by simp at hl;exact qF (by omega) (by omega)
  by_cases hc:vP c=true
  ·have ih:=fun acc'=>bV1 r (pre++ [c]) acc' (by rw[←jQ];exact hl) (by simpa [hc]using hd)
   simp only[←jQ,zP]at ih
   refine Ev.step (fun k=>?_) (ih (wrap64 ((wrap64 (acc*10))+(((c.toNat:Int)-48)%256))))
   simp only[vE.l0]
   rw[if_pos (wO ..),if_pos (by omega),jR,aX8,hc,hw]
   simp only[Option.bind_some,if_true]
  ·refine Ev.step (f:=fun _=>some ((0:Int),false)) (fun k=>?_) (Ev.now _)
   simp only[vE.l0]
   rw[if_pos (wO ..),if_pos (by omega),jR,aX8]
   simp only[Option.bind_some,if_neg hc]
theorem kY (l:List UInt8) (hl:l.length≤1099511627776):Ev (fun k=>vE.f k (mkB l)) (wN l):=by
 have hj:Ev (fun k=>vE.j0 k (mkB l) true) ((0:Int),false):=Ev.step (f:=fun _=>some ((0:Int),false)) (fun k=>by simp[vE.j0]) (Ev.now _)
 unfold vE.f
 by_cases h0:l= []
 ·have:wN l=(0,false):=by unfold wN;rw[if_neg (by rintro⟨h,_⟩;subst h0;exact(aZ4 _).2.2 h)]
  have hz:((mkB l).size:Int)=0:=by rw[qC,h0];rfl
  rw[this]
  simp only[if_pos hz];exact hj
 ·have h1:1≤l.length:=List.length_pos_iff.2 h0
  have hz: ¬((mkB l).size:Int)=0:=by rw[qC];omega
  simp only[if_neg hz]
  by_cases h15:l.length≤15
  ·have e:decide (((mkB l).size:Int)>15)=false:=decide_eq_false (by rw[qC];omega)
   rw[e]
   refine Ev.step (f:=fun k=>vE.l0 k (mkB l) 0 0) (fun k=>by simp[vE.j0]) ?_
   by_cases hd:l.all vP=true
   ·have:=bV3 l [] 0 (by decide) (by simpa using h15) hd
    have e2:wN l=if Lib.decDigits (aW2 0 l)= []++l then((aW2 0 l:Int),true)else(0,false):=by
     unfold wN qV
     simp only[List.nil_append]
     by_cases hh:Lib.decDigits (aW2 0 l)=l
     ·rw[if_pos ⟨hh,h15⟩,if_pos hh]
     ·rw[if_neg (fun q=>hh q.1),if_neg hh]
    rw[e2];exact this
   ·have e2:wN l=(0,false):=by
     unfold wN
     rw[if_neg]
     rintro⟨hh,_⟩
     exact hd (by have:=(aZ4 (qV l)).2.1;rwa [hh]at this)
    rw[e2]
    exact bV1 l [] 0 (by simpa using h15) (by simpa using hd)
  ·have e:decide (((mkB l).size:Int)>15)=true:=decide_eq_true (by rw[qC];omega)
   have e2:wN l=(0,false):=by unfold wN;rw[if_neg (fun q=>h15 q.2)]
   rw[e,e2];exact hj
theorem bQ0: ∀(l:List UInt8) (acc m:Nat),l.all vP=true→acc<10^m→m+l.length≤15→Lib.parseUint10 acc l= .ok (aW2 acc l)
 | [],acc,m,_,_,_=>rfl
 |c::r,acc,m,hd,ha,hm=>by
  simp only[List.all_cons,Bool.and_eq_true]at hd
  have hc:48≤c.toNat∧c.toNat≤57:=by have:=hd.1;simpa [vP]using this
  simp only[List.length_cons]at hm
  have h15:(10:Nat)^m≤10^14:=Nat.pow_le_pow_right (by decide) (by omega)
  have h3:(10:Nat)^14=100000000000000:=by decide
  rw[Lib.parseUint10,if_pos hc,if_neg (by omega),if_neg (by omega),bQ0 r _ (m+1) hd.2 (by rw[Nat.pow_succ];omega) (by omega)]
  rfl
theorem cJ9 (l:List UInt8):kJ.ok l=wN l:=by
 unfold kJ.ok
 by_cases h:Lib.decDigits (qV l)=l∧l.length≤15
 ·obtain⟨h1,h2⟩:=h
  have hall:l.all vP=true:=by have:=(aZ4 (qV l)).2.1;rwa [h1]at this
  have hne:l≠ []:=by have:=(aZ4 (qV l)).2.2;rwa [h1]at this
  have hlt:=dK8 l hall h2
  have hp:Lib.parseMag l= .ok (qV l):=by
   unfold Lib.parseMag
   rw[if_neg hne,bQ0 l 0 0 hall (by decide) (by omega)];rfl
  have hat:Lib.atoiAll l= .ok (qV l:Int):=by
   cases l with
   |nil=>exact absurd rfl hne
   |cons c r=>
    have hc:48≤c.toNat∧c.toNat≤57:=by
     simp only[List.all_cons,Bool.and_eq_true]at hall
     have:=hall.1;simpa [vP]using this
    unfold Lib.atoiAll
    simp only[if_neg (show ¬(c.toNat=43∨c.toNat=45)by omega),hp]
    rw[if_neg (by omega),if_neg (by omega),if_neg (by omega)]
  rw[hat,wN,if_pos ⟨h1,h2⟩]
  simp only[]
  rw[if_pos ⟨by omega,by omega,by unfold Lib.itoa;rw[if_neg (by omega),Int.toNat_natCast];exact h1⟩]
 ·have hr:wN l=(0,false):=by unfold wN;rw[if_neg h]
  rw[hr]
  cases hA:Lib.atoiAll l with
  | «syntax» =>rfl
  |range=>rfl
  |ok v=>
   simp only[]
   rw[if_neg]
   rintro⟨h0,h1,h2⟩
   obtain⟨n,rfl⟩: ∃n:Nat,v=n:=⟨v.toNat,by omega⟩
   have h3:Lib.decDigits n=l:=by rw[←h2];unfold Lib.itoa;rw[if_neg (by omega),Int.toNat_natCast]
   have h4:qV l=n:=by rw[←h3];exact(aZ4 n).1
   exact h ⟨by rw[h4,h3],by rw[←h3,Lib.decDigits_length];exact aJ2 n (by omega)⟩
theorem wY (l:List UInt8) (hl:l.length≤1099511627776):kJ.f (mkB l)=some (wN l):=by
 unfold kJ.f
 rw[if_pos (by rw[qC];exact hl),←cJ9]
 rfl
theorem bJ0 (c:UInt8): ∀l:List UInt8,(jE c l).2.2=false→(jE c l).1=l∧(jE c l).2.1= []
 | [],_=>⟨rfl,rfl⟩
 |x::l,h=>by
  by_cases hx:x=c
  ·rw[jE,if_pos hx]at h;cases h
  ·rw[jE,if_neg hx]at h ⊢
   obtain⟨h1,h2⟩:=bJ0 c l h
   exact⟨by rw[h1],h2⟩
theorem aV9 (c:UInt8): ∀l:List UInt8,(jE c l).2.2=true→l=(jE c l).1++c::(jE c l).2.1
 | [],h=>by cases h
 |x::l,h=>by
  by_cases hx:x=c
  ·rw[jE,if_pos hx];simp[hx]
  ·rw[jE,if_neg hx]at h ⊢
   have:=aV9 c l h
   simp[←this]
theorem dK7 (c:UInt8) (l:List UInt8):(jE c l).1.length<l.length↔(jE c l).2.2=true:=by
 cases h:(jE c l).2.2
 ·have:=(bJ0 c l h).1;rw[this];simp
 ·have:=aV9 c l h
  have e:=congrArg List.length this
  simp at e;simp;omega
theorem cJ2 (c:UInt8) (l:List UInt8) (h:(jE c l).2.2=true):l.drop ((jE c l).1.length+1)=(jE c l).2.1:=by
 have:=aV9 c l h
 generalize (jE c l).1=a at this ⊢
 generalize (jE c l).2.1=b at this ⊢
 subst this
 simp
theorem split_no (c:UInt8) (l:List UInt8): ∀x∈vG c l,(∀b∈x,b≠c)∧ ∀b∈x,b∈l:=by
 generalize hn:l.length=n
 induction n using Nat.strongRecOn generalizing l with
 |_ n ih=>
  rcases bV4 c l with h|⟨mid,r,rfl,h⟩
  ·rw[vW c l h];intro x hx;simp at hx;subst hx;exact⟨h,fun b hb=>hb⟩
  ·rw[yQ c mid r h]
   intro x hx
   rcases List.mem_cons.1 hx with rfl|hx
   ·exact⟨h,fun b hb=>by simp[hb]⟩
   ·obtain⟨h1,h2⟩:=ih r.length (by simp at hn;omega) r rfl x hx
    exact⟨h1,fun b hb=>by have:=h2 b hb;simp[this]⟩
theorem aZ8 (sep y:List UInt8) (r:List (List UInt8)):Lib.joinTail sep (y::r)=sep++y++Lib.joinTail sep r:=by simp[Lib.joinTail]
theorem dV9 (c:UInt8) (l:List (List UInt8)) (h:l≠ []):(Lib.join l [c]).length+1=vY l:=by
 have ht: ∀r:List (List UInt8),(Lib.joinTail [c] r).length=vY r:=by
  intro r
  induction r with
  |nil=>rfl
  |cons y r ih=>
   have e2:vY (y::r)=y.length+1+vY r:=by simp[vY]
   rw[aZ8,e2];simp only[List.length_append,List.length_singleton];omega
 cases l with
 |nil=>exact absurd rfl h
 |cons x r=>
  have e2:vY (x::r)=x.length+1+vY r:=by simp[vY]
  rw[Lib.join_cons,e2,List.length_append,ht];omega
theorem cY4 (c:UInt8): ∀(r:List (List UInt8)) (x:List UInt8),(∀b∈x,b≠c)→(∀y∈r,∀b∈y,b≠c)→vG c (x++Lib.joinTail [c] r)=x::r
 | [],x,hx,_=>by simpa [Lib.joinTail]using vW c x hx
 |y::r,x,hx,hr=>by
  rw[aZ8,show x++([c]++y++Lib.joinTail [c] r)=x++c::(y++Lib.joinTail [c] r)by simp,yQ c x _ hx,cY4 c r y (hr y (by simp)) (fun z hz=>hr z (List.mem_cons_of_mem _ hz))]
theorem cZ8 (c:UInt8) (l:List (List UInt8)) (h:l≠ []) (hl: ∀y∈l,∀b∈y,b≠c):vG c (Lib.join l [c])=l:=by
 cases l with
 |nil=>exact absurd rfl h
 |cons x r=>rw[Lib.join_cons];exact cY4 c r x (hl x (by simp)) (fun y hy=>hl y (List.mem_cons_of_mem _ hy))
theorem cK4 (c:UInt8) (l:List UInt8):Lib.join (vG c l) [c]=l:=by
 generalize hn:l.length=n
 induction n using Nat.strongRecOn generalizing l with
 |_ n ih=>
  rcases bV4 c l with h|⟨mid,r,rfl,h⟩
  ·rw[vW c l h,Lib.join_one]
  ·rw[yQ c mid r h,Lib.join_cons]
   have hr:=ih r.length (by simp at hn;omega) r rfl
   have hne:=vZ c r
   generalize vG c r=t at hr hne ⊢
   cases t with
   |nil=>exact absurd rfl hne
   |cons y t=>rw[Lib.join_cons]at hr;rw[aZ8,←hr];simp
theorem mem_join (sep:List UInt8) (l:List (List UInt8)) (b:UInt8) (hb:b∈Lib.join l sep):(∃x∈l,b∈x)∨b∈sep:=by
 cases l with
 |nil=>simp[Lib.join_nil]at hb
 |cons x r=>
  rw[Lib.join_cons]at hb
  rcases List.mem_append.1 hb with h|h
  ·exact .inl ⟨x,by simp,h⟩
  ·unfold Lib.joinTail at h
   rw[List.mem_flatten]at h
   obtain⟨y,hy,h⟩:=h
   obtain⟨z,hz,rfl⟩:=List.mem_map.1 hy
   rcases List.mem_append.1 h with h|h
   ·exact .inr h
   ·exact .inl ⟨z,List.mem_cons_of_mem _ hz,h⟩
theorem fY5 (c:UInt8) (l:List UInt8) (h: ∀b∈l,b≠c):jE c l=(l,[],false):=by
 have:=bW2 c l [] h
 simpa [jE]using this
theorem eJ6 (c:UInt8) (a b:List UInt8) (h: ∀x∈a,x≠c):jE c (a++c::b)=(a,b,true):=by
 rw[bW2 c a _ h];simp[jE]
theorem eY5 (b:UInt8) (h:aY6 b=true):b≠41∧b≠44∧b≠58∧b≠46:=by
 refine⟨?_,?_,?_,?_⟩<;>(rintro rfl;revert h;decide)
theorem bX8 {h:List UInt8} (hh:aX4 h=true): ∀x∈vG 46 h,x≠ []∧ ∀b∈x,aY6 b=true:=by
 intro x hx
 have h1:=(bV2 hh).2 x hx
 unfold aX4 at hh
 simp only[Bool.and_eq_true,decide_eq_true_eq,List.all_eq_true]at hh
 have h2:=hh.2 x hx
 unfold cV8 at h2
 simp only[Bool.and_eq_true,List.all_eq_true]at h2
 exact⟨h1,h2.2⟩
theorem fQ1 {h:List UInt8} (hh:aX4 h=true): ∀b∈bK1 h,b≠41∧b≠58:=by
 intro b hb
 rcases mem_join _ _ _ hb with⟨x,hx,hbx⟩|hb
 ·have:=eY5 b ((bX8 hh x (by simpa using hx)).2 b hbx)
  exact⟨this.1,this.2.2.1⟩
 ·simp at hb;subst hb;decide
theorem fZ7 (n:Nat): ∀b∈Lib.decDigits n,b≠41∧b≠58∧b≠32:=by
 intro b hb
 have:=List.all_eq_true.1 (aZ4 n).2.1 b hb
 refine⟨?_,?_,?_⟩<;>(rintro rfl;revert this;decide)
theorem eQ9 (p:Nat): ∀b∈aX5 p,b≠41:=by
 intro b hb
 unfold aX5 at hb
 split at hb
 ·simp at hb
 ·rcases List.mem_cons.1 hb with rfl|hb
  ·decide
  ·exact(fZ7 p b hb).1
theorem cut_port (a:List UInt8) (p:Nat) (ha: ∀b∈a,b≠58):(jE 58 (a++aX5 p)).1=a:=by
 unfold aX5
 split
 ·rw[List.append_nil,fY5 58 a ha]
 ·rw[eJ6 58 a _ ha]
theorem cW8 {h:List UInt8} (hh:aX4 h=true):vG 44 (bK1 h)=(vG 46 h).reverse:=by
 unfold bK1
 refine cZ8 44 _ (by simpa using vZ 46 h) ?_
 intro y hy b hb
 exact(eY5 b ((bX8 hh y (by simpa using hy)).2 b hb)).2.1
theorem fW9 (h:List UInt8):(bK1 h).length=h.length:=by
 have:=dV9 44 (vG 46 h).reverse (by simpa using vZ 46 h)
 rw[bJ9,aV1]at this
 unfold bK1;omega
def cJ6 (s:List UInt8):List UInt8:=Lib.join (vG 44 s).reverse [46]
def labS (s:List UInt8):List UInt8:=(vG 44 s).reverse.foldl (aJ4 [46]) []
theorem labI_len (s:List UInt8):(cJ6 s).length=s.length:=by
 have:=dV9 46 (vG 44 s).reverse (by simpa using vZ 44 s)
 rw[bJ9,aV1]at this
 unfold cJ6;omega
theorem lab_rev {h:List UInt8} (hh:aX4 h=true):cJ6 (bK1 h)=h∧labS (bK1 h)=h:=by
 have e:cJ6 (bK1 h)=h:=by unfold cJ6;rw[cW8 hh,List.reverse_reverse,cK4]
 refine⟨e,?_⟩
 unfold labS
 rw[cW8 hh,List.reverse_reverse,fV3 [46] _ (fun x hx=>(bX8 hh x hx).1),cK4]
theorem gX1 {h:List UInt8} {p:Int} {path q:List UInt8} {hq:Bool} (hu:yZ h p path q hq=true):
  jE 41 (aZ5 h p path q hq)=(bK1 h++aX5 p.toNat,path++aZ3 q hq,true)∧(jE 58 (bK1 h++aX5 p.toNat)).1=bK1 h∧(aZ5 h p path q hq).length≤194:=by
 obtain⟨n,rfl,hn,hh,hpl,hql⟩:=aJ7 hu
 unfold aZ5
 rw[if_pos hu,Int.toNat_natCast]
 have hb:=fQ1 hh
 refine⟨?_,cut_port _ n (fun b hb'=>(hb b hb').2),?_⟩
 ·rw[show bK1 h++aX5 n++ [41]++path++aZ3 q hq=(bK1 h++aX5 n)++41::(path++aZ3 q hq)by simp]
  refine eJ6 41 _ _ ?_
  intro x hx
  rcases List.mem_append.1 hx with hx|hx
  ·exact(hb x hx).1
  ·exact eQ9 n x hx
 ·have h2:(aX7 h n path q hq).length≤200:=by
   unfold yZ bJ1 at hu
   simp only[Bool.and_eq_true,decide_eq_true_eq,Int.toNat_natCast]at hu
   exact hu.2.2
  unfold aX7 at h2
  simp only[List.length_append,fW9,List.length_singleton,show dQ3.length=7 from rfl]at h2 ⊢
  omega
theorem bZ8 {s:List UInt8} {h:List UInt8} {p:Int} {path q:List UInt8} {hq:Bool} (hs:aZ5 h p path q hq=s) (h0:s≠ []):
  cJ6 (jE 58 (jE 41 s).1).1=h∧labS (jE 58 (jE 41 s).1).1=h∧s.length≤200∧yZ h p path q hq=true:=by
 have hu:yZ h p path q hq=true:=by
  by_cases hu:yZ h p path q hq=true
  ·exact hu
  ·unfold aZ5 at hs;rw[if_neg hu]at hs;exact absurd hs.symm h0
 obtain⟨h1,h2,h3⟩:=gX1 hu
 obtain⟨n,hn0,hn,hh,hpl,hql⟩:=aJ7 hu
 obtain⟨h4,h5⟩:=lab_rev hh
 rw[←hs,h1]
 refine⟨by rw[h2,h4],by rw[h2,h5],by omega,hu⟩
abbrev UrlR:=ByteArray×Int×ByteArray×ByteArray×Bool×Bool
def eX0:UrlR:=((⟨#[]⟩:ByteArray),0,(⟨#[]⟩:ByteArray),(⟨#[]⟩:ByteArray),false,false)
theorem aY2 (c:UInt8) (l:List UInt8):(jE c l).1.length≤l.length∧(jE c l).2.1.length≤l.length:=by
 have:=eQ8 c l;omega
theorem aV8 (c:UInt8) (l:List UInt8) (h:l.length≤1048576):strings_Cut.f (mkB l) (⟨#[c]⟩:ByteArray)=some (mkB (jE c l).1,mkB (jE c l).2.1,(jE c l).2.2):=by
 unfold strings_Cut.f
 rw[if_pos (by rw[qC];omega),show(⟨#[c]⟩:ByteArray).data.toList= [c]from rfl,show(mkB l).data.toList=l from xY l,cut_is]
 rfl
theorem cW0 (l:List UInt8) (n:Nat):(mkB l).extract n (mkB l).size=mkB (l.drop n):=by rw[jO,qC,List.take_of_length_le (by simp)]
theorem cV6 (b:List UInt8) (hb:b.length≤1048576):zV.f (mkB b)=some ((⟨#[]⟩:ByteArray),0,mkB (jE 63 b).1,mkB (jE 63 b).2.1,(jE 63 b).2.2):=by
 unfold zV.f
 rw[aV8 63 b hb];rfl
def aQ6 (h:List UInt8) (p:Int) (path q:List UInt8) (hq:Bool) (s:List UInt8):UrlR:=if aZ5 h p path q hq=s then(mkB h,p,mkB path,mkB q,hq,true)else eX0
def portU (a:List UInt8):Int:=if(jE 58 a).2.2=true then(wN (jE 58 a).2.1).1 else 80
def aY1 (s:List UInt8):UrlR:=
 if(jE 41 s).2.2=true then aQ6 (cJ6 (jE 58 (jE 41 s).1).1) (portU (jE 41 s).1) (jE 63 (jE 41 s).2.1).1 (jE 63 (jE 41 s).2.1).2.1 (jE 63 (jE 41 s).2.1).2.2 s else eX0
theorem cX0 (c:UInt8) (s:List UInt8) (h:(jE c s).2.2=true):s≠ []:=by
 rintro rfl;cases h
theorem bY6 (s h:List UInt8) (p:Int) (path q:List UInt8) (hq:Bool) (h0:s≠ []) (h1:h.length≤1048576) (h2:path.length≤1048576) (h3:q.length≤1048576):
  Ev (fun k=>xP.j0 k (mkB s) (mkB h) p (mkB path) (mkB q) hq) (aQ6 h p path q hq s):=by
 refine Ev.step (f:=fun k=>(wG.f k (mkB h) p (mkB path) (mkB q) hq).bind fun t331=>(if t331=true then((yR.f k (mkB h) p (mkB path) (mkB q) hq).bind fun t332=>(if t332.toList=(mkB s).toList then(some (mkB h,p,mkB path,mkB q,hq,true))else(some eX0)))else(some eX0))) (fun k=>by rw[xP.j0];rfl) ?_
 refine(bK9 h p path q hq h1 h2 h3).bind ?_
 unfold aQ6
 cases hu:yZ h p path q hq
 ·have e:aZ5 h p path q hq= []:=by unfold aZ5;rw[if_neg (by rw[hu];exact Bool.false_ne_true)]
  simp only[Bool.false_eq_true,if_false]
  rw[e,if_neg (fun e=>h0 e.symm)]
  exact Ev.now _
 ·simp only[if_true]
  refine(eQ5 h p path q hq h1 h2 h3).bind ?_
  rw[yF,yF]
  split<;>exact Ev.now _
theorem dQ6 (s:List UInt8) (hs:s.length≤1048576):Ev (fun k=>xP.f k (mkB s)) (aY1 s):=by
 unfold xP.f aY1
 have c1:=aY2 41 s
 rw[aV8 41 s hs]
 simp only[Option.bind_some]
 cases hf:(jE 41 s).2.2
 ·simp only[Bool.false_eq_true,if_false];exact Ev.now _
 ·have h0:=cX0 41 s hf
  have c2:=aY2 58 (jE 41 s).1
  have c3:=aY2 63 (jE 41 s).2.1
  have hlab:=labI_len (jE 58 (jE 41 s).1).1
  have hsl:=yY 44 (jE 58 (jE 41 s).1).1
  simp only[if_true,aV8 58 (jE 41 s).1 (show(jE 41 s).1.length≤1048576 by omega),Option.bind_some,cV6 (jE 41 s).2.1 (show(jE 41 s).2.1.length≤1048576 by omega),wX (jE 58 (jE 41 s).1).1 44 (show(jE 58 (jE 41 s).1).1.length≤1048576 by omega)]
  refine(bK6 _ (by rw[List.length_map];omega)).bind ?_
  have hj:strings_Join.f ((vG 44 (jE 58 (jE 41 s).1).1).map mkB).reverse (⟨#[46]⟩:ByteArray)=some (mkB (cJ6 (jE 58 (jE 41 s).1).1)):=by
   unfold strings_Join.f
   rw[←List.map_reverse,dJ3]
   have e:(⟨#[46]⟩:ByteArray).data.toList= [46]:=rfl
   rw[e,if_pos ⟨by rw[List.length_map,List.length_reverse];omega,by unfold cJ6 at hlab;omega⟩]
   rfl
  rw[hj]
  simp only[Option.bind_some]
  unfold portU
  cases hp:(jE 58 (jE 41 s).1).2.2
  ·simp only[Bool.false_eq_true,if_false]
   exact bY6 s _ 80 _ _ _ h0 (by omega) (by omega) (by omega)
  ·simp only[if_true,wY _ (show(jE 58 (jE 41 s).1).2.1.length≤1099511627776 by omega),Option.bind_some]
   exact bY6 s _ _ _ _ _ h0 (by omega) (by omega) (by omega)
theorem bJ7 (sep:List UInt8) (hsep:sep.length≤10) (L:List (List UInt8)) (hL:L.length≤100000): ∀(n:Nat) (xs rest:List (List UInt8)) (acc:List UInt8),xs.length=n→L=xs++rest→acc.length+20*vY xs≤100000000→
  Ev (fun k=>xJ.l0 k (mkB sep) (L.map mkB) (mkB acc) ((xs.length:Int)-1)) (mkB (xs.reverse.foldl (aJ4 sep) acc)):=by
 intro n
 induction n with
 |zero=>
  intro xs rest acc hn hp ha
  obtain rfl:=List.length_eq_zero_iff.1 hn
  exact Ev.step (f:=fun _=>some (mkB acc)) (fun k=>by rw[xJ.l0,if_neg (by simp)]) (Ev.now _)
 |succ n ih=>
  intro xs rest acc hn hp ha
  obtain⟨ys,x,rfl⟩: ∃ys x,xs=ys++ [x]:=by
   rcases List.eq_nil_or_concat xs with rfl|⟨a,b,rfl⟩
   ·cases hn
   ·exact⟨a,b,by simp⟩
  have hyn:ys.length=n:=by simp at hn;exact hn
  have hrd:jB ByteArray.empty (L.map mkB) (ys.length:Int)=mkB x:=by rw[hp,List.append_assoc];exact dV0 ys x rest
  have hlen:L.length=ys.length+1+rest.length:=by rw[hp];simp;omega
  have hi:(((ys++ [x]).length:Int)-1)=(ys.length:Int):=by simp
  have hw:wrap64 ((ys.length:Int)-1)=(ys.length:Int)-1:=qF (by omega) (by omega)
  have hsum:vY (ys++ [x])=vY ys+(x.length+1):=by simp[vY]
  rw[hsum]at ha
  have hlt:(ys.length:Int)<((L.map mkB).length:Int):=by rw[List.length_map];omega
  rw[hi,List.reverse_append,List.reverse_singleton,List.singleton_append,List.foldl_cons]
  by_cases h0:acc= []
  ·have ih':=ih ys (x::rest) x hyn (by rw[hp];simp) (by omega)
   rw[show aJ4 sep acc x=x by unfold aJ4;rw[if_pos h0]]
   refine Ev.step (fun k=>?_) ih'
   rw[xJ.l0,if_pos (by omega),yF,if_pos h0,if_pos (by omega),if_pos hlt,hrd,if_pos (by rw[qC,qC];omega),hw,h0]
   rfl
  ·have ih':=ih ys (x::rest) (acc++sep++x) hyn (by rw[hp];simp) (by simp only[List.length_append];omega)
   rw[show aJ4 sep acc x=acc++sep++x by unfold aJ4;rw[if_neg h0]]
   refine Ev.step (fun k=>?_) ih'
   rw[xJ.l0,if_pos (by omega),yF,if_neg h0,if_pos (by rw[qC,qC];omega),if_pos (by omega),if_pos hlt,hrd,xH,if_pos (by rw[qC,qC];simp only[List.length_append];omega),hw,xH]
theorem eJ5 (h:List UInt8) (p:Int) (path q:List UInt8) (hq:Bool) (h1:h.length≤1048576) (h2:path.length≤1048576) (h3:q.length≤1048576):
  Ev (fun k=>jP.f k (mkB h) p (mkB path) (mkB q) hq) (mkB (aZ5 h p path q hq)):=by
 unfold jP.f aZ5
 refine(eY1 h p path q hq h1 h2 h3).bind ?_
 cases hu:yZ h p path q hq
 ·simp only[Bool.false_eq_true,if_false];exact Ev.now _
 ·obtain⟨n,rfl,hn,hh,hpl,hql⟩:=aJ7 hu
  obtain⟨hhl,hne⟩:=bV2 hh
  have hpo:=bJ5 n (by omega)
  have hqu:=bX1 q hq
  have hrv:=dJ4 h
  have hsl:=yY 46 h
  simp only[if_true,Int.toNat_natCast]
  have ht:Ev (fun k=>xJ.f k (mkB h) 46 (⟨#[44]⟩:ByteArray)) (mkB (bK1 h)):=by
   unfold xJ.f
   refine(aQ0 46 h (by omega)).bind ?_
   have hg:=bJ7 [44] (by simp) (vG 46 h) (by omega) _ (vG 46 h) [] [] rfl (by simp) (by rw[aV1];simp;omega)
   rw[fV3 [44] _ (fun x hx=>hne x (by simpa using hx))]at hg
   rw[List.length_map,qF (by omega) (by omega)]
   exact hg
  refine ht.bind ?_
  refine(cV5 (mkB h) n (mkB path) (mkB q) hq (by omega)).bind ?_
  rw[bY9 _ _ _ _ _ (by omega),show(⟨#[41]⟩:ByteArray)=mkB [41]from rfl]
  simp only[Option.bind_some,xH,qC]
  rw[if_pos (by omega),if_pos (by simp only[List.length_append];omega),if_pos (by simp only[List.length_append,List.length_singleton];omega),if_pos (by simp only[List.length_append,List.length_singleton];omega)]
  exact Ev.now _
theorem uptoL (c:UInt8) (l:List UInt8) (h:l.length≤1048576):Ev (fun k=>qI.f k (mkB l) (c.toNat:Int)) (mkB (jE c l).1):=by
 have:=fK5 c (mkB l) (by rw[qC];omega)
 rw[xY]at this
 exact this
theorem dY6 (c d:UInt8) (l:List UInt8) (h:l.length≤1000):Ev (fun k=>xJ.f k (mkB l) (c.toNat:Int) (mkB [d])) (mkB ((vG c l).reverse.foldl (aJ4 [d]) [])):=by
 have hsl:=yY c l
 unfold xJ.f
 refine(aQ0 c l (by omega)).bind ?_
 have hg:=bJ7 [d] (by simp) (vG c l) (by omega) _ (vG c l) [] [] rfl (by simp) (by rw[aV1];simp;omega)
 rw[List.length_map,qF (by omega) (by omega)]
 exact hg
theorem eK7 (s:List UInt8): ∀(r:List (List UInt8)) (acc:List UInt8),(r.foldl (aJ4 [46]) acc).length≤acc.length+vY r
 | [],acc=>by simp[vY]
 |x::r,acc=>by
  have ih:=eK7 s r (aJ4 [46] acc x)
  have e2:vY (x::r)=x.length+1+vY r:=by simp[vY]
  have e3:(aJ4 [46] acc x).length≤acc.length+(x.length+1):=by
   unfold aJ4
   split
   ·omega
   ·simp only[List.length_append,List.length_singleton];omega
  rw[List.foldl_cons,e2];omega
theorem eX8 (s:List UInt8) (p:Int) (path q:List UInt8) (hq:Bool) (h0:s≠ []):
  aQ6 (labS (jE 58 (jE 41 s).1).1) p path q hq s=aQ6 (cJ6 (jE 58 (jE 41 s).1).1) p path q hq s:=by
 unfold aQ6
 by_cases h1:aZ5 (labS (jE 58 (jE 41 s).1).1) p path q hq=s
 ·have:=(bZ8 h1 h0).1
  rw[this]
 ·by_cases h2:aZ5 (cJ6 (jE 58 (jE 41 s).1).1) p path q hq=s
  ·have:=(bZ8 h2 h0).2.1
   rw[this]
  ·rw[if_neg h1,if_neg h2]
theorem bX7 (s h:List UInt8) (p:Int) (hs:s.length≤200) (hf:(jE 41 s).2.2=true) (h1:h.length≤1048576):
  Ev (fun k=>zM.j0 k (mkB s) (mkB (jE 41 s).1) (mkB (jE 63 (jE 41 s).2.1).1) (mkB h) p (mkB (jE 63 (jE 41 s).2.1).1) (⟨#[]⟩:ByteArray) false) (aQ6 h p (jE 63 (jE 41 s).2.1).1 (jE 63 (jE 41 s).2.1).2.1 (jE 63 (jE 41 s).2.1).2.2 s):=by
 have h0:=cX0 41 s hf
 have hsp:=aV9 41 s hf
 have hsl:=congrArg List.length hsp
 simp only[List.length_append,List.length_cons]at hsl
 have c3:=aY2 63 (jE 41 s).2.1
 have hw1:wrap64 (((jE 41 s).1.length:Int)+1)=((jE 41 s).1.length:Int)+1:=qF (by omega) (by omega)
 have hw2:wrap64 (((jE 41 s).1.length:Int)+1+((jE 63 (jE 41 s).2.1).1.length:Int))=(((jE 41 s).1.length+1+(jE 63 (jE 41 s).2.1).1.length:Nat):Int):=by rw[qF (by omega) (by omega)];omega
 have hd1:s.drop ((jE 41 s).1.length+1+(jE 63 (jE 41 s).2.1).1.length)=(jE 41 s).2.1.drop (jE 63 (jE 41 s).2.1).1.length:=by
  rw[←List.drop_drop,cJ2 41 s hf]
 have hn:(s= [])=False:=eq_false h0
 have hS:=eJ5 h p (jE 63 (jE 41 s).2.1).1 (jE 63 (jE 41 s).2.1).2.1 (jE 63 (jE 41 s).2.1).2.2 h1 (by omega) (by omega)
 have hend: ∀(q:List UInt8) (b:Bool),Ev (fun k=>jP.f k (mkB h) p (mkB (jE 63 (jE 41 s).2.1).1) (mkB q) b) (mkB (aZ5 h p (jE 63 (jE 41 s).2.1).1 q b))→Ev (fun k=>(jP.f k (mkB h) p (mkB (jE 63 (jE 41 s).2.1).1) (mkB q) b).bind fun t204=>(if t204.toList=s then(some (mkB h,p,mkB (jE 63 (jE 41 s).2.1).1,mkB q,b,true))else(some eX0))) (aQ6 h p (jE 63 (jE 41 s).2.1).1 q b s):=by
  intro q b hq
  refine hq.bind ?_
  unfold aQ6
  rw[yF]
  split<;>exact Ev.now _
 cases hq:(jE 63 (jE 41 s).2.1).2.2
 ·obtain⟨e1,e2⟩:=bJ0 63 _ hq
  rw[hq,e2]at hS
  rw[e2]
  refine Ev.step (fun k=>?_) (hend [] false hS)
  rw[zM.j0,qC,qC,hw1,hw2,if_pos (by omega),if_pos (by rw[qC];omega),Int.toNat_natCast,cW0,hd1,yF,yF]
  rw[if_pos (by rw[e1];simp)]
  simp only[hn,if_false]
  rfl
 ·have e1:=aV9 63 _ hq
  have e3:(jE 41 s).2.1.drop (jE 63 (jE 41 s).2.1).1.length=63::(jE 63 (jE 41 s).2.1).2.1:=by
   conv=>lhs;arg 2;rw[e1]
   rw[List.drop_left]
  rw[hq]at hS
  refine Ev.step (fun k=>?_) (hend _ true hS)
  rw[zM.j0,qC,qC,hw1,hw2,if_pos (by omega),if_pos (by rw[qC];omega),Int.toNat_natCast,cW0,hd1,yF,yF,e3]
  rw[if_neg (by simp),if_pos (by rw[qC];simp<;>omega),cW0]
  simp only[hn,if_false,List.drop_succ_cons,List.drop_zero]
  rfl
theorem dZ6 (s:List UInt8) (hs:s.length≤1048576):Ev (fun k=>zM.f k (mkB s)) (aY1 s):=by
 unfold zM.f
 by_cases h200:s.length≤200
 ·have c1:=aY2 41 s
  have hlt:=dK7 41 s
  simp only[qC,if_neg (show ¬(s.length:Int)>200 by omega)]
  refine(uptoL 41 s hs).bind ?_
  simp only[qC]
  unfold aY1
  cases hf:(jE 41 s).2.2
  ·rw[(bJ0 41 s hf).1]
   simp only[if_true,Bool.false_eq_true,if_false];exact Ev.now _
  ·rw[hf]at hlt
   have hlt':=hlt.2 rfl
   have h0:=cX0 41 s hf
   have hw:wrap64 (((jE 41 s).1.length:Int)+1)=(((jE 41 s).1.length+1:Nat):Int):=by rw[qF (by omega) (by omega)];omega
   have hx:(mkB s).extract ((jE 41 s).1.length+1) s.length=mkB (jE 41 s).2.1:=by
    have:=cW0 s ((jE 41 s).1.length+1)
    rw[qC]at this;rw[this,cJ2 41 s hf]
   have c2:=aY2 58 (jE 41 s).1
   have c3:=aY2 63 (jE 41 s).2.1
   simp only[if_neg (show ¬((jE 41 s).1.length:Int)=(s.length:Int)by omega),if_true]
   refine(uptoL 58 (jE 41 s).1 (by omega)).bind ?_
   simp only[hw,if_pos (show(0:Int)≤(((jE 41 s).1.length+1:Nat):Int)by omega),if_pos (show(((jE 41 s).1.length+1:Nat):Int)≤(s.length:Int)by omega),Int.toNat_natCast,hx]
   refine(uptoL 63 (jE 41 s).2.1 (by omega)).bind ?_
   refine(dY6 44 46 (jE 58 (jE 41 s).1).1 (by omega)).bind ?_
   have hls:=eK7 [] (vG 44 (jE 58 (jE 41 s).1).1).reverse []
   rw[bJ9,aV1]at hls
   simp only[List.length_nil]at hls
   rw[←eX8 s _ _ _ _ h0]
   have e:(vG 44 (jE 58 (jE 41 s).1).1).reverse.foldl (aJ4 [46]) []=labS (jE 58 (jE 41 s).1).1:=rfl
   rw[e]at hls ⊢
   have hlt2:=dK7 58 (jE 41 s).1
   unfold portU
   simp only[qC]
   cases hp:(jE 58 (jE 41 s).1).2.2
   ·rw[hp]at hlt2
    have hn2: ¬(jE 58 (jE 41 s).1).1.length<(jE 41 s).1.length:=fun h=>Bool.false_ne_true (hlt2.1 h)
    simp only[if_neg (show ¬((jE 58 (jE 41 s).1).1.length:Int)<((jE 41 s).1.length:Int)by omega),Bool.false_eq_true,if_false]
    exact bX7 s _ 80 h200 hf (by omega)
   ·rw[hp]at hlt2
    have hlt3:=hlt2.2 rfl
    have hw3:wrap64 (((jE 58 (jE 41 s).1).1.length:Int)+1)=(((jE 58 (jE 41 s).1).1.length+1:Nat):Int):=by rw[qF (by omega) (by omega)];omega
    have hx3:(mkB (jE 41 s).1).extract ((jE 58 (jE 41 s).1).1.length+1) (jE 41 s).1.length=mkB (jE 58 (jE 41 s).1).2.1:=by
     have:=cW0 (jE 41 s).1 ((jE 58 (jE 41 s).1).1.length+1)
     rw[qC]at this;rw[this,cJ2 58 _ hp]
    simp only[if_pos (show((jE 58 (jE 41 s).1).1.length:Int)<((jE 41 s).1.length:Int)by omega),hw3,if_pos (show(0:Int)≤(((jE 58 (jE 41 s).1).1.length+1:Nat):Int)by omega),if_pos (show(((jE 58 (jE 41 s).1).1.length+1:Nat):Int)≤((jE 41 s).1.length:Int)by omega),Int.toNat_natCast,hx3,if_true]
    refine(kY _ (by omega)).bind ?_
    exact bX7 s _ _ h200 hf (by omega)
 ·simp only[qC,if_pos (show(s.length:Int)>200 by omega)]
  have e:aY1 s=eX0:=by
   unfold aY1 aQ6
   split
   ·rename_i hf
    rw[if_neg]
    intro hh
    have:=(bZ8 hh (cX0 41 s hf)).2.2.1
    omega
   ·rfl
  rw[e];exact Ev.now _
def bV8:List UInt8:= [33,35,36,37,38,39,42,43,45,46,94,95,124,126]
def tokB (b:UInt8):Bool:=aQ7 b||cZ2 b||aJ6 b||decide (b.toNat=96)||bV8.contains b
theorem bW7: ∀(l:List UInt8) (c:UInt8),Lib.indexByte l c≥0↔l.contains c=true
 | [],c=>by simp[Lib.indexByte]
 |b::l,c=>by
  have ih:=bW7 l c
  have lo: -1≤Lib.indexByte l c:=Lib.indexByte_ge l c
  unfold Lib.indexByte
  by_cases h:b=c
  ·subst h;simp
  ·have hb:(b==c)=false:=by simpa using h
   have hc:(c==b)=false:=by simpa using fun x=>h x.symm
   rw[hb]
   simp only[Bool.false_eq_true,if_false,List.contains_cons,hc,Bool.false_or]
   rw[←ih]
   by_cases h2:Lib.indexByte l c= -1
   ·simp[h2]
   ·have:(Lib.indexByte l c== -1)=false:=by simpa using h2
    rw[this];simp;omega
theorem dX0 (b:UInt8):wS.f (b.toNat:Int)=some (tokB b):=by
 have hi:(decide (Lib.indexByte bV8 b≥0))=bV8.contains b:=by
  rw[Bool.eq_iff_iff,decide_eq_true_iff];exact bW7 _ _
 have hx:strings_IndexByte.f (⟨#[33,35,36,37,38,39,42,43,45,46,94,95,124,126]⟩:ByteArray) (b.toNat:Int)=some (Lib.indexByte bV8 b):=by
  unfold strings_IndexByte.f;rw[dW5];rfl
 unfold wS.f
 simp only[fQ0,fJ1,bJ8,hx,Option.bind_some,hi]
 unfold tokB
 cases aQ7 b<;>cases cZ2 b<;>cases aJ6 b<;>simp
 all_goals (by_cases h:b.toNat=96<;>simp[h])
 all_goals (try omega)
theorem tchar_is (b:UInt8):Ev (fun k=>zX.f k (b.toNat:Int)) (tokB b):=by
 have hb:=eZ0 b
 have hh:Ev (fun k=>vK.f k (⟨#[33,35,36,37,38,39,42,43,45,46,94,95,124,126]⟩:ByteArray) (b.toNat:Int)) (bV8.contains b):=has_is bV8 b (by decide)
 have rest:Ev (fun k=>if aJ6 b=true then some true else if(b.toNat:Int)=96 then some true else(vK.f k (⟨#[33,35,36,37,38,39,42,43,45,46,94,95,124,126]⟩:ByteArray) (b.toNat:Int)).bind fun t=>some t) (aJ6 b||decide (b.toNat=96)||bV8.contains b):=by
  cases hd:aJ6 b
  ·by_cases h9:b.toNat=96
   ·simpa [h9]using Ev.now true
   ·have: ¬(b.toNat:Int)=96:=by omega
    simpa [h9,this]using hh.bind (f:=fun _ (t:Bool)=>some t) (Ev.now _)
  ·simpa using Ev.now true
 unfold zX.f qQ.f
 simp only[bW8]
 unfold tokB
 by_cases hU:65≤b.toNat∧b.toNat≤90
 ·have e1:cZ2 b=true:=by simp[cZ2,hU]
  simp only[if_pos (show(b.toNat:Int)≥65 by omega),if_pos (show(b.toNat:Int)≤90 by omega),Option.bind_some,if_pos (show((b.toNat:Int)+32)%256≥97 by omega),if_pos (show((b.toNat:Int)+32)%256≤122 by omega)]
  simpa [e1]using Ev.now true
 ·have e1:cZ2 b=false:=by simp[cZ2];omega
  have hlow:(if(b.toNat:Int)≥65 then(if(b.toNat:Int)≤90 then some (((b.toNat:Int)+32)%256)else some (b.toNat:Int))else some (b.toNat:Int))=some (b.toNat:Int):=by
   split
   ·rw[if_neg (by omega)]
   ·rfl
  rw[hlow]
  simp only[Option.bind_some]
  by_cases hL:97≤b.toNat
  ·by_cases hL2:b.toNat≤122
   ·have e2:aQ7 b=true:=by simp[aQ7,hL,hL2]
    simp only[if_pos (show(b.toNat:Int)≥97 by omega),if_pos (show(b.toNat:Int)≤122 by omega)]
    simpa [e2]using Ev.now true
   ·have e2:aQ7 b=false:=by simp[aQ7,hL2]
    simp only[if_pos (show(b.toNat:Int)≥97 by omega),if_neg (show ¬(b.toNat:Int)≤122 by omega)]
    simpa [e1,e2]using rest
  ·have e2:aQ7 b=false:=by simp[aQ7,hL]
   simp only[if_neg (show ¬(b.toNat:Int)≥97 by omega)]
   simpa [e1,e2]using rest
def cW2 (l:List UInt8):Bool:=decide (1≤l.length)&&decide (l.length≤4000)&&l.all tokB
theorem eV3 (s:ByteArray):Ev (fun k=>vL.f k s) (cW2 (bl s)):=by
 unfold vL.f cW2
 rw[bV0]
 by_cases h0:(s.size:Int)=0
 ·simp only[if_pos h0]
  refine Ev.step (f:=fun _=>some false) (fun k=>by simp[vL.j0]) ?_
  simpa [show ¬1≤s.size by omega]using Ev.now false
 ·simp only[if_neg h0]
  by_cases h4:(s.size:Int)>4000
  ·refine Ev.step (f:=fun _=>some false) (fun k=>by simp[vL.j0,h4]) ?_
   simpa [show ¬s.size≤4000 by omega]using Ev.now false
  ·refine Ev.step (f:=fun k=>vL.l0 k s 0) (fun k=>by simp[vL.j0,h4]) ?_
   have:=cY9 vL.l0 zX.f tokB tchar_is (fun k s i=>by simp only[vL.l0]) s (by omega)
   simpa [show 1≤s.size by omega,show s.size≤4000 by omega]using this
theorem eJ3 (s:ByteArray):Ev (fun k=>aX1.f k s) (cW2 (bl s)):=by
 unfold aX1.f cW2
 rw[bV0]
 simp only[aJ3,Option.bind_some]
 have e:(decide ((1:Int)≤(s.size:Int))&&decide ((s.size:Int)≤4000))=(decide (1≤s.size)&&decide (s.size≤4000)):=by rw[Bool.eq_iff_iff];simp;omega
 rw[e]
 cases h:(decide (1≤s.size)&&decide (s.size≤4000))
 ·simpa using Ev.now false
 ·have hs:s.size≤9223372036854775806:=by simp at h;omega
  have:=cY9 jF.l0 (fun _ c=>wS.f c) tokB (fun b=>Ev.const (dX0 b)) (fun k s i=>by simp only[jF.l0]) s hs
  simpa [jF.f]using this.bind (f:=fun _ (t:Bool)=>some t) (Ev.now _)
def aZ2:List UInt8:= [115,104,97,49,58]
def aY8 (l:List UInt8):Bool:=decide (l.length=37)&&decide (l.take 5=aZ2)&&(l.drop 5).all wW
theorem eV0 (l:List UInt8) (hl:l.length≤1048576): ∃x,Ev (fun k=>zU.f k (mkB l)) (x,aY8 l):=by
 unfold zU.f aY8
 rw[qC]
 by_cases h:l.length=37
 ·have hz:(l.length:Int)=37:=by omega
  simp only[if_pos hz,if_pos (show(0:Int)≤5 by decide),if_pos (show(5:Int)≤(l.length:Int)by omega),decide_eq_true h,Bool.true_and]
  have hx:(mkB l).extract 0 5=mkB (l.take 5):=by rw[jO];simp
  have hd:(mkB l).extract 5 (mkB l).size=mkB (l.drop 5):=by rw[jO,qC,List.take_of_length_le (by simp)]
  rw[hx,yF]
  by_cases ht:l.take 5=aZ2
  ·obtain⟨x,e⟩:=eV8 (l.drop 5) (by rw[List.length_drop];omega)
   refine⟨x,?_⟩
   rw[decide_eq_true ht,Bool.true_and]
   rw[qC]at hd
   simp only[if_pos (show l.take 5= [115,104,97,49,58]from ht),hd]
   exact e.bind (Ev.now _)
  ·rw[decide_eq_false ht,Bool.false_and]
   simp only[if_neg (show ¬l.take 5= [115,104,97,49,58]from ht)]
   exact⟨_,Ev.now _⟩
 ·have hz: ¬(l.length:Int)=37:=by omega
  simp only[if_neg hz,decide_eq_false h,Bool.false_and]
  exact⟨_,Ev.now _⟩
theorem eK1 (l:List UInt8) (hl:l.length≤1048576):strings_CutPrefix.f (mkB l) (⟨#[115,104,97,49,58]⟩:ByteArray)=some (if l.take 5=aZ2 then(mkB (l.drop 5),true)else(mkB l,false)):=by
 have hz:((⟨#[115,104,97,49,58]⟩:ByteArray).size:Int)=5:=rfl
 have hP:(⟨#[115,104,97,49,58]⟩:ByteArray).toList=aZ2:=yF aZ2
 have hx:(mkB l).extract 0 5=mkB (l.take 5):=by rw[jO];simp
 have hd:(mkB l).extract 5 l.length=mkB (l.drop 5):=by rw[jO,List.take_of_length_le (by simp)]
 unfold strings_CutPrefix.f stringslite_CutPrefix.f stringslite_HasPrefix.f
 rw[hz,qC,hP,show(5:Int).toNat=5 from rfl,hx,yF,hd]
 by_cases h5:(l.length:Int)≥5
 ·rw[if_pos h5,if_pos (by decide),if_pos (by omega)]
  simp only[Option.bind_some]
  by_cases ht:l.take 5=aZ2
  ·have hb:(l.take 5==aZ2)=true:=beq_iff_eq.2 ht
   rw[hb,if_pos rfl,if_pos (by decide),if_pos (by omega),if_pos ht];rfl
  ·have hb:(l.take 5==aZ2)=false:=beq_eq_false_iff_ne.2 ht
   rw[hb,if_neg Bool.false_ne_true,if_neg ht];rfl
 ·have ht: ¬l.take 5=aZ2:=by
   intro e
   have:=congrArg List.length e
   rw[List.length_take]at this
   simp[aZ2]at this
   omega
  rw[if_neg h5,if_neg ht];rfl
theorem eJ2 (l:List UInt8) (hl:l.length≤1048576): ∃x,Ev (fun k=>vU.f k (mkB l)) (x,aY8 l):=by
 unfold vU.f aY8
 rw[eK1 l hl]
 simp only[Option.bind_some]
 by_cases ht:l.take 5=aZ2
 ·rw[if_pos ht]
  simp only[if_true,qC,List.length_drop,decide_eq_true ht,Bool.and_true]
  by_cases h:l.length=37
  ·obtain⟨x,e⟩:=eK8 (l.drop 5) (by rw[List.length_drop];omega)
   refine⟨x,?_⟩
   simp only[if_pos (show((l.length-5:Nat):Int)=32 by omega),decide_eq_true h,Bool.true_and]
   exact e.bind (Ev.now _)
  ·have hn: ¬((l.length-5:Nat):Int)=32:=by omega
   simp only[if_neg hn,decide_eq_false h,Bool.false_and]
   exact⟨_,Ev.now _⟩
 ·rw[if_neg ht]
  simp only[Bool.false_eq_true,if_false,decide_eq_false ht,Bool.and_false,Bool.false_and]
  exact⟨_,Ev.now _⟩
def bW6 (st:Int) (lab:Bool) (seg at_ sz:Int):Bool:=decide (200≤st)&&decide (st≤599)&&lab&&decide (0≤seg)&&decide (seg≤39)&&decide (0≤at_)&&decide (at_≤60000)&&decide (0≤sz)&&decide (sz≤60000)
theorem eZ8 (st:Int) (lab:Bool) (seg at_ sz:Int):(if st≥200 then(if st≤599 then(if lab=true then(if seg≥0 then(if seg<40 then(if at_≥0 then(if at_≤60000 then(if sz≥0 then(some (decide (sz≤60000)))else(some false))else(some false))else(some false))else(some false))else(some false))else(some false))else(some false))else(some false))=some (bW6 st lab seg at_ sz):=by
 unfold bW6
 by_cases h1:st≥200
 ·rw[if_pos h1,decide_eq_true (show 200≤st from h1)]
  by_cases h2:st≤599
  ·rw[if_pos h2,decide_eq_true h2]
   cases lab
   ·simp
   ·rw[if_pos rfl]
    by_cases h3:seg≥0
    ·rw[if_pos h3,decide_eq_true (show 0≤seg from h3)]
     by_cases h4:seg<40
     ·rw[if_pos h4,decide_eq_true (show seg≤39 by omega)]
      by_cases h5:at_≥0
      ·rw[if_pos h5,decide_eq_true (show 0≤at_ from h5)]
       by_cases h6:at_≤60000
       ·rw[if_pos h6,decide_eq_true h6]
        by_cases h7:sz≥0
        ·rw[if_pos h7,decide_eq_true (show 0≤sz from h7)];simp
        ·rw[if_neg h7,decide_eq_false (show ¬0≤sz from h7)];simp
       ·rw[if_neg h6,decide_eq_false h6];simp
      ·rw[if_neg h5,decide_eq_false (show ¬0≤at_ from h5)];simp
     ·rw[if_neg h4,decide_eq_false (show ¬seg≤39 by omega)];simp
    ·rw[if_neg h3,decide_eq_false (show ¬0≤seg from h3)];simp
  ·rw[if_neg h2,decide_eq_false h2];simp
 ·rw[if_neg h1,decide_eq_false (show ¬200≤st from h1)];simp
def cZ0 (m:List UInt8):Bool:=decide (m.length≤20)&&cW2 m
def cV0 (key:List UInt8) (t side:Int) (m:List UInt8) (st:Int) (lab:List UInt8) (seg at_ sz:Int):Bool:=
 (aY1 key).2.2.2.2.2&&(decide (0≤t)&&decide (t≤253402300799))&&(decide (side=0)||decide (side=1))&&cZ0 m&&bW6 st (aY8 lab) seg at_ sz
theorem dX5 (m:List UInt8):Ev (fun k=>kQ.f k (mkB m)) (cZ0 m):=by
 unfold kQ.f cZ0
 rw[qC]
 by_cases h:m.length≤20
 ·simp only[if_pos (show(m.length:Int)≤20 by omega),decide_eq_true h,Bool.true_and]
  have:=eV3 (mkB m)
  rw[xY]at this
  exact this.bind (Ev.now _)
 ·simp only[if_neg (show ¬(m.length:Int)≤20 by omega),decide_eq_false h,Bool.false_and]
  exact Ev.now _
theorem dV6 (m:List UInt8):Ev (fun k=>vV.f k (mkB m)) (cZ0 m):=by
 unfold vV.f cZ0
 have:=eJ3 (mkB m)
 rw[xY]at this
 refine this.bind ?_
 rw[qC,show decide ((m.length:Int)≤20)=decide (m.length≤20)from decide_eq_decide.2 (by omega)]
 cases cW2 m
 ·simp only[Bool.false_eq_true,if_false,Bool.and_false];exact Ev.now _
 ·simp only[if_true,Bool.and_true];exact Ev.now _
theorem dY5 (key:List UInt8) (t side:Int) (m:List UInt8) (st:Int) (lab:List UInt8) (rev:Bool) (seg at_ sz:Int) (h1:key.length≤1048576) (h2:lab.length≤1048576):
  Ev (fun k=>jY.f k (mkB key) t side (mkB m) st (mkB lab) rev seg at_ sz) (cV0 key t side m st lab seg at_ sz):=by
 unfold jY.f cV0
 obtain⟨x,hx⟩:=eV0 lab h2
 refine(dZ6 key h1).bind ?_
 refine hx.bind ?_
 cases hk:(aY1 key).2.2.2.2.2
 ·simp only[Bool.false_eq_true,if_false,Bool.false_and];exact Ev.now _
 ·have htm:zQ.f t=some (decide (0≤t)&&decide (t≤253402300799)):=by
   unfold zQ.f
   by_cases h:t≥0
   ·rw[if_pos h,decide_eq_true (show 0≤t from h),Bool.true_and]
   ·rw[if_neg h,decide_eq_false (show ¬0≤t from h),Bool.false_and]
  simp only[if_true,Bool.true_and,htm,Option.bind_some,eZ8]
  cases(decide (0≤t)&&decide (t≤253402300799))
  ·simp only[Bool.false_eq_true,if_false,Bool.false_and];exact Ev.now _
  ·simp only[if_true,Bool.true_and]
   have hm:Ev (fun k=>(kQ.f k (mkB m)).bind fun t236=>(if t236=true then some (bW6 st (aY8 lab) seg at_ sz)else some false)) (cZ0 m&&bW6 st (aY8 lab) seg at_ sz):=by
    refine(dX5 m).bind ?_
    cases cZ0 m
    ·simp only[Bool.false_eq_true,if_false,Bool.false_and];exact Ev.now _
    ·simp only[if_true,Bool.true_and];exact Ev.now _
   by_cases s0:side=0
   ·simp only[if_pos s0,decide_eq_true s0,Bool.true_or,Bool.true_and];exact hm
   ·by_cases s1:side=1
    ·simp only[if_neg s0,if_pos s1,decide_eq_true s1,Bool.or_true,Bool.true_and];exact hm
    ·simp only[if_neg s0,if_neg s1,decide_eq_false s0,decide_eq_false s1,Bool.or_false,Bool.false_and];exact Ev.now _
theorem eV7 (st:Int) (lab:Bool) (seg at_ sz:Int) (h:lab=true):((kV.f st).bind fun t409=>(if t409=true then((vC.f seg 0 39).bind fun t410=>(if t410=true then((vC.f at_ 0 60000).bind fun t411=>(if t411=true then((vC.f sz 0 60000).bind fun t412=>(some t412))else(some false)))else(some false)))else(some false)))=some (bW6 st lab seg at_ sz):=by
 unfold kV.f bW6
 simp only[aJ3,Option.bind_some,h,Bool.and_true]
 cases h1:(decide (200≤st)&&decide (st≤599))
 ·simp
 ·simp only[if_true,Bool.true_and]
  cases h2:(decide (0≤seg)&&decide (seg≤39))
  ·simp only[Bool.false_eq_true,if_false,Bool.false_and]
  ·simp only[if_true,Bool.true_and]
   cases h3:(decide (0≤at_)&&decide (at_≤60000))
   ·simp only[Bool.false_eq_true,if_false,Bool.false_and]
   ·simp only[if_true,Bool.true_and]
theorem dQ5 (key:List UInt8) (t side:Int) (m:List UInt8) (st:Int) (lab:List UInt8) (rev:Bool) (seg at_ sz:Int) (h1:key.length≤1048576) (h2:lab.length≤1048576):
  Ev (fun k=>jW.f k (mkB key) t side (mkB m) st (mkB lab) rev seg at_ sz) (cV0 key t side m st lab seg at_ sz):=by
 unfold jW.f cV0
 obtain⟨x,hx⟩:=eJ2 lab h2
 refine(dQ6 key h1).bind ?_
 refine hx.bind ?_
 cases hk:(aY1 key).2.2.2.2.2
 ·simp only[Bool.false_eq_true,if_false,Bool.false_and];exact Ev.now _
 ·simp only[if_true,Bool.true_and]
  cases hlb:aY8 lab
  ·have e:bW6 st false seg at_ sz=false:=by unfold bW6;simp
   rw[e]
   simp only[Bool.false_eq_true,if_false,Bool.and_false];exact Ev.now _
  ·have htl:=eV7 st true seg at_ sz rfl
   have htm:jS.f t=some (decide (0≤t)&&decide (t≤253402300799)):=by unfold jS.f;rw[aJ3];rfl
   have hsd:jZ.f side=some (decide (side=0)||decide (side=1)):=by
    unfold jZ.f
    by_cases s0:side=0
    ·rw[if_pos s0,decide_eq_true s0,Bool.true_or]
    ·rw[if_neg s0,decide_eq_false s0,Bool.false_or];rfl
   simp only[if_true,htm,Option.bind_some,hsd,htl]
   cases(decide (0≤t)&&decide (t≤253402300799))
   ·simp only[Bool.false_eq_true,if_false,Bool.false_and];exact Ev.now _
   ·simp only[if_true,Bool.true_and]
    cases(decide (side=0)||decide (side=1))
    ·simp only[Bool.false_eq_true,if_false,Bool.false_and];exact Ev.now _
    ·simp only[if_true,Bool.true_and]
     refine(dV6 m).bind ?_
     cases cZ0 m
     ·simp only[Bool.false_eq_true,if_false,Bool.false_and];exact Ev.now _
     ·simp only[if_true,Bool.true_and];exact Ev.now _
def aV0 (y:Int):Prop:=y%4=0∧(y%100≠0∨y%400=0)
instance (y:Int):Decidable (aV0 y):=by unfold aV0;infer_instance
def bZ2 (y:Int):Int:=if aV0 y then 366 else 365
def kO (y:Int):Int:=365*(y-1970)+(y-1)/4-(y-1)/100+(y-1)/400-477
def yX (y m:Int):Int:=if m=2 then(if aV0 y then 29 else 28)else if m=4∨m=6∨m=9∨m=11 then 30 else 31
theorem bQ1 (y:Int):kO (y+1)=kO y+bZ2 y:=by
 unfold kO bZ2
 by_cases h:aV0 y
 ·rw[if_pos h];unfold aV0 at h;omega
 ·rw[if_neg h];unfold aV0 at h;omega
theorem bW4 (y:Int):365≤bZ2 y∧bZ2 y≤366:=by unfold bZ2;split<;>omega
theorem yV (y m:Int):28≤yX y m∧yX y m≤31:=by unfold yX;repeat' split<;>omega
theorem bY3:kO 1970=0:=by decide
theorem befD_low (n:Nat):kO (1970+n)≤366*n:=by unfold kO;omega
theorem gV0 (a:Int) (n:Nat):kO a+365*n≤kO (a+n):=by
 induction n with
 |zero=>simp
 |succ n ih=>
  have h:=bQ1 (a+n)
  have h2:=bW4 (a+n)
  have e:a+((n+1:Nat):Int)=a+n+1:=by omega
  rw[e];omega
theorem yr_ex (D:Int) (h0:0≤D) (h1:D≤2932896): ∃Y:Int,1970≤Y∧Y≤9999∧kO Y≤D∧D<kO (Y+1):=by
 have key: ∀n:Nat,D<kO (1970+n)→ ∃m:Nat,m<n∧kO (1970+m)≤D∧D<kO (1970+m+1):=by
  intro n
  induction n with
  |zero=>intro h;have:=bY3;simp at h;omega
  |succ n ih=>
   intro h
   by_cases c:D<kO (1970+n)
   ·obtain⟨m,a,b⟩:=ih c;exact⟨m,by omega,b⟩
   ·refine⟨n,by omega,by omega,?_⟩
    have e:(1970:Int)+((n+1:Nat):Int)=1970+n+1:=by omega
    rw[e]at h;exact h
 have e:kO (1970+(8030:Nat))=2932897:=by decide
 obtain⟨m,a,b,c⟩:=key 8030 (by omega)
 exact⟨1970+m,by omega,by omega,b,c⟩
def zT (y:Int):Nat→Int→Int
 |0,_=>0
 |n+1,m=>yX y m+zT y n (m+1)
theorem cJ8 (y:Int):zT y 12 1=bZ2 y:=by
 unfold bZ2
 by_cases h:aV0 y<;>simp[zT,yX,h]
def wZ (y:Int):Nat→Int→Int→Int×Int
 |0,d,m=>(d,m)
 |n+1,d,m=>if d≥yX y m then wZ y n (d-yX y m) (m+1)else(d,m)
theorem fK3 (y:Int): ∀(n:Nat) (d m:Int),0≤d→d<zT y n m→0≤(wZ y n d m).1∧(wZ y n d m).1<yX y (wZ y n d m).2∧m≤(wZ y n d m).2∧(wZ y n d m).2<m+n
 |0,d,m,h0,h1=>by simp[zT]at h1;omega
 |n+1,d,m,h0,h1=>by
  unfold wZ
  unfold zT at h1
  by_cases c:d≥yX y m
  ·rw[if_pos c]
   have:=fK3 y n (d-yX y m) (m+1) (by omega) (by omega)
   omega
  ·rw[if_neg c];refine⟨h0,?_,?_,?_⟩<;>dsimp only<;>omega
def kM:Nat→Nat→List UInt8
 |0,_=> []
 |c+1,n=>kM c (n/10)++ [UInt8.ofNat (48+n%10)]
theorem aW5: ∀c n,(kM c n).length=c
 |0,_=>rfl
 |c+1,n=>by rw[kM,List.length_append,aW5 c];rfl
theorem cK9: ∀c,kM c 0=List.replicate c 48
 |0=>rfl
 |c+1=>by rw[kM,Nat.zero_div,cK9 c,List.replicate_succ'];rfl
theorem cW1: ∀(c n:Nat),n<10^(c+1)→List.replicate (c+1-(Lib.decDigits n).length) 48++Lib.decDigits n=kM (c+1) n
 |0,n,h=>by
  have h10:n<10:=by simpa using h
  rw[Lib.decDigits,dif_pos h10,kM,kM,Nat.mod_eq_of_lt h10];rfl
 |c+1,n,h=>by
  by_cases h10:n<10
  ·rw[Lib.decDigits,dif_pos h10,kM,Nat.div_eq_of_lt h10,cK9,Nat.mod_eq_of_lt h10];rfl
  ·have ih:=cW1 c (n/10) (by rw[Nat.pow_succ]at h;omega)
   rw[Lib.decDigits,dif_neg h10,kM,←ih,List.length_append,List.length_singleton,Nat.add_sub_add_right,List.append_assoc]
theorem wid (a:Int) (h0: -9223372036854775808≤a) (h1:a≤9223372036854775807):wrap64 a=a:=qF h0 h1
theorem tdv (a n:Int) (h:0≤a):Int.tdiv a n=a/n:=Int.tdiv_eq_ediv_of_nonneg h
theorem tmd (a n:Int) (h:0≤a):Int.tmod a n=a%n:=Int.tmod_eq_emod_of_nonneg h
theorem bX0 (y:Int) (h0:1970≤y) (h1:y≤20000):yN.f y=some (kO y):=by
 unfold yN.f kO
 rw[wid (y-1970) (by omega) (by omega),wid (365*(y-1970)) (by omega) (by omega),wid (y-1) (by omega) (by omega),tdv _ 4 (by omega),tdv _ 100 (by omega),tdv _ 400 (by omega),
  wid ((y-1)/4) (by omega) (by omega),wid ((y-1)/100) (by omega) (by omega),wid ((y-1)/400) (by omega) (by omega),wid (365*(y-1970)+(y-1)/4) (by omega) (by omega),
  wid (365*(y-1970)+(y-1)/4-(y-1)/100) (by omega) (by omega),wid (365*(y-1970)+(y-1)/4-(y-1)/100+(y-1)/400) (by omega) (by omega),wid _ (by omega) (by omega)]
theorem cX6 (y:Int) (h0:0≤y):yT.f y=some (decide (aV0 y)):=by
 unfold yT.f
 rw[tmd _ _ h0,tmd _ _ h0,tmd _ _ h0]
 by_cases h4:y%4=0
 ·rw[if_pos h4]
  by_cases h100:y%100=0
  ·rw[if_pos h100];congr 1
   by_cases h400:y%400=0
   ·rw[decide_eq_true (show aV0 y from⟨h4,.inr h400⟩),h400];rfl
   ·rw[decide_eq_false (show ¬aV0 y from fun h=>by unfold aV0 at h;omega)];exact beq_eq_false_iff_ne.2 h400
  ·rw[if_neg h100,decide_eq_true (show aV0 y from⟨h4,.inl h100⟩)]
 ·rw[if_neg h4,decide_eq_false (show ¬aV0 y from fun h=>h4 h.1)]
theorem bK2 (y:Int) (h0:0≤y):kT.f y=some (bZ2 y):=by
 unfold kT.f bZ2
 rw[cX6 y h0,Option.bind_some]
 by_cases h:aV0 y<;>simp[h]
theorem bW0 (y m:Int) (h0:0≤y):qO.f y m=some (yX y m):=by
 unfold qO.f yX
 by_cases h2:m=2
 ·rw[if_pos h2,if_pos h2,cX6 y h0,Option.bind_some]
  by_cases h:aV0 y<;>simp[h]
 ·rw[if_neg h2,if_neg h2]
  by_cases h4:m=4<;>by_cases h6:m=6<;>by_cases h9:m=9<;>by_cases h11:m=11<;>simp[h4,h6,h9,h11]
theorem aZ6 (y m:Int) (h0:0≤y):Ev (fun k=>yG.f k y m) (yX y m):=by
 have hj:Ev (fun k=>yG.j0 k m false) (if m=2 then 28 else if m=4∨m=6∨m=9∨m=11 then 30 else 31):=by
  refine Ev.step (f:=fun _=>some (if m=2 then 28 else if m=4∨m=6∨m=9∨m=11 then 30 else 31)) (fun k=>?_) (Ev.now _)
  rw[yG.j0,if_neg Bool.false_ne_true]
  by_cases h2:m=2
  ·rw[if_pos h2,if_pos h2]
  ·rw[if_neg h2,if_neg h2]
   by_cases h4:m=4<;>by_cases h6:m=6<;>by_cases h9:m=9<;>by_cases h11:m=11<;>simp[h4,h6,h9,h11]
 have ht:Ev (fun k=>yG.j0 k m true) 29:=Ev.step (f:=fun _=>some 29) (fun k=>by rw[yG.j0,if_pos rfl]) (Ev.now _)
 unfold yG.f yX
 rw[tmd _ _ h0,tmd _ _ h0,tmd _ _ h0]
 by_cases h2:m=2
 ·rw[if_pos h2]at hj
  simp only[if_pos h2]
  have h400:Ev (fun k=>yG.j0 k m (y%400==0)) (if y%400=0 then 29 else 28):=by
   by_cases h:y%400=0
   ·rw[if_pos h,h];exact ht
   ·rw[if_neg h,beq_eq_false_iff_ne.2 h];exact hj
  by_cases h4:y%4=0
  ·simp only[if_pos h4]
   by_cases h100:y%100=0
   ·simp only[if_pos h100]
    have e:(if aV0 y then(29:Int)else 28)=if y%400=0 then 29 else 28:=by
     by_cases h:y%400=0
     ·rw[if_pos h,if_pos (show aV0 y from⟨h4,.inr h⟩)]
     ·rw[if_neg h,if_neg (fun q=>by unfold aV0 at q;omega)]
    rw[e];exact h400
   ·simp only[if_neg h100]
    rw[if_pos (show aV0 y from⟨h4,.inl h100⟩)];exact ht
  ·simp only[if_neg h4]
   rw[if_neg (fun q=>h4 (show aV0 y from q).1)]
   rw[if_neg (show ¬y%400=0 by omega)]at h400
   exact h400
 ·rw[if_neg h2]at hj
  simp only[if_neg h2];exact hj
abbrev Six:=Int×Int×Int×Int×Int×Int
theorem dQ4 (y h mi s:Int) (h0:0≤y): ∀(n:Nat) (d m:Int),0≤d→d<zT y n m→1≤m→m+n≤13→d≤400→
  Ev (fun k=>yH.l1 k d y m 0 h mi s) (y,(wZ y n d m).2,(wZ y n d m).1+1,h,mi,s,true)
 |0,d,m,h1,h2,_,_,_=>by simp[zT]at h2;omega
 |n+1,d,m,h1,h2,h3,h4,h5=>by
  have hm:=yV y m
  unfold zT at h2
  by_cases c:d≥yX y m
  ·have ih:=dQ4 y h mi s h0 n (d-yX y m) (m+1) (by omega) (by omega) (by omega) (by omega) (by omega)
   have e:wZ y (n+1) d m=wZ y n (d-yX y m) (m+1):=by rw[wZ,if_pos c]
   rw[e]
   exact Ev.step (fun k=>by rw[yH.l1,bW0 y m h0,Option.bind_some,if_pos c,Option.bind_some,wid _ (by omega) (by omega),wid _ (by omega) (by omega)]) ih
  ·have e:wZ y (n+1) d m=(d,m):=by rw[wZ,if_neg c]
   rw[e]
   exact Ev.step (f:=fun _=>some (y,m,d+1,h,mi,s,true)) (fun k=>by rw[yH.l1,bW0 y m h0,Option.bind_some,if_neg c,wid _ (by omega) (by omega)]) (Ev.now _)
theorem cQ9 (y x h mi s:Int) (h0:0≤y): ∀(n:Nat) (d m:Int),0≤d→d<zT y n m→1≤m→m+n≤13→d≤400→
  Ev (fun k=>zI.l1 k d y m x h mi s) (y,(wZ y n d m).2,(wZ y n d m).1+1,h,mi,s)
 |0,d,m,h1,h2,_,_,_=>by simp[zT]at h2;omega
 |n+1,d,m,h1,h2,h3,h4,h5=>by
  have hm:=yV y m
  unfold zT at h2
  by_cases c:d≥yX y m
  ·have ih:=cQ9 y x h mi s h0 n (d-yX y m) (m+1) (by omega) (by omega) (by omega) (by omega) (by omega)
   have e:wZ y (n+1) d m=wZ y n (d-yX y m) (m+1):=by rw[wZ,if_pos c]
   rw[e]
   refine Ev.step (fun k=>by rw[zI.l1]) ?_
   refine(aZ6 y m h0).bind ?_
   simp only[if_pos c]
   refine(aZ6 y m h0).bind ?_
   rw[wid _ (by omega) (by omega),wid _ (by omega) (by omega)];exact ih
  ·have e:wZ y (n+1) d m=(d,m):=by rw[wZ,if_neg c]
   rw[e]
   refine Ev.step (fun k=>by rw[zI.l1]) ?_
   refine(aZ6 y m h0).bind ?_
   simp only[if_neg c]
   rw[wid _ (by omega) (by omega)];exact Ev.now _
theorem aK5 (y:Int) (n:Nat):kO y≤kO (y+n):=by have:=gV0 y n;omega
theorem dW7 (D h mi s:Int) {r:Int×Int×Int×Int×Int×Int×Bool}: ∀(n:Nat) (y:Int),1970≤y→y+n≤9999→kO (y+n)≤D→D<kO (y+n+1)→D≤2932896→0≤kO y→
  Ev (fun k=>yH.l1 k (D-kO (y+n)) (y+n) 1 0 h mi s) r→Ev (fun k=>yH.l0 k (D-kO y) y 1 0 h mi s) r
 |0,y,h0,h1,h2,h3,h4,h5,hr=>by
  have e:y+((0:Nat):Int)=y:=by simp
  rw[e]at h2 h3 hr
  have hu:=bQ1 y
  exact Ev.step (fun k=>by rw[yH.l0,bK2 y (by omega),Option.bind_some,if_neg (by omega)]) hr
 |n+1,y,h0,h1,h2,h3,h4,h5,hr=>by
  have e:y+((n+1:Nat):Int)=(y+1)+(n:Int):=by omega
  rw[e]at h1 h2 h3 hr
  have hu:=bQ1 y
  have hp:=bW4 y
  have hm:=aK5 (y+1) n
  have ih:=dW7 D h mi s n (y+1) (by omega) h1 h2 h3 h4 (by omega) hr
  refine Ev.step (fun k=>?_) ih
  rw[yH.l0,bK2 y (by omega),Option.bind_some,if_pos (by omega),Option.bind_some,wid _ (by omega) (by omega),wid _ (by omega) (by omega),show D-kO y-bZ2 y=D-kO (y+1)by omega]
theorem dX8 (D h mi s:Int) {r:Six}: ∀(n:Nat) (y:Int),1970≤y→y+n≤9999→kO (y+n)≤D→D<kO (y+n+1)→D≤2932896→0≤kO (y+n)→
  Ev (fun k=>zI.l1 k (D-kO (y+n)) (y+n) 1 0 h mi s) r→Ev (fun k=>zI.l0 k D y 1 0 h mi s) r
 |0,y,h0,h1,h2,h3,h4,h5,hr=>by
  have e:y+((0:Nat):Int)=y:=by simp
  rw[e]at h2 h3 hr h5
  refine Ev.step (fun k=>?_) hr
  rw[zI.l0,wid (y+1) (by omega) (by omega),bX0 (y+1) (by omega) (by omega),Option.bind_some,if_neg (by omega),bX0 y h0 (by omega),Option.bind_some,wid _ (by omega) (by omega)]
 |n+1,y,h0,h1,h2,h3,h4,h5,hr=>by
  have e:y+((n+1:Nat):Int)=(y+1)+(n:Int):=by omega
  rw[e]at h1 h2 h3 hr h5
  have hm:=aK5 (y+1) n
  have ih:=dX8 D h mi s n (y+1) (by omega) h1 h2 h3 h4 h5 hr
  refine Ev.step (fun k=>?_) ih
  rw[zI.l0,wid (y+1) (by omega) (by omega),bX0 (y+1) (by omega) (by omega),Option.bind_some,if_pos (by omega)]
theorem civil_at (t Y:Int) (h0:0≤t) (h1:t≤253402300799) (y0:1970≤Y) (y1:Y≤9999) (y2:kO Y≤t/86400) (y3:t/86400<kO (Y+1)):
  (1≤(wZ Y 12 (t/86400-kO Y) 1).2∧(wZ Y 12 (t/86400-kO Y) 1).2≤12)∧(1≤(wZ Y 12 (t/86400-kO Y) 1).1+1∧(wZ Y 12 (t/86400-kO Y) 1).1+1≤31)∧
  Ev (fun k=>yH.f k t) (Y,(wZ Y 12 (t/86400-kO Y) 1).2,(wZ Y 12 (t/86400-kO Y) 1).1+1,t/3600%24,t/60%60,t%60,true)∧
  Ev (fun k=>zI.f k t) (Y,(wZ Y 12 (t/86400-kO Y) 1).2,(wZ Y 12 (t/86400-kO Y) 1).1+1,t/3600%24,t/60%60,t%60):=by
 have hD0:0≤t/86400:=by omega
 have hD1:t/86400≤2932896:=by omega
 have hup:=bQ1 Y
 have hyp:=bW4 Y
 have hB0:0≤kO Y:=by
  have:=aK5 1970 (Y-1970).toNat
  rw[show(1970:Int)+((Y-1970).toNat:Int)=Y by omega]at this
  have:=bY3;omega
 have hr12:=cJ8 Y
 have hd0:0≤t/86400-kO Y:=by omega
 have hd1:t/86400-kO Y<zT Y 12 1:=by omega
 obtain⟨g0,g1,g2,g3⟩:=fK3 Y 12 _ 1 hd0 hd1
 have hmp:=yV Y (wZ Y 12 (t/86400-kO Y) 1).2
 refine⟨⟨g2,by omega⟩,⟨?_,?_⟩,?_,?_⟩
 ·omega
 ·omega
 ·have ht:zQ.f t=some true:=by
   unfold zQ.f
   rw[if_pos (show t≥0 from h0),decide_eq_true h1]
  unfold yH.f
  simp only[ht,Option.bind_some,if_true]
  rw[tdv _ _ h0,tdv _ _ h0,tdv _ _ h0,tmd t 60 h0,wid (t/86400) (by omega) (by omega),wid (t/3600) (by omega) (by omega),wid (t/60) (by omega) (by omega),tmd (t/3600) 24 (by omega),tmd (t/60) 60 (by omega)]
  have:=dW7 (t/86400) (t/3600%24) (t/60%60) (t%60) (Y-1970).toNat 1970 (by omega) (by omega) (by rw[show(1970:Int)+((Y-1970).toNat:Int)=Y by omega];exact y2) (by rw[show(1970:Int)+((Y-1970).toNat:Int)=Y by omega];exact y3) hD1 (by rw[bY3];omega)
   (by rw[show(1970:Int)+((Y-1970).toNat:Int)=Y by omega];exact dQ4 Y _ _ _ (by omega) 12 _ 1 hd0 hd1 (by omega) (by omega) (by omega))
  rw[bY3,Int.sub_zero]at this
  exact this
 ·have hy0:=befD_low (t/86400/366).toNat
  have hn:((t/86400/366).toNat:Int)=t/86400/366:=by omega
  rw[hn]at hy0
  have hle:1970+t/86400/366≤Y:=by
   by_cases c:1970+t/86400/366≤Y
   ·exact c
   ·have:=aK5 (Y+1) (1970+t/86400/366-(Y+1)).toNat
    rw[show(Y+1)+((1970+t/86400/366-(Y+1)).toNat:Int)=1970+t/86400/366 by omega]at this
    omega
  unfold zI.f
  rw[tdv t 86400 h0,tmd t 86400 h0,wid (t/86400) (by omega) (by omega),tdv _ 366 (by omega),wid (t/86400/366) (by omega) (by omega),wid (1970+_) (by omega) (by omega),tdv _ 3600 (by omega),tdv _ 60 (by omega),wid (t%86400/3600) (by omega) (by omega),wid (t%86400/60) (by omega) (by omega),tmd _ 60 (by omega),tmd _ 60 (by omega)]
  have e1:t%86400/3600=t/3600%24:=by omega
  have e2:t%86400/60%60=t/60%60:=by omega
  have e3:t%86400%60=t%60:=by omega
  rw[e1,e2]
  try rw[e3]
  refine dX8 (t/86400) _ _ _ (Y-(1970+t/86400/366)).toNat (1970+t/86400/366) (by omega) (by omega) ?_ ?_ hD1 ?_ ?_
  all_goals rw[show(1970+t/86400/366)+((Y-(1970+t/86400/366)).toNat:Int)=Y by omega]
  ·exact y2
  ·exact y3
  ·exact hB0
  ·exact cQ9 Y _ _ _ _ (by omega) 12 _ 1 hd0 hd1 (by omega) (by omega) (by omega)
theorem Ev.ifp {α:Type} {c:Prop} [Decidable c] {f g:Nat→Option α} {r:α} (hc:c) (h:Ev f r):Ev (fun k=>if c then f k else g k) r:=by simp only[if_pos hc];exact h
theorem dV3 (c:Nat): ∀(j:Nat) (l:List UInt8),l.length+j=c→c≤100→Ev (fun k=>zK.l0 k (c:Int) (mkB l)) (mkB (List.replicate j 48++l))
 |0,l,h,hc=>Ev.step (f:=fun _=>some (mkB l)) (fun k=>by rw[zK.l0,qC,if_neg (by omega)]) (Ev.now _)
 |j+1,l,h,hc=>by
  have ih:=dV3 c j (48::l) (by simp;omega) hc
  have e:List.replicate j (48:UInt8)++48::l=List.replicate (j+1) 48++l:=by rw[List.replicate_succ',List.append_assoc];rfl
  rw[e]at ih
  refine Ev.step (fun k=>?_) ih
  rw[zK.l0,qC,if_pos (by omega),if_pos (by omega),show(⟨#[48]⟩:ByteArray)=mkB [48]from rfl,xH]
  rfl
theorem aX3 (n c:Nat) (hc:c+1≤10) (h:n<10^(c+1)):Ev (fun k=>zK.f k (n:Int) ((c+1:Nat):Int)) (mkB (kM (c+1) n)):=by
 have hp:=cW1 c n h
 have hl:=congrArg List.length hp
 rw[List.length_append,List.length_replicate,aW5]at hl
 have hb:(10:Nat)^(c+1)≤10^10:=Nat.pow_le_pow_right (by omega) hc
 have h10:(10:Nat)^10=10000000000:=by decide
 unfold zK.f
 refine(aK1 n (by omega)).bind ?_
 have:=dV3 (c+1) (c+1-(Lib.decDigits n).length) (Lib.decDigits n) (by omega) (by omega)
 rw[hp]at this
 exact this
theorem dZ0: ∀(c n:Nat) (out:List UInt8),n≤1000000→out.length+c≤100→Ev (fun k=>qJ.l0 k (n:Int) (c:Int) (mkB out)) (mkB (kM c n++out))
 |0,n,out,_,_=>Ev.step (f:=fun _=>some (mkB out)) (fun k=>by rw[qJ.l0,if_neg (by omega)]) (Ev.now _)
 |c+1,n,out,hn,ho=>by
  have ih:=dZ0 c (n/10) (UInt8.ofNat (48+n%10)::out) (by omega) (by simp;omega)
  have e:kM (c+1) n++out=kM c (n/10)++UInt8.ofNat (48+n%10)::out:=by rw[kM,List.append_assoc];rfl
  rw[e]
  refine Ev.step (fun k=>?_) ih
  have hi:=bK4 (n%10) (by omega)
  rw[Lib.decDigits_one (show n%10<10 by omega)]at hi
  rw[qJ.l0,if_pos (by omega),tmd _ _ (by omega),tdv _ _ (by omega),show((n:Int)%10)=((n%10:Nat):Int)by omega,hi,Option.bind_some,qC,qC,if_pos (by simp;omega),xH,wid _ (by omega) (by omega),wid _ (by omega) (by omega),
   show((n:Int)/10)=((n/10:Nat):Int)by omega,show(((c+1:Nat):Int)-1)=(c:Int)by omega]
  rfl
theorem aK3 (n c:Nat) (hn:n≤1000000) (hc:c≤100):Ev (fun k=>qJ.f k (n:Int) (c:Int)) (mkB (kM c n)):=by
 have:=dZ0 c n [] hn (by simpa using hc)
 rw[List.append_nil]at this
 exact this
def wU (Y M d h mi s:Nat):List UInt8:=kM 4 Y++kM 2 M++kM 2 d++kM 2 h++kM 2 mi++kM 2 s
theorem dJ2 (Y M d h mi s:Nat):(wU Y M d h mi s).length=14:=by simp[wU,aW5]
theorem eJ7 (t:Int) (h0:0≤t) (h1:t≤253402300799) (Y M d h mi s:Nat) (hY:Y≤9999) (hM:M≤12) (hd:d≤31) (hh:h≤23) (hmi:mi≤59) (hse:s≤59)
  (hs:Ev (fun k=>yH.f k t) ((Y:Int),(M:Int),(d:Int),(h:Int),(mi:Int),(s:Int),true)) (hi:Ev (fun k=>zI.f k t) ((Y:Int),(M:Int),(d:Int),(h:Int),(mi:Int),(s:Int))):
  Ev (fun k=>kN.f k t) (mkB (wU Y M d h mi s))∧Ev (fun k=>xZ.f k t) (mkB (wU Y M d h mi s)):=by
 unfold wU
 have z:=aW5
 have a1:=aX3 Y 3 (by decide) (show Y<10000 by omega)
 have a2:=aX3 M 1 (by decide) (show M<100 by omega)
 have a3:=aX3 d 1 (by decide) (show d<100 by omega)
 have a4:=aX3 h 1 (by decide) (show h<100 by omega)
 have a5:=aX3 mi 1 (by decide) (show mi<100 by omega)
 have a6:=aX3 s 1 (by decide) (show s<100 by omega)
 have b1:=aK3 Y 4 (by omega) (by decide)
 have b2:=aK3 M 2 (by omega) (by decide)
 have b3:=aK3 d 2 (by omega) (by decide)
 have b4:=aK3 h 2 (by omega) (by decide)
 have b5:=aK3 mi 2 (by omega) (by decide)
 have b6:=aK3 s 2 (by omega) (by decide)
 refine⟨?_,?_⟩
 ·unfold kN.f
  refine hs.bind ?_
  simp only[if_true]
  refine a1.bind (a2.bind (Ev.ifp (by simp only[xH,qC,List.length_append,z];omega) (a3.bind (Ev.ifp (by simp only[xH,qC,List.length_append,z];omega) (a4.bind (Ev.ifp (by simp only[xH,qC,List.length_append,z];omega)
   (a5.bind (Ev.ifp (by simp only[xH,qC,List.length_append,z];omega) (a6.bind (Ev.ifp (by simp only[xH,qC,List.length_append,z];omega) ?_))))))))))
  simp only[xH]
  exact Ev.now _
 ·have ht:jS.f t=some true:=by
   unfold jS.f;rw[aJ3]
   rw[decide_eq_true h0,decide_eq_true h1];rfl
  have en:(⟨#[]⟩:ByteArray)=mkB []:=rfl
  unfold xZ.f vO.f
  refine Ev.bind (a:=mkB (kM 4 Y++kM 2 M++kM 2 d++kM 2 h++kM 2 mi++kM 2 s)) ?_ (Ev.now _)
  simp only[ht,Option.bind_some,if_true,en]
  refine hi.bind ?_
  refine b1.bind (Ev.ifp (by simp only[xH,qC,List.length_append,List.length_nil,z];omega) (b2.bind (Ev.ifp (by simp only[xH,qC,List.length_append,List.length_nil,z];omega) (Ev.ifp (by simp only[xH,qC,List.length_append,List.length_nil,z];omega)
   (b3.bind (Ev.ifp (by simp only[xH,qC,List.length_append,List.length_nil,z];omega) (Ev.ifp (by simp only[xH,qC,List.length_append,List.length_nil,z];omega)
   (b4.bind (Ev.ifp (by simp only[xH,qC,List.length_append,List.length_nil,z];omega) (Ev.ifp (by simp only[xH,qC,List.length_append,List.length_nil,z];omega)
   (b5.bind (Ev.ifp (by simp only[xH,qC,List.length_append,List.length_nil,z];omega) (Ev.ifp (by simp only[xH,qC,List.length_append,List.length_nil,z];omega)
   (b6.bind (Ev.ifp (by simp only[xH,qC,List.length_append,List.length_nil,z];omega) (Ev.ifp (by simp only[xH,qC,List.length_append,List.length_nil,z];omega) ?_))))))))))))))))
  simp only[xH,List.append_nil]
  exact Ev.now _
def aK9 (key S:List UInt8) (c:UInt8) (m:List UInt8) (st:Nat) (lab:List UInt8) (e:UInt8) (sg at_ sz:Nat):List UInt8:=
 key++ [32]++S++ [32,c,32]++m++ [32]++Lib.decDigits st++ [32]++lab++ [32,e,32]++Lib.decDigits sg++ [32]++Lib.decDigits at_++ [32]++Lib.decDigits sz
theorem aQ8 (n:Nat) (h:n≤1000000):(Lib.decDigits n).length≤15:=by rw[Lib.decDigits_length];exact aJ2 _ (by omega)
theorem cZ6 (key S m lab:List UInt8) (t sd:Int) (c e:UInt8) (rv:Bool) (st sg at_ sz:Nat) (h1:key.length≤1048576) (h2:m.length≤1048576) (h3:lab.length≤1048576) (n1:st≤1000000) (n2:sg≤1000000) (n3:at_≤1000000) (n4:sz≤1000000)
  (hS:Ev (fun k=>kN.f k t) (mkB S)) (hz:S.length=14):
  Ev (fun k=>jH.j1 k (mkB [32,c,32]) (mkB [32,e,32]) (mkB key) t sd (mkB m) st (mkB lab) rv sg at_ sz) (mkB (aK9 key S c m st lab e sg at_ sz)):=by
 have d1:=aQ8 st n1
 have d2:=aQ8 sg n2
 have d3:=aQ8 at_ n3
 have d4:=aQ8 sz n4
 have a1:=aK1 st (by omega)
 have a2:=aK1 sg (by omega)
 have a3:=aK1 at_ (by omega)
 have a4:=aK1 sz (by omega)
 refine Ev.step (fun k=>by rw[jH.j1]) ?_
 simp only[show(⟨#[32]⟩:ByteArray)=mkB [32]from rfl]
 refine Ev.ifp (by rw[qC];omega) (hS.bind ?_)
 simp only[xH,qC]
 refine Ev.ifp (by simp only[List.length_append,List.length_cons,List.length_nil];omega) (Ev.ifp (by simp only[List.length_append,List.length_cons,List.length_nil];omega) (Ev.ifp (by simp only[List.length_append,List.length_cons,List.length_nil];omega) (Ev.ifp (by simp only[List.length_append,List.length_cons,List.length_nil];omega) (a1.bind ?_))))
 simp only[xH,qC]
 refine Ev.ifp (by simp only[List.length_append,List.length_cons,List.length_nil];omega) (Ev.ifp (by simp only[List.length_append,List.length_cons,List.length_nil];omega) (Ev.ifp (by simp only[List.length_append,List.length_cons,List.length_nil];omega) (Ev.ifp (by simp only[List.length_append,List.length_cons,List.length_nil];omega) (a2.bind ?_))))
 simp only[xH,qC]
 refine Ev.ifp (by simp only[List.length_append,List.length_cons,List.length_nil];omega) (Ev.ifp (by simp only[List.length_append,List.length_cons,List.length_nil];omega) (a3.bind ?_))
 simp only[xH,qC]
 refine Ev.ifp (by simp only[List.length_append,List.length_cons,List.length_nil];omega) (Ev.ifp (by simp only[List.length_append,List.length_cons,List.length_nil];omega) (a4.bind ?_))
 simp only[xH,qC]
 refine Ev.ifp (by simp only[List.length_append,List.length_cons,List.length_nil];omega) ?_
 exact Ev.now _
theorem cV4 (key S m lab:List UInt8) (t sd:Int) (c e:UInt8) (rv:Bool) (st sg at_ sz:Nat) (h1:key.length≤1048576) (h2:m.length≤1048576) (h3:lab.length≤1048576) (n1:st≤1000000) (n2:sg≤1000000) (n3:at_≤1000000) (n4:sz≤1000000)
  (hS:Ev (fun k=>xZ.f k t) (mkB S)) (hz:S.length=14):
  Ev (fun k=>kE.j1 k (mkB [c]) (mkB [e]) (mkB key) t sd (mkB m) st (mkB lab) rv sg at_ sz) (mkB (aK9 key S c m st lab e sg at_ sz)):=by
 have d1:=aQ8 st n1
 have d2:=aQ8 sg n2
 have d3:=aQ8 at_ n3
 have d4:=aQ8 sz n4
 refine Ev.step (fun k=>by rw[kE.j1]) ?_
 refine hS.bind ?_
 have hj:strings_Join.f (([mkB key,mkB S,mkB [c],mkB m,mkB (Lib.decDigits st),mkB lab,mkB [e],mkB (Lib.decDigits sg),mkB (Lib.decDigits at_),mkB (Lib.decDigits sz)]:List ByteArray)) (⟨#[32]⟩:ByteArray)=some (mkB (aK9 key S c m st lab e sg at_ sz)):=by
  unfold strings_Join.f
  have e1:(⟨#[32]⟩:ByteArray).data.toList= [32]:=rfl
  have e2: ∀l:List UInt8,(mkB l).data.toList=l:=xY
  have e3:Lib.join ([key,S,[c],m,Lib.decDigits st,lab,[e],Lib.decDigits sg,Lib.decDigits at_,Lib.decDigits sz]) [32]=aK9 key S c m st lab e sg at_ sz:=by
   rw[Lib.join_cons,Lib.joinTail,aK9]
   simp[List.append_assoc]
  simp only[List.map_cons,List.map_nil,e1,e2,e3]
  rw[if_pos ⟨by simp only[List.length_cons,List.length_nil];omega,by simp only[aK9,List.length_append,List.length_cons,List.length_nil];omega⟩]
  rfl
 simp only[bK4 _ (show st≤999999999999999 by omega),bK4 _ (show sg≤999999999999999 by omega),bK4 _ (show at_≤999999999999999 by omega),bK4 _ (show sz≤999999999999999 by omega),Option.bind_some,hj]
 exact Ev.now _
theorem fV0 {key:List UInt8} {t side:Int} {m:List UInt8} {st:Int} {lab:List UInt8} {seg at_ sz:Int} (h:cV0 key t side m st lab seg at_ sz=true):
  (0≤t∧t≤253402300799)∧(side=0∨side=1)∧m.length≤20∧(200≤st∧st≤599)∧aY8 lab=true∧(0≤seg∧seg<40)∧(0≤at_∧at_≤60000)∧(0≤sz∧sz≤60000):=by
 unfold cV0 cZ0 bW6 at h
 simp only[Bool.and_eq_true,Bool.or_eq_true,decide_eq_true_eq]at h
 refine⟨by omega,by omega,by omega,by omega,?_,by omega,by omega,by omega⟩
 simp only[h]
def qY (y:Int):Nat→Int
 |0=>0
 |n+1=>qY y n+yX y ((n:Int)+1)
theorem aJ9 (y:Int): ∀n:Nat,28*(n:Int)≤qY y n∧qY y n≤31*(n:Int)
 |0=>by simp[qY]
 |n+1=>by
  have h:=aJ9 y n
  have hm:=yV y ((n:Int)+1)
  rw[qY];omega
theorem aW7 (y:Int): ∀(n j:Nat) (m:Int),zT y (n+j) m=zT y n m+zT y j (m+n)
 |0,j,m=>by simp[zT]
 |n+1,j,m=>by
  have h:=aW7 y n j (m+1)
  have e:n+1+j=(n+j)+1:=by omega
  rw[e,zT,zT,h,show m+1+(n:Int)=m+((n+1:Nat):Int)by omega];omega
theorem cY2 (y:Int): ∀n:Nat,zT y n 1=qY y n
 |0=>rfl
 |n+1=>by
  have h:=aW7 y n 1 1
  rw[cY2 y n]at h
  rw[h,qY]
  simp only[zT]
  rw[show(1:Int)+(n:Int)=(n:Int)+1 by omega];omega
theorem aY9 (y:Int): ∀(n:Nat) (m:Int),0≤zT y n m
 |0,m=>by simp[zT]
 |n+1,m=>by
  have h:=aY9 y n (m+1)
  have hm:=yV y m
  rw[zT];omega
theorem fV5 (y r:Int): ∀(n j:Nat) (m:Int),0≤r→r<yX y (m+n)→wZ y (n+(j+1)) (zT y n m+r) m=(r,m+n)
 |0,j,m,h0,h1=>by
  have e:zT y 0 m+r=r:=by simp[zT]
  have e2:m+((0:Nat):Int)=m:=by simp
  rw[e2]at h1
  rw[Nat.zero_add,e,wZ,if_neg (by omega),e2]
 |n+1,j,m,h0,h1=>by
  have hn:=aY9 y n (m+1)
  have e:n+1+(j+1)=(n+(j+1))+1:=by omega
  have e2:m+((n+1:Nat):Int)=m+1+(n:Int):=by omega
  rw[e2]at h1
  have ih:=fV5 y r n j (m+1) h0 h1
  rw[e,wZ,zT,if_pos (by omega),show yX y m+zT y n (m+1)+r-yX y m=zT y n (m+1)+r by omega,ih,e2]
def aK4 (Y:Int) (n:Nat) (d h mi s:Int):Int:=(((kO Y+qY Y n+d-1)*24+h)*60+mi)*60+s
theorem cK5 (Y d h mi s x5:Int) (h0:0≤Y) (hh:0≤h∧h≤23) (hm:0≤mi∧mi≤59) (hs:0≤s∧s≤59) (hb:0≤kO Y∧kO Y≤3000000) (hd:1≤d∧d≤31) (n:Nat) (hn:n≤11): ∀(j i:Nat),i+j=n→
  Ev (fun k=>zG.l1 k (kO Y+qY Y i+d-1) ((i:Int)+1) Y ((n:Int)+1) d h mi s) (aK4 Y n d h mi s,true)
 |0,i,e=>by
  have hp:=aJ9 Y n
  obtain rfl:i=n:=by omega
  refine Ev.step (f:=fun _=>some (aK4 Y i d h mi s,true)) (fun k=>?_) (Ev.now _)
  rw[zG.l1,if_neg (by omega)]
  unfold aK4
  obtain⟨X,hX⟩: ∃X,kO Y+qY Y i+d-1=X:=⟨_,rfl⟩
  have hX1:0≤X∧X≤3001000:=by omega
  rw[hX,wid (X*24) (by omega) (by omega),wid (X*24+h) (by omega) (by omega),wid ((X*24+h)*60) (by omega) (by omega),wid ((X*24+h)*60+mi) (by omega) (by omega),wid (((X*24+h)*60+mi)*60) (by omega) (by omega),wid (((X*24+h)*60+mi)*60+s) (by omega) (by omega)]
 |j+1,i,e=>by
  have hp:=aJ9 Y i
  have hmm:=yV Y ((i:Int)+1)
  have ih:=cK5 Y d h mi s x5 h0 hh hm hs hb hd n hn j (i+1) (by omega)
  refine Ev.step (fun k=>?_) ih
  rw[zG.l1,if_pos (by omega),bW0 Y _ h0,Option.bind_some,wid _ (by omega) (by omega),wid _ (by omega) (by omega),qY]
  rw[show kO Y+qY Y i+d-1+yX Y ((i:Int)+1)=kO Y+(qY Y i+yX Y ((i:Int)+1))+d-1 by omega,show((i:Int)+1+1)=((i+1:Nat):Int)+1 by omega]
theorem cQ5 (Y M d h mi s:Int) (hY:Y≤9999) (hd:1≤d∧d≤31) (hb:kO Y≤3000000) {r:Int×Bool} (hr:Ev (fun k=>zG.l1 k (kO Y+d-1) 1 Y M d h mi s) r): ∀(j:Nat) (y:Int),y+j=Y→1970≤y→0≤kO y→
  Ev (fun k=>zG.l0 k (kO y+d-1) y Y M d h mi s) r
 |0,y,e,h0,hp=>by
  have e2:y=Y:=by omega
  rw[e2]
  exact Ev.step (fun k=>by rw[zG.l0,if_neg (by omega)]) hr
 |j+1,y,e,h0,hp=>by
  have hu:=bQ1 y
  have hy:=bW4 y
  have hle:=aK5 (y+1) j
  rw[show y+1+(j:Int)=Y by omega]at hle
  have ih:=cQ5 Y M d h mi s hY hd hb hr j (y+1) (by omega) (by omega) (by omega)
  refine Ev.step (fun k=>?_) ih
  rw[zG.l0,if_pos (by omega),bK2 y (by omega),Option.bind_some,wid _ (by omega) (by omega),wid _ (by omega) (by omega),show kO y+d-1+bZ2 y=kO (y+1)+d-1 by omega]
theorem cK3 (Y d h mi s:Int) (h0:0≤Y) (hh:0≤h∧h≤23) (hm:0≤mi∧mi≤59) (hs:0≤s∧s≤59) (hb:0≤kO Y∧kO Y≤3000000) (hd:1≤d∧d≤31) (n:Nat) (hn:n≤11): ∀(j i:Nat),i+j=n→
  Ev (fun k=>yL.l0 k (kO Y+qY Y i+d-1) ((i:Int)+1) Y ((n:Int)+1) d h mi s) (aK4 Y n d h mi s,true)
 |0,i,e=>by
  have hp:=aJ9 Y n
  obtain rfl:i=n:=by omega
  refine Ev.step (f:=fun _=>some (aK4 Y i d h mi s,true)) (fun k=>?_) (Ev.now _)
  rw[yL.l0,if_neg (by omega)]
  unfold aK4
  obtain⟨X,hX⟩: ∃X,kO Y+qY Y i+d-1=X:=⟨_,rfl⟩
  have hX1:0≤X∧X≤3001000:=by omega
  rw[hX,wid (86400*X) (by omega) (by omega),wid (3600*h) (by omega) (by omega),wid (60*mi) (by omega) (by omega),wid (86400*X+3600*h) (by omega) (by omega),wid (86400*X+3600*h+60*mi) (by omega) (by omega),wid (86400*X+3600*h+60*mi+s) (by omega) (by omega),
   show 86400*X+3600*h+60*mi+s=((X*24+h)*60+mi)*60+s by omega]
 |j+1,i,e=>by
  have hp:=aJ9 Y i
  have hmm:=yV Y ((i:Int)+1)
  have ih:=cK3 Y d h mi s h0 hh hm hs hb hd n hn j (i+1) (by omega)
  refine Ev.step (f:=fun k=>(yG.f k Y ((i:Int)+1)).bind fun t=>yL.l0 k (wrap64 (kO Y+qY Y i+d-1+t)) (wrap64 ((i:Int)+1+1)) Y ((n:Int)+1) d h mi s) (fun k=>?_) ?_
  ·rw[yL.l0,if_pos (by omega)]
  ·refine(aZ6 Y _ h0).bind ?_
   rw[wid _ (by omega) (by omega),wid _ (by omega) (by omega),show kO Y+qY Y i+d-1+yX Y ((i:Int)+1)=kO Y+qY Y (i+1)+d-1 by rw[qY];omega,show((i:Int)+1+1)=((i+1:Nat):Int)+1 by omega]
   exact ih
theorem secD_day (Y:Int) (n:Nat) (d h mi s:Int) (hh:0≤h∧h≤23) (hm:0≤mi∧mi≤59) (hs:0≤s∧s≤59):
  aK4 Y n d h mi s/86400=kO Y+qY Y n+d-1∧aK4 Y n d h mi s/3600%24=h∧aK4 Y n d h mi s/60%60=mi∧aK4 Y n d h mi s%60=s:=by
 unfold aK4
 obtain⟨X,hX⟩: ∃X,kO Y+qY Y n+d-1=X:=⟨_,rfl⟩
 rw[hX]
 omega
theorem dX1 (Y:Int) (n:Nat) (d h mi s:Int) (hY:1970≤Y∧Y≤9999) (hn:n≤11) (hd:1≤d∧d≤yX Y ((n:Int)+1)) (hh:0≤h∧h≤23) (hm:0≤mi∧mi≤59) (hs:0≤s∧s≤59):
  (0≤aK4 Y n d h mi s∧aK4 Y n d h mi s≤253402300799)∧Ev (fun k=>yH.f k (aK4 Y n d h mi s)) (Y,(n:Int)+1,d,h,mi,s,true)∧Ev (fun k=>zI.f k (aK4 Y n d h mi s)) (Y,(n:Int)+1,d,h,mi,s):=by
 obtain⟨e1,e2,e3,e4⟩:=secD_day Y n d h mi s hh hm hs
 have hp:=aJ9 Y n
 have hmm:=yV Y ((n:Int)+1)
 have h12:=cJ8 Y
 have hsp:=aW7 Y n (11-n) 1
 have hsp2:=aW7 Y (n+1) (11-n) 1
 rw[show n+1+(11-n)=12 by omega,cY2 Y (n+1),qY]at hsp2
 have hnn:=aY9 Y (11-n) (1+((n+1:Nat):Int))
 have hup:=bQ1 Y
 have hB0:0≤kO Y:=by
  have:=aK5 1970 (Y-1970).toNat
  rw[show(1970:Int)+((Y-1970).toNat:Int)=Y by omega]at this
  have:=bY3;omega
 have hB1:kO (Y+1)≤2932897:=by
  have:=aK5 (Y+1) (10000-(Y+1)).toNat
  rw[show Y+1+((10000-(Y+1)).toNat:Int)=10000 by omega]at this
  have e:kO 10000=2932897:=by decide
  omega
 have y2:kO Y≤aK4 Y n d h mi s/86400:=by omega
 have y3:aK4 Y n d h mi s/86400<kO (Y+1):=by omega
 have t0:0≤aK4 Y n d h mi s:=by omega
 have t1:aK4 Y n d h mi s≤253402300799:=by omega
 obtain⟨_,_,c1,c2⟩:=civil_at _ Y t0 t1 hY.1 hY.2 y2 y3
 have hg:wZ Y 12 (aK4 Y n d h mi s/86400-kO Y) 1=(d-1,1+(n:Int)):=by
  have:=fV5 Y (d-1) n (11-n) 1 (by omega) (by rw[show(1:Int)+(n:Int)=(n:Int)+1 by omega];omega)
  rw[show n+(11-n+1)=12 by omega,cY2]at this
  rw[←this,e1];congr 1;omega
 rw[hg,e2,e3,e4]at c1 c2
 have ed:d-1+1=d:=by omega
 have en:(1:Int)+(n:Int)=(n:Int)+1:=by omega
 simp only[ed,en]at c1 c2
 exact⟨⟨t0,t1⟩,c1,c2⟩
theorem gV1 (t:Int) (h0:0≤t) (h1:t≤253402300799): ∃(Y:Int) (n:Nat) (d h mi s:Int),t=aK4 Y n d h mi s∧(1970≤Y∧Y≤9999)∧n≤11∧(1≤d∧d≤yX Y ((n:Int)+1))∧(0≤h∧h≤23)∧(0≤mi∧mi≤59)∧(0≤s∧s≤59):=by
 obtain⟨Y,y0,y1,y2,y3⟩:=yr_ex (t/86400) (by omega) (by omega)
 have hup:=bQ1 Y
 have h12:=cJ8 Y
 have key: ∀(k:Nat) (x:Int),k≤12→0≤x→x<zT Y k (((12-k:Nat):Int)+1)→ ∃n:Nat,12-k≤n∧n≤11∧qY Y n≤x+qY Y (12-k)∧x+qY Y (12-k)<qY Y n+yX Y ((n:Int)+1):=by
  intro k
  induction k with
  |zero=>intro x _ hx0 hx;simp[zT]at hx;omega
  |succ k ih=>
   intro x hk hx0 hx
   rw[zT]at hx
   by_cases c:x<yX Y (((12-(k+1):Nat):Int)+1)
   ·exact⟨12-(k+1),by omega,by omega,by omega,by omega⟩
   ·have e:12-k=(12-(k+1))+1:=by omega
    have ep:qY Y (12-k)=qY Y (12-(k+1))+yX Y (((12-(k+1):Nat):Int)+1):=by rw[e,qY]
    have ei:(((12-k:Nat)):Int)+1=((12-(k+1):Nat):Int)+1+1:=by omega
    obtain⟨n,a,b,c1,c2⟩:=ih (x-yX Y (((12-(k+1):Nat):Int)+1)) (by omega) (by omega) (by rw[ei];omega)
    exact⟨n,by omega,b,by omega,by omega⟩
 obtain⟨n,_,hn,c1,c2⟩:=key 12 (t/86400-kO Y) (by omega) (by omega) (by
  show _<zT Y 12 (((0:Nat):Int)+1)
  rw[show((0:Nat):Int)+1=1 by rfl,h12];omega)
 have e0:qY Y (12-12)=0:=rfl
 rw[e0]at c1 c2
 refine⟨Y,n,t/86400-kO Y-qY Y n+1,t/3600%24,t/60%60,t%60,?_,⟨y0,y1⟩,hn,⟨by omega,by omega⟩,⟨by omega,by omega⟩,⟨by omega,by omega⟩,⟨by omega,by omega⟩⟩
 unfold aK4
 rw[show kO Y+qY Y n+(t/86400-kO Y-qY Y n+1)-1=t/86400 by omega]
 omega
def aV2 (Y M d h mi s:Int):Prop:=1970≤Y∧Y≤9999∧1≤M∧M≤12∧1≤d∧d≤yX Y M∧0≤h∧h≤23∧0≤mi∧mi≤59∧0≤s∧s≤59
instance (Y M d h mi s:Int):Decidable (aV2 Y M d h mi s):=by unfold aV2;infer_instance
theorem eX2 (Y M d h mi s:Int):zF.f Y M d h mi s=some (decide (aV2 Y M d h mi s)):=by
 have no: ¬aV2 Y M d h mi s→some false=some (decide (aV2 Y M d h mi s)):=fun q=>by rw[decide_eq_false q]
 unfold zF.f
 by_cases c1:Y≥1970
 ·rw[if_pos c1]
  by_cases c2:Y≤9999
  ·rw[if_pos c2]
   by_cases c3:M≥1
   ·rw[if_pos c3]
    by_cases c4:M≤12
    ·rw[if_pos c4]
     by_cases c5:d≥1
     ·rw[if_pos c5,bW0 Y M (by omega),Option.bind_some]
      by_cases c6:d≤yX Y M
      ·rw[if_pos c6]
       by_cases c7:h≥0
       ·rw[if_pos c7]
        by_cases c8:h≤23
        ·rw[if_pos c8]
         by_cases c9:mi≥0
         ·rw[if_pos c9]
          by_cases c10:mi≤59
          ·rw[if_pos c10]
           by_cases c11:s≥0
           ·rw[if_pos c11];congr 1
            exact decide_eq_decide.2 ⟨fun q=>⟨c1,c2,c3,c4,c5,c6,c7,c8,c9,c10,c11,q⟩,fun v=>v.2.2.2.2.2.2.2.2.2.2.2⟩
           ·rw[if_neg c11];exact no fun v=>c11 v.2.2.2.2.2.2.2.2.2.2.1
          ·rw[if_neg c10];exact no fun v=>c10 v.2.2.2.2.2.2.2.2.2.1
         ·rw[if_neg c9];exact no fun v=>c9 v.2.2.2.2.2.2.2.2.1
        ·rw[if_neg c8];exact no fun v=>c8 v.2.2.2.2.2.2.2.1
       ·rw[if_neg c7];exact no fun v=>c7 v.2.2.2.2.2.2.1
      ·rw[if_neg c6];exact no fun v=>c6 v.2.2.2.2.2.1
     ·rw[if_neg c5];exact no fun v=>c5 v.2.2.2.2.1
    ·rw[if_neg c4];exact no fun v=>c4 v.2.2.2.1
   ·rw[if_neg c3];exact no fun v=>c3 v.2.2.1
  ·rw[if_neg c2];exact no fun v=>c2 v.2.1
 ·rw[if_neg c1];exact no fun v=>c1 v.1
theorem eZ1 (Y M d h mi s:Int):Ev (fun k=>vH.f k Y M d h mi s) (decide (aV2 Y M d h mi s)):=by
 have no: ¬aV2 Y M d h mi s→Ev (fun _:Nat=>some false) (decide (aV2 Y M d h mi s)):=fun q=>by rw[decide_eq_false q];exact Ev.now _
 have bd: ∀a b x:Int,(decide (a≤x)&&decide (x≤b))=true↔a≤x∧x≤b:=fun a b x=>by simp
 unfold vH.f
 simp only[aJ3,Option.bind_some]
 by_cases c1:1970≤Y∧Y≤9999
 ·simp only[(bd 1970 9999 Y).2 c1,if_true]
  by_cases c2:1≤M∧M≤12
  ·simp only[(bd 1 12 M).2 c2,if_true]
   refine(aZ6 Y M (by omega)).bind ?_
   by_cases c3:1≤d∧d≤yX Y M
   ·simp only[(bd 1 (yX Y M) d).2 c3,if_true]
    by_cases c4:0≤h∧h≤23
    ·simp only[(bd 0 23 h).2 c4,if_true]
     by_cases c5:0≤mi∧mi≤59
     ·simp only[(bd 0 59 mi).2 c5,if_true]
      have e:(decide (0≤s)&&decide (s≤59))=decide (aV2 Y M d h mi s):=by
       rw[←Bool.decide_and]
       exact decide_eq_decide.2 ⟨fun q=>⟨c1.1,c1.2,c2.1,c2.2,c3.1,c3.2,c4.1,c4.2,c5.1,c5.2,q.1,q.2⟩,fun v=>v.2.2.2.2.2.2.2.2.2.2⟩
      rw[e];exact Ev.now _
     ·simp only[Bool.eq_false_iff.2 (fun q=>c5 ((bd 0 59 mi).1 q)),Bool.false_eq_true,if_false];exact no fun v=>c5 ⟨v.2.2.2.2.2.2.2.2.1,v.2.2.2.2.2.2.2.2.2.1⟩
    ·simp only[Bool.eq_false_iff.2 (fun q=>c4 ((bd 0 23 h).1 q)),Bool.false_eq_true,if_false];exact no fun v=>c4 ⟨v.2.2.2.2.2.2.1,v.2.2.2.2.2.2.2.1⟩
   ·simp only[Bool.eq_false_iff.2 (fun q=>c3 ((bd 1 (yX Y M) d).1 q)),Bool.false_eq_true,if_false];exact no fun v=>c3 ⟨v.2.2.2.2.1,v.2.2.2.2.2.1⟩
  ·simp only[Bool.eq_false_iff.2 (fun q=>c2 ((bd 1 12 M).1 q)),Bool.false_eq_true,if_false];exact no fun v=>c2 ⟨v.2.2.1,v.2.2.2.1⟩
 ·simp only[Bool.eq_false_iff.2 (fun q=>c1 ((bd 1970 9999 Y).1 q)),Bool.false_eq_true,if_false];exact no fun v=>c1 ⟨v.1,v.2.1⟩
def dK2 (Y M d h mi s:Int):Int×Bool:=if aV2 Y M d h mi s then(aK4 Y (M-1).toNat d h mi s,true)else(0,false)
theorem dW3 (Y:Int) (h0:1970≤Y) (h1:Y≤9999):0≤kO Y∧kO Y≤3000000:=by
 have a:=aK5 1970 (Y-1970).toNat
 rw[show(1970:Int)+((Y-1970).toNat:Int)=Y by omega,bY3]at a
 have b:=aK5 Y (10000-Y).toNat
 rw[show Y+((10000-Y).toNat:Int)=10000 by omega]at b
 have e:kO 10000=2932897:=by decide
 omega
theorem fZ2 (Y M d h mi s:Int):Ev (fun k=>zG.f k Y M d h mi s) (dK2 Y M d h mi s):=by
 unfold zG.f dK2
 rw[eX2]
 simp only[Option.bind_some]
 by_cases v:aV2 Y M d h mi s
 ·simp only[decide_eq_true v,if_pos v,if_true]
  obtain⟨c1,c2,c3,c4,c5,c6,c7,c8,c9,c10,c11,c12⟩:=v
  have hm:=yV Y M
  have hb:=dW3 Y c1 c2
  obtain⟨n,hn⟩: ∃n:Nat,M=(n:Int)+1:=⟨(M-1).toNat,by omega⟩
  have hm1:=cK5 Y d h mi s 0 (by omega) ⟨c7,c8⟩ ⟨c9,c10⟩ ⟨c11,c12⟩ hb ⟨c5,by omega⟩ n (by omega) n 0 (by omega)
  rw[show kO Y+qY Y 0+d-1=kO Y+d-1 by simp[qY],show(((0:Nat):Int)+1)=1 by rfl]at hm1
  have hy:=cQ5 Y ((n:Int)+1) d h mi s c2 ⟨c5,by omega⟩ hb.2 hm1 (Y-1970).toNat 1970 (by omega) (by omega) (by rw[bY3];omega)
  rw[bY3]at hy
  rw[hn,wid (d-1) (by omega) (by omega),show((n:Int)+1-1).toNat=n by omega]
  rw[show(0:Int)+d-1=d-1 by omega]at hy
  exact hy
 ·simp only[decide_eq_false v,if_neg v,Bool.false_eq_true,if_false];exact Ev.now _
theorem fK2 (Y M d h mi s:Int):Ev (fun k=>yL.f k Y M d h mi s) (dK2 Y M d h mi s):=by
 unfold yL.f dK2
 refine(eZ1 Y M d h mi s).bind ?_
 by_cases v:aV2 Y M d h mi s
 ·simp only[decide_eq_true v,if_pos v,if_true]
  obtain⟨c1,c2,c3,c4,c5,c6,c7,c8,c9,c10,c11,c12⟩:=v
  have hm:=yV Y M
  have hb:=dW3 Y c1 c2
  obtain⟨n,hn⟩: ∃n:Nat,M=(n:Int)+1:=⟨(M-1).toNat,by omega⟩
  have hm1:=cK3 Y d h mi s (by omega) ⟨c7,c8⟩ ⟨c9,c10⟩ ⟨c11,c12⟩ hb ⟨c5,by omega⟩ n (by omega) n 0 (by omega)
  rw[show kO Y+qY Y 0+d-1=kO Y+d-1 by simp[qY],show(((0:Nat):Int)+1)=1 by rfl]at hm1
  rw[bX0 Y c1 (by omega)]
  simp only[Option.bind_some]
  rw[hn,wid (kO Y+d) (by omega) (by omega),wid (kO Y+d-1) (by omega) (by omega),show((n:Int)+1-1).toNat=n by omega]
  exact hm1
 ·simp only[decide_eq_false v,if_neg v,Bool.false_eq_true,if_false];exact Ev.now _
theorem eY0 (b:UInt8):kL.f (b.toNat:Int)=some (vP b):=by
 unfold kL.f vP
 by_cases h1:48≤b.toNat
 ·rw[if_pos (by omega),decide_eq_true h1,Bool.true_and];congr 1;exact decide_eq_decide.2 (by omega)
 ·rw[if_neg (by omega),decide_eq_false h1,Bool.false_and]
theorem dJ5 (l:List UInt8) (hl:l.length≤1099511627776):Ev (fun k=>xG.f k (mkB l)) (l.all vP):=by
 unfold xG.f
 have:=cY9 xG.l0 (fun _=>kL.f) vP (fun b=>Ev.const (eY0 b)) (fun k s i=>by rw[xG.l0]) (mkB l) (by rw[qC];omega)
 rwa [xY]at this
theorem fK9 (l:List UInt8) (hne:l≠ []) (hall:l.all vP=true) (h2:l.length≤15):Lib.atoiAll l= .ok (qV l:Int):=by
 have hlt:=dK8 l hall h2
 have hp:Lib.parseMag l= .ok (qV l):=by
  unfold Lib.parseMag
  rw[if_neg hne,bQ0 l 0 0 hall (by decide) (by omega)];rfl
 cases l with
 |nil=>exact absurd rfl hne
 |cons c r=>
  have hc:48≤c.toNat∧c.toNat≤57:=by
   simp only[List.all_cons,Bool.and_eq_true]at hall
   have:=hall.1;simpa [vP]using this
  unfold Lib.atoiAll
  simp only[if_neg (show ¬(c.toNat=43∨c.toNat=45)by omega),hp]
  rw[if_neg (by omega),if_neg (by omega),if_neg (by omega)]
theorem aQ3 (l:List UInt8) (i j:Nat) (hij:i<j) (hj:j≤l.length) (hj2:j≤15) (hall:l.all vP=true):zJ (mkB l) (i:Int) (j:Int)=some ((qV ((l.drop i).take (j-i)):Nat):Int):=by
 unfold zJ
 rw[Int.toNat_natCast,Int.toNat_natCast,jO,show(mkB ((l.drop i).take (j-i))).data.toList=(l.drop i).take (j-i)from xY _,
  fK9 _ (fun e=>by have:=congrArg List.length e;rw[List.length_take,List.length_drop]at this;simp at this;omega)
   (by rw[List.all_eq_true]at hall ⊢;exact fun x hx=>hall x (List.mem_of_mem_drop (List.mem_of_mem_take hx))) (by rw[List.length_take];omega)]
theorem bK8: ∀(r pre:List UInt8) (acc:Nat),acc<10^pre.length→(pre++r).length≤14→
  ∃v:Int,Ev (fun k=>kH.l0 k (mkB (pre++r)) (acc:Int) pre.length) v∧(r.all vP=true→v=(aW2 acc r:Int))
 | [],pre,acc,ha,hl=>⟨(acc:Int),Ev.step (f:=fun _=>some (acc:Int)) (fun k=>by rw[kH.l0,if_neg (by rw[qC];simp)]) (Ev.now _),fun _=>rfl⟩
 |c::r,pre,acc,ha,hl=>by
  have hl':pre.length<14:=by simp at hl;omega
  have h15:(10:Nat)^pre.length≤10^14:=Nat.pow_le_pow_right (by decide) (by omega)
  have h3:(10:Nat)^14=100000000000000:=by decide
  have hcell: ∀k,kH.l0 (k+1) (mkB (pre++c::r)) (acc:Int) (pre.length:Int)=if(c.toNat:Int)=32 then kH.l0 k (mkB (pre++c::r)) ((acc:Int)*10) ((pre.length:Int)+1)else if vP c=true then kH.l0 k (mkB (pre++c::r)) (wrap64 ((acc:Int)*10+(((c.toNat:Int))-48)%256)) ((pre.length:Int)+1)else some (-1):=by
   intro k
   rw[kH.l0,if_pos (wO ..),if_pos (by omega),jR,aX8,Option.bind_some,qF (a:=(acc:Int)*10) (by omega) (by omega),qF (a:=(pre.length:Int)+1) (by omega) (by omega)]
  by_cases h32:(c.toNat:Int)=32
  ·obtain⟨v,hv,_⟩:=bK8 r (pre++ [c]) (acc*10) (by rw[List.length_append,List.length_singleton,Nat.pow_succ];omega) (by rw[←jQ];exact hl)
   rw[←jQ,zP]at hv
   refine⟨v,Ev.step (fun k=>by rw[hcell,if_pos h32]) (by rw[show((acc*10:Nat):Int)=(acc:Int)*10 by omega]at hv;exact hv),fun hd=>?_⟩
   simp only[List.all_cons,Bool.and_eq_true]at hd
   have:48≤c.toNat∧c.toNat≤57:=by have:=hd.1;simpa [vP]using this
   omega
  ·cases hd:vP c
   ·refine⟨-1,Ev.step (f:=fun _=>some (-1)) (fun k=>by rw[hcell,if_neg h32,hd,if_neg Bool.false_ne_true]) (Ev.now _),fun q=>?_⟩
    simp[hd]at q
   ·have hc:48≤c.toNat∧c.toNat≤57:=by simpa [vP]using hd
    obtain⟨v,hv,hq⟩:=bK8 r (pre++ [c]) (acc*10+(c.toNat-48)) (by rw[List.length_append,List.length_singleton,Nat.pow_succ];omega) (by rw[←jQ];exact hl)
    rw[←jQ,zP]at hv
    refine⟨v,Ev.step (fun k=>?_) hv,fun q=>?_⟩
    ·rw[hcell,if_neg h32,hd,if_pos rfl,qF (by omega) (by omega)]
     congr 1<;>omega
    ·simp only[List.all_cons,Bool.and_eq_true]at q
     exact hq q.2
theorem aV3 (l:List UInt8) (hl:l.length≤14): ∃v:Int,Ev (fun k=>kH.f k (mkB l)) v∧(l.all vP=true→v=(qV l:Int)):=by
 have:=bK8 l [] 0 (by decide) (by simpa using hl)
 simpa [kH.f,qV]using this
theorem bZ5: ∀c n,(kM c n).all vP=true
 |0,_=>rfl
 |c+1,n=>by
  rw[kM,List.all_append,bZ5 c,Bool.true_and,List.all_cons,List.all_nil,Bool.and_true]
  have:=zZ (n%10) (by omega)
  unfold vP;rw[this];simp;omega
theorem dW2: ∀(q:List UInt8),q.reverse.all vP=true→kM q.reverse.length (qV q.reverse)=q.reverse
 | [],_=>rfl
 |c::q,h=>by
  have ih:=dW2 q
  rw[List.reverse_cons]at h ⊢
  generalize q.reverse=r at*
  rw[List.all_append,Bool.and_eq_true]at h
  have hc:48≤c.toNat∧c.toNat≤57:=by have:=h.2;simpa [vP]using this
  have e:qV (r++ [c])=qV r*10+(c.toNat-48):=by unfold qV;rw[bK0];rfl
  rw[List.length_append,List.length_singleton,kM,e,show(qV r*10+(c.toNat-48))/10=qV r by omega,show(qV r*10+(c.toNat-48))%10=c.toNat-48 by omega,ih h.1]
  congr 2
  apply UInt8.toNat.inj
  rw[zZ _ (by omega)];omega
theorem aY5 (m:List UInt8) (h:m.all vP=true):kM m.length (qV m)=m:=by
 have:=dW2 m.reverse
 rw[List.reverse_reverse]at this
 exact this h
def rsR (l:List UInt8):Int×Bool:=if l.length=14∧l.all vP=true then dK2 (qV (l.take 4)) (qV ((l.drop 4).take 2)) (qV ((l.drop 6).take 2)) (qV ((l.drop 8).take 2)) (qV ((l.drop 10).take 2)) (qV ((l.drop 12).take 2))else(0,false)
theorem fX6 (l:List UInt8) (hl:l.length≤1099511627776):Ev (fun k=>wM.f k (mkB l)) (rsR l):=by
 unfold wM.f rsR
 rw[qC]
 by_cases hz:l.length=14
 ·simp only[if_pos (show(l.length:Int)=14 by omega)]
  refine(dJ5 l hl).bind ?_
  cases hd:l.all vP
  ·simp only[Bool.false_eq_true,and_false,if_false];exact Ev.now _
  ·have e0:=aQ3 l 0 4 (by omega) (by omega) (by omega) hd
   have e1:=aQ3 l 4 6 (by omega) (by omega) (by omega) hd
   have e2:=aQ3 l 6 8 (by omega) (by omega) (by omega) hd
   have e3:=aQ3 l 8 10 (by omega) (by omega) (by omega) hd
   have e4:=aQ3 l 10 12 (by omega) (by omega) (by omega) hd
   have e5:=aQ3 l 12 14 (by omega) (by omega) (by omega) hd
   simp only[if_true,and_true,if_pos hz]
   rw[show zJ (mkB l) 0 4=_ from e0,show zJ (mkB l) 4 6=_ from e1,show zJ (mkB l) 6 8=_ from e2,show zJ (mkB l) 8 10=_ from e3,show zJ (mkB l) 10 12=_ from e4,show zJ (mkB l) 12 14=_ from e5]
   simp only[Option.bind_some,List.drop_zero]
   exact fK2 _ _ _ _ _ _
 ·simp only[if_neg (show ¬(l.length:Int)=14 by omega),hz,false_and,if_false];exact Ev.now _
theorem fV6 (Y M d v3 v4 v5:Int) (x8 x9 x10 x11 x12 x13:UInt8) (h3:Ev (fun k=>kH.f k (mkB [x8,x9])) v3) (h4:Ev (fun k=>kH.f k (mkB [x10,x11])) v4) (h5:Ev (fun k=>kH.f k (mkB [x12,x13])) v5):
  Ev (fun k=>qS.f k Y M d (mkB [x8,x9,58,x10,x11,58,x12,x13])) (if(dK2 Y M d v3 v4 v5).2=true then(dK2 Y M d v3 v4 v5).1 else-1):=by
 have hz:(mkB [x8,x9,58,x10,x11,58,x12,x13]).size=8:=rfl
 have e1:(mkB [x8,x9,58,x10,x11,58,x12,x13]).extract 0 2=mkB [x8,x9]:=by rw[jO];rfl
 have e2:(mkB [x8,x9,58,x10,x11,58,x12,x13]).extract 3 5=mkB [x10,x11]:=by rw[jO];rfl
 have e3:(mkB [x8,x9,58,x10,x11,58,x12,x13]).extract 6 8=mkB [x12,x13]:=by rw[jO];rfl
 unfold qS.f
 simp only[e1,e2,e3,hz]
 refine Ev.ifp (by decide) (Ev.ifp (by decide) (h3.bind (Ev.ifp (by decide) (Ev.ifp (by decide) (h4.bind (Ev.ifp (by decide) (Ev.ifp (by decide) (h5.bind ((fZ2 Y M d v3 v4 v5).bind ?_)))))))))
 cases(dK2 Y M d v3 v4 v5).2
 ·simp only[Bool.false_eq_true,if_false];exact Ev.now _
 ·simp only[if_true];exact Ev.now _
theorem eK2:Ev (fun k=>kN.f k (-1)) (⟨#[]⟩:ByteArray):=by
 have ht:zQ.f (-1)=some false:=by unfold zQ.f;rw[if_neg (by decide)]
 unfold kN.f yH.f
 simp only[ht,Option.bind_some,Bool.false_eq_true,if_false]
 exact Ev.now _
theorem fZ8 (l:List UInt8):Ev (fun k=>xM.f k (mkB l)) (rsR l):=by
 unfold xM.f
 rw[qC]
 by_cases hz:l.length=14
 ·match l,hz with
  | [x0,x1,x2,x3,x4,x5,x6,x7,x8,x9,x10,x11,x12,x13],_=>
   have hL:([x0,x1,x2,x3,x4,x5,x6,x7,x8,x9,x10,x11,x12,x13]:List UInt8).length=14:=rfl
   have e0:(mkB [x0,x1,x2,x3,x4,x5,x6,x7,x8,x9,x10,x11,x12,x13]).extract 0 4=mkB [x0,x1,x2,x3]:=by rw[jO];rfl
   have e1:(mkB [x0,x1,x2,x3,x4,x5,x6,x7,x8,x9,x10,x11,x12,x13]).extract 4 6=mkB [x4,x5]:=by rw[jO];rfl
   have e2:(mkB [x0,x1,x2,x3,x4,x5,x6,x7,x8,x9,x10,x11,x12,x13]).extract 6 8=mkB [x6,x7]:=by rw[jO];rfl
   have e3:(mkB [x0,x1,x2,x3,x4,x5,x6,x7,x8,x9,x10,x11,x12,x13]).extract 8 10=mkB [x8,x9]:=by rw[jO];rfl
   have e4:(mkB [x0,x1,x2,x3,x4,x5,x6,x7,x8,x9,x10,x11,x12,x13]).extract 10 12=mkB [x10,x11]:=by rw[jO];rfl
   have e5:(mkB [x0,x1,x2,x3,x4,x5,x6,x7,x8,x9,x10,x11,x12,x13]).extract 12 14=mkB [x12,x13]:=by rw[jO];rfl
   have eA:((((mkB [x8,x9])++(⟨#[58]⟩:ByteArray))++(mkB [x10,x11]))++(⟨#[58]⟩:ByteArray))++(mkB [x12,x13])=mkB [x8,x9,58,x10,x11,58,x12,x13]:=by
    rw[show(⟨#[58]⟩:ByteArray)=mkB [58]from rfl,xH,xH,xH,xH];rfl
   obtain⟨v0,n0,d0⟩:=aV3 [x0,x1,x2,x3] (by simp)
   obtain⟨v1,n1,d1⟩:=aV3 [x4,x5] (by simp)
   obtain⟨v2,n2,d2⟩:=aV3 [x6,x7] (by simp)
   obtain⟨v3,n3,d3⟩:=aV3 [x8,x9] (by simp)
   obtain⟨v4,n4,d4⟩:=aV3 [x10,x11] (by simp)
   obtain⟨v5,n5,d5⟩:=aV3 [x12,x13] (by simp)
   have hat:=fV6 v0 v1 v2 v3 v4 v5 x8 x9 x10 x11 x12 x13 n3 n4 n5
   have zc:(⟨#[58]⟩:ByteArray).size=1:=rfl
   simp only[hL,e0,e1,e2,e3,e4,e5,eA]
   refine Ev.ifp (by decide) (Ev.ifp (by decide) (Ev.ifp (by decide) (n0.bind (Ev.ifp (by decide) (Ev.ifp (by decide) (n1.bind (Ev.ifp (by decide) (Ev.ifp (by decide) (n2.bind (Ev.ifp (by decide) (Ev.ifp (by decide)
    (Ev.ifp (by simp[qC]) (Ev.ifp (by decide) (Ev.ifp (by decide) (Ev.ifp (by simp[qC,ByteArray.size_append,zc]) (Ev.ifp (by simp[qC,ByteArray.size_append,zc]) (Ev.ifp (by decide) (Ev.ifp (by decide) (Ev.ifp (by simp[qC,ByteArray.size_append,zc]) (hat.bind ?_))))))))))))))))))))
   have dg:([x0,x1,x2,x3,x4,x5,x6,x7,x8,x9,x10,x11,x12,x13]:List UInt8).all vP=true↔([x0,x1,x2,x3]:List UInt8).all vP=true∧([x4,x5]:List UInt8).all vP=true∧([x6,x7]:List UInt8).all vP=true∧([x8,x9]:List UInt8).all vP=true∧([x10,x11]:List UInt8).all vP=true∧([x12,x13]:List UInt8).all vP=true:=by
    simp only[List.all_cons,List.all_nil,Bool.and_eq_true,Bool.and_true]
    constructor
    ·rintro⟨a0,a1,a2,a3,a4,a5,a6,a7,a8,a9,a10,a11,a12,a13⟩;exact⟨⟨a0,a1,a2,a3⟩,⟨a4,a5⟩,⟨a6,a7⟩,⟨a8,a9⟩,⟨a10,a11⟩,⟨a12,a13⟩⟩
    ·rintro⟨⟨a0,a1,a2,a3⟩,⟨a4,a5⟩,⟨a6,a7⟩,⟨a8,a9⟩,⟨a10,a11⟩,⟨a12,a13⟩⟩;exact⟨a0,a1,a2,a3,a4,a5,a6,a7,a8,a9,a10,a11,a12,a13⟩
   by_cases v:aV2 v0 v1 v2 v3 v4 v5
   ·have hs:dK2 v0 v1 v2 v3 v4 v5=(aK4 v0 (v1-1).toNat v2 v3 v4 v5,true):=if_pos v
    rw[hs]
    simp only[if_true]
    have vv:=v
    obtain⟨c1,c2,c3,c4,c5,c6,c7,c8,c9,c10,c11,c12⟩:=v
    have hm:=yV v0 v1
    have en:(((v1-1).toNat:Nat):Int)+1=v1:=by omega
    obtain⟨⟨t0,t1⟩,b1,b2⟩:=dX1 v0 (v1-1).toNat v2 v3 v4 v5 ⟨c1,c2⟩ (by omega) (by rw[en];exact⟨c5,c6⟩) ⟨c7,c8⟩ ⟨c9,c10⟩ ⟨c11,c12⟩
    rw[en]at b1 b2
    have nat: ∀x:Int,0≤x→x=((x.toNat:Nat):Int):=fun x q=>by omega
    rw[nat v0 (by omega),nat v1 (by omega),nat v2 (by omega),nat v3 (by omega),nat v4 (by omega),nat v5 (by omega)]at b1 b2
    have hst:=(eJ7 _ (by rw[←nat v0 (by omega),←nat v1 (by omega),←nat v2 (by omega),←nat v3 (by omega),←nat v4 (by omega),←nat v5 (by omega)];exact t0) (by rw[←nat v0 (by omega),←nat v1 (by omega),←nat v2 (by omega),←nat v3 (by omega),←nat v4 (by omega),←nat v5 (by omega)];exact t1) _ _ _ _ _ _ (by omega) (by omega) (by omega) (by omega) (by omega) (by omega) b1 b2).1
    rw[←nat v0 (by omega),←nat v1 (by omega),←nat v2 (by omega),←nat v3 (by omega),←nat v4 (by omega),←nat v5 (by omega)]at hst
    refine hst.bind ?_
    rw[yF,yF]
    by_cases hd:([x0,x1,x2,x3,x4,x5,x6,x7,x8,x9,x10,x11,x12,x13]:List UInt8).all vP=true
    ·obtain⟨g0,g1,g2,g3,g4,g5⟩:=dg.1 hd
     have q0:=aY5 _ g0
     have q1:=aY5 _ g1
     have q2:=aY5 _ g2
     have q3:=aY5 _ g3
     have q4:=aY5 _ g4
     have q5:=aY5 _ g5
     have eS:wU v0.toNat v1.toNat v2.toNat v3.toNat v4.toNat v5.toNat= [x0,x1,x2,x3,x4,x5,x6,x7,x8,x9,x10,x11,x12,x13]:=by
      rw[d0 g0,d1 g1,d2 g2,d3 g3,d4 g4,d5 g5]
      simp only[Int.toNat_natCast]
      unfold wU
      rw[show kM 4 (qV [x0,x1,x2,x3])=_ from q0,show kM 2 (qV [x4,x5])=_ from q1,show kM 2 (qV [x6,x7])=_ from q2,show kM 2 (qV [x8,x9])=_ from q3,show kM 2 (qV [x10,x11])=_ from q4,show kM 2 (qV [x12,x13])=_ from q5]
      rfl
     rw[if_pos eS]
     have hr:rsR [x0,x1,x2,x3,x4,x5,x6,x7,x8,x9,x10,x11,x12,x13]=dK2 v0 v1 v2 v3 v4 v5:=by
      unfold rsR;rw[if_pos ⟨hL,hd⟩,d0 g0,d1 g1,d2 g2,d3 g3,d4 g4,d5 g5];rfl
     rw[hr,hs];exact Ev.now _
    ·have hne: ¬wU v0.toNat v1.toNat v2.toNat v3.toNat v4.toNat v5.toNat= [x0,x1,x2,x3,x4,x5,x6,x7,x8,x9,x10,x11,x12,x13]:=fun e=>hd (by rw[←e];unfold wU;simp only[List.all_append,bZ5,Bool.and_self])
     rw[if_neg hne]
     have hr:rsR [x0,x1,x2,x3,x4,x5,x6,x7,x8,x9,x10,x11,x12,x13]=(0,false):=if_neg (fun q=>hd q.2)
     rw[hr];exact Ev.now _
   ·have hs:dK2 v0 v1 v2 v3 v4 v5=(0,false):=if_neg v
    rw[hs]
    simp only[Bool.false_eq_true,if_false]
    refine eK2.bind ?_
    rw[show(⟨#[]⟩:ByteArray)=mkB []from rfl,yF,yF,if_neg (by simp)]
    have hr:rsR [x0,x1,x2,x3,x4,x5,x6,x7,x8,x9,x10,x11,x12,x13]=(0,false):=by
     unfold rsR
     by_cases hd:([x0,x1,x2,x3,x4,x5,x6,x7,x8,x9,x10,x11,x12,x13]:List UInt8).all vP=true
     ·obtain⟨g0,g1,g2,g3,g4,g5⟩:=dg.1 hd
      rw[if_pos ⟨hL,hd⟩,←hs,d0 g0,d1 g1,d2 g2,d3 g3,d4 g4,d5 g5];rfl
     ·exact if_neg (fun q=>hd q.2)
    rw[hr];exact Ev.now _
 ·have hr:rsR l=(0,false):=if_neg (fun q=>hz q.1)
  simp only[if_neg (show ¬(l.length:Int)=14 by omega),hr];exact Ev.now _
theorem bY4 (c n:Nat) (h:n<10^(c+1)):(Lib.decDigits n).length≤c+1:=by
 have hp:=congrArg List.length (cW1 c n h)
 rw[List.length_append,List.length_replicate,aW5]at hp
 omega
theorem key_len (s:List UInt8) (h:(aY1 s).2.2.2.2.2=true):s.length≤260:=by
 unfold aY1 at h
 by_cases hc:(jE 41 s).2.2=true
 ·rw[if_pos hc]at h
  have hne:=cX0 41 s hc
  unfold aQ6 at h
  split at h
  ·rename_i e
   unfold aZ5 at e
   split at e
   ·rename_i hu
    rw[←e]
    have hl:=dJ4 (cJ6 (jE 58 (jE 41 s).1).1)
    unfold yZ bJ1 aX4 at hu
    simp only[Bool.and_eq_true,decide_eq_true_eq]at hu
    obtain⟨⟨⟨⟨⟨⟨_,h60⟩,_⟩,_⟩,_⟩,_⟩,_,h200⟩:=hu
    unfold aX7 dQ3 at h200
    simp only[List.length_append,List.length_cons,List.length_nil]at h200 ⊢
    omega
   ·exact absurd e.symm hne
  ·cases h
 ·rw[if_neg hc]at h;cases h
theorem eY4 {l:List UInt8} (h:l.all vP=true): ∀b∈l,b≠32:=by
 rintro b hb rfl
 have:=List.all_eq_true.1 h _ hb
 exact absurd this (by decide)
theorem aW3: ∀(c n:Nat),n<10^c→qV (kM c n)=n
 |0,n,h=>by simp at h;subst h;rfl
 |c+1,n,h=>by
  have ih:=aW3 c (n/10) (by rw[Nat.pow_succ]at h;omega)
  rw[kM]
  unfold qV at ih ⊢
  rw[bK0,ih]
  show n/10*10+((UInt8.ofNat (48+n%10)).toNat-48)=n
  rw[zZ _ (by omega)];omega
theorem fZ6 (Y M d h mi s:Nat) (hv:aV2 Y M d h mi s):rsR (wU Y M d h mi s)=(aK4 Y ((M:Int)-1).toNat d h mi s,true):=by
 have hv':=hv
 obtain⟨c1,c2,c3,c4,c5,c6,c7,c8,c9,c10,c11,c12⟩:=hv'
 have hm:=yV Y M
 have hall:(wU Y M d h mi s).all vP=true:=by unfold wU;simp only[List.all_append,bZ5,Bool.and_self]
 unfold rsR
 rw[if_pos ⟨dJ2 ..,hall⟩]
 have z:=aW5
 have e:wU Y M d h mi s=kM 4 Y++(kM 2 M++(kM 2 d++(kM 2 h++(kM 2 mi++kM 2 s)))):=by unfold wU;simp only[List.append_assoc]
 have f0:(wU Y M d h mi s).take 4=kM 4 Y:=by rw[e];exact List.take_left' (z 4 Y)
 have g1:(wU Y M d h mi s).drop 4=kM 2 M++(kM 2 d++(kM 2 h++(kM 2 mi++kM 2 s))):=by rw[e];exact List.drop_left' (z 4 Y)
 have g2:(wU Y M d h mi s).drop 6=kM 2 d++(kM 2 h++(kM 2 mi++kM 2 s)):=by rw[show 6=4+2 from rfl,←List.drop_drop,g1];exact List.drop_left' (z 2 M)
 have g3:(wU Y M d h mi s).drop 8=kM 2 h++(kM 2 mi++kM 2 s):=by rw[show 8=6+2 from rfl,←List.drop_drop,g2];exact List.drop_left' (z 2 d)
 have g4:(wU Y M d h mi s).drop 10=kM 2 mi++kM 2 s:=by rw[show 10=8+2 from rfl,←List.drop_drop,g3];exact List.drop_left' (z 2 h)
 have g5:(wU Y M d h mi s).drop 12=kM 2 s:=by rw[show 12=10+2 from rfl,←List.drop_drop,g4];exact List.drop_left' (z 2 mi)
 rw[f0,g1,g2,g3,g4,g5,List.take_left' (z 2 M),List.take_left' (z 2 d),List.take_left' (z 2 h),List.take_left' (z 2 mi),List.take_of_length_le (by rw[z];omega),
  aW3 4 Y (by omega),aW3 2 M (by omega),aW3 2 d (by omega),aW3 2 h (by omega),aW3 2 mi (by omega),aW3 2 s (by omega)]
 exact if_pos hv
theorem fJ2 (t:Int) (h0:0≤t) (h1:t≤253402300799): ∃S:List UInt8,S.length=14∧S.all vP=true∧rsR S=(t,true)∧Ev (fun k=>kN.f k t) (mkB S)∧Ev (fun k=>xZ.f k t) (mkB S):=by
 obtain⟨Y,n,d,h,mi,s,rfl,hY,hn,hd,hh,hm,hs⟩:=gV1 t h0 h1
 have hmp:=yV Y ((n:Int)+1)
 have nat: ∀x:Int,0≤x→ ∃n:Nat,x=(n:Int):=fun x q=>⟨x.toNat,by omega⟩
 obtain⟨_,b1,b2⟩:=dX1 Y n d h mi s hY hn hd hh hm hs
 obtain⟨Y,rfl⟩:=nat Y (by omega)
 obtain⟨d,rfl⟩:=nat d (by omega)
 obtain⟨h,rfl⟩:=nat h (by omega)
 obtain⟨mi,rfl⟩:=nat mi (by omega)
 obtain⟨s,rfl⟩:=nat s (by omega)
 have en:(n:Int)+1=((n+1:Nat):Int):=by omega
 rw[en]at b1 b2
 obtain⟨s1,s2⟩:=eJ7 _ h0 h1 Y (n+1) d h mi s (by omega) (by omega) (by omega) (by omega) (by omega) (by omega) b1 b2
 refine⟨wU Y (n+1) d h mi s,dJ2 ..,?_,?_,s1,s2⟩
 ·unfold wU;simp only[List.all_append,bZ5,Bool.and_self]
 ·have:=fZ6 Y (n+1) d h mi s ⟨hY.1,hY.2,by omega,by omega,hd.1,by rw[←en];exact hd.2,hh.1,hh.2,hm.1,hm.2,hs.1,hs.2⟩
  rw[this,show(((n+1:Nat):Int)-1).toNat=n by omega]
theorem fQ3 (key S m lab:List UInt8) (c e:UInt8) (st sg at_ sz:Nat) (hk: ∀b∈key,b≠32) (hS: ∀b∈S,b≠32) (hc:c≠32) (hm: ∀b∈m,b≠32) (hl: ∀b∈lab,b≠32) (he:e≠32):
  vG 32 (aK9 key S c m st lab e sg at_ sz)= [key,S,[c],m,Lib.decDigits st,lab,[e],Lib.decDigits sg,Lib.decDigits at_,Lib.decDigits sz]:=by
 have hd: ∀n,∀b∈Lib.decDigits n,b≠32:=fun n=>eY4 (aZ4 n).2.1
 have e1:aK9 key S c m st lab e sg at_ sz=key++32::(S++32::([c]++32::(m++32::(Lib.decDigits st++32::(lab++32::([e]++32::(Lib.decDigits sg++32::(Lib.decDigits at_++32::Lib.decDigits sz)))))))):=by
  unfold aK9;simp only[List.append_assoc,List.cons_append,List.nil_append,List.singleton_append]
 have h1: ∀x:UInt8,x≠32→ ∀b∈ [x],b≠32:=fun x hx b hb=>by simp at hb;rw[hb];exact hx
 rw[e1,yQ 32 key _ hk,yQ 32 S _ hS,yQ 32 [c] _ (h1 c hc),yQ 32 m _ hm,yQ 32 _ _ (hd st),yQ 32 lab _ hl,yQ 32 [e] _ (h1 e he),yQ 32 _ _ (hd sg),yQ 32 _ _ (hd at_),vW 32 _ (hd sz)]
theorem lineBack (key:List UInt8) (t side:Int) (m:List UInt8) (st:Int) (lab:List UInt8) (rv:Bool) (sg at_ sz:Int) (h1:key.length≤1048576) (h2:m.length≤1048576) (h3:lab.length≤1048576) (hr:cV0 key t side m st lab sg at_ sz=true)
  (hk: ∀b∈key,b≠32) (hm: ∀b∈m,b≠32) (hl: ∀b∈lab,b≠32):
  ∃T:List UInt8,T.length≤400∧Ev (fun k=>jH.f k (mkB key) t side (mkB m) st (mkB lab) rv sg at_ sz) (mkB T)∧Ev (fun k=>kE.f k (mkB key) t side (mkB m) st (mkB lab) rv sg at_ sz) (mkB T)∧
   ∃w1 w4 w7 w8 w9 c e,vG 32 T= [key,w1,c,m,w4,lab,e,w7,w8,w9]∧rsR w1=(t,true)∧wN w4=(st,true)∧wN w7=(sg,true)∧wN w8=(at_,true)∧wN w9=(sz,true):=by
 have hkl:key.length≤260:=key_len key (by unfold cV0 at hr;simp only[Bool.and_eq_true]at hr;exact hr.1.1.1.1)
 obtain⟨ht,hsd,hml,hst,hlb,hsg,hat,hsz⟩:=fV0 hr
 have hll:lab.length=37:=by unfold aY8 at hlb;simp only[Bool.and_eq_true,decide_eq_true_eq]at hlb;exact hlb.1.1
 obtain⟨S,zS,dS,bS,sS,iS⟩:=fJ2 t ht.1 ht.2
 have nat: ∀x:Int,0≤x→ ∃n:Nat,x=(n:Int):=fun x q=>⟨x.toNat,by omega⟩
 obtain⟨st,rfl⟩:=nat st (by omega)
 obtain⟨sg,rfl⟩:=nat sg (by omega)
 obtain⟨at_,rfl⟩:=nat at_ (by omega)
 obtain⟨sz,rfl⟩:=nat sz (by omega)
 have d1:=bY4 4 st (by omega)
 have d2:=bY4 4 sg (by omega)
 have d3:=bY4 4 at_ (by omega)
 have d4:=bY4 4 sz (by omega)
 refine⟨aK9 key S (if side=1 then 111 else 99) m st lab (if rv=true then 114 else 45) sg at_ sz,?_,?_,?_,S,Lib.decDigits st,Lib.decDigits sg,Lib.decDigits at_,Lib.decDigits sz,[if side=1 then 111 else 99],[if rv=true then 114 else 45],?_,bS,cQ0 st (by omega),cQ0 sg (by omega),cQ0 at_ (by omega),cQ0 sz (by omega)⟩
 ·simp only[aK9,List.length_append,List.length_cons,List.length_nil];omega
 ·have hj0: ∀c,Ev (fun k=>jH.j0 k (mkB [32,c,32]) (mkB key) t side (mkB m) (st:Int) (mkB lab) rv (sg:Int) (at_:Int) (sz:Int)) (mkB (aK9 key S c m st lab (if rv=true then 114 else 45) sg at_ sz)):=by
   intro c
   cases rv
   ·exact Ev.step (fun k=>by rw[jH.j0,if_neg Bool.false_ne_true];rfl) (cZ6 key S m lab t side c 45 false st sg at_ sz h1 h2 h3 (by omega) (by omega) (by omega) (by omega) sS zS)
   ·exact Ev.step (fun k=>by rw[jH.j0,if_pos rfl];rfl) (cZ6 key S m lab t side c 114 true st sg at_ sz h1 h2 h3 (by omega) (by omega) (by omega) (by omega) sS zS)
  unfold jH.f
  by_cases hs:side=1
  ·simp only[if_pos hs];exact hj0 111
  ·simp only[if_neg hs];exact hj0 99
 ·have hj0: ∀c,Ev (fun k=>kE.j0 k (mkB [c]) (mkB [45]) (mkB key) t side (mkB m) (st:Int) (mkB lab) rv (sg:Int) (at_:Int) (sz:Int)) (mkB (aK9 key S c m st lab (if rv=true then 114 else 45) sg at_ sz)):=by
   intro c
   cases rv
   ·exact Ev.step (fun k=>by rw[kE.j0,if_neg Bool.false_ne_true]) (cV4 key S m lab t side c 45 false st sg at_ sz h1 h2 h3 (by omega) (by omega) (by omega) (by omega) iS zS)
   ·exact Ev.step (fun k=>by rw[kE.j0,if_pos rfl];rfl) (cV4 key S m lab t side c 114 true st sg at_ sz h1 h2 h3 (by omega) (by omega) (by omega) (by omega) iS zS)
  unfold kE.f
  by_cases hs:side=1
  ·simp only[if_pos hs];exact hj0 111
  ·simp only[if_neg hs];exact hj0 99
 ·exact fQ3 key S m lab _ _ st sg at_ sz hk (eY4 dS) (by split<;>decide) hm hl (by split<;>decide)
abbrev RdL:=ByteArray×Int×Int×ByteArray×Int×ByteArray×Bool×Int×Int×Int×Bool
def cV7:RdL:=((⟨#[]⟩:ByteArray),0,0,(⟨#[]⟩:ByteArray),0,(⟨#[]⟩:ByteArray),false,0,0,0,false)
theorem fQ8 (l a b c d e f g h i j:List UInt8) (key m lab:List UInt8) (t sd:Int) (rv:Bool) (hl:l.length≤1048576) (z4 z7 z8 z9:Int) (T:ByteArray)
  (le:e.length≤1048576) (lh:h.length≤1048576) (li:i.length≤1048576) (lj:j.length≤1048576)
  (hT:Ev (fun k=>qU.f k (mkB key) t sd (mkB m) (wN e).1 (mkB lab) rv (wN h).1 (wN i).1 (wN j).1) T):
  Ev (fun k=>wH.j0 k (mkB l) ([a,b,c,d,e,f,g,h,i,j].map mkB) (mkB key) t sd (mkB m) z4 (mkB lab) rv z7 z8 z9) (if T.toList=l then(mkB key,t,sd,mkB m,(wN e).1,mkB lab,rv,(wN h).1,(wN i).1,(wN j).1,true)else cV7):=by
 have hz:([a,b,c,d,e,f,g,h,i,j].map mkB).length=10:=rfl
 refine Ev.step (fun k=>by rw[wH.j0]) ?_
 simp only[hz]
 refine Ev.ifp (by decide) ?_
 rw[show jB ByteArray.empty ([a,b,c,d,e,f,g,h,i,j].map mkB) 4=mkB e from rfl,show jB ByteArray.empty ([a,b,c,d,e,f,g,h,i,j].map mkB) 7=mkB h from rfl,show jB ByteArray.empty ([a,b,c,d,e,f,g,h,i,j].map mkB) 8=mkB i from rfl,show jB ByteArray.empty ([a,b,c,d,e,f,g,h,i,j].map mkB) 9=mkB j from rfl]
 refine(kY e (by omega)).bind (Ev.ifp (by decide) ((kY h (by omega)).bind (Ev.ifp (by decide) ((kY i (by omega)).bind (Ev.ifp (by decide) ((kY j (by omega)).bind (hT.bind ?_)))))))
 rw[yF]
 split<;>exact Ev.now _
theorem fY7 (l:List UInt8) (o:Bool) (key m lab:List UInt8) (t sd z4 z7 z8 z9 n0 n1 n2 n3 z3:Int) (rv v:Bool) (T:ByteArray)
  (hv:Ev (fun k=>jW.f k (mkB key) t sd (mkB m) n0 (mkB lab) rv n1 n2 n3) v) (hT:v=true→Ev (fun k=>kE.f k (mkB key) t sd (mkB m) n0 (mkB lab) rv n1 n2 n3) T):
  Ev (fun k=>kB.j4 k (mkB l) o n3 (mkB key) t sd (mkB m) z4 (mkB lab) rv z7 z8 z9 n0 n1 n2 z3) (if o=true∧v=true∧T.toList=l then(mkB key,t,sd,mkB m,n0,mkB lab,rv,n1,n2,n3,true)else cV7):=by
 refine Ev.step (fun k=>by rw[kB.j4]) ?_
 cases o
 ·simp only[Bool.false_eq_true,if_false,false_and];exact Ev.now _
 ·simp only[if_true,true_and]
  refine hv.bind ?_
  cases v
  ·simp only[Bool.false_eq_true,if_false,false_and];exact Ev.now _
  ·simp only[if_true,true_and]
   refine(hT rfl).bind ?_
   rw[yF]
   split<;>exact Ev.now _
theorem gK0 (l a b c d e f g h i j:List UInt8) (o:Bool) (key m lab:List UInt8) (t sd z4 z7 z8 z9:Int) (rv v:Bool) (T:ByteArray)
  (le:e.length≤1048576) (lh:h.length≤1048576) (li:i.length≤1048576) (lj:j.length≤1048576)
  (hv:Ev (fun k=>jW.f k (mkB key) t sd (mkB m) (wN e).1 (mkB lab) rv (wN h).1 (wN i).1 (wN j).1) v) (hT:v=true→Ev (fun k=>kE.f k (mkB key) t sd (mkB m) (wN e).1 (mkB lab) rv (wN h).1 (wN i).1 (wN j).1) T):
  Ev (fun k=>kB.j0 k (mkB l) ([a,b,c,d,e,f,g,h,i,j].map mkB) o (mkB key) t sd (mkB m) z4 (mkB lab) rv z7 z8 z9) (if(o&&(wN e).2&&(wN h).2&&(wN i).2&&(wN j).2)=true∧v=true∧T.toList=l then(mkB key,t,sd,mkB m,(wN e).1,mkB lab,rv,(wN h).1,(wN i).1,(wN j).1,true)else cV7):=by
 have hz:([a,b,c,d,e,f,g,h,i,j].map mkB).length=10:=rfl
 have pick: ∀(c1 c2:Bool) (G:Nat→Bool→Option RdL) (r:RdL),Ev (fun k=>G k (c1&&c2)) r→Ev (fun k=>if c1=true then G k c2 else G k false) r:=by
  intro c1 c2 G r hG
  cases c1
  ·simp only[Bool.false_eq_true,if_false];exact hG
  ·simp only[if_true];exact hG
 have hy:([mkB e,mkB h,mkB i,mkB j]:List ByteArray).length=4:=rfl
 have h4:=fun o'=>fY7 l o' key m lab t sd z4 z7 z8 z9 (wN e).1 (wN h).1 (wN i).1 (wN j).1 0 rv v T hv hT
 refine Ev.step (fun k=>by rw[kB.j0]) ?_
 simp only[hz,Option.bind_some]
 rw[show jB ByteArray.empty ([a,b,c,d,e,f,g,h,i,j].map mkB) 4=mkB e from rfl,show jB ByteArray.empty ([a,b,c,d,e,f,g,h,i,j].map mkB) 7=mkB h from rfl,show jB ByteArray.empty ([a,b,c,d,e,f,g,h,i,j].map mkB) 8=mkB i from rfl,show jB ByteArray.empty ([a,b,c,d,e,f,g,h,i,j].map mkB) 9=mkB j from rfl]
 refine Ev.ifp (by decide) (Ev.ifp (by decide) (Ev.ifp (by decide) (Ev.ifp (by decide) (Ev.ifp (by rw[hy];decide) ?_))))
 rw[show jB ByteArray.empty [mkB e,mkB h,mkB i,mkB j] 0=mkB e from rfl,wY e (by omega)]
 simp only[Option.bind_some]
 refine pick o _ (fun k c=>kB.j1 k (mkB l) c (wN e).1 [mkB e,mkB h,mkB i,mkB j] (mkB key) t sd (mkB m) z4 (mkB lab) rv z7 z8 z9 0 0 0 0) _ ?_
 refine Ev.step (fun k=>by rw[kB.j1]) (Ev.ifp (by rw[hy];decide) ?_)
 rw[show jB ByteArray.empty [mkB e,mkB h,mkB i,mkB j] 1=mkB h from rfl,wY h (by omega)]
 simp only[Option.bind_some]
 refine pick _ _ (fun k c=>kB.j2 k (mkB l) c (wN h).1 [mkB e,mkB h,mkB i,mkB j] (mkB key) t sd (mkB m) z4 (mkB lab) rv z7 z8 z9 (wN e).1 0 0 0) _ ?_
 refine Ev.step (fun k=>by rw[kB.j2]) (Ev.ifp (by rw[hy];decide) ?_)
 rw[show jB ByteArray.empty [mkB e,mkB h,mkB i,mkB j] 2=mkB i from rfl,wY i (by omega)]
 simp only[Option.bind_some]
 refine pick _ _ (fun k c=>kB.j3 k (mkB l) c (wN i).1 [mkB e,mkB h,mkB i,mkB j] (mkB key) t sd (mkB m) z4 (mkB lab) rv z7 z8 z9 (wN e).1 (wN h).1 0 0) _ ?_
 refine Ev.step (fun k=>by rw[kB.j3]) (Ev.ifp (by rw[hy];decide) ?_)
 rw[show jB ByteArray.empty [mkB e,mkB h,mkB i,mkB j] 3=mkB j from rfl,wY j (by omega)]
 simp only[Option.bind_some]
 refine pick _ _ (fun k c=>kB.j4 k (mkB l) c (wN j).1 (mkB key) t sd (mkB m) z4 (mkB lab) rv z7 z8 z9 (wN e).1 (wN h).1 (wN i).1 0) _ ?_
 exact h4 _
theorem dX6 (l:List UInt8) (hl:l.length≤1048576): ∃x:RdL,Ev (fun k=>wH.f k (mkB l)) x∧Ev (fun k=>kB.f k (mkB l)) x:=by
 have hsp:Ev (fun k=>qG.f k (mkB l) 32) ((vG 32 l).map mkB):=aQ0 32 l hl
 have hss:strings_Split.f (mkB l) (⟨#[32]⟩:ByteArray)=some ((vG 32 l).map mkB):=wX l 32 hl
 by_cases h10:(vG 32 l).length=10
 ·obtain⟨a,b,c,d,e,f,g,h,i,j,hW⟩: ∃a b c d e f g h i j,vG 32 l= [a,b,c,d,e,f,g,h,i,j]:=by
   match vG 32 l,h10 with
   | [a,b,c,d,e,f,g,h,i,j],_=>exact⟨a,b,c,d,e,f,g,h,i,j,rfl⟩
  have hno:=split_no 32 l
  have hln:=(yY 32 l).2
  rw[hW]at hsp hss hno hln
  have hz:([a,b,c,d,e,f,g,h,i,j].map mkB).length=10:=rfl
  have la:a.length≤1048576:=Nat.le_trans (hln a (by simp)) hl
  have lb:b.length≤1048576:=Nat.le_trans (hln b (by simp)) hl
  have ld:d.length≤1048576:=Nat.le_trans (hln d (by simp)) hl
  have le:e.length≤1048576:=Nat.le_trans (hln e (by simp)) hl
  have lf:f.length≤1048576:=Nat.le_trans (hln f (by simp)) hl
  have lh:h.length≤1048576:=Nat.le_trans (hln h (by simp)) hl
  have li:i.length≤1048576:=Nat.le_trans (hln i (by simp)) hl
  have lj:j.length≤1048576:=Nat.le_trans (hln j (by simp)) hl
  have r0:jB ByteArray.empty ([a,b,c,d,e,f,g,h,i,j].map mkB) 0=mkB a:=rfl
  have r1:jB ByteArray.empty ([a,b,c,d,e,f,g,h,i,j].map mkB) 1=mkB b:=rfl
  have r2:jB ByteArray.empty ([a,b,c,d,e,f,g,h,i,j].map mkB) 2=mkB c:=rfl
  have r3:jB ByteArray.empty ([a,b,c,d,e,f,g,h,i,j].map mkB) 3=mkB d:=rfl
  have r5:jB ByteArray.empty ([a,b,c,d,e,f,g,h,i,j].map mkB) 5=mkB f:=rfl
  have r6:jB ByteArray.empty ([a,b,c,d,e,f,g,h,i,j].map mkB) 6=mkB g:=rfl
  have hne:l≠ []:=by
   rintro rfl
   rw[vW 32 [] (by simp)]at h10
   simp at h10
  obtain⟨sd,hsd⟩: ∃sd:Int,sd=if c= [111]then 1 else 0:=⟨_,rfl⟩
  have sdE: ∀(F:Nat→Int→Option RdL) (r:RdL),Ev (fun k=>F k sd) r→Ev (fun k=>if c= [111]then F k 1 else F k 0) r:=by
   intro F r hF
   by_cases hc:c= [111]
   ·rw[if_pos hc]at hsd;simp only[if_pos hc];rw[hsd]at hF;exact hF
   ·rw[if_neg hc]at hsd;simp only[if_neg hc];rw[hsd]at hF;exact hF
  obtain⟨v,hv⟩: ∃v,cV0 a (rsR b).1 sd d (wN e).1 f (wN h).1 (wN i).1 (wN j).1=v:=⟨_,rfl⟩
  have vS:=dY5 a (rsR b).1 sd d (wN e).1 f (g== [114]) (wN h).1 (wN i).1 (wN j).1 la lf
  have vI:=dQ5 a (rsR b).1 sd d (wN e).1 f (g== [114]) (wN h).1 (wN i).1 (wN j).1 la lf
  rw[hv]at vS vI
  have key : ∃ T : List UInt8, Ev (fun k => qU.f k (mkB a) (rsR b).1 sd (mkB d) (wN e).1 (mkB f) (g == [114]) (wN h).1 (wN i).1 (wN j).1) (mkB T) ∧
    (v=true→Ev (fun k=>kE.f k (mkB a) (rsR b).1 sd (mkB d) (wN e).1 (mkB f) (g== [114]) (wN h).1 (wN i).1 (wN j).1) (mkB T))∧
    (T=l→v=true∧l.length≤400∧((rsR b).2&&(wN e).2&&(wN h).2&&(wN i).2&&(wN j).2)=true):=by
   cases v
   ·refine⟨[],?_,fun q=>absurd q Bool.false_ne_true,fun q=>absurd q.symm hne⟩
    unfold qU.f;refine vS.bind ?_;simp only[Bool.false_eq_true,if_false];exact Ev.now _
   ·obtain⟨T,z,tS,tI,w1,w4,w7,w8,w9,c',e',hs,q1,q4,q7,q8,q9⟩:=lineBack a (rsR b).1 sd d (wN e).1 f (g== [114]) (wN h).1 (wN i).1 (wN j).1 la ld lf hv (hno a (by simp)).1 (hno d (by simp)).1 (hno f (by simp)).1
    refine⟨T,?_,fun _=>tI,fun q=>⟨rfl,by rw[←q];exact z,?_⟩⟩
    ·unfold qU.f;refine vS.bind ?_;simp only[if_true];exact tS.bind (Ev.now _)
    ·rw[q,hW]at hs
     simp only[List.cons.injEq,and_true,true_and]at hs
     obtain⟨hb,_,he,_,hh,hi,hj⟩:=hs
     rw[hb,he,hh,hi,hj,q1,q4,q7,q8,q9];rfl
  obtain⟨T,tS,tI,hT⟩:=key
  refine⟨if T=l then(mkB a,(rsR b).1,sd,mkB d,(wN e).1,mkB f,(g== [114]),(wN h).1,(wN i).1,(wN j).1,true)else cV7,?_,?_⟩
  ·unfold wH.f
   rw[qC]
   by_cases h400:l.length≤400
   ·simp only[if_neg (show ¬(l.length:Int)>400 by omega)]
    refine hsp.bind ?_
    simp only[hz]
    rw[r0,r1,r2,r3,r5,r6]
    refine Ev.ifp (by decide) (Ev.ifp (by decide) (Ev.ifp (by decide) (Ev.ifp (by decide) (Ev.ifp (by decide) (Ev.ifp (by decide) ((fZ8 b).bind (Ev.ifp (by decide) ?_)))))))
    rw[yF,yF]
    refine sdE (fun k x=>wH.j0 k (mkB l) ([a,b,c,d,e,f,g,h,i,j].map mkB) (mkB a) (rsR b).1 x (mkB d) 0 (mkB f) (g== [114]) 0 0 0) _ ?_
    have:=fQ8 l a b c d e f g h i j a d f (rsR b).1 sd (g== [114]) hl 0 0 0 0 (mkB T) le lh li lj tS
    rw[yF]at this
    exact this
   ·simp only[if_pos (show(l.length:Int)>400 by omega)]
    rw[if_neg (fun q=>h400 (hT q).2.1)];exact Ev.now _
  ·unfold kB.f
   rw[hss]
   simp only[Option.bind_some,hz]
   rw[r0,r1,r2,r3,r5,r6]
   refine Ev.ifp (by decide) (Ev.ifp (by decide) ((fX6 b (by omega)).bind (Ev.ifp (by decide) (Ev.ifp (by decide) (Ev.ifp (by decide) (Ev.ifp (by decide) (Ev.ifp (by decide) ?_)))))))
   rw[yF,yF]
   refine sdE (fun k x=>kB.j0 k (mkB l) ([a,b,c,d,e,f,g,h,i,j].map mkB) (rsR b).2 (mkB a) (rsR b).1 x (mkB d) 0 (mkB f) (g== [114]) 0 0 0) _ ?_
   have:=gK0 l a b c d e f g h i j (rsR b).2 a d f (rsR b).1 sd 0 0 0 0 (g== [114]) v (mkB T) le lh li lj vI tI
   rw[yF]at this
   by_cases q:T=l
   ·obtain⟨q1,_,q3⟩:=hT q
    rw[if_pos ⟨q3,q1,q⟩]at this
    rw[if_pos q];exact this
   ·rw[if_neg (fun w=>q w.2.2)]at this
    rw[if_neg q];exact this
 ·have hz: ¬((((vG 32 l).map mkB).length:Nat):Int)=10:=by rw[List.length_map];omega
  refine⟨cV7,?_,?_⟩
  ·unfold wH.f
   by_cases h400:((mkB l).size:Int)>400
   ·simp only[if_pos h400];exact Ev.now _
   ·simp only[if_neg h400]
    refine hsp.bind ?_
    simp only[if_neg hz];exact Ev.now _
  ·unfold kB.f
   rw[hss]
   simp only[Option.bind_some,if_neg hz];exact Ev.now _
theorem FnExactReadLine:laws_FnExactReadLine.Pure:=by
 intro s hs
 refine Ev.rounds ?_
 unfold laws_FnExactReadLine.f
 by_cases hz:(s.size:Int)>1048576
 ·simp only[if_pos hz];exact Ev.now _
 ·simp only[if_neg hz]
  obtain⟨x,xS,xI⟩:=dX6 (bl s) (by rw[bV0];omega)
  rw[bV9]at xS xI
  refine xS.bind (xI.bind ?_)
  have he:qZ.f x.1 x.2.1 x.2.2.1 x.2.2.2.1 x.2.2.2.2.1 x.2.2.2.2.2.1 x.2.2.2.2.2.2.1 x.2.2.2.2.2.2.2.1 x.2.2.2.2.2.2.2.2.1 x.2.2.2.2.2.2.2.2.2.1 x.1 x.2.1 x.2.2.1 x.2.2.2.1 x.2.2.2.2.1 x.2.2.2.2.2.1 x.2.2.2.2.2.2.1 x.2.2.2.2.2.2.2.1 x.2.2.2.2.2.2.2.2.1 x.2.2.2.2.2.2.2.2.2.1=some true:=by simp[qZ.f]
  rw[he]
  simp only[Option.bind_some,if_true,bne_self_eq_false,Bool.false_eq_true,if_false]
  exact Ev.now _
end Go.Proofs.YteojcbbifacpnaaGreatDoor.Pure
