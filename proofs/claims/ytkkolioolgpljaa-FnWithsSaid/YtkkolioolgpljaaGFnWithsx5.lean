-- Laid by gen.py of this session (over the kit's printing program): what the law FnWiths reaches, as Lean functions, and that Go comes to just that.
import Derived.Test.YtkkolioolgpljaaGFnWithsx0
import Derived.Test.YtkkolioolgpljaaZFnWiths
namespace Go.Proofs.Ytkkolioolgpljaa.GFnWiths
open Go.RowKit Go.Proofs.YtkkolioolgpljaaW.PrintWords Go.Proofs.YtkkolioolgpljaaW.PrintLast Go.Proofs.YtkkolioolgpljaaW.PrintMore Go.Proofs.YtkkolioolgpljaaW.Zs
attribute [local go_sem] max2_int min2_int max_two min_two max_three min_three max_four min_four -- for this text's walks alone
set_option linter.unusedVariables false
set_option linter.unusedSimpArgs false
/-- A state of type 64 at block g of W; what its slices lead to came in by w0. -/
def IsS64 (w0 W:World) (g:Nat) (f0:List Int) (f1:Int) (f2:Int):Prop:= ∃A0 c0,W.heap[g]?=some (.cells #[.slice A0 f0.length c0,.int .i64 f1,.int .i64 f2] 64 (0,0))∧w0.heap.size≤g∧Kd.C (Kd.int .u8) w0 A0 f0.length f0
theorem IsS64.grown {w0 W:World} {g:Nat} {f0:List Int} {f1:Int} {f2:Int} {W1:World} {row:Option Nat} (h:IsS64 w0 W g f0 f1 f2) (hw:W.grownBy W1 row) (hne:some g≠row):IsS64 w0 W1 g f0 f1 f2:=by
 obtain⟨A0,c0,hb,hg,hr0⟩:=h;exact⟨A0,c0,blk_grown hb hw hne,hg,hr0⟩
theorem IsS64.own_neN {w0 W:World} {g:Nat} {f0:List Int} {f1:Int} {f2:Int} {α:Type} {d:Kd α} {e:Nat} {base:Nat} {ok:Nat→Prop} {v:Value} {xs:List α} (h:IsS64 w0 W g f0 f1 f2) (ho:Kd.N d e W base ok v xs) (ht:e≠64):some g≠v.ownBlock:=by
 obtain⟨A0,c0,hb,hg,hr0⟩:=h;exact Kd.N_ne ho hb ht
theorem IsS64.fresh {w0 W:World} {g:Nat} {f0:List Int} {f1:Int} {f2:Int} (h:IsS64 w0 W g f0 f1 f2): ∀k,W.heap.size≤k→k≠g:=by
 obtain⟨A0,c0,hb,hg,hr0⟩:=h;exact Kd.freshB hb
theorem IsS64.kept {w0 W:World} {g:Nat} {f0:List Int} {f1:Int} {f2:Int} {W1:World} {S:Nat→Prop} (h:IsS64 w0 W g f0 f1 f2) (hk:Kept W W1 S) (hne: ¬S g):IsS64 w0 W1 g f0 f1 f2:=by
 obtain⟨A0,c0,hb,hg,hr0⟩:=h;exact⟨A0,c0,blk_kept hb hk hne,hg,hr0⟩
theorem IsS64.below {w0 W:World} {g:Nat} {f0:List Int} {f1:Int} {f2:Int} {W1:World} (h:IsS64 w0 W g f0 f1 f2) (hw:Below W.heap.size W W1):IsS64 w0 W1 g f0 f1 f2:=h.grown (grown_of_below hw none) (by simp)
theorem IsS64.alloc {w0 W:World} {g:Nat} {f0:List Int} {f1:Int} {f2:Int} (h:IsS64 w0 W g f0 f1 f2) (o:Obj):IsS64 w0 (W.alloc o) g f0 f1 f2:=h.below (below_alloc (Below.refl _ _) o)
theorem IsS64.drewN {w0 W:World} {g:Nat} {f0:List Int} {f1:Int} {f2:Int} (h:IsS64 w0 W g f0 f1 f2) (m:Nat):IsS64 w0 (W.drewN m) g f0 f1 f2:=h
theorem IsS64.drew {w0 W:World} {g:Nat} {f0:List Int} {f1:Int} {f2:Int} (h:IsS64 w0 W g f0 f1 f2):IsS64 w0 W.drew g f0 f1 f2:=h
theorem IsS64.at_ {w0 W:World} {g:Nat} {f0:List Int} {f1:Int} {f2:Int} {w':World} {m:Nat} (hq:W.drewN m=w') (h:IsS64 w0 W g f0 f1 f2):IsS64 w0 w' g f0 f1 f2:=by subst hq;exact IsS64.drewN h m
theorem IsS64.apart {w0 W:World} {g:Nat} {f0:List Int} {f1:Int} {f2:Int} {α:Type} {d:Kd α} {e:Nat} {base:Nat} {ok:Nat→Prop} {v:Value} {xs:List α} (h:IsS64 w0 W g f0 f1 f2) (ho:d.R e W base ok v xs) (ht: ∀q,q∈e::d.E→q≠64):d.R e W base (fun k=>ok k∧k≠g) v xs:=by
 obtain⟨A0,c0,hb,hg,hr0⟩:=h;exact Kd.R_types ho hb ht
theorem IsS64.own_ne {w0 W:World} {g:Nat} {f0:List Int} {f1:Int} {f2:Int} {α:Type} {d:Kd α} {e:Nat} {base:Nat} {ok:Nat→Prop} {v:Value} {xs:List α} (h:IsS64 w0 W g f0 f1 f2) (ho:d.R e W base ok v xs) (ht:e≠64):some g≠v.ownBlock:=by
 obtain⟨A0,c0,hb,hg,hr0⟩:=h;exact Kd.R_ne ho hb ht
theorem IsS64.apartQ {w0 W:World} {g:Nat} {f0:List Int} {f1:Int} {f2:Int} {α:Type} {d:Kd α} {e:Nat} {base:Nat} {ok:Nat→Prop} {v:Value} {xs:List α} (h:IsS64 w0 W g f0 f1 f2) (ho:d.Q e W base ok v xs) (ht: ∀q,q∈e::d.E→q≠64):d.Q e W base (fun k=>ok k∧k≠g) v xs:=by
 obtain⟨A0,c0,hb,hg,hr0⟩:=h;exact Kd.Q_types ho hb ht
theorem IsS64.own_neQ {w0 W:World} {g:Nat} {f0:List Int} {f1:Int} {f2:Int} {α:Type} {d:Kd α} {e:Nat} {base:Nat} {ok:Nat→Prop} {v:Value} {xs:List α} (h:IsS64 w0 W g f0 f1 f2) (ho:d.Q e W base ok v xs) (ht:e≠64):some g≠v.ownBlock:=by
 obtain⟨A0,c0,hb,hg,hr0⟩:=h;exact Kd.Q_ne ho hb ht
theorem IsS64.apartS {w0 W:World} {g:Nat} {f0:List Int} {f1:Int} {f2:Int} {α:Type} {d:Kd α} {e:Nat} {base:Nat} {ok:Nat→Prop} {v:Value} {xs:List α} (h:IsS64 w0 W g f0 f1 f2) (ho:d.S e W base ok v xs) (ht: ∀q,q∈e::d.E→q≠64):d.S e W base (fun k=>ok k∧k≠g) v xs:=by
 obtain⟨A0,c0,hb,hg,hr0⟩:=h;exact Kd.S_types ho hb ht
theorem IsS64.own_neS {w0 W:World} {g:Nat} {f0:List Int} {f1:Int} {f2:Int} {α:Type} {d:Kd α} {e:Nat} {base:Nat} {ok:Nat→Prop} {v:Value} {xs:List α} (h:IsS64 w0 W g f0 f1 f2) (ho:d.S e W base ok v xs) (ht:e≠64):some g≠v.ownBlock:=by
 obtain⟨A0,c0,hb,hg,hr0⟩:=h;exact Kd.S_ne ho hb ht
theorem IsS64.lt {w0 W:World} {g:Nat} {f0:List Int} {f1:Int} {f2:Int} (h:IsS64 w0 W g f0 f1 f2):g<W.heap.size:=by
 obtain⟨A0,c0,hb,hg,hr0⟩:=h;exact blk_lt hb
theorem IsS64.ge {w0 W:World} {g:Nat} {f0:List Int} {f1:Int} {f2:Int} (h:IsS64 w0 W g f0 f1 f2):w0.heap.size≤g:=by
 obtain⟨A0,c0,hb,hg,hr0⟩:=h;exact hg
theorem IsS64.ne_blk {w0 W:World} {g:Nat} {f0:List Int} {f1:Int} {f2:Int} {a:Nat} {cs:Array Value} {t:TypeId} {fr:Nat×Nat} (h:IsS64 w0 W g f0 f1 f2) (hb2:W.heap[a]?=some (.cells cs t fr)) (ht:t≠64):g≠a:=by
 obtain⟨A0,c0,hb,hg,hr0⟩:=h;rintro rfl;rw[hb]at hb2
 injection hb2 with hb2
 injection hb2 with _ ht2
 exact ht ht2.symm
theorem IsS64.far {w0 W:World} {g:Nat} {f0:List Int} {f1:Int} {f2:Int} {p:Addr} (h:IsS64 w0 W g f0 f1 f2) (hne:g≠p.block) (u:Value):IsS64 w0 (W.setCell p u) g f0 f1 f2:=by
 obtain⟨A0,c0,hb,hg,hr0⟩:=h;exact⟨A0,c0,blk_far hb hne u,hg,hr0⟩
theorem cellS64_0 {W:World} {g:Nat} {A0:Option Addr} {c0:Nat} {f0:List Int} {f1:Int} {f2:Int} (h:W.heap[g]?=some (.cells #[.slice A0 f0.length c0,.int .i64 f1,.int .i64 f2] 64 (0,0))):W.cell? ⟨g,0,none⟩=some (.slice A0 f0.length c0):=(blk_cell h 0).trans rfl
theorem cellS64_1 {W:World} {g:Nat} {A0:Option Addr} {c0:Nat} {f0:List Int} {f1:Int} {f2:Int} (h:W.heap[g]?=some (.cells #[.slice A0 f0.length c0,.int .i64 f1,.int .i64 f2] 64 (0,0))):W.cell? ⟨g,1,none⟩=some (.int .i64 f1):=(blk_cell h 1).trans rfl
theorem IsS64.set_1 {w0 W:World} {g:Nat} {f0:List Int} {f1:Int} {f2:Int} (h:IsS64 w0 W g f0 f1 f2) (x:Int):IsS64 w0 (W.setCell ⟨g,1,none⟩ (.int .i64 x)) g f0 x f2:=by
 obtain⟨A0,c0,hb,hg,hr0⟩:=h;exact⟨A0,c0,by simpa using blk_set hb 1 (.int .i64 x),hg,hr0⟩
theorem cellS64_2 {W:World} {g:Nat} {A0:Option Addr} {c0:Nat} {f0:List Int} {f1:Int} {f2:Int} (h:W.heap[g]?=some (.cells #[.slice A0 f0.length c0,.int .i64 f1,.int .i64 f2] 64 (0,0))):W.cell? ⟨g,2,none⟩=some (.int .i64 f2):=(blk_cell h 2).trans rfl
theorem IsS64.set_2 {w0 W:World} {g:Nat} {f0:List Int} {f1:Int} {f2:Int} (h:IsS64 w0 W g f0 f1 f2) (x:Int):IsS64 w0 (W.setCell ⟨g,2,none⟩ (.int .i64 x)) g f0 f1 x:=by
 obtain⟨A0,c0,hb,hg,hr0⟩:=h;exact⟨A0,c0,by simpa using blk_set hb 2 (.int .i64 x),hg,hr0⟩
theorem IsS64.new (w0 W:World) (A0:Option Addr) (c0:Nat) (f0:List Int) (f1:Int) (f2:Int) (hB:Below w0.heap.size w0 W) (hr0:Kd.C (Kd.int .u8) w0 A0 f0.length f0):IsS64 w0 (W.alloc (.cells #[.slice A0 f0.length c0,.int .i64 f1,.int .i64 f2] 64)) W.heap.size f0 f1 f2:=⟨A0,c0,by simpa using heap_alloc_new W _,hB.size,hr0⟩
/-! ### spec_l1New: function 29 -/
def spec_l1New.l0:Nat→List Int→Int→Int→Option (List Int×Int×Int)
 |0,_,_,_=>none
 |k+1,x0,x3,x4=>if x4<(x0.length:Int)then(if x4<4000 then(if 0≤x4 then(spec_l1New.l0 k x0 (Go.bits .and .i64 (wrap64 ((wrap64 ((wrap64 (x3*131))+(wrap64 (rd x0 x4))))+7)) 1073741823) (wrap64 (x4+1)))else(none))else(some (x0,0,x3)))else(some (x0,0,x3))
def spec_l1New.f (k:Nat) (l0:List Int):Option (List Int×Int×Int):=spec_l1New.l0 k l0 (wrap64 (64242+(l0.length:Int))) 0
set_option maxHeartbeats 40000000 in
set_option maxRecDepth 100000 in
theorem spec_l1New.calls (k : Nat) (A0 : Option Addr) (c0 : Nat) (l0 : List Int) (r1 : List Int) (r2 : Int) (r3 : Int) (w0 w : World) (hB : Below w0.heap.size w0 w) (hr0 : Kd.C (Kd.int .u8) w0 A0 l0.length l0) (hc0 : l0.length ≤ c0) (h : spec_l1New.f k l0 = some (r1, r2, r3)) :
  Calls Try.prog 29 #[.slice A0 l0.length c0] w fun e w'=> ∃g_:Nat,e= .returned (.pointer (some ⟨g_,0,none⟩))∧IsS64 w0 w' g_ r1 r2 r3∧Below w0.heap.size w0 w'∧Below w.heap.size w w':=by
 have hu64:=Try.underlying64;have HR0:=Aside0.mk hr0;have HC0:=Aside0.mk hc0;clear hr0 hc0;have HBW:=Aside0.mk (Below.refl w.heap.size w);have HW0:=Aside0.mk hB.size;have HB:=Aside0.mk hB;clear hB;have H:(spec_l1New.l0 k l0 (wrap64 (64242+(l0.length:Int))) 0)=some (r1,r2,r3):=h;clear h;have H':=Aside0.mk H;clear H;go_enter Try.func29,Try.ntmps29
 go_wp2
 go_loopg [3,4] k (fun kq v3 v4 w'=> ∃(x3_1:Int) (x4_1:Int),v3= .int .i64 x3_1∧v4= .int .i64 x4_1∧Aside0 (spec_l1New.l0 kq l0 x3_1 x4_1=some (r1,r2,r3))∧Aside0 (kq≤k)∧Aside0 (Below w0.heap.size w0 w')∧Aside0 (Below w.heap.size w w'))
 case atStart=>exact⟨(wrap64 (64242+(l0.length:Int))),(0),zz6,zz6,H',⟨Nat.le_refl _⟩,⟨zz0⟩,HBW⟩
 case round=>
  clear H';obtain⟨x3_1,x4_1,rfl,rfl,HA,HK1,HB,HBW⟩:=hrel
  cases gk with
  |zero=>exact absurd HA.out (by simp[spec_l1New.l0])
  |succ k1=>
   have H:=HA.out;clear HA;simp only[spec_l1New.l0]at H
   by_cases c2:x4_1<(l0.length:Int)
   ·rw[if_pos c2]at H;have c2b0:decide (x4_1<(l0.length:Int))=true:=decide_eq_true c2;clear c2
    by_cases c3:x4_1<4000
    ·rw[if_pos c3]at H;have c3b0:decide (x4_1<4000)=true:=decide_eq_true c3;clear c3
     by_cases c4:0≤x4_1
     ·rw[if_pos c4]at H;have c4b0:decide (0≤x4_1)=true:=decide_eq_true c4;clear c4;have H':=Aside0.mk H;clear H;have p175:0≤(x4_1:Int):=of_decide_eq_true zz8;have q175:x4_1<(l0.length:Int):=of_decide_eq_true zz8;obtain⟨ad175,e175,hx175_0⟩:=Kd.at_int HR0.out x4_1 p175 q175;cases e175;replace hx175_0:=pw_cell_below HB.out hx175_0;replace p175:=eq_true p175;replace q175:=eq_true q175;go_wp2
      go_roundg k1
      (case measure=>have:=HK1.out;omega);case rel=>exact⟨(Go.bits .and .i64 (wrap64 ((wrap64 ((wrap64 (x3_1*131))+(wrap64 (rd l0 x4_1))))+7)) 1073741823),(wrap64 (x4_1+1)),zz6,zz6,H',⟨zz42⟩,⟨zz0⟩,HBW⟩
     ·rw[if_neg c4]at H;exact absurd H (by simp)
    ·rw[if_neg c3]at H;have c3b0:decide (x4_1<4000)=false:=decide_eq_false c3;clear c3;simp only[Option.some.injEq,Prod.mk.injEq]at H;obtain⟨rfl,rfl,rfl⟩:=H;go_wp2
     go_ret;exact⟨_,rfl,IsS64.new w0 _ A0 c0 l0 0 x3_1 HB.out HR0.out,below_alloc HB.out _,below_alloc HBW.out _⟩
   ·rw[if_neg c2]at H;have c2b0:decide (x4_1<(l0.length:Int))=false:=decide_eq_false c2;clear c2;simp only[Option.some.injEq,Prod.mk.injEq]at H;obtain⟨rfl,rfl,rfl⟩:=H;go_wp2
    go_ret;exact⟨_,rfl,IsS64.new w0 _ A0 c0 l0 0 x3_1 HB.out HR0.out,below_alloc HB.out _,below_alloc HBW.out _⟩
/-! ### spec_l1Byte: function 55 -/
def spec_l1Byte.f (s0_0:List Int) (s0_1:Int) (s0_2:Int):Option (Int×Int×Int):=if s0_1<(s0_0.length:Int)then(if 0≤s0_1 then(some (Go.bits .and .i64 (wrap64 ((Go.bits .and .i64 (Go.bits .xor .i64 ((wrap64 ((wrap64 (s0_2*6364136223846793005))+1442695040888963407))/8589934592) ((wrap64 ((wrap64 (s0_2*6364136223846793005))+1442695040888963407))/35184372088832)) 255)+(wrap64 (rd s0_0 s0_1)))) 255,wrap64 (s0_1+1),wrap64 ((wrap64 (s0_2*6364136223846793005))+1442695040888963407)))else(none))else(some (Go.bits .and .i64 (Go.bits .xor .i64 ((wrap64 ((wrap64 (s0_2*6364136223846793005))+1442695040888963407))/8589934592) ((wrap64 ((wrap64 (s0_2*6364136223846793005))+1442695040888963407))/35184372088832)) 255,s0_1,wrap64 ((wrap64 (s0_2*6364136223846793005))+1442695040888963407)))
set_option maxHeartbeats 40000000 in
set_option maxRecDepth 100000 in
theorem spec_l1Byte.calls (g : Nat) (s0_0 : List Int) (s0_1 : Int) (s0_2 : Int) (r1 : Int) (r2 : Int) (r3 : Int) (w0 w : World) (hI : IsS64 w0 w g s0_0 s0_1 s0_2) (hB : Below w0.heap.size w0 w) (h : spec_l1Byte.f s0_0 s0_1 s0_2 = some (r1, r2, r3)) :
  Calls Try.prog 55 #[.pointer (some ⟨g,0,none⟩)] w fun e w'=>e= .returned (.int .i64 r1)∧IsS64 w0 w' g s0_0 r2 r3∧Below w0.heap.size w0 w'∧KeepBut w w' g none:=by
 have HI0:=Aside0.mk hI;have HK:=Aside0.mk (KeepBut.refl w g none);have HL:=Aside0.mk hB.size;clear hI;have HW0:=Aside0.mk hB.size;have HB:=Aside0.mk hB;clear hB;have H:(if s0_1<(s0_0.length:Int)then(if 0≤s0_1 then(some (Go.bits .and .i64 (wrap64 ((Go.bits .and .i64 (Go.bits .xor .i64 ((wrap64 ((wrap64 (s0_2*6364136223846793005))+1442695040888963407))/8589934592) ((wrap64 ((wrap64 (s0_2*6364136223846793005))+1442695040888963407))/35184372088832)) 255)+(wrap64 (rd s0_0 s0_1)))) 255,wrap64 (s0_1+1),wrap64 ((wrap64 (s0_2*6364136223846793005))+1442695040888963407)))else(none))else(some (Go.bits .and .i64 (Go.bits .xor .i64 ((wrap64 ((wrap64 (s0_2*6364136223846793005))+1442695040888963407))/8589934592) ((wrap64 ((wrap64 (s0_2*6364136223846793005))+1442695040888963407))/35184372088832)) 255,s0_1,wrap64 ((wrap64 (s0_2*6364136223846793005))+1442695040888963407))))=some (r1,r2,r3):=h;clear h
 by_cases c2:s0_1<(s0_0.length:Int)
 ·rw[if_pos c2]at H;have c2b0:decide (s0_1<(s0_0.length:Int))=true:=decide_eq_true c2;clear c2
  by_cases c3:0≤s0_1
  ·rw[if_pos c3]at H;have c3b0:decide (0≤s0_1)=true:=decide_eq_true c3;clear c3;simp only[Option.some.injEq,Prod.mk.injEq]at H;obtain⟨rfl,rfl,rfl⟩:=H;obtain⟨ASz4_0,cSz4_0,HGz4,hgz4,HSz4_0⟩:=HI0.out;have hcz4_0:=cellS64_0 HGz4;have hcz4_1:=cellS64_1 HGz4;have hcz4_2:=cellS64_2 HGz4;have hfz4_1:=blk_frozen HGz4 1;have hfz4_2:=blk_frozen HGz4 2;clear HGz4 hgz4;have p178:0≤(s0_1:Int):=of_decide_eq_true zz8;have q178:s0_1<(s0_0.length:Int):=of_decide_eq_true zz8;obtain⟨ad178,e178,hx178_0⟩:=Kd.at_int HSz4_0 s0_1 p178 q178;cases e178;have hn178_0:ad178.block≠g:=Nat.ne_of_lt (Nat.lt_of_lt_of_le (by have:=World.block_lt_of_cell? _ _ hx178_0;first|rwa [add_block]at this|exact this) (IsS64.ge HI0.out));replace hx178_0:=pw_cell_below HB.out hx178_0;replace hx178_0:=(cell_far (p:=⟨g,2,none⟩) (by first|(rw[add_block];exact hn178_0)|(show(Addr.add _ _).block≠_;rw[add_block];exact hn178_0)|exact hn178_0) (.int .i64 (wrap64 ((wrap64 (s0_2*6364136223846793005))+1442695040888963407)))).trans hx178_0;(try have hy178_0:=fun(n_:Nat)=>(show(((w.drewN n_).setCell ⟨g,2,none⟩ (.int .i64 (wrap64 ((wrap64 (s0_2*6364136223846793005))+1442695040888963407))))).cell? _=some _ from hx178_0));clear hn178_0;replace p178:=eq_true p178;replace q178:=eq_true q178;go_enter Try.func55,Try.ntmps55
   go_wp2
   repeat(go_quiet (fail);try go_wp2)
   go_ret;exact⟨zz4,zz3,zz5,zz1⟩
  ·rw[if_neg c3]at H;exact absurd H (by simp)
 ·rw[if_neg c2]at H;have c2b0:decide (s0_1<(s0_0.length:Int))=false:=decide_eq_false c2;clear c2;simp only[Option.some.injEq,Prod.mk.injEq]at H;obtain⟨rfl,rfl,rfl⟩:=H;obtain⟨ASz5_0,cSz5_0,HGz5,hgz5,HSz5_0⟩:=HI0.out;have hcz5_0:=cellS64_0 HGz5;have hcz5_1:=cellS64_1 HGz5;have hcz5_2:=cellS64_2 HGz5;have hfz5_1:=blk_frozen HGz5 1;have hfz5_2:=blk_frozen HGz5 2;clear HGz5 hgz5;go_enter Try.func55,Try.ntmps55
  go_wp2
  repeat(go_quiet (fail);try go_wp2)
  go_ret;exact⟨zz4,zz3,zz5,zz1⟩
/-! ### spec_l1Below: function 39 -/
def spec_l1Below.f (s0_0:List Int) (s0_1:Int) (s0_2:Int) (a1:Int):Option (Int×Int×Int):=if a1≤0 then(some (0,s0_1,s0_2))else(if a1≤256 then((spec_l1Byte.f s0_0 s0_1 s0_2).bind fun bt179=>(if a1=0 then(none)else(some (Int.tmod bt179.1 a1,bt179.2.1,bt179.2.2))))else((spec_l1Byte.f s0_0 s0_1 s0_2).bind fun bt182=>((spec_l1Byte.f s0_0 bt182.2.1 bt182.2.2).bind fun bt185=>((spec_l1Byte.f s0_0 bt185.2.1 bt185.2.2).bind fun bt188=>((spec_l1Byte.f s0_0 bt188.2.1 bt188.2.2).bind fun bt191=>(if a1=0 then(none)else(some (Int.tmod (wrap64 ((wrap64 ((wrap64 ((wrap64 (bt182.1*16777216))+(wrap64 (bt185.1*65536))))+(wrap64 (bt188.1*256))))+bt191.1)) a1,bt191.2.1,bt191.2.2))))))))
set_option maxHeartbeats 40000000 in
set_option maxRecDepth 100000 in
theorem spec_l1Below.calls (g : Nat) (s0_0 : List Int) (s0_1 : Int) (s0_2 : Int) (a1 : Int) (r1 : Int) (r2 : Int) (r3 : Int) (w0 w : World) (hI : IsS64 w0 w g s0_0 s0_1 s0_2) (hB : Below w0.heap.size w0 w) (h : spec_l1Below.f s0_0 s0_1 s0_2 a1 = some (r1, r2, r3)) :
  Calls Try.prog 39 #[.pointer (some ⟨g,0,none⟩),.int .i64 a1] w fun e w'=>e= .returned (.int .i64 r1)∧IsS64 w0 w' g s0_0 r2 r3∧Below w0.heap.size w0 w'∧KeepBut w w' g none:=by
 have HI0:=Aside0.mk hI;have HK:=Aside0.mk (KeepBut.refl w g none);have HL:=Aside0.mk hB.size;clear hI;have HW0:=Aside0.mk hB.size;have HB:=Aside0.mk hB;clear hB;have H:(if a1≤0 then(some (0,s0_1,s0_2))else(if a1≤256 then((spec_l1Byte.f s0_0 s0_1 s0_2).bind fun bt179=>(if a1=0 then(none)else(some (Int.tmod bt179.1 a1,bt179.2.1,bt179.2.2))))else((spec_l1Byte.f s0_0 s0_1 s0_2).bind fun bt182=>((spec_l1Byte.f s0_0 bt182.2.1 bt182.2.2).bind fun bt185=>((spec_l1Byte.f s0_0 bt185.2.1 bt185.2.2).bind fun bt188=>((spec_l1Byte.f s0_0 bt188.2.1 bt188.2.2).bind fun bt191=>(if a1=0 then(none)else(some (Int.tmod (wrap64 ((wrap64 ((wrap64 ((wrap64 (bt182.1*16777216))+(wrap64 (bt185.1*65536))))+(wrap64 (bt188.1*256))))+bt191.1)) a1,bt191.2.1,bt191.2.2)))))))))=some (r1,r2,r3):=h;clear h
 by_cases c3:a1≤0
 ·rw[if_pos c3]at H;have c3b0:decide (a1≤0)=true:=decide_eq_true c3;clear c3;simp only[Option.some.injEq,Prod.mk.injEq]at H;obtain⟨rfl,rfl,rfl⟩:=H;go_enter Try.func39,Try.ntmps39
  go_wp2
  go_ret;exact⟨zz4,zz3,zz5,zz1⟩
 ·rw[if_neg c3]at H;have c3b0:decide (a1≤0)=false:=decide_eq_false c3;clear c3
  by_cases c4:a1≤256
  ·rw[if_pos c4]at H;have c4b0:decide (a1≤256)=true:=decide_eq_true c4;clear c4;replace H:=Option.bind_eq_some_iff.mp H;obtain⟨⟨t179,t180,t181⟩,A50,H⟩:=H;(try dsimp only at H);have A5:=Aside0.mk A50;clear A50
   by_cases c6:a1=0
   ·rw[if_pos c6]at H;exact absurd H (by simp)
   ·rw[if_neg c6]at H;have c6b0:(a1==0)=false:=beq_eq_false_iff_ne.mpr c6;have c6b1:(a1 !=0)=true:=bne_iff_ne.mpr c6;simp only[Option.some.injEq,Prod.mk.injEq]at H;obtain⟨rfl,rfl,rfl⟩:=H;go_enter Try.func39,Try.ntmps39
    go_wp2_with (first|((with_reducible refine gate_callee (f:=55) rfl ?_);refine goesQ_ 14 Try.func55 #[.pointer (some ⟨g,0,none⟩)] ?_;(with_reducible refine(spec_l1Byte.calls g s0_0 s0_1 s0_2 t179 t180 t181 w0 _ ?side1 ?side2 A5.out).mono ?_);(case side1=>repeat(first|(with_reducible first|exact HI0.out|apply IsS64.alloc|apply IsS64.drewN|apply IsS64.drew|apply IsS64.set_1|apply IsS64.set_2)|exact HI0.out));(case side2=>repeat(first|(with_reducible first|exact HB.out|apply below_alloc|apply pw_below_drewN|apply below_drew1|refine below_set ?_ (IsS64.ge HI0.out))|exact HB.out));rintro e w7 ⟨rfl,hi,hb,hk⟩;refine⟨_,rfl,?_⟩;replace HK:=Aside0.mk (KeepBut.trans zz1 hk (.inl rfl));replace HB:=Aside0.mk (hb);replace HI0:=Aside0.mk (hi);(try clear hb);(try clear hk);(try clear hi)))
    go_ret;exact⟨zz4,zz3,zz5,zz1⟩
  ·rw[if_neg c4]at H;have c4b0:decide (a1≤256)=false:=decide_eq_false c4;clear c4;replace H:=Option.bind_eq_some_iff.mp H;obtain⟨⟨t182,t183,t184⟩,A80,H⟩:=H;(try dsimp only at H);have A8:=Aside0.mk A80;clear A80;replace H:=Option.bind_eq_some_iff.mp H;obtain⟨⟨t185,t186,t187⟩,A90,H⟩:=H;(try dsimp only at H);have A9:=Aside0.mk A90;clear A90;replace H:=Option.bind_eq_some_iff.mp H;obtain⟨⟨t188,t189,t190⟩,A100,H⟩:=H;(try dsimp only at H);have A10:=Aside0.mk A100;clear A100;replace H:=Option.bind_eq_some_iff.mp H;obtain⟨⟨t191,t192,t193⟩,A110,H⟩:=H;(try dsimp only at H);have A11:=Aside0.mk A110;clear A110
   by_cases c12:a1=0
   ·rw[if_pos c12]at H;exact absurd H (by simp)
   ·rw[if_neg c12]at H;have c12b0:(a1==0)=false:=beq_eq_false_iff_ne.mpr c12;have c12b1:(a1 !=0)=true:=bne_iff_ne.mpr c12;simp only[Option.some.injEq,Prod.mk.injEq]at H;obtain⟨rfl,rfl,rfl⟩:=H;go_enter Try.func39,Try.ntmps39
    go_wp2_with (first|((with_reducible refine gate_callee (f:=55) rfl ?_);refine goesQ_ 18 Try.func55 #[.pointer (some ⟨g,0,none⟩)] ?_;(with_reducible refine(spec_l1Byte.calls g s0_0 s0_1 s0_2 t182 t183 t184 w0 _ ?side1 ?side2 A8.out).mono ?_);(case side1=>repeat(first|(with_reducible first|exact HI0.out|apply IsS64.alloc|apply IsS64.drewN|apply IsS64.drew|apply IsS64.set_1|apply IsS64.set_2)|exact HI0.out));(case side2=>repeat(first|(with_reducible first|exact HB.out|apply below_alloc|apply pw_below_drewN|apply below_drew1|refine below_set ?_ (IsS64.ge HI0.out))|exact HB.out));rintro e w13 ⟨rfl,hi,hb,hk⟩;refine⟨_,rfl,?_⟩;replace HK:=Aside0.mk (KeepBut.trans zz1 hk (.inl rfl));replace HB:=Aside0.mk (hb);replace HI0:=Aside0.mk (hi);(try clear hb);(try clear hk);(try clear hi))|((with_reducible refine gate_callee (f:=55) rfl ?_);refine goesQ_ 20 Try.func55 #[.pointer (some ⟨g,0,none⟩)] ?_;(with_reducible refine(spec_l1Byte.calls g s0_0 t183 t184 t185 t186 t187 w0 _ ?side1 ?side2 A9.out).mono ?_);(case side1=>repeat(first|(with_reducible first|exact HI0.out|apply IsS64.alloc|apply IsS64.drewN|apply IsS64.drew|apply IsS64.set_1|apply IsS64.set_2)|exact HI0.out));(case side2=>repeat(first|(with_reducible first|exact HB.out|apply below_alloc|apply pw_below_drewN|apply below_drew1|refine below_set ?_ (IsS64.ge HI0.out))|exact HB.out));rintro e w14 ⟨rfl,hi,hb,hk⟩;refine⟨_,rfl,?_⟩;replace HK:=Aside0.mk (KeepBut.trans zz1 hk (.inl rfl));replace HB:=Aside0.mk (hb);replace HI0:=Aside0.mk (hi);(try clear hb);(try clear hk);(try clear hi))|((with_reducible refine gate_callee (f:=55) rfl ?_);refine goesQ_ 22 Try.func55 #[.pointer (some ⟨g,0,none⟩)] ?_;(with_reducible refine(spec_l1Byte.calls g s0_0 t186 t187 t188 t189 t190 w0 _ ?side1 ?side2 A10.out).mono ?_);(case side1=>repeat(first|(with_reducible first|exact HI0.out|apply IsS64.alloc|apply IsS64.drewN|apply IsS64.drew|apply IsS64.set_1|apply IsS64.set_2)|exact HI0.out));(case side2=>repeat(first|(with_reducible first|exact HB.out|apply below_alloc|apply pw_below_drewN|apply below_drew1|refine below_set ?_ (IsS64.ge HI0.out))|exact HB.out));rintro e w15 ⟨rfl,hi,hb,hk⟩;refine⟨_,rfl,?_⟩;replace HK:=Aside0.mk (KeepBut.trans zz1 hk (.inl rfl));replace HB:=Aside0.mk (hb);replace HI0:=Aside0.mk (hi);(try clear hb);(try clear hk);(try clear hi))|((with_reducible refine gate_callee (f:=55) rfl ?_);refine goesQ_ 24 Try.func55 #[.pointer (some ⟨g,0,none⟩)] ?_;(with_reducible refine(spec_l1Byte.calls g s0_0 t189 t190 t191 t192 t193 w0 _ ?side1 ?side2 A11.out).mono ?_);(case side1=>repeat(first|(with_reducible first|exact HI0.out|apply IsS64.alloc|apply IsS64.drewN|apply IsS64.drew|apply IsS64.set_1|apply IsS64.set_2)|exact HI0.out));(case side2=>repeat(first|(with_reducible first|exact HB.out|apply below_alloc|apply pw_below_drewN|apply below_drew1|refine below_set ?_ (IsS64.ge HI0.out))|exact HB.out));rintro e w16 ⟨rfl,hi,hb,hk⟩;refine⟨_,rfl,?_⟩;replace HK:=Aside0.mk (KeepBut.trans zz1 hk (.inl rfl));replace HB:=Aside0.mk (hb);replace HI0:=Aside0.mk (hi);(try clear hb);(try clear hk);(try clear hi)))
    go_ret;exact⟨zz4,zz3,zz5,zz1⟩
/-! ### spec_l1Once: function 32 -/
def spec_l1Once.f (s0_0:List Int) (s0_1:Int) (s0_2:Int) (a1:Int):Option (Bool×Int×Int):=(spec_l1Below.f s0_0 s0_1 s0_2 a1).bind fun bt194=>(some ((bt194.1==0),bt194.2.1,bt194.2.2))
set_option maxHeartbeats 40000000 in
set_option maxRecDepth 100000 in
theorem spec_l1Once.calls (g : Nat) (s0_0 : List Int) (s0_1 : Int) (s0_2 : Int) (a1 : Int) (r1 : Bool) (r2 : Int) (r3 : Int) (w0 w : World) (hI : IsS64 w0 w g s0_0 s0_1 s0_2) (hB : Below w0.heap.size w0 w) (h : spec_l1Once.f s0_0 s0_1 s0_2 a1 = some (r1, r2, r3)) :
  Calls Try.prog 32 #[.pointer (some ⟨g,0,none⟩),.int .i64 a1] w fun e w'=>e= .returned (.bool r1)∧IsS64 w0 w' g s0_0 r2 r3∧Below w0.heap.size w0 w'∧KeepBut w w' g none:=by
 have HI0:=Aside0.mk hI;have HK:=Aside0.mk (KeepBut.refl w g none);have HL:=Aside0.mk hB.size;clear hI;have HW0:=Aside0.mk hB.size;have HB:=Aside0.mk hB;clear hB;have H:((spec_l1Below.f s0_0 s0_1 s0_2 a1).bind fun bt194=>(some ((bt194.1==0),bt194.2.1,bt194.2.2)))=some (r1,r2,r3):=h;clear h;replace H:=Option.bind_eq_some_iff.mp H;obtain⟨⟨t194,t195,t196⟩,A30,H⟩:=H;(try dsimp only at H);have A3:=Aside0.mk A30;clear A30;simp only[Option.some.injEq,Prod.mk.injEq]at H;obtain⟨rfl,rfl,rfl⟩:=H;go_enter Try.func32,Try.ntmps32
 go_wp2_with (first|((with_reducible refine gate_callee (f:=39) rfl ?_);refine goesQ_ 7 Try.func39 #[.pointer (some ⟨g,0,none⟩),.int .i64 a1] ?_;(with_reducible refine(spec_l1Below.calls g s0_0 s0_1 s0_2 a1 t194 t195 t196 w0 _ ?side1 ?side2 A3.out).mono ?_);(case side1=>repeat(first|(with_reducible first|exact HI0.out|apply IsS64.alloc|apply IsS64.drewN|apply IsS64.drew|apply IsS64.set_1|apply IsS64.set_2)|exact HI0.out));(case side2=>repeat(first|(with_reducible first|exact HB.out|apply below_alloc|apply pw_below_drewN|apply below_drew1|refine below_set ?_ (IsS64.ge HI0.out))|exact HB.out));rintro e w4 ⟨rfl,hi,hb,hk⟩;refine⟨_,rfl,?_⟩;replace HK:=Aside0.mk (KeepBut.trans zz1 hk (.inl rfl));replace HB:=Aside0.mk (hb);replace HI0:=Aside0.mk (hi);(try clear hb);(try clear hk);(try clear hi)))
 go_ret;exact⟨zz4,zz3,zz5,zz1⟩
end Go.Proofs.Ytkkolioolgpljaa.GFnWiths
