-- Printed by gen.py and its programs for this claim.
import Derived.Test.YtnilblnhlpnpgaaGreatDoorGFnChunksx0
import Derived.Test.YtnilblnhlpnpgaaGreatDoorZFnChunks
namespace Go.Proofs.YtnilblnhlpnpgaaGreatDoor.GFnChunks
open Go.RowKit Go.Proofs.YtnilblnhlpnpgaaGreatDoorW.PrintWords Go.Proofs.YtnilblnhlpnpgaaGreatDoorW.PrintLast Go.Proofs.YtnilblnhlpnpgaaGreatDoorW.PrintMore Go.Proofs.YtnilblnhlpnpgaaGreatDoorW.Zs
attribute [local go_sem] max2_int min2_int max_two min_two max_three min_three max_four min_four
set_option linter.unusedVariables false
set_option linter.unusedSimpArgs false
def IsS73 (w0 W:World) (g:Nat) (f0:List Int) (f1 f2:Int):Prop:= ∃A0 c0,W.heap[g]?=some (.cells #[.slice A0 f0.length c0,.int .i64 f1,.int .i64 f2] 73 (0,0))∧w0.heap.size≤g∧Kd.C (Kd.int .u8) w0 A0 f0.length f0
theorem IsS73.grown {w0 W:World} {g:Nat} {f0:List Int} {f1:Int} {f2:Int} {W1:World} {row:Option Nat} (h:IsS73 w0 W g f0 f1 f2) (hw:W.grownBy W1 row) (hne:some g≠row):IsS73 w0 W1 g f0 f1 f2:=by
 obtain⟨A0,c0,hb,hg,hr0⟩:=h;exact⟨A0,c0,blk_grown hb hw hne,hg,hr0⟩
theorem IsS73.own_neN {w0 W:World} {g:Nat} {f0:List Int} {f1:Int} {f2:Int} {α:Type} {d:Kd α} {e:Nat} {base:Nat} {ok:Nat→Prop} {v:Value} {xs:List α} (h:IsS73 w0 W g f0 f1 f2) (ho:Kd.N d e W base ok v xs) (ht:e≠73):some g≠v.ownBlock:=by
 obtain⟨A0,c0,hb,hg,hr0⟩:=h;exact Kd.N_ne ho hb ht
theorem IsS73.fresh {w0 W:World} {g:Nat} {f0:List Int} {f1:Int} {f2:Int} (h:IsS73 w0 W g f0 f1 f2): ∀k,W.heap.size≤k→k≠g:=by
 obtain⟨A0,c0,hb,hg,hr0⟩:=h;exact Kd.freshB hb
theorem IsS73.kept {w0 W:World} {g:Nat} {f0:List Int} {f1:Int} {f2:Int} {W1:World} {S:Nat→Prop} (h:IsS73 w0 W g f0 f1 f2) (hk:Kept W W1 S) (hne: ¬S g):IsS73 w0 W1 g f0 f1 f2:=by
 obtain⟨A0,c0,hb,hg,hr0⟩:=h;exact⟨A0,c0,blk_kept hb hk hne,hg,hr0⟩
theorem IsS73.below {w0 W:World} {g:Nat} {f0:List Int} {f1:Int} {f2:Int} {W1:World} (h:IsS73 w0 W g f0 f1 f2) (hw:Below W.heap.size W W1):IsS73 w0 W1 g f0 f1 f2:=h.grown (grown_of_below hw none) (by simp)
theorem IsS73.alloc {w0 W:World} {g:Nat} {f0:List Int} {f1:Int} {f2:Int} (h:IsS73 w0 W g f0 f1 f2) (o:Obj):IsS73 w0 (W.alloc o) g f0 f1 f2:=h.below (below_alloc (Below.refl _ _) o)
theorem IsS73.drewN {w0 W:World} {g:Nat} {f0:List Int} {f1:Int} {f2:Int} (h:IsS73 w0 W g f0 f1 f2) (m:Nat):IsS73 w0 (W.drewN m) g f0 f1 f2:=h
theorem IsS73.drew {w0 W:World} {g:Nat} {f0:List Int} {f1:Int} {f2:Int} (h:IsS73 w0 W g f0 f1 f2):IsS73 w0 W.drew g f0 f1 f2:=h
theorem IsS73.at_ {w0 W:World} {g:Nat} {f0:List Int} {f1:Int} {f2:Int} {w':World} {m:Nat} (hq:W.drewN m=w') (h:IsS73 w0 W g f0 f1 f2):IsS73 w0 w' g f0 f1 f2:=by subst hq;exact IsS73.drewN h m
theorem IsS73.apart {w0 W:World} {g:Nat} {f0:List Int} {f1:Int} {f2:Int} {α:Type} {d:Kd α} {e:Nat} {base:Nat} {ok:Nat→Prop} {v:Value} {xs:List α} (h:IsS73 w0 W g f0 f1 f2) (ho:d.R e W base ok v xs) (ht: ∀q,q∈e::d.E→q≠73):d.R e W base (fun k=>ok k∧k≠g) v xs:=by
 obtain⟨A0,c0,hb,hg,hr0⟩:=h;exact Kd.R_types ho hb ht
theorem IsS73.own_ne {w0 W:World} {g:Nat} {f0:List Int} {f1:Int} {f2:Int} {α:Type} {d:Kd α} {e:Nat} {base:Nat} {ok:Nat→Prop} {v:Value} {xs:List α} (h:IsS73 w0 W g f0 f1 f2) (ho:d.R e W base ok v xs) (ht:e≠73):some g≠v.ownBlock:=by
 obtain⟨A0,c0,hb,hg,hr0⟩:=h;exact Kd.R_ne ho hb ht
theorem IsS73.apartQ {w0 W:World} {g:Nat} {f0:List Int} {f1:Int} {f2:Int} {α:Type} {d:Kd α} {e:Nat} {base:Nat} {ok:Nat→Prop} {v:Value} {xs:List α} (h:IsS73 w0 W g f0 f1 f2) (ho:d.Q e W base ok v xs) (ht: ∀q,q∈e::d.E→q≠73):d.Q e W base (fun k=>ok k∧k≠g) v xs:=by
 obtain⟨A0,c0,hb,hg,hr0⟩:=h;exact Kd.Q_types ho hb ht
theorem IsS73.own_neQ {w0 W:World} {g:Nat} {f0:List Int} {f1:Int} {f2:Int} {α:Type} {d:Kd α} {e:Nat} {base:Nat} {ok:Nat→Prop} {v:Value} {xs:List α} (h:IsS73 w0 W g f0 f1 f2) (ho:d.Q e W base ok v xs) (ht:e≠73):some g≠v.ownBlock:=by
 obtain⟨A0,c0,hb,hg,hr0⟩:=h;exact Kd.Q_ne ho hb ht
theorem IsS73.apartS {w0 W:World} {g:Nat} {f0:List Int} {f1:Int} {f2:Int} {α:Type} {d:Kd α} {e:Nat} {base:Nat} {ok:Nat→Prop} {v:Value} {xs:List α} (h:IsS73 w0 W g f0 f1 f2) (ho:d.S e W base ok v xs) (ht: ∀q,q∈e::d.E→q≠73):d.S e W base (fun k=>ok k∧k≠g) v xs:=by
 obtain⟨A0,c0,hb,hg,hr0⟩:=h;exact Kd.S_types ho hb ht
theorem IsS73.own_neS {w0 W:World} {g:Nat} {f0:List Int} {f1:Int} {f2:Int} {α:Type} {d:Kd α} {e:Nat} {base:Nat} {ok:Nat→Prop} {v:Value} {xs:List α} (h:IsS73 w0 W g f0 f1 f2) (ho:d.S e W base ok v xs) (ht:e≠73):some g≠v.ownBlock:=by
 obtain⟨A0,c0,hb,hg,hr0⟩:=h;exact Kd.S_ne ho hb ht
theorem IsS73.lt {w0 W:World} {g:Nat} {f0:List Int} {f1:Int} {f2:Int} (h:IsS73 w0 W g f0 f1 f2):g<W.heap.size:=by
 obtain⟨A0,c0,hb,hg,hr0⟩:=h;exact blk_lt hb
theorem IsS73.ge {w0 W:World} {g:Nat} {f0:List Int} {f1:Int} {f2:Int} (h:IsS73 w0 W g f0 f1 f2):w0.heap.size≤g:=by
 obtain⟨A0,c0,hb,hg,hr0⟩:=h;exact hg
theorem IsS73.ne_blk {w0 W:World} {g:Nat} {f0:List Int} {f1:Int} {f2:Int} {a:Nat} {cs:Array Value} {t:TypeId} {fr:Nat×Nat} (h:IsS73 w0 W g f0 f1 f2) (hb2:W.heap[a]?=some (.cells cs t fr)) (ht:t≠73):g≠a:=by
 obtain⟨A0,c0,hb,hg,hr0⟩:=h;rintro rfl;rw[hb]at hb2
 injection hb2 with hb2
 injection hb2 with _ ht2
 exact ht ht2.symm
theorem IsS73.far {w0 W:World} {g:Nat} {f0:List Int} {f1:Int} {f2:Int} {p:Addr} (h:IsS73 w0 W g f0 f1 f2) (hne:g≠p.block) (u:Value):IsS73 w0 (W.setCell p u) g f0 f1 f2:=by
 obtain⟨A0,c0,hb,hg,hr0⟩:=h;exact⟨A0,c0,blk_far hb hne u,hg,hr0⟩
theorem cellS73_0 {W:World} {g:Nat} {A0:Option Addr} {c0:Nat} {f0:List Int} {f1:Int} {f2:Int} (h:W.heap[g]?=some (.cells #[.slice A0 f0.length c0,.int .i64 f1,.int .i64 f2] 73 (0,0))):W.cell? ⟨g,0,none⟩=some (.slice A0 f0.length c0):=(blk_cell h 0).trans rfl
theorem cellS73_1 {W:World} {g:Nat} {A0:Option Addr} {c0:Nat} {f0:List Int} {f1:Int} {f2:Int} (h:W.heap[g]?=some (.cells #[.slice A0 f0.length c0,.int .i64 f1,.int .i64 f2] 73 (0,0))):W.cell? ⟨g,1,none⟩=some (.int .i64 f1):=(blk_cell h 1).trans rfl
theorem IsS73.set_1 {w0 W:World} {g:Nat} {f0:List Int} {f1:Int} {f2:Int} (h:IsS73 w0 W g f0 f1 f2) (x:Int):IsS73 w0 (W.setCell ⟨g,1,none⟩ (.int .i64 x)) g f0 x f2:=by
 obtain⟨A0,c0,hb,hg,hr0⟩:=h;exact⟨A0,c0,by simpa using blk_set hb 1 (.int .i64 x),hg,hr0⟩
theorem cellS73_2 {W:World} {g:Nat} {A0:Option Addr} {c0:Nat} {f0:List Int} {f1:Int} {f2:Int} (h:W.heap[g]?=some (.cells #[.slice A0 f0.length c0,.int .i64 f1,.int .i64 f2] 73 (0,0))):W.cell? ⟨g,2,none⟩=some (.int .i64 f2):=(blk_cell h 2).trans rfl
theorem IsS73.set_2 {w0 W:World} {g:Nat} {f0:List Int} {f1:Int} {f2:Int} (h:IsS73 w0 W g f0 f1 f2) (x:Int):IsS73 w0 (W.setCell ⟨g,2,none⟩ (.int .i64 x)) g f0 f1 x:=by
 obtain⟨A0,c0,hb,hg,hr0⟩:=h;exact⟨A0,c0,by simpa using blk_set hb 2 (.int .i64 x),hg,hr0⟩
theorem IsS73.new (w0 W:World) (A0:Option Addr) (c0:Nat) (f0:List Int) (f1 f2:Int) (hB:Below w0.heap.size w0 W) (hr0:Kd.C (Kd.int .u8) w0 A0 f0.length f0):IsS73 w0 (W.alloc (.cells #[.slice A0 f0.length c0,.int .i64 f1,.int .i64 f2] 73)) W.heap.size f0 f1 f2:=⟨A0,c0,by simpa using heap_alloc_new W _,hB.size,hr0⟩
def spec_l1New.l0:Nat→List Int→Int→Int→Option (List Int×Int×Int)
 |0,_,_,_=>none
 |k+1,x0,x3,x4=>if x4<(x0.length:Int)then(if x4<4000 then(if 0≤x4 then(spec_l1New.l0 k x0 (Go.bits .and .i64 (wrap64 ((wrap64 ((wrap64 (x3*131))+(wrap64 (rd x0 x4))))+7)) 1073741823) (wrap64 (x4+1)))else(none))else(some (x0,0,x3)))else(some (x0,0,x3))
def spec_l1New.f (k:Nat) (l0:List Int):Option (List Int×Int×Int):=spec_l1New.l0 k l0 (wrap64 (64242+(l0.length:Int))) 0
set_option maxHeartbeats 40000000 in
set_option maxRecDepth 100000 in
theorem spec_l1New.calls (k:Nat) (A0:Option Addr) (c0:Nat) (l0:List Int) (r1:List Int) (r2 r3:Int) (w0 w:World) (hB:Below w0.heap.size w0 w) (hr0:Kd.C (Kd.int .u8) w0 A0 l0.length l0) (hc0:l0.length≤c0) (h:spec_l1New.f k l0=some (r1,r2,r3)):
  Calls Tryz.prog 22 #[.slice A0 l0.length c0] w fun e w'=> ∃g_:Nat,e= .returned (.pointer (some ⟨g_,0,none⟩))∧IsS73 w0 w' g_ r1 r2 r3∧Below w0.heap.size w0 w'∧Below w.heap.size w w':=by
 have hu73:=Tryz.underlying73;have HR0:=Aside0.mk hr0;have HC0:=Aside0.mk hc0;clear hr0 hc0;have HBW:=Aside0.mk (Below.refl w.heap.size w);have HW0:=Aside0.mk hB.size;have HB:=Aside0.mk hB;clear hB;have H:(spec_l1New.l0 k l0 (wrap64 (64242+(l0.length:Int))) 0)=some (r1,r2,r3):=h;clear h;have H':=Aside0.mk H;clear H;go_enter Tryz.func22,Tryz.ntmps22
 go_wp2
 go_loopg [3,4] k (fun kq v3 v4 w'=> ∃(x3_1 x4_1:Int),v3= .int .i64 x3_1∧v4= .int .i64 x4_1∧Aside0 (spec_l1New.l0 kq l0 x3_1 x4_1=some (r1,r2,r3))∧Aside0 (kq≤k)∧Aside0 (Below w0.heap.size w0 w')∧Aside0 (Below w.heap.size w w'))
 case atStart=>exact⟨(wrap64 (64242+(l0.length:Int))),(0),zz4,zz4,H',⟨Nat.le_refl _⟩,⟨zz0⟩,HBW⟩
 case round=>
  clear H';obtain⟨x3_1,x4_1,rfl,rfl,HA,HK1,HB,HBW⟩:=hrel
  cases gk with
  |zero=>exact absurd HA.out (by simp[spec_l1New.l0])
  |succ k1=>
   have H:=HA.out;clear HA;simp only[spec_l1New.l0]at H
   by_cases c2:x4_1<(l0.length:Int)
   ·rw[if_pos c2]at H;have c2b0:decide (x4_1<(l0.length:Int))=true:=decide_eq_true c2;clear c2
    by_cases c3:x4_1<4000
    ·rw[if_pos c3]at H;have c3b0:decide (x4_1<4000)=true:=decide_eq_true c3;clear c3
     by_cases c4:0≤x4_1
     ·rw[if_pos c4]at H;have c4b0:decide (0≤x4_1)=true:=decide_eq_true c4;clear c4;have H':=Aside0.mk H;clear H;have p101:0≤(x4_1:Int):=of_decide_eq_true zz12;have q101:x4_1<(l0.length:Int):=of_decide_eq_true zz12;obtain⟨ad101,e101,hx101_0⟩:=Kd.at_int HR0.out x4_1 p101 q101;cases e101;replace hx101_0:=pw_cell_below HB.out hx101_0;replace p101:=eq_true p101;replace q101:=eq_true q101;go_wp2
      go_roundg k1
      (case measure=>have:=HK1.out;omega);case rel=>exact⟨(Go.bits .and .i64 (wrap64 ((wrap64 ((wrap64 (x3_1*131))+(wrap64 (rd l0 x4_1))))+7)) 1073741823),(wrap64 (x4_1+1)),zz4,zz4,H',⟨zz85⟩,⟨zz0⟩,HBW⟩
     ·rw[if_neg c4]at H;exact absurd H (by simp)
    ·rw[if_neg c3]at H;have c3b0:decide (x4_1<4000)=false:=decide_eq_false c3;clear c3;simp only[Option.some.injEq,Prod.mk.injEq]at H;obtain⟨rfl,rfl,rfl⟩:=H;go_wp2
     go_ret;exact⟨_,rfl,IsS73.new w0 _ A0 c0 l0 0 x3_1 HB.out HR0.out,below_alloc HB.out _,below_alloc HBW.out _⟩
   ·rw[if_neg c2]at H;have c2b0:decide (x4_1<(l0.length:Int))=false:=decide_eq_false c2;clear c2;simp only[Option.some.injEq,Prod.mk.injEq]at H;obtain⟨rfl,rfl,rfl⟩:=H;go_wp2
    go_ret;exact⟨_,rfl,IsS73.new w0 _ A0 c0 l0 0 x3_1 HB.out HR0.out,below_alloc HB.out _,below_alloc HBW.out _⟩
def spec_l1Byte.f (s0_0:List Int) (s0_1 s0_2:Int):Option (Int×Int×Int):=if s0_1<(s0_0.length:Int)then(if 0≤s0_1 then(some (Go.bits .and .i64 (wrap64 ((Go.bits .and .i64 (Go.bits .xor .i64 ((wrap64 ((wrap64 (s0_2*6364136223846793005))+1442695040888963407))/8589934592) ((wrap64 ((wrap64 (s0_2*6364136223846793005))+1442695040888963407))/35184372088832)) 255)+(wrap64 (rd s0_0 s0_1)))) 255,wrap64 (s0_1+1),wrap64 ((wrap64 (s0_2*6364136223846793005))+1442695040888963407)))else(none))else(some (Go.bits .and .i64 (Go.bits .xor .i64 ((wrap64 ((wrap64 (s0_2*6364136223846793005))+1442695040888963407))/8589934592) ((wrap64 ((wrap64 (s0_2*6364136223846793005))+1442695040888963407))/35184372088832)) 255,s0_1,wrap64 ((wrap64 (s0_2*6364136223846793005))+1442695040888963407)))
set_option maxHeartbeats 40000000 in
set_option maxRecDepth 100000 in
theorem spec_l1Byte.calls (g:Nat) (s0_0:List Int) (s0_1 s0_2 r1 r2 r3:Int) (w0 w:World) (hI:IsS73 w0 w g s0_0 s0_1 s0_2) (hB:Below w0.heap.size w0 w) (h:spec_l1Byte.f s0_0 s0_1 s0_2=some (r1,r2,r3)):
  Calls Tryz.prog 60 #[.pointer (some ⟨g,0,none⟩)] w fun e w'=>e= .returned (.int .i64 r1)∧IsS73 w0 w' g s0_0 r2 r3∧Below w0.heap.size w0 w'∧KeepBut w w' g none:=by
 have HI0:=Aside0.mk hI;have HK:=Aside0.mk (KeepBut.refl w g none);have HL:=Aside0.mk hB.size;clear hI;have HW0:=Aside0.mk hB.size;have HB:=Aside0.mk hB;clear hB;have H:(if s0_1<(s0_0.length:Int)then(if 0≤s0_1 then(some (Go.bits .and .i64 (wrap64 ((Go.bits .and .i64 (Go.bits .xor .i64 ((wrap64 ((wrap64 (s0_2*6364136223846793005))+1442695040888963407))/8589934592) ((wrap64 ((wrap64 (s0_2*6364136223846793005))+1442695040888963407))/35184372088832)) 255)+(wrap64 (rd s0_0 s0_1)))) 255,wrap64 (s0_1+1),wrap64 ((wrap64 (s0_2*6364136223846793005))+1442695040888963407)))else(none))else(some (Go.bits .and .i64 (Go.bits .xor .i64 ((wrap64 ((wrap64 (s0_2*6364136223846793005))+1442695040888963407))/8589934592) ((wrap64 ((wrap64 (s0_2*6364136223846793005))+1442695040888963407))/35184372088832)) 255,s0_1,wrap64 ((wrap64 (s0_2*6364136223846793005))+1442695040888963407))))=some (r1,r2,r3):=h;clear h
 by_cases c2:s0_1<(s0_0.length:Int)
 ·rw[if_pos c2]at H;have c2b0:decide (s0_1<(s0_0.length:Int))=true:=decide_eq_true c2;clear c2
  by_cases c3:0≤s0_1
  ·rw[if_pos c3]at H;have c3b0:decide (0≤s0_1)=true:=decide_eq_true c3;clear c3;simp only[Option.some.injEq,Prod.mk.injEq]at H;obtain⟨rfl,rfl,rfl⟩:=H;obtain⟨ASz4_0,cSz4_0,HGz4,hgz4,HSz4_0⟩:=HI0.out;have hcz4_0:=cellS73_0 HGz4;have hcz4_1:=cellS73_1 HGz4;have hcz4_2:=cellS73_2 HGz4;have hfz4_1:=blk_frozen HGz4 1;have hfz4_2:=blk_frozen HGz4 2;clear HGz4 hgz4;have p104:0≤(s0_1:Int):=of_decide_eq_true zz12;have q104:s0_1<(s0_0.length:Int):=of_decide_eq_true zz12;obtain⟨ad104,e104,hx104_0⟩:=Kd.at_int HSz4_0 s0_1 p104 q104;cases e104;have hn104_0:ad104.block≠g:=Nat.ne_of_lt (Nat.lt_of_lt_of_le (by have:=World.block_lt_of_cell? _ _ hx104_0;first|rwa [add_block]at this|exact this) (IsS73.ge HI0.out));replace hx104_0:=pw_cell_below HB.out hx104_0;replace hx104_0:=(cell_far (p:=⟨g,2,none⟩) (by first|(rw[add_block];exact hn104_0)|(show(Addr.add _ _).block≠_;rw[add_block];exact hn104_0)|exact hn104_0) (.int .i64 (wrap64 ((wrap64 (s0_2*6364136223846793005))+1442695040888963407)))).trans hx104_0;(try have hy104_0:=fun(n_:Nat)=>(show(((w.drewN n_).setCell ⟨g,2,none⟩ (.int .i64 (wrap64 ((wrap64 (s0_2*6364136223846793005))+1442695040888963407))))).cell? _=some _ from hx104_0));clear hn104_0;replace p104:=eq_true p104;replace q104:=eq_true q104;go_enter Tryz.func60,Tryz.ntmps60
   go_wp2
   repeat(go_quiet (fail);try go_wp2)
   go_ret;exact⟨zz3,zz21,zz24,zz13⟩
  ·rw[if_neg c3]at H;exact absurd H (by simp)
 ·rw[if_neg c2]at H;have c2b0:decide (s0_1<(s0_0.length:Int))=false:=decide_eq_false c2;clear c2;simp only[Option.some.injEq,Prod.mk.injEq]at H;obtain⟨rfl,rfl,rfl⟩:=H;obtain⟨ASz5_0,cSz5_0,HGz5,hgz5,HSz5_0⟩:=HI0.out;have hcz5_0:=cellS73_0 HGz5;have hcz5_1:=cellS73_1 HGz5;have hcz5_2:=cellS73_2 HGz5;have hfz5_1:=blk_frozen HGz5 1;have hfz5_2:=blk_frozen HGz5 2;clear HGz5 hgz5;go_enter Tryz.func60,Tryz.ntmps60
  go_wp2
  repeat(go_quiet (fail);try go_wp2)
  go_ret;exact⟨zz3,zz21,zz24,zz13⟩
def spec_l1Below.f (s0_0:List Int) (s0_1 s0_2 a1:Int):Option (Int×Int×Int):=if a1≤0 then(some (0,s0_1,s0_2))else(if a1≤256 then((spec_l1Byte.f s0_0 s0_1 s0_2).bind fun bt105=>(if a1=0 then(none)else(some (Int.tmod bt105.1 a1,bt105.2.1,bt105.2.2))))else((spec_l1Byte.f s0_0 s0_1 s0_2).bind fun bt108=>((spec_l1Byte.f s0_0 bt108.2.1 bt108.2.2).bind fun bt111=>((spec_l1Byte.f s0_0 bt111.2.1 bt111.2.2).bind fun bt114=>((spec_l1Byte.f s0_0 bt114.2.1 bt114.2.2).bind fun bt117=>(if a1=0 then(none)else(some (Int.tmod (wrap64 ((wrap64 ((wrap64 ((wrap64 (bt108.1*16777216))+(wrap64 (bt111.1*65536))))+(wrap64 (bt114.1*256))))+bt117.1)) a1,bt117.2.1,bt117.2.2))))))))
set_option maxHeartbeats 40000000 in
set_option maxRecDepth 100000 in
theorem spec_l1Below.calls (g:Nat) (s0_0:List Int) (s0_1 s0_2 a1 r1 r2 r3:Int) (w0 w:World) (hI:IsS73 w0 w g s0_0 s0_1 s0_2) (hB:Below w0.heap.size w0 w) (h:spec_l1Below.f s0_0 s0_1 s0_2 a1=some (r1,r2,r3)):
  Calls Tryz.prog 23 #[.pointer (some ⟨g,0,none⟩),.int .i64 a1] w fun e w'=>e= .returned (.int .i64 r1)∧IsS73 w0 w' g s0_0 r2 r3∧Below w0.heap.size w0 w'∧KeepBut w w' g none:=by
 have HI0:=Aside0.mk hI;have HK:=Aside0.mk (KeepBut.refl w g none);have HL:=Aside0.mk hB.size;clear hI;have HW0:=Aside0.mk hB.size;have HB:=Aside0.mk hB;clear hB;have H:(if a1≤0 then(some (0,s0_1,s0_2))else(if a1≤256 then((spec_l1Byte.f s0_0 s0_1 s0_2).bind fun bt105=>(if a1=0 then(none)else(some (Int.tmod bt105.1 a1,bt105.2.1,bt105.2.2))))else((spec_l1Byte.f s0_0 s0_1 s0_2).bind fun bt108=>((spec_l1Byte.f s0_0 bt108.2.1 bt108.2.2).bind fun bt111=>((spec_l1Byte.f s0_0 bt111.2.1 bt111.2.2).bind fun bt114=>((spec_l1Byte.f s0_0 bt114.2.1 bt114.2.2).bind fun bt117=>(if a1=0 then(none)else(some (Int.tmod (wrap64 ((wrap64 ((wrap64 ((wrap64 (bt108.1*16777216))+(wrap64 (bt111.1*65536))))+(wrap64 (bt114.1*256))))+bt117.1)) a1,bt117.2.1,bt117.2.2)))))))))=some (r1,r2,r3):=h;clear h
 by_cases c3:a1≤0
 ·rw[if_pos c3]at H;have c3b0:decide (a1≤0)=true:=decide_eq_true c3;clear c3;simp only[Option.some.injEq,Prod.mk.injEq]at H;obtain⟨rfl,rfl,rfl⟩:=H;go_enter Tryz.func23,Tryz.ntmps23
  go_wp2
  go_ret;exact⟨zz3,zz21,zz24,zz13⟩
 ·rw[if_neg c3]at H;have c3b0:decide (a1≤0)=false:=decide_eq_false c3;clear c3
  by_cases c4:a1≤256
  ·rw[if_pos c4]at H;have c4b0:decide (a1≤256)=true:=decide_eq_true c4;clear c4;replace H:=Option.bind_eq_some_iff.mp H;obtain⟨⟨t105,t106,t107⟩,A50,H⟩:=H;(try dsimp only at H);have A5:=Aside0.mk A50;clear A50
   by_cases c6:a1=0
   ·rw[if_pos c6]at H;exact absurd H (by simp)
   ·rw[if_neg c6]at H;have c6b0:(a1==0)=false:=beq_eq_false_iff_ne.mpr c6;have c6b1:(a1 !=0)=true:=bne_iff_ne.mpr c6;simp only[Option.some.injEq,Prod.mk.injEq]at H;obtain⟨rfl,rfl,rfl⟩:=H;go_enter Tryz.func23,Tryz.ntmps23
    go_wp2_with (first|((with_reducible refine gate_callee (f:=60) rfl ?_);refine goesQ_ 14 Tryz.func60 #[.pointer (some ⟨g,0,none⟩)] ?_;(with_reducible refine(spec_l1Byte.calls g s0_0 s0_1 s0_2 t105 t106 t107 w0 _ ?side1 ?side2 A5.out).mono ?_);(case side1=>repeat(first|(with_reducible first|exact HI0.out|apply IsS73.alloc|apply IsS73.drewN|apply IsS73.drew|apply IsS73.set_1|apply IsS73.set_2)|exact HI0.out));(case side2=>repeat(first|(with_reducible first|exact HB.out|apply below_alloc|apply pw_below_drewN|apply below_drew1|refine below_set ?_ (IsS73.ge HI0.out))|exact HB.out));rintro e w7 ⟨rfl,hi,hb,hk⟩;refine⟨_,rfl,?_⟩;replace HK:=Aside0.mk (KeepBut.trans zz13 hk (.inl rfl));replace HB:=Aside0.mk (hb);replace HI0:=Aside0.mk (hi);(try clear hb);(try clear hk);(try clear hi)))
    go_ret;exact⟨zz3,zz21,zz24,zz13⟩
  ·rw[if_neg c4]at H;have c4b0:decide (a1≤256)=false:=decide_eq_false c4;clear c4;replace H:=Option.bind_eq_some_iff.mp H;obtain⟨⟨t108,t109,t110⟩,A80,H⟩:=H;(try dsimp only at H);have A8:=Aside0.mk A80;clear A80;replace H:=Option.bind_eq_some_iff.mp H;obtain⟨⟨t111,t112,t113⟩,A90,H⟩:=H;(try dsimp only at H);have A9:=Aside0.mk A90;clear A90;replace H:=Option.bind_eq_some_iff.mp H;obtain⟨⟨t114,t115,t116⟩,A100,H⟩:=H;(try dsimp only at H);have A10:=Aside0.mk A100;clear A100;replace H:=Option.bind_eq_some_iff.mp H;obtain⟨⟨t117,t118,t119⟩,A110,H⟩:=H;(try dsimp only at H);have A11:=Aside0.mk A110;clear A110
   by_cases c12:a1=0
   ·rw[if_pos c12]at H;exact absurd H (by simp)
   ·rw[if_neg c12]at H;have c12b0:(a1==0)=false:=beq_eq_false_iff_ne.mpr c12;have c12b1:(a1 !=0)=true:=bne_iff_ne.mpr c12;simp only[Option.some.injEq,Prod.mk.injEq]at H;obtain⟨rfl,rfl,rfl⟩:=H;go_enter Tryz.func23,Tryz.ntmps23
    go_wp2_with (first|((with_reducible refine gate_callee (f:=60) rfl ?_);refine goesQ_ 18 Tryz.func60 #[.pointer (some ⟨g,0,none⟩)] ?_;(with_reducible refine(spec_l1Byte.calls g s0_0 s0_1 s0_2 t108 t109 t110 w0 _ ?side1 ?side2 A8.out).mono ?_);(case side1=>repeat(first|(with_reducible first|exact HI0.out|apply IsS73.alloc|apply IsS73.drewN|apply IsS73.drew|apply IsS73.set_1|apply IsS73.set_2)|exact HI0.out));(case side2=>repeat(first|(with_reducible first|exact HB.out|apply below_alloc|apply pw_below_drewN|apply below_drew1|refine below_set ?_ (IsS73.ge HI0.out))|exact HB.out));rintro e w13 ⟨rfl,hi,hb,hk⟩;refine⟨_,rfl,?_⟩;replace HK:=Aside0.mk (KeepBut.trans zz13 hk (.inl rfl));replace HB:=Aside0.mk (hb);replace HI0:=Aside0.mk (hi);(try clear hb);(try clear hk);(try clear hi))|((with_reducible refine gate_callee (f:=60) rfl ?_);refine goesQ_ 20 Tryz.func60 #[.pointer (some ⟨g,0,none⟩)] ?_;(with_reducible refine(spec_l1Byte.calls g s0_0 t109 t110 t111 t112 t113 w0 _ ?side1 ?side2 A9.out).mono ?_);(case side1=>repeat(first|(with_reducible first|exact HI0.out|apply IsS73.alloc|apply IsS73.drewN|apply IsS73.drew|apply IsS73.set_1|apply IsS73.set_2)|exact HI0.out));(case side2=>repeat(first|(with_reducible first|exact HB.out|apply below_alloc|apply pw_below_drewN|apply below_drew1|refine below_set ?_ (IsS73.ge HI0.out))|exact HB.out));rintro e w14 ⟨rfl,hi,hb,hk⟩;refine⟨_,rfl,?_⟩;replace HK:=Aside0.mk (KeepBut.trans zz13 hk (.inl rfl));replace HB:=Aside0.mk (hb);replace HI0:=Aside0.mk (hi);(try clear hb);(try clear hk);(try clear hi))|((with_reducible refine gate_callee (f:=60) rfl ?_);refine goesQ_ 22 Tryz.func60 #[.pointer (some ⟨g,0,none⟩)] ?_;(with_reducible refine(spec_l1Byte.calls g s0_0 t112 t113 t114 t115 t116 w0 _ ?side1 ?side2 A10.out).mono ?_);(case side1=>repeat(first|(with_reducible first|exact HI0.out|apply IsS73.alloc|apply IsS73.drewN|apply IsS73.drew|apply IsS73.set_1|apply IsS73.set_2)|exact HI0.out));(case side2=>repeat(first|(with_reducible first|exact HB.out|apply below_alloc|apply pw_below_drewN|apply below_drew1|refine below_set ?_ (IsS73.ge HI0.out))|exact HB.out));rintro e w15 ⟨rfl,hi,hb,hk⟩;refine⟨_,rfl,?_⟩;replace HK:=Aside0.mk (KeepBut.trans zz13 hk (.inl rfl));replace HB:=Aside0.mk (hb);replace HI0:=Aside0.mk (hi);(try clear hb);(try clear hk);(try clear hi))|((with_reducible refine gate_callee (f:=60) rfl ?_);refine goesQ_ 24 Tryz.func60 #[.pointer (some ⟨g,0,none⟩)] ?_;(with_reducible refine(spec_l1Byte.calls g s0_0 t115 t116 t117 t118 t119 w0 _ ?side1 ?side2 A11.out).mono ?_);(case side1=>repeat(first|(with_reducible first|exact HI0.out|apply IsS73.alloc|apply IsS73.drewN|apply IsS73.drew|apply IsS73.set_1|apply IsS73.set_2)|exact HI0.out));(case side2=>repeat(first|(with_reducible first|exact HB.out|apply below_alloc|apply pw_below_drewN|apply below_drew1|refine below_set ?_ (IsS73.ge HI0.out))|exact HB.out));rintro e w16 ⟨rfl,hi,hb,hk⟩;refine⟨_,rfl,?_⟩;replace HK:=Aside0.mk (KeepBut.trans zz13 hk (.inl rfl));replace HB:=Aside0.mk (hb);replace HI0:=Aside0.mk (hi);(try clear hb);(try clear hk);(try clear hi)))
    go_ret;exact⟨zz3,zz21,zz24,zz13⟩
def spec_l1Once.f (s0_0:List Int) (s0_1 s0_2 a1:Int):Option (Bool×Int×Int):=(spec_l1Below.f s0_0 s0_1 s0_2 a1).bind fun bt120=>(some ((bt120.1==0),bt120.2.1,bt120.2.2))
set_option maxHeartbeats 40000000 in
set_option maxRecDepth 100000 in
theorem spec_l1Once.calls (g:Nat) (s0_0:List Int) (s0_1 s0_2 a1:Int) (r1:Bool) (r2 r3:Int) (w0 w:World) (hI:IsS73 w0 w g s0_0 s0_1 s0_2) (hB:Below w0.heap.size w0 w) (h:spec_l1Once.f s0_0 s0_1 s0_2 a1=some (r1,r2,r3)):
  Calls Tryz.prog 24 #[.pointer (some ⟨g,0,none⟩),.int .i64 a1] w fun e w'=>e= .returned (.bool r1)∧IsS73 w0 w' g s0_0 r2 r3∧Below w0.heap.size w0 w'∧KeepBut w w' g none:=by
 have HI0:=Aside0.mk hI;have HK:=Aside0.mk (KeepBut.refl w g none);have HL:=Aside0.mk hB.size;clear hI;have HW0:=Aside0.mk hB.size;have HB:=Aside0.mk hB;clear hB;have H:((spec_l1Below.f s0_0 s0_1 s0_2 a1).bind fun bt120=>(some ((bt120.1==0),bt120.2.1,bt120.2.2)))=some (r1,r2,r3):=h;clear h;replace H:=Option.bind_eq_some_iff.mp H;obtain⟨⟨t120,t121,t122⟩,A30,H⟩:=H;(try dsimp only at H);have A3:=Aside0.mk A30;clear A30;simp only[Option.some.injEq,Prod.mk.injEq]at H;obtain⟨rfl,rfl,rfl⟩:=H;go_enter Tryz.func24,Tryz.ntmps24
 go_wp2_with (first|((with_reducible refine gate_callee (f:=23) rfl ?_);refine goesQ_ 7 Tryz.func23 #[.pointer (some ⟨g,0,none⟩),.int .i64 a1] ?_;(with_reducible refine(spec_l1Below.calls g s0_0 s0_1 s0_2 a1 t120 t121 t122 w0 _ ?side1 ?side2 A3.out).mono ?_);(case side1=>repeat(first|(with_reducible first|exact HI0.out|apply IsS73.alloc|apply IsS73.drewN|apply IsS73.drew|apply IsS73.set_1|apply IsS73.set_2)|exact HI0.out));(case side2=>repeat(first|(with_reducible first|exact HB.out|apply below_alloc|apply pw_below_drewN|apply below_drew1|refine below_set ?_ (IsS73.ge HI0.out))|exact HB.out));rintro e w4 ⟨rfl,hi,hb,hk⟩;refine⟨_,rfl,?_⟩;replace HK:=Aside0.mk (KeepBut.trans zz13 hk (.inl rfl));replace HB:=Aside0.mk (hb);replace HI0:=Aside0.mk (hi);(try clear hb);(try clear hk);(try clear hi)))
 go_ret;exact⟨zz3,zz21,zz24,zz13⟩
def spec_l1of.l0:Nat→Int→ByteArray→List Int→Int→List Int→Int→Int→Option (ByteArray×Int×Int)
 |0,_,_,_,_,_,_,_=>none
 |k+1,x1,x2,x7,x8,x1000,x1001,x1002=>if x8<x1 then((spec_l1Below.f x1000 x1001 x1002 (x2.size:Int)).bind fun bt123=>(if 0≤bt123.1 then(if bt123.1<(x2.size:Int)then(if x7.length<140737488355328 then(spec_l1of.l0 k x1 x2 (x7++ [bt x2 bt123.1]) (wrap64 (x8+1)) x1000 bt123.2.1 bt123.2.2)else(none))else(none))else(none)))else(some (strOfNums x7,x1001,x1002))
def spec_l1of.f (k:Nat) (s0_0:List Int) (s0_1 s0_2 a1:Int) (a2:ByteArray):Option (ByteArray×Int×Int):=spec_l1of.l0 k a1 a2 ([]:List Int) 0 s0_0 s0_1 s0_2
set_option maxHeartbeats 40000000 in
set_option maxRecDepth 100000 in
theorem spec_l1of.calls (k g:Nat) (s0_0:List Int) (s0_1 s0_2 a1:Int) (a2 r1:ByteArray) (r2 r3:Int) (w0 w:World) (hI:IsS73 w0 w g s0_0 s0_1 s0_2) (hB:Below w0.heap.size w0 w) (h:spec_l1of.f k s0_0 s0_1 s0_2 a1 a2=some (r1,r2,r3)):
  Calls Tryz.prog 25 #[.pointer (some ⟨g,0,none⟩),.int .i64 a1,.string a2] w fun e w'=>e= .returned (.string r1)∧IsS73 w0 w' g s0_0 r2 r3∧Below w0.heap.size w0 w'∧KeepBut w w' g none:=by
 have HI0:=Aside0.mk hI;have HK:=Aside0.mk (KeepBut.refl w g none);have HL:=Aside0.mk hB.size;clear hI;have HW0:=Aside0.mk hB.size;have HB:=Aside0.mk hB;clear hB;have H:(spec_l1of.l0 k a1 a2 ([]:List Int) 0 s0_0 s0_1 s0_2)=some (r1,r2,r3):=h;clear h;have H':=Aside0.mk H;clear H;go_enter Tryz.func25,Tryz.ntmps25
 go_wp2
 go_loopg [7,8] k (fun kq v7 v8 w'=> ∃(x7_1:List Int) (x8_1 x1001_1 x1002_1:Int),v8= .int .i64 x8_1∧Aside0 (spec_l1of.l0 kq a1 a2 x7_1 x8_1 s0_0 x1001_1 x1002_1=some (r1,r2,r3))∧Aside0 (kq≤k)∧Aside0 (Kd.R (Kd.int .u8) 5 w' w.heap.size (fun _=>True) v7 x7_1)∧Aside0 (IsS73 w0 w' g s0_0 x1001_1 x1002_1)∧Aside0 (KeepBut w w' g none)∧Aside0 (Below w0.heap.size w0 w'))
 case atStart=>exact⟨(([]:List Int)),(0),(s0_1),(s0_2),zz4,H',⟨Nat.le_refl _⟩,⟨zz10⟩,⟨zz21⟩,⟨zz13⟩,⟨zz24⟩⟩
 case round=>
  clear H';(try clear c2);(try clear p2);obtain⟨x7_1,x8_1,x1001_1,x1002_1,rfl,HA,HK1,HO_7,HI0,HK,HB⟩:=hrel
  cases gk with
  |zero=>exact absurd HA.out (by simp[spec_l1of.l0])
  |succ k1=>
   have H:=HA.out;clear HA;simp only[spec_l1of.l0]at H
   by_cases c4:x8_1<a1
   ·rw[if_pos c4]at H;have c4b0:decide (x8_1<a1)=true:=decide_eq_true c4;clear c4;replace H:=Option.bind_eq_some_iff.mp H;obtain⟨⟨t123,t124,t125⟩,A50,H⟩:=H;(try dsimp only at H);have A5:=Aside0.mk A50;clear A50
    by_cases c6:0≤t123
    ·rw[if_pos c6]at H;have c6b0:decide (0≤t123)=true:=decide_eq_true c6;clear c6
     by_cases c7:t123<(a2.size:Int)
     ·rw[if_pos c7]at H;have c7b0:decide (t123<(a2.size:Int))=true:=decide_eq_true c7;clear c7
      by_cases c9:x7_1.length<140737488355328
      ·rw[if_pos c9]at H;have LMc9:=Aside0.mk c9;clear c9;obtain⟨y126,hy126⟩: ∃y_:List Int,y_=(x7_1++ [bt a2 t123]):=⟨_,rfl⟩;replace H:(spec_l1of.l0 k1 a1 a2 y126 (wrap64 (x8_1+1)) s0_0 t124 t125)=some (r1,r2,r3):=by first|(rw[hy126];with_reducible exact H)|(have H2_:=(Option.bind_some _ _).symm.trans H;rw[hy126];with_reducible exact H2_)|(have H2_:=(Option.bind_some _ _).symm.trans H;with_reducible exact H2_)|with_reducible exact H|(rw[hy126];exact H)|exact H
       have Ny126:=Aside0.mk hy126;clear hy126;have H':=Aside0.mk H;clear H;go_wp2_with (first|((with_reducible refine gate_callee (f:=23) rfl ?_);refine goesQ_ 19 Tryz.func23 #[.pointer (some ⟨g,0,none⟩),.int .i64 (a2.size:Int)] ?_;(with_reducible refine(spec_l1Below.calls g s0_0 x1001_1 x1002_1 (a2.size:Int) t123 t124 t125 w0 _ ?side1 ?side2 A5.out).mono ?_);(case side1=>repeat(first|(with_reducible first|exact HI0.out|apply IsS73.alloc|apply IsS73.drewN|apply IsS73.drew|apply IsS73.set_1|apply IsS73.set_2)|exact HI0.out));(case side2=>repeat(first|(with_reducible first|exact HB.out|apply below_alloc|apply pw_below_drewN|apply below_drew1|refine below_set ?_ (IsS73.ge HI0.out))|exact HB.out));rintro e w10 ⟨rfl,hi,hb,hk⟩;refine⟨_,rfl,?_⟩;replace HO_7:=Aside0.mk (Kd.R_mono (Kd.R_keep (IsS73.apart (show IsS73 w0 _ g s0_0 x1001_1 x1002_1 from zz21) (by(with_reducible repeat(first|apply Kd.R_alloc|apply Kd.R_drewN|apply Kd.R_drew));exact HO_7.out) (by decide)) hk (fun _ h=>h.2)) (fun _ h=>h.1));replace HK:=Aside0.mk (KeepBut.trans zz13 hk (.inl rfl));replace HB:=Aside0.mk (hb);replace HI0:=Aside0.mk (hi);(try clear hb);(try clear hk);(try clear hi);have p8:0≤(t123:Int):=of_decide_eq_true zz12;have q8:t123<(a2.size:Int):=of_decide_eq_true zz12;have hx8:=bt_at a2 t123;replace p8:=eq_true p8;replace q8:=eq_true q8)|((with_reducible refine gate_builtin (b:= .append) (xs:= #[.tmp 14,.tmp 21]) rfl ?_);at_builtin;refine Kd.R_append (Kd.int .u8) w.heap.size rfl (.tmp 14) (.tmp 21) 24 5 (.int .u8 0) 1 rfl Tryz.underlying24 info5 rfl (by decide) (by omega) u7 x7_1 (bt a2 t123) [.int .u8 (bt a2 t123)] (fun _=>True) (fun _=>False) rfl rfl ?aP (fun _ hk=>hk.elim) ?aF ?aO (Below.refl _ _) ?aS ?aL ?_;(case aP=>exact rfl);(case aF=>exact(fun _ _=>trivial));(case aO=>exact(by(with_reducible repeat(first|apply Kd.R_alloc|apply Kd.R_drewN|apply Kd.R_drew));exact HO_7.out));(case aS=>exact(keep_size (w:=w) (g:=g) (row:=none) zz13));(case aL=>have:=LMc9.out;omega);intro v127 w11 ho hb hg hat;rw[←Ny126.out]at ho;replace HB:=Aside0.mk (below_weaken zz24 HL.out hb);replace HI0:=Aside0.mk (IsS73.grown zz21 hg (IsS73.own_ne HI0.out HO_7.out (by decide)));replace HK:=Aside0.mk (KeepBut.trans zz13 (KeepBut.of_grown hg g) (Kd.R_base2 HO_7.out));have HO128:=Aside0.mk (ho);clear HO_7;clear ho hb hg hat))
       go_roundg k1
       (case measure=>have:=HK1.out;omega);case rel=>exact⟨(y126),(wrap64 (x8_1+1)),(t124),(t125),zz4,H',⟨zz85⟩,⟨by(with_reducible repeat(first|apply Kd.R_alloc|apply Kd.R_drewN|apply Kd.R_drew));exact HO128.out⟩,⟨zz21⟩,⟨zz13⟩,⟨zz24⟩⟩
      ·rw[if_neg c9]at H;exact absurd H (by simp)
     ·rw[if_neg c7]at H;exact absurd H (by simp)
    ·rw[if_neg c6]at H;exact absurd H (by simp)
   ·rw[if_neg c4]at H;have c4b0:decide (x8_1<a1)=false:=decide_eq_false c4;clear c4;simp only[Option.some.injEq,Prod.mk.injEq]at H;obtain⟨rfl,rfl,rfl⟩:=H;have hcv12:=own_string (P:=Tryz.prog) Tryz.underlying24 Tryz.underlying5 Tryz.underlying9 (Kd.own_of_R HO_7.out);go_wp2
    go_ret;exact⟨zz3,zz21,zz24,zz13⟩
def spec_l1PickInt.f (s0_0:List Int) (s0_1 s0_2:Int) (l1:List Int):Option (Int×Int×Int):=(spec_l1Below.f s0_0 s0_1 s0_2 (l1.length:Int)).bind fun bt129=>(if 0≤bt129.1 then(if bt129.1<(l1.length:Int)then(some (rd l1 bt129.1,bt129.2.1,bt129.2.2))else(none))else(none))
set_option maxHeartbeats 40000000 in
set_option maxRecDepth 100000 in
theorem spec_l1PickInt.calls (g:Nat) (s0_0:List Int) (s0_1 s0_2:Int) (A1:Option Addr) (c1:Nat) (l1:List Int) (r1 r2 r3:Int) (w0 w:World) (hI:IsS73 w0 w g s0_0 s0_1 s0_2) (hB:Below w0.heap.size w0 w) (hr1:Kd.C (Kd.int .i64) w A1 l1.length l1) (hc1:l1.length≤c1) (hf1: ∀ad,A1=some ad→0<l1.length→ad.block≠g) (h:spec_l1PickInt.f s0_0 s0_1 s0_2 l1=some (r1,r2,r3)):
  Calls Tryz.prog 26 #[.pointer (some ⟨g,0,none⟩),.slice A1 l1.length c1] w fun e w'=>e= .returned (.int .i64 r1)∧IsS73 w0 w' g s0_0 r2 r3∧Below w0.heap.size w0 w'∧KeepBut w w' g none:=by
 have HR1:=Aside0.mk hr1;have HC1:=Aside0.mk hc1;clear hr1 hc1;have HI0:=Aside0.mk hI;have HK:=Aside0.mk (KeepBut.refl w g none);have HL:=Aside0.mk hB.size;clear hI;have HW0:=Aside0.mk hB.size;have HB:=Aside0.mk hB;clear hB;have H:((spec_l1Below.f s0_0 s0_1 s0_2 (l1.length:Int)).bind fun bt129=>(if 0≤bt129.1 then(if bt129.1<(l1.length:Int)then(some (rd l1 bt129.1,bt129.2.1,bt129.2.2))else(none))else(none)))=some (r1,r2,r3):=h;clear h;replace H:=Option.bind_eq_some_iff.mp H;obtain⟨⟨t129,t130,t131⟩,A30,H⟩:=H;(try dsimp only at H);have A3:=Aside0.mk A30;clear A30
 by_cases c4:0≤t129
 ·rw[if_pos c4]at H;have c4b0:decide (0≤t129)=true:=decide_eq_true c4;clear c4
  by_cases c5:t129<(l1.length:Int)
  ·rw[if_pos c5]at H;have c5b0:decide (t129<(l1.length:Int))=true:=decide_eq_true c5;clear c5;simp only[Option.some.injEq,Prod.mk.injEq]at H;obtain⟨rfl,rfl,rfl⟩:=H;go_enter Tryz.func26,Tryz.ntmps26
   go_wp2_with (first|((with_reducible refine gate_callee (f:=23) rfl ?_);refine goesQ_ 9 Tryz.func23 #[.pointer (some ⟨g,0,none⟩),.int .i64 (l1.length:Int)] ?_;(with_reducible refine(spec_l1Below.calls g s0_0 s0_1 s0_2 (l1.length:Int) t129 t130 t131 w0 _ ?side1 ?side2 A3.out).mono ?_);(case side1=>repeat(first|(with_reducible first|exact HI0.out|apply IsS73.alloc|apply IsS73.drewN|apply IsS73.drew|apply IsS73.set_1|apply IsS73.set_2)|exact HI0.out));(case side2=>repeat(first|(with_reducible first|exact HB.out|apply below_alloc|apply pw_below_drewN|apply below_drew1|refine below_set ?_ (IsS73.ge HI0.out))|exact HB.out));rintro e w6 ⟨rfl,hi,hb,hk⟩;refine⟨_,rfl,?_⟩;replace HK:=Aside0.mk (KeepBut.trans zz13 hk (.inl rfl));replace HB:=Aside0.mk (hb);replace HI0:=Aside0.mk (hi);(try clear hb);(try clear hk);(try clear hi);have p132:0≤(t129:Int):=of_decide_eq_true zz12;have q132:t129<(l1.length:Int):=of_decide_eq_true zz12;obtain⟨ad132,e132,hx132_0⟩:=Kd.at_int HR1.out t129 p132 q132;cases e132;replace hx132_0:=keep_cell HK.out hx132_0 (by first|(rw[add_block];exact hf1 _ rfl (by omega))|exact hf1 _ rfl (by omega)|exact hf1 ad132 rfl (by omega));replace p132:=eq_true p132;replace q132:=eq_true q132))
   go_ret;exact⟨zz3,zz21,zz24,zz13⟩
  ·rw[if_neg c5]at H;exact absurd H (by simp)
 ·rw[if_neg c4]at H;exact absurd H (by simp)
def spec_DrawChunkText.f (k:Nat) (l0:List Int):Option (ByteArray×Int):=(spec_l1New.f k l0).bind fun bt133=>((spec_l1Below.f bt133.1 bt133.2.1 bt133.2.2 40).bind fun bt137=>((spec_l1Once.f bt133.1 bt137.2.1 bt137.2.2 9).bind fun bt140=>(if bt140.1=true then((spec_l1Below.f bt133.1 bt140.2.1 bt140.2.2 2).bind fun bt143=>((spec_l1of.f k bt133.1 bt143.2.1 bt143.2.2 (wrap64 (600+bt143.1)) (⟨#[97,98,13,10]⟩:ByteArray)).bind fun bt146=>((spec_l1PickInt.f bt133.1 bt146.2.1 bt146.2.2 (([1,2,3,7,16,17,600,601,0]:List Int))).bind fun bt152=>(some (bt146.1,bt152.1)))))else((spec_l1of.f k bt133.1 bt140.2.1 bt140.2.2 bt137.1 (⟨#[97,98,13,10]⟩:ByteArray)).bind fun bt155=>((spec_l1PickInt.f bt133.1 bt155.2.1 bt155.2.2 (([1,2,3,7,16,17,600,601,0]:List Int))).bind fun bt161=>(some (bt155.1,bt161.1)))))))
set_option maxHeartbeats 40000000 in
set_option maxRecDepth 100000 in
theorem spec_DrawChunkText.calls (k:Nat) (A0:Option Addr) (c0:Nat) (l0:List Int) (r1:ByteArray) (r2:Int) (w:World) (hr0:Kd.C (Kd.int .u8) w A0 l0.length l0) (hc0:l0.length≤c0) (h:spec_DrawChunkText.f k l0=some (r1,r2)):
  Calls Tryz.prog 9 #[.slice A0 l0.length c0] w fun e w'=>e= .returned (.tuple #[.string r1,.int .i64 r2])∧Below w.heap.size w w':=by
 have HR0:=Aside0.mk hr0;have HC0:=Aside0.mk hc0;clear hr0 hc0;have HB:=Aside0.mk (Below.refl w.heap.size w);have H:((spec_l1New.f k l0).bind fun bt133=>((spec_l1Below.f bt133.1 bt133.2.1 bt133.2.2 40).bind fun bt137=>((spec_l1Once.f bt133.1 bt137.2.1 bt137.2.2 9).bind fun bt140=>(if bt140.1=true then((spec_l1Below.f bt133.1 bt140.2.1 bt140.2.2 2).bind fun bt143=>((spec_l1of.f k bt133.1 bt143.2.1 bt143.2.2 (wrap64 (600+bt143.1)) (⟨#[97,98,13,10]⟩:ByteArray)).bind fun bt146=>((spec_l1PickInt.f bt133.1 bt146.2.1 bt146.2.2 (([1,2,3,7,16,17,600,601,0]:List Int))).bind fun bt152=>(some (bt146.1,bt152.1)))))else((spec_l1of.f k bt133.1 bt140.2.1 bt140.2.2 bt137.1 (⟨#[97,98,13,10]⟩:ByteArray)).bind fun bt155=>((spec_l1PickInt.f bt133.1 bt155.2.1 bt155.2.2 (([1,2,3,7,16,17,600,601,0]:List Int))).bind fun bt161=>(some (bt155.1,bt161.1))))))))=some (r1,r2):=h;clear h;replace H:=Option.bind_eq_some_iff.mp H;obtain⟨⟨t133,t134,t135⟩,A20,H⟩:=H;(try dsimp only at H);have A2:=Aside0.mk A20;clear A20;replace H:=Option.bind_eq_some_iff.mp H;obtain⟨⟨t137,t138,t139⟩,A30,H⟩:=H;(try dsimp only at H);have A3:=Aside0.mk A30;clear A30;replace H:=Option.bind_eq_some_iff.mp H;obtain⟨⟨t140,t141,t142⟩,A40,H⟩:=H;(try dsimp only at H);have A4:=Aside0.mk A40;clear A40;have HC5:=Aside0.mk H;clear H;go_enter Tryz.func9,Tryz.ntmps9
 go_upto_if 11 with(first|((with_reducible refine gate_callee (f:=22) rfl ?_);refine goesQ_ 7 Tryz.func22 #[.slice A0 l0.length c0] ?_;(with_reducible refine(spec_l1New.calls k _ _ l0 t133 t134 t135 w _ ?side1 ?side2 ?side3 A2.out).mono ?_);(case side1=>repeat(first|(with_reducible first|exact HB.out|apply below_alloc|apply pw_below_drewN|apply below_drew1)|exact HB.out));(case side2=>exact HR0.out);(case side3=>exact HC0.out);rintro e w6 ⟨g136,rfl,hi,hb,hb2⟩;refine⟨_,rfl,?_⟩;replace HB:=Aside0.mk (hb);have HI136:=Aside0.mk (hi);(try clear hb);(try clear hb2);(try clear hi))|((with_reducible refine gate_callee (f:=23) rfl ?_);refine goesQ_ 9 Tryz.func23 #[.pointer (some ⟨g136,0,none⟩),.int .i64 40] ?_;(with_reducible refine(spec_l1Below.calls g136 t133 t134 t135 40 t137 t138 t139 w _ ?side1 ?side2 A3.out).mono ?_);(case side1=>repeat(first|(with_reducible first|exact HI136.out|apply IsS73.alloc|apply IsS73.drewN|apply IsS73.drew|apply IsS73.set_1|apply IsS73.set_2)|exact HI136.out));(case side2=>repeat(first|(with_reducible first|exact HB.out|apply below_alloc|apply pw_below_drewN|apply below_drew1|refine below_set ?_ (IsS73.ge HI136.out))|exact HB.out));rintro e w7 ⟨rfl,hi,hb,hk⟩;refine⟨_,rfl,?_⟩;replace HB:=Aside0.mk (hb);replace HI136:=Aside0.mk (hi);(try clear hb);(try clear hk);(try clear hi))|((with_reducible refine gate_callee (f:=24) rfl ?_);refine goesQ_ 11 Tryz.func24 #[.pointer (some ⟨g136,0,none⟩),.int .i64 9] ?_;(with_reducible refine(spec_l1Once.calls g136 t133 t138 t139 9 t140 t141 t142 w _ ?side1 ?side2 A4.out).mono ?_);(case side1=>repeat(first|(with_reducible first|exact HI136.out|apply IsS73.alloc|apply IsS73.drewN|apply IsS73.drew|apply IsS73.set_1|apply IsS73.set_2)|exact HI136.out));(case side2=>repeat(first|(with_reducible first|exact HB.out|apply below_alloc|apply pw_below_drewN|apply below_drew1|refine below_set ?_ (IsS73.ge HI136.out))|exact HB.out));rintro e w8 ⟨rfl,hi,hb,hk⟩;refine⟨_,rfl,?_⟩;replace HB:=Aside0.mk (hb);replace HI136:=Aside0.mk (hi);(try clear hb);(try clear hk);(try clear hi)))
 (try simp only[Act.put,List.setIfInBounds_toArray,List.set_cons_zero,List.set_cons_succ]);have H:=HC5.out;clear HC5
 by_cases c9:t140=true
 ·subst c9;rw[if_pos rfl]at H;replace H:=Option.bind_eq_some_iff.mp H;obtain⟨⟨t143,t144,t145⟩,A100,H⟩:=H;(try dsimp only at H);have A10:=Aside0.mk A100;clear A100;replace H:=Option.bind_eq_some_iff.mp H;obtain⟨⟨t146,t147,t148⟩,A110,H⟩:=H;(try dsimp only at H);have A11:=Aside0.mk A110;clear A110;obtain⟨y149,hy149⟩: ∃y_:List Int,y_=(([1,2,3,7,16,17,600,601,0]:List Int)):=⟨_,rfl⟩;replace H:((spec_l1PickInt.f t133 t147 t148 y149).bind fun bt152=>(some (t146,bt152.1)))=some (r1,r2):=by first|(rw[hy149];with_reducible exact H)|(have H2_:=(Option.bind_some _ _).symm.trans H;rw[hy149];with_reducible exact H2_)|(have H2_:=(Option.bind_some _ _).symm.trans H;with_reducible exact H2_)|with_reducible exact H|(rw[hy149];exact H)|exact H
  have Ny149:=Aside0.mk hy149;clear hy149;replace H:=Option.bind_eq_some_iff.mp H;obtain⟨⟨t152,t153,t154⟩,A120,H⟩:=H;(try dsimp only at H);have A12:=Aside0.mk A120;clear A120;simp only[Option.some.injEq,Prod.mk.injEq]at H;obtain⟨rfl,rfl⟩:=H;go_wp2_with (first|((with_reducible refine gate_callee (f:=23) rfl ?_);refine goesQ_ 13 Tryz.func23 #[.pointer (some ⟨g136,0,none⟩),.int .i64 2] ?_;(with_reducible refine(spec_l1Below.calls g136 t133 t141 t142 2 t143 t144 t145 w _ ?side1 ?side2 A10.out).mono ?_);(case side1=>repeat(first|(with_reducible first|exact HI136.out|apply IsS73.alloc|apply IsS73.drewN|apply IsS73.drew|apply IsS73.set_1|apply IsS73.set_2)|exact HI136.out));(case side2=>repeat(first|(with_reducible first|exact HB.out|apply below_alloc|apply pw_below_drewN|apply below_drew1|refine below_set ?_ (IsS73.ge HI136.out))|exact HB.out));rintro e w13 ⟨rfl,hi,hb,hk⟩;refine⟨_,rfl,?_⟩;replace HB:=Aside0.mk (hb);replace HI136:=Aside0.mk (hi);(try clear hb);(try clear hk);(try clear hi))|((with_reducible refine gate_callee (f:=25) rfl ?_);refine goesQ_ 17 Tryz.func25 #[.pointer (some ⟨g136,0,none⟩),.int .i64 (wrap64 (600+t143)),.string (⟨#[97,98,13,10]⟩:ByteArray)] ?_;(with_reducible refine(spec_l1of.calls k g136 t133 t144 t145 (wrap64 (600+t143)) (⟨#[97,98,13,10]⟩:ByteArray) t146 t147 t148 w _ ?side1 ?side2 A11.out).mono ?_);(case side1=>repeat(first|(with_reducible first|exact HI136.out|apply IsS73.alloc|apply IsS73.drewN|apply IsS73.drew|apply IsS73.set_1|apply IsS73.set_2)|exact HI136.out));(case side2=>repeat(first|(with_reducible first|exact HB.out|apply below_alloc|apply pw_below_drewN|apply below_drew1|refine below_set ?_ (IsS73.ge HI136.out))|exact HB.out));rintro e w14 ⟨rfl,hi,hb,hk⟩;refine⟨_,rfl,?_⟩;replace HB:=Aside0.mk (hb);replace HI136:=Aside0.mk (hi);(try clear hb);(try clear hk);(try clear hi))|((with_reducible refine gate_dst (N:=19) rfl ?_);refine Kd.R_lit (Kd.int .i64) _ 3 ?hg (N:=19) ?hd (xs:=([1,2,3,7,16,17,600,601,0]:List Int)) (inner:= [.int .i64 1,.int .i64 2,.int .i64 3,.int .i64 7,.int .i64 16,.int .i64 17,.int .i64 600,.int .i64 601,.int .i64 0]) (ok:=fun _=>True) (okp:=fun _=>True) ?hr ?hp (fun _ hk=>hk) trivial (Below.refl _ _) (Nat.le_refl _) (by simp) ?_;(case hd=>rfl);(case hg=>rfl);(case hr=>first|(go_simp;done)|(go_simp;rfl));(case hp=>exact(Reps.one (show Kd.M (Kd.int .i64) _ _ _ 1 [.int .i64 1]from rfl) (Reps.one (show Kd.M (Kd.int .i64) _ _ _ 2 [.int .i64 2]from rfl) (Reps.one (show Kd.M (Kd.int .i64) _ _ _ 3 [.int .i64 3]from rfl) (Reps.one (show Kd.M (Kd.int .i64) _ _ _ 7 [.int .i64 7]from rfl) (Reps.one (show Kd.M (Kd.int .i64) _ _ _ 16 [.int .i64 16]from rfl) (Reps.one (show Kd.M (Kd.int .i64) _ _ _ 17 [.int .i64 17]from rfl) (Reps.one (show Kd.M (Kd.int .i64) _ _ _ 600 [.int .i64 600]from rfl) (Reps.one (show Kd.M (Kd.int .i64) _ _ _ 601 [.int .i64 601]from rfl) (Reps.one (show Kd.M (Kd.int .i64) _ _ _ 0 [.int .i64 0]from rfl) (Reps.none _ _)))))))))));intro v150 w15 ho16 hb hg_ hnew_;clear hg_ hnew_;(first|rw[←Ny149.out]at ho16|(simp only[Int.reduceToNat]at ho16;rw[←Ny149.out]at ho16));have HO151:=Aside0.mk (Kd.R_lower ho16 (below_size zz38));replace HB:=Aside0.mk (below_step zz38 hb);replace HI136:=Aside0.mk (IsS73.below zz64 hb);clear hb ho16;obtain⟨Ao17,co17,eo17⟩:=Kd.R_slice HO151.out;subst eo17)|((with_reducible refine gate_callee (f:=26) rfl ?_);refine goesQ_ 20 Tryz.func26 #[.pointer (some ⟨g136,0,none⟩),.slice Ao17 y149.length co17] ?_;(with_reducible refine(spec_l1PickInt.calls g136 t133 t147 t148 _ _ y149 t152 t153 t154 w _ ?side1 ?side2 ?side3 ?side4 ?side5 A12.out).mono ?_);(case side1=>repeat(first|(with_reducible first|exact HI136.out|apply IsS73.alloc|apply IsS73.drewN|apply IsS73.drew|apply IsS73.set_1|apply IsS73.set_2)|exact HI136.out));(case side2=>repeat(first|(with_reducible first|exact HB.out|apply below_alloc|apply pw_below_drewN|apply below_drew1|refine below_set ?_ (IsS73.ge HI136.out))|exact HB.out));(case side3=>repeat(first|exact(Kd.R_reads' HO151.out).2.2|(with_reducible refine Kd.C_alloc ?_ _)|(with_reducible refine Kd.C_drewN ?_ _)|(with_reducible refine Kd.C_drew ?_)));(case side4=>exact(Kd.R_reads' HO151.out).2.1);(case side5=>exact far_slice (IsS73.own_ne HI136.out HO151.out (by decide)));rintro e w18 ⟨rfl,hi,hb,hk⟩;refine⟨_,rfl,?_⟩;replace HO151:=Aside0.mk (Kd.R_mono (Kd.R_keep (IsS73.apart (show IsS73 w _ g136 t133 t147 t148 from zz64) (by(with_reducible repeat(first|apply Kd.R_alloc|apply Kd.R_drewN|apply Kd.R_drew));exact HO151.out) (by decide)) hk (fun _ h=>h.2)) (fun _ h=>h.1));replace HB:=Aside0.mk (hb);replace HI136:=Aside0.mk (hi);(try clear hb);(try clear hk);(try clear hi)))
  go_ret2
  exact⟨zz3,zz38⟩
 ·replace c9:=Bool.eq_false_iff.mpr c9;subst c9;rw[if_neg Bool.false_ne_true]at H;replace H:=Option.bind_eq_some_iff.mp H;obtain⟨⟨t155,t156,t157⟩,A190,H⟩:=H;(try dsimp only at H);have A19:=Aside0.mk A190;clear A190;obtain⟨y158,hy158⟩: ∃y_:List Int,y_=(([1,2,3,7,16,17,600,601,0]:List Int)):=⟨_,rfl⟩;replace H:((spec_l1PickInt.f t133 t156 t157 y158).bind fun bt161=>(some (t155,bt161.1)))=some (r1,r2):=by first|(rw[hy158];with_reducible exact H)|(have H2_:=(Option.bind_some _ _).symm.trans H;rw[hy158];with_reducible exact H2_)|(have H2_:=(Option.bind_some _ _).symm.trans H;with_reducible exact H2_)|with_reducible exact H|(rw[hy158];exact H)|exact H
  have Ny158:=Aside0.mk hy158;clear hy158;replace H:=Option.bind_eq_some_iff.mp H;obtain⟨⟨t161,t162,t163⟩,A200,H⟩:=H;(try dsimp only at H);have A20:=Aside0.mk A200;clear A200;simp only[Option.some.injEq,Prod.mk.injEq]at H;obtain⟨rfl,rfl⟩:=H;go_wp2_with (first|((with_reducible refine gate_callee (f:=25) rfl ?_);refine goesQ_ 17 Tryz.func25 #[.pointer (some ⟨g136,0,none⟩),.int .i64 t137,.string (⟨#[97,98,13,10]⟩:ByteArray)] ?_;(with_reducible refine(spec_l1of.calls k g136 t133 t141 t142 t137 (⟨#[97,98,13,10]⟩:ByteArray) t155 t156 t157 w _ ?side1 ?side2 A19.out).mono ?_);(case side1=>repeat(first|(with_reducible first|exact HI136.out|apply IsS73.alloc|apply IsS73.drewN|apply IsS73.drew|apply IsS73.set_1|apply IsS73.set_2)|exact HI136.out));(case side2=>repeat(first|(with_reducible first|exact HB.out|apply below_alloc|apply pw_below_drewN|apply below_drew1|refine below_set ?_ (IsS73.ge HI136.out))|exact HB.out));rintro e w21 ⟨rfl,hi,hb,hk⟩;refine⟨_,rfl,?_⟩;replace HB:=Aside0.mk (hb);replace HI136:=Aside0.mk (hi);(try clear hb);(try clear hk);(try clear hi))|((with_reducible refine gate_dst (N:=19) rfl ?_);refine Kd.R_lit (Kd.int .i64) _ 3 ?hg (N:=19) ?hd (xs:=([1,2,3,7,16,17,600,601,0]:List Int)) (inner:= [.int .i64 1,.int .i64 2,.int .i64 3,.int .i64 7,.int .i64 16,.int .i64 17,.int .i64 600,.int .i64 601,.int .i64 0]) (ok:=fun _=>True) (okp:=fun _=>True) ?hr ?hp (fun _ hk=>hk) trivial (Below.refl _ _) (Nat.le_refl _) (by simp) ?_;(case hd=>rfl);(case hg=>rfl);(case hr=>first|(go_simp;done)|(go_simp;rfl));(case hp=>exact(Reps.one (show Kd.M (Kd.int .i64) _ _ _ 1 [.int .i64 1]from rfl) (Reps.one (show Kd.M (Kd.int .i64) _ _ _ 2 [.int .i64 2]from rfl) (Reps.one (show Kd.M (Kd.int .i64) _ _ _ 3 [.int .i64 3]from rfl) (Reps.one (show Kd.M (Kd.int .i64) _ _ _ 7 [.int .i64 7]from rfl) (Reps.one (show Kd.M (Kd.int .i64) _ _ _ 16 [.int .i64 16]from rfl) (Reps.one (show Kd.M (Kd.int .i64) _ _ _ 17 [.int .i64 17]from rfl) (Reps.one (show Kd.M (Kd.int .i64) _ _ _ 600 [.int .i64 600]from rfl) (Reps.one (show Kd.M (Kd.int .i64) _ _ _ 601 [.int .i64 601]from rfl) (Reps.one (show Kd.M (Kd.int .i64) _ _ _ 0 [.int .i64 0]from rfl) (Reps.none _ _)))))))))));intro v159 w22 ho23 hb hg_ hnew_;clear hg_ hnew_;(first|rw[←Ny158.out]at ho23|(simp only[Int.reduceToNat]at ho23;rw[←Ny158.out]at ho23));have HO160:=Aside0.mk (Kd.R_lower ho23 (below_size zz38));replace HB:=Aside0.mk (below_step zz38 hb);replace HI136:=Aside0.mk (IsS73.below zz64 hb);clear hb ho23;obtain⟨Ao24,co24,eo24⟩:=Kd.R_slice HO160.out;subst eo24)|((with_reducible refine gate_callee (f:=26) rfl ?_);refine goesQ_ 20 Tryz.func26 #[.pointer (some ⟨g136,0,none⟩),.slice Ao24 y158.length co24] ?_;(with_reducible refine(spec_l1PickInt.calls g136 t133 t156 t157 _ _ y158 t161 t162 t163 w _ ?side1 ?side2 ?side3 ?side4 ?side5 A20.out).mono ?_);(case side1=>repeat(first|(with_reducible first|exact HI136.out|apply IsS73.alloc|apply IsS73.drewN|apply IsS73.drew|apply IsS73.set_1|apply IsS73.set_2)|exact HI136.out));(case side2=>repeat(first|(with_reducible first|exact HB.out|apply below_alloc|apply pw_below_drewN|apply below_drew1|refine below_set ?_ (IsS73.ge HI136.out))|exact HB.out));(case side3=>repeat(first|exact(Kd.R_reads' HO160.out).2.2|(with_reducible refine Kd.C_alloc ?_ _)|(with_reducible refine Kd.C_drewN ?_ _)|(with_reducible refine Kd.C_drew ?_)));(case side4=>exact(Kd.R_reads' HO160.out).2.1);(case side5=>exact far_slice (IsS73.own_ne HI136.out HO160.out (by decide)));rintro e w25 ⟨rfl,hi,hb,hk⟩;refine⟨_,rfl,?_⟩;replace HO160:=Aside0.mk (Kd.R_mono (Kd.R_keep (IsS73.apart (show IsS73 w _ g136 t133 t156 t157 from zz64) (by(with_reducible repeat(first|apply Kd.R_alloc|apply Kd.R_drewN|apply Kd.R_drew));exact HO160.out) (by decide)) hk (fun _ h=>h.2)) (fun _ h=>h.1));replace HB:=Aside0.mk (hb);replace HI136:=Aside0.mk (hi);(try clear hb);(try clear hk);(try clear hi)))
  go_ret2
  exact⟨zz3,zz38⟩
def impl_within.f (a0 a1 a2:Int):Option (Bool):=if a1≤a0 then(some (decide (a0≤a2)))else(some false)
set_option maxHeartbeats 40000000 in
set_option maxRecDepth 100000 in
theorem impl_within.calls (a0 a1 a2:Int) (r:Bool) (w:World) (h:impl_within.f a0 a1 a2=some r):
  Calls Tryz.prog 27 #[.int .i64 a0,.int .i64 a1,.int .i64 a2] w fun e w'=>e= .returned (.bool r)∧Drawn0 w w':=by
 have H:(if a1≤a0 then(some (decide (a0≤a2)))else(some false))=some r:=h;clear h
 by_cases c4:a1≤a0
 ·rw[if_pos c4]at H;have c4b0:decide (a1≤a0)=true:=decide_eq_true c4;clear c4;obtain rfl:=Option.some.inj H;go_enter Tryz.func27,Tryz.ntmps27
  go_wp2
  go_ret;exact⟨zz4,zz8⟩
 ·rw[if_neg c4]at H;have c4b0:decide (a1≤a0)=false:=decide_eq_false c4;clear c4;obtain rfl:=Option.some.inj H;go_enter Tryz.func27,Tryz.ntmps27
  go_wp2
  go_ret;exact⟨zz4,zz8⟩
set_option maxHeartbeats 4000000 in
set_option maxRecDepth 100000 in
theorem strconv_FormatInt_tz64 (w:World) (h:w.cell? ⟨5,15,none⟩=some (.int .u8 4)):
  Calls Tryz.prog 184 #[.int .u64 16] w fun e w'=>e= .returned (.int .i64 4)∧w'=w:=by
 have hA:IntKind.u64.wrap (-16)=18446744073709551600:=by decide+kernel
 have hB:bits .and .u64 16 18446744073709551600=16:=by decide+kernel
 have hC:IntKind.u64.wrap (16*285870213051353865)=4573923408821661840:=by decide+kernel
 have hD:(4573923408821661840:Int)/288230376151711744=15:=by decide+kernel
 go_enter Tryz.func184,Tryz.ntmps184
 go_wp2
 all_goals (try(simp only[hA,hB,hC,hD]at*))
 go_ret;exact⟨rfl,rfl⟩
set_option maxHeartbeats 4000000 in
set_option maxRecDepth 100000 in
theorem strconv_FormatInt_pow2 (w:World):Calls Tryz.prog 171 #[.int .i64 16] w fun e w'=>e= .returned (.bool true)∧w'=w:=by
 have hA:bits .and .i64 16 15=0:=by decide+kernel
 go_enter Tryz.func171,Tryz.ntmps171
 go_wp2
 go_ret;exact⟨by simp[hA],rfl⟩
set_option maxHeartbeats 4000000 in
set_option maxRecDepth 100000 in
theorem strconv_FormatInt_tz (w:World) (h:w.cell? ⟨5,15,none⟩=some (.int .u8 4)):
  Calls Tryz.prog 172 #[.int .u64 16] w fun e w'=>e= .returned (.int .i64 4)∧w'=w:=by
 go_enter Tryz.func172,Tryz.ntmps172
 go_wp2_with (go_at_call 184;refine(strconv_FormatInt_tz64 _ h).mono ?_;rintro e w' ⟨rfl,rfl⟩)
 go_ret;exact⟨rfl,rfl⟩
def HRow (w:World) (b i:Nat) (ds:List Int):Prop:= ∃cs:Array Value,w.heap[b]?=some (.cells cs 158 (0,0))∧cs.size=65∧i+ds.length=65∧ ∀(t:Nat) (x:Int),ds[t]?=some x→cs[i+t]?=some (Value.int .u8 x)
theorem HRow.cell {w:World} {b i:Nat} {ds:List Int} (h:HRow w b i ds) (j:Nat) (hj:j<65): ∃v,w.cell? ⟨b,j,none⟩=some v:=by
 obtain⟨cs,h0,h1,_,_⟩:=h;exact⟨cs[j]'(by omega),by simp[World.cell?,h0,h1,hj]⟩
theorem HRow.frozen {w:World} {b i:Nat} {ds:List Int} (h:HRow w b i ds) (j:Nat):w.frozen? ⟨b,j,none⟩=false:=by
 obtain⟨cs,h0,_⟩:=h
 simp[World.frozen?,h0]
theorem HRow.push {w:World} {b i:Nat} {ds:List Int} (h:HRow w b (i+1) ds) (x:Int):HRow (w.setCell ⟨b,i,none⟩ (.int .u8 x)) b i (x::ds):=by
 obtain⟨cs,h0,h1,h2,h3⟩:=h;refine⟨cs.setIfInBounds i (.int .u8 x),by simp[World.setCell,Array.getElem?_modify,h0],by simpa using h1,by simp;omega,fun t y hy=>?_⟩
 cases t with
 |zero=>
  simp at hy;subst hy
  rw[Nat.add_zero,Array.getElem?_setIfInBounds_self_of_lt (by omega)]
 |succ t=>
  rw[Array.getElem?_setIfInBounds_ne (by omega),show i+(t+1)=i+1+t by omega];exact h3 t y (by simpa using hy)
theorem HRow.string {P:Program} {w:World} {b i:Nat} {ds:List Int} {src dst e:TypeId} (hs:P.underlying src=some (.slice e)) (he:P.underlying e=some (.int .u8)) (hd:P.underlying dst=some .string) (h:HRow w b i ds) (n c:Nat) (hn:n=ds.length):
  (convert src dst (.slice (some ⟨b,i,none⟩) n c)).run P w= .ok (.string (strOfNums ds)) w:=by
 obtain⟨cs,h0,h1,h2,h3⟩:=h;refine run_convert_bytes_arg w src e hs he b i n c ds hn.symm (fun j hj=>?_) dst hd;have:ds[j]?=some (ds.getD j 0):=by rw[List.getD_eq_getElem?_getD,List.getElem?_eq_getElem (by omega)];rfl
 simp[World.cell?,h0,h3 j _ this]
def hxI (d:Nat):Int:=if d<10 then 48+d else 87+d
def hexI (n:Nat):List Int:=if n<16 then [hxI n]else hexI (n/16)++ [hxI (n%16)]
termination_by n
decreasing_by omega
theorem hexI_small {n:Nat} (h:n<16):hexI n= [hxI n]:=by rw[hexI,if_pos h]
theorem hexI_big {n:Nat} (h: ¬n<16):hexI n=hexI (n/16)++ [hxI (n%16)]:=by rw[hexI,if_neg h]
theorem strconv_FormatInt_hx_at: ∀(d:Nat),d<16→ ∀(h:d<(⟨#[48,49,50,51,52,53,54,55,56,57,97,98,99,100,101,102,103,104,105,106,107,108,109,110,111,112,113,114,115,116,117,118,119,120,121,122]⟩:ByteArray).size),(((⟨#[48,49,50,51,52,53,54,55,56,57,97,98,99,100,101,102,103,104,105,106,107,108,109,110,111,112,113,114,115,116,117,118,119,120,121,122]⟩:ByteArray)[d]'h).toNat:Int)=hxI d:=by
 intro d hd;have hc: ∀e:Fin 16,∀(h:e.1<(⟨#[48,49,50,51,52,53,54,55,56,57,97,98,99,100,101,102,103,104,105,106,107,108,109,110,111,112,113,114,115,116,117,118,119,120,121,122]⟩:ByteArray).size),(((⟨#[48,49,50,51,52,53,54,55,56,57,97,98,99,100,101,102,103,104,105,106,107,108,109,110,111,112,113,114,115,116,117,118,119,120,121,122]⟩:ByteArray)[e.1]'h).toNat:Int)=hxI e.1:=by decide+kernel
 exact hc ⟨d,hd⟩
set_option maxHeartbeats 8000000 in
set_option maxRecDepth 100000 in
theorem strconv_FormatInt_fbits (n:Nat) (hn:n<268435456) (w:World) (h:w.cell? ⟨5,15,none⟩=some (.int .u8 4)):
  Calls Tryz.prog 141 #[.slice none 0 0,.int .u64 n,.int .i64 16,.bool false,.bool false] w fun e w'=>e= .returned (.tuple #[.slice none 0 0,.string (strOfNums (hexI n))])∧Below w.heap.size w w':=by
 have h1:=fun o=>((below_alloc (Below.refl w.heap.size w) o).cell (World.block_lt_of_cell? w _ h)).trans h;have H1:=Aside0.mk h1;clear h1;go_enter Tryz.func141,Tryz.ntmps141
 go_wp2_with (first|(go_at_call 171;refine(strconv_FormatInt_pow2 _).mono ?_;rintro e w1 ⟨rfl,rfl⟩)|(go_at_call 172;refine(strconv_FormatInt_tz _ (H1.out _)).mono ?_;rintro e w2 ⟨rfl,rfl⟩))
 go_loopg [1,13] (n+1) (fun kq v1 v13 w'=> ∃(u i:Nat),v1= .int .u64 (u:Int)∧v13= .int .i64 (i:Int)∧Aside0 (∃ds,kq=u+1∧u≤n∧(u<16→1≤i)∧(16≤u→2≤i)∧i≤65∧HRow w' w.heap.size i ds∧hexI n=hexI u++ds∧(u<16^(i-57)))∧Aside0 (Below w.heap.size w w'))
 case atStart=>
  refine⟨n,65,rfl,rfl,⟨[],rfl,Nat.le_refl _,fun _=>by omega,fun _=>by omega,Nat.le_refl _,⟨_,heap_alloc_new w _,by rfl,rfl,fun t x hx=>by simp at hx⟩,by simp,by omega⟩,⟨below_alloc (Below.refl _ _) _⟩⟩
 case round=>
  obtain⟨u,i,rfl,rfl,HJ,HB⟩:=hrel;obtain⟨ds,hk,hun,hi1,hi2,hi,hrow,hex,hpow⟩:=HJ.out;clear HJ;have HROW:=Aside0.mk hrow;have HEX:=Aside0.mk hex;have HP:=Aside0.mk hpow;clear hrow hex hpow
  by_cases hu:u<16
  ·have c1:decide ((16:Int)≤(u:Int))=false:=decide_eq_false (by omega);obtain⟨i1,rfl⟩: ∃i1,i=i1+1:=⟨i-1,by have:=hi1 hu;omega⟩;have p1:(0≤(u:Int))=True:=eq_true (by omega);have q1:((u:Int)<36)=True:=eq_true (by omega);have p2:(0≤(i1:Int))=True:=eq_true (by omega);have q2:((i1:Int)<65)=True:=eq_true (by omega);have q3:((i1:Int)≤65)=True:=eq_true (by omega);obtain⟨v,hv⟩:=HROW.out.cell i1 (by omega);have hfz:=HROW.out.frozen i1;have hlen:65-i1=(hxI u::ds).length:=by have:=HROW.out;obtain⟨_,_,_,h2,_⟩:=this;simp;omega
   have hdig:=strconv_FormatInt_hx_at u hu;have hst:=fun n hn=>(HROW.out.push (hxI u)).string (P:=Tryz.prog) (src:=24) (dst:=9) (e:=5) Tryz.underlying24 Tryz.underlying5 Tryz.underlying9 n n hn;go_wp2_with fail
   go_ret2
   exact⟨by rw[HEX.out,hexI_small hu];rfl,HB.out.setCell (Nat.le_refl _) _⟩
  ·have c1:decide ((16:Int)≤(u:Int))=true:=decide_eq_true (by omega);obtain⟨i1,rfl⟩: ∃i1,i=i1+1:=⟨i-1,by have:=hi2 (by omega);omega⟩;obtain⟨d,hd⟩: ∃d,u%16=d:=⟨_,rfl⟩;have hd16:d<16:=by omega
   have hb:bits .and .u64 (u:Int) 15=(d:Int):=by
    have:=bits_mask .u64 63 (by decide) (fun m h0 h1=>by simp[IntKind.wrap,IntKind.bits,IntKind.signed];omega) 4 (by decide) (u:Int) (by omega) (by omega);rw[←hd];simpa using this
   have p1:(0≤(d:Int))=True:=eq_true (by omega);have q1:((d:Int)<36)=True:=eq_true (by omega);have p2:(0≤(i1:Int))=True:=eq_true (by omega);have q2:((i1:Int)<65)=True:=eq_true (by omega);obtain⟨v,hv⟩:=HROW.out.cell i1 (by omega);have hfz:=HROW.out.frozen i1;go_wp2_with fail
   rw[strconv_FormatInt_hx_at d hd16];go_roundg (u/16+1)
   case measure=>omega
   case rel=>
    refine⟨u/16,i1,by simp,rfl,⟨hxI d::ds,rfl,by omega,fun _=>by omega,fun h16=>?_,by omega,HROW.out.push _,?_,?_⟩,⟨HB.out.setCell (Nat.le_refl _) _⟩⟩
    ·have hp:=HP.out
     rcases Nat.lt_or_ge i1 58 with h58|h58
     ·have:i1+1-57≤1:=by omega
      have h2:16^(i1+1-57)≤16^1:=Nat.pow_le_pow_right (by decide) this
      omega
     ·omega
    ·rw[HEX.out,hexI_big hu,hd];simp
    ·have hp:=HP.out
     rcases Nat.lt_or_ge i1 57 with h57|h57
     ·have h2:16^(i1+1-57)≤16^0:=Nat.pow_le_pow_right (by decide) (by omega)
      omega
     ·rw[show i1+1-57=(i1-57)+1 by omega,Nat.pow_succ]at hp
      omega
set_option maxHeartbeats 8000000 in
set_option maxRecDepth 100000 in
theorem strconv_FormatInt_fint16 (n:Nat) (hn:n<268435456) (w:World) (h:w.cell? ⟨5,15,none⟩=some (.int .u8 4)):
  Calls Tryz.prog 109 #[.int .i64 n,.int .i64 16] w fun e w'=>e= .returned (.string (strOfNums (hexI n)))∧Below w.heap.size w w':=by
 have p1:((n:Int)<0)=False:=eq_false (by omega);have p2:decide ((n:Int)<0)=false:=decide_eq_false (by omega);have p3:IntKind.u64.wrap (n:Int)=(n:Int):=by simp[IntKind.wrap,IntKind.bits,IntKind.signed];omega
 go_enter Tryz.func109,Tryz.ntmps109
 go_wp2_with (go_at_call 141;refine(strconv_FormatInt_fbits n hn _ h).mono ?_;rintro e w' ⟨rfl,hb⟩)
 go_ret;exact⟨rfl,hb⟩
def strconv_FormatInt.f (a0 a1:Int):Option (ByteArray):=if a1=16∧0≤a0∧a0<268435456 then some (strOfNums (hexI a0.toNat))else none
set_option maxHeartbeats 8000000 in
set_option maxRecDepth 100000 in
theorem strconv_FormatInt.calls (a0 a1:Int) (r:ByteArray) (w:World) (hG:Gl w) (h:strconv_FormatInt.f a0 a1=some r):
  Calls Tryz.prog 61 #[.int .i64 a0,.int .i64 a1] w fun e w'=>e= .returned (.string r)∧Below w.heap.size w w':=by
 unfold strconv_FormatInt.f at h
 by_cases hs:a1=16∧0≤a0∧a0<268435456
 ·rw[if_pos hs]at h;obtain rfl:=Option.some.inj h;obtain⟨rfl,h0,h1⟩:=hs;obtain⟨n,rfl⟩: ∃n:Nat,a0=n:=⟨a0.toNat,by omega⟩;have hd:=hG.db64;go_enter Tryz.func61,Tryz.ntmps61
  go_wp2_with (go_at_call 109;refine(strconv_FormatInt_fint16 n (by omega) _ hd).mono ?_;rintro e w' ⟨rfl,hb⟩)
  go_ret;exact⟨rfl,hb⟩
 ·rw[if_neg hs]at h;cases h
def impl_HexText.f (a0:Int):Option (ByteArray):=(impl_within.f a0 0 268435455).bind fun t164=>(if t164=true then((strconv_FormatInt.f a0 16).bind fun t165=>(some t165))else(some (⟨#[]⟩:ByteArray)))
set_option maxHeartbeats 40000000 in
set_option maxRecDepth 100000 in
theorem impl_HexText.calls (a0:Int) (r:ByteArray) (w:World) (hG:Gl w) (h:impl_HexText.f a0=some r):
  Calls Tryz.prog 28 #[.int .i64 a0] w fun e w'=>e= .returned (.string r)∧Below w.heap.size w w':=by
 have HG:=Aside0.mk hG;clear hG;have HB:=Aside0.mk (Below.refl w.heap.size w);have H:((impl_within.f a0 0 268435455).bind fun t164=>(if t164=true then((strconv_FormatInt.f a0 16).bind fun t165=>(some t165))else(some (⟨#[]⟩:ByteArray))))=some r:=h;clear h;replace H:=Option.bind_eq_some_iff.mp H;obtain⟨t164,A20,H⟩:=H;(try dsimp only at H);have A2:=Aside0.mk A20;clear A20
 by_cases c3:t164=true
 ·subst c3;rw[if_pos rfl]at H;replace H:=Option.bind_eq_some_iff.mp H;obtain⟨t165,A40,H⟩:=H;(try dsimp only at H);have A4:=Aside0.mk A40;clear A40;obtain rfl:=Option.some.inj H;go_enter Tryz.func28,Tryz.ntmps28
  go_wp2_with (first|((with_reducible refine gate_callee (f:=27) rfl ?_);refine goesR_ 4 Tryz.func27 #[.int .i64 a0,.int .i64 0,.int .i64 268435455] (impl_within.calls a0 0 268435455 true _ A2.out) ?_;rintro w' ⟨nd,rfl⟩)|((with_reducible refine gate_callee (f:=61) rfl ?_);refine goesQ_ 7 Tryz.func61 #[.int .i64 a0,.int .i64 16] ?_;(with_reducible refine(strconv_FormatInt.calls a0 16 t165 _ ?side1 A4.out).mono ?_);(case side1=>exact Gl.below HG.out zz0);rintro e w5 ⟨rfl,hb⟩;refine⟨_,rfl,?_⟩;replace HB:=Aside0.mk (below_step zz0 hb);(try clear hb)))
  go_ret;exact⟨zz3,zz0⟩
 ·replace c3:=Bool.eq_false_iff.mpr c3;subst c3;rw[if_neg Bool.false_ne_true]at H;obtain rfl:=Option.some.inj H;go_enter Tryz.func28,Tryz.ntmps28
  go_wp2_with (first|((with_reducible refine gate_callee (f:=27) rfl ?_);refine goesR_ 4 Tryz.func27 #[.int .i64 a0,.int .i64 0,.int .i64 268435455] (impl_within.calls a0 0 268435455 false _ A2.out) ?_;rintro w' ⟨nd,rfl⟩))
  go_ret;exact⟨zz3,zz0⟩
end Go.Proofs.YtnilblnhlpnpgaaGreatDoor.GFnChunks
