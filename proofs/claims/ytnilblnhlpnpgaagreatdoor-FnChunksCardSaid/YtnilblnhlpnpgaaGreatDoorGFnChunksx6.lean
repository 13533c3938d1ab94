-- Printed by gen.py and its programs for this claim.
import Derived.Test.YtnilblnhlpnpgaaGreatDoorGFnChunksx0
import Derived.Test.YtnilblnhlpnpgaaGreatDoorGFnChunksx3
import Derived.Test.YtnilblnhlpnpgaaGreatDoorGFnChunksx5
import Derived.Test.YtnilblnhlpnpgaaGreatDoorZFnChunks
namespace Go.Proofs.YtnilblnhlpnpgaaGreatDoor.GFnChunks
open Go.RowKit Go.Proofs.YtnilblnhlpnpgaaGreatDoorW.PrintWords Go.Proofs.YtnilblnhlpnpgaaGreatDoorW.PrintLast Go.Proofs.YtnilblnhlpnpgaaGreatDoorW.PrintMore Go.Proofs.YtnilblnhlpnpgaaGreatDoorW.Zs
set_option maxHeartbeats 40000000
set_option maxRecDepth 100000
attribute [local go_sem] max2_int min2_int max_two min_two max_three min_three max_four min_four
set_option linter.unusedVariables false
set_option linter.unusedSimpArgs false
mutual
def impl_Chunks.l0:Nat→ByteArray→ByteArray→Int→Option (ByteArray×Int)
 |0,_,_,_=>none
 |k+1,x5,x213000,x213001=>(impl_TakeLine.f k x213000 x213001).bind fun bt213=>(if bt213.2.2.2=0 then(impl_Chunks.j1 k x5 bt213.1 (decide ((bt213.1.size:Int)>300)) bt213.2.1 bt213.2.2.1)else(impl_Chunks.j1 k x5 bt213.1 true bt213.2.1 bt213.2.2.1))
def impl_Chunks.j1:Nat→ByteArray→ByteArray→Bool→ByteArray→Int→Option (ByteArray×Int)
 |0,_,_,_,_,_=>none
 |k+1,x5,x6,x32,x218000,x218001=>if x32=true then(some ((⟨#[]⟩:ByteArray),400))else((strings_Cut.f x6 (⟨#[59]⟩:ByteArray)).bind fun bt218=>((impl_ReadHex.f k bt218.1).bind fun bt221=>(if bt221.2=true then(if(wrap64 ((x5.size:Int)+bt221.1))>600 then(some ((⟨#[]⟩:ByteArray),413))else(if bt221.1=0 then((impl_trailed.f k x218000 x218001).bind fun t223=>(impl_Chunks.j2 k x5 bt221.1 (!t223) x218000 x218001))else(impl_Chunks.j2 k x5 bt221.1 false x218000 x218001)))else(some ((⟨#[]⟩:ByteArray),400)))))
def impl_Chunks.j2:Nat→ByteArray→Int→Bool→ByteArray→Int→Option (ByteArray×Int)
 |0,_,_,_,_,_=>none
 |k+1,x5,x12,x53,x218000,x218001=>if x53=true then(some ((⟨#[]⟩:ByteArray),400))else(if x12=0 then(some (x5,0))else((impl_TakeN.f x218000 x218001 x12).bind fun bt224=>((impl_TakeN.f bt224.2.1 bt224.2.2.1 2).bind fun bt228=>(if bt224.2.2.2=true then(if bt228.2.2.2=true then(if bt228.1.toList=([13,10]:List UInt8)then(if x5.size+bt224.1.size≤9223372036854775807 then(impl_Chunks.l0 k (x5++bt224.1) bt228.2.1 bt228.2.2.1)else(none))else(some ((⟨#[]⟩:ByteArray),400)))else(some ((⟨#[]⟩:ByteArray),400)))else(some ((⟨#[]⟩:ByteArray),400))))))
end
def impl_Chunks.f (k:Nat) (a0:ByteArray):Option (ByteArray×Int):=impl_Chunks.l0 k (⟨#[]⟩:ByteArray) a0 0
theorem impl_Chunks.calls (k:Nat) (a0 r1:ByteArray) (r2:Int) (w:World) (hG:Gl w) (h:impl_Chunks.f k a0=some (r1,r2)):
  Calls Tryz.prog 12 #[.string a0] w fun e w'=>e= .returned (.tuple #[.string r1,.int .i64 r2])∧Below w.heap.size w w':=by
 have hu41:=Tryz.underlying41;have HG:=Aside0.mk hG;clear hG;have HB:=Aside0.mk (Below.refl w.heap.size w);have H:(impl_Chunks.l0 k (⟨#[]⟩:ByteArray) a0 0)=some (r1,r2):=h;clear h;have H':=Aside0.mk H;clear H;go_enter Tryz.func12,Tryz.ntmps12
 go_wp2_with (first|((with_reducible refine gate_dst (N:=4) rfl ?_);(try(refine gate_guard (by rfl) ?_;dsimp only));refine boxP_ (N:=4) (cs:= #[.string (⟨#[]⟩:ByteArray),.int .i64 0]) (t:=41) ?_;intro gb212 hg w2 hbox hb;have BK212:=Aside0.mk (hbox);have GE212:=geb_ (w:=w) hg zz0;replace HB:=Aside0.mk (below_step zz0 hb);clear hb hbox hg;obtain⟨_,_,_,_⟩:=cells2_ BK212.out))
 go_loopg [5] k (fun kq v5 w'=> ∃(x5_1 x213000_1:ByteArray) (x213001_1:Int),v5= .string x5_1∧Aside0 (impl_Chunks.l0 kq x5_1 x213000_1 x213001_1=some (r1,r2))∧Aside0 (kq≤k)∧Aside0 (w'.heap[gb212]?=some (.cells #[.string x213000_1,.int .i64 x213001_1] 41 (0,0)))∧Aside0 (Below w.heap.size w w'))
 case atStart=>exact⟨((⟨#[]⟩:ByteArray)),(a0),(0),zz4,H',⟨Nat.le_refl _⟩,⟨by(with_reducible repeat(first|refine blk_drewN ?_ _|refine blk_drew ?_|refine blk_alloc ?_ _));refine blk_put (cs:= #[.string a0,.int .i64 0]) ?_ 1 _ rfl;(with_reducible repeat(first|refine blk_drewN ?_ _|refine blk_drew ?_|refine blk_alloc ?_ _));refine blk_put (cs:= #[.string (⟨#[]⟩:ByteArray),.int .i64 0]) ?_ 0 _ rfl;(with_reducible repeat(first|refine blk_drewN ?_ _|refine blk_drew ?_|refine blk_alloc ?_ _));exact BK212.out⟩,⟨zz70⟩⟩
 case round=>
  clear H';(try clear c1);(try clear p2);(try clear hcz3_0);(try clear hcz3_1);(try clear hfz3_0);(try clear hfz3_1);obtain⟨x5_1,x213000_1,x213001_1,rfl,HA,HK1,BK212,HB⟩:=hrel
  cases gk with
  |zero=>exact absurd HA.out (by simp[impl_Chunks.l0])
  |succ k1=>
   have H:=HA.out;clear HA;simp only[impl_Chunks.l0]at H;replace H:=Option.bind_eq_some_iff.mp H;obtain⟨⟨t213,t214,t215,t216⟩,A40,H⟩:=H;(try dsimp only at H);have A4:=Aside0.mk A40;clear A40;have HC5:=Aside0.mk H;clear H;obtain⟨_,_,_,_⟩:=cells2_ BK212.out;go_upto_region 4 with(first|((with_reducible refine gate_callee (f:=31) rfl ?_);refine goesR_ 22 Tryz.func31 #[.agg #[.string x213000_1,.int .i64 x213001_1]] (impl_TakeLine.calls k1 x213000_1 x213001_1 t213 t214 t215 t216 _ A4.out) ?_;rintro w7 hb;replace BK212:=Aside0.mk (blk_below zz28 hb);replace HB:=Aside0.mk (below_step zz70 hb);(try clear hb))|((with_reducible refine gate_dst (N:=7) rfl ?_);(try(refine gate_guard (by rfl) ?_;dsimp only));refine boxP_ (N:=7) (cs:= #[.string (⟨#[]⟩:ByteArray),.int .i64 0]) (t:=41) ?_;intro gb217 hg w8 hbox hb;have BK217:=Aside0.mk (hbox);have GE217:=geb_ (w:=w) hg zz70;replace HB:=Aside0.mk (below_step zz70 hb);have NB212_217:=nbL_ (g:=gb212) hg zz28;have NB217_212:=nbG_ (g:=gb212) hg zz28;replace BK212:=Aside0.mk (blk_below zz28 hb);clear hb hbox hg;have hnb9:=NB217_212.out;have hnc9:=NB212_217.out;obtain⟨_,_,_,_⟩:=cells2_ BK217.out))
   (try simp only[Act.put,List.setIfInBounds_toArray,List.set_cons_zero,List.set_cons_succ]);go_cut [32] (fun v32 wc=> ∃(kq:Nat) (x32_4:Bool),v32= .bool x32_4∧Aside0 (impl_Chunks.j1 kq x5_1 t213 x32_4 t214 t215=some (r1,r2))∧Aside0 (kq≤k1)∧Aside0 (wc.heap[gb212]?=some (.cells #[.string x213000_1,.int .i64 x213001_1] 41 (0,0)))∧Aside0 (wc.heap[gb217]?=some (.cells #[.string t214,.int .i64 t215] 41 (0,0)))∧Aside0 (Below w.heap.size w wc))
   case first=>
    have H:=HC5.out;clear HC5
    by_cases c11:t216=0
    ·rw[if_pos c11]at H;have c11b0:(t216==0)=true:=beq_iff_eq.mpr c11;have c11b1:(t216 !=0)=false:=bne_eq_false_iff_eq.mpr c11;clear c11;(first|rw[c11b0]|(simp only[i64_w,i32_w];rw[c11b0])|rw[c11b1]|(rw[c11b2];simp only[Bool.not_true,Bool.not_false])|skip);have H':=Aside0.mk H;clear H;go_wp2
     go_meet
     case rel=>exact⟨_,(decide ((t213.size:Int)>300)),zz4,H',⟨zz81⟩,⟨zz44⟩,⟨zz73⟩,⟨zz11⟩⟩
    ·rw[if_neg c11]at H;have c11b0:(t216==0)=false:=beq_eq_false_iff_ne.mpr c11;have c11b1:(t216 !=0)=true:=bne_iff_ne.mpr c11;(first|rw[c11b0]|(simp only[i64_w,i32_w];rw[c11b0])|rw[c11b1]|(rw[c11b2];simp only[Bool.not_true,Bool.not_false])|skip);have H':=Aside0.mk H;clear H;go_wp2
     go_meet
     case rel=>exact⟨_,(true),zz4,H',⟨zz81⟩,⟨zz44⟩,⟨zz73⟩,⟨zz11⟩⟩
   case rest=>
    clear HC5;(try clear c1);(try clear p2);(try clear c3);(try clear c9);(try clear c11);(try clear c11b0);(try clear c11b1);(try clear hcz10_0);(try clear hcz10_1);(try clear hcz3_0);(try clear hcz3_1);(try clear hcz6_0);(try clear hcz6_1);(try clear hfz10_0);(try clear hfz10_1);(try clear hfz3_0);(try clear hfz3_1);(try clear hfz6_0);(try clear hfz6_1);(try clear p2);obtain⟨kq,x32_4,rfl,HA,HJ4,BK212,BK217,HB⟩:=hcut
    cases kq with
    |zero=>exact absurd HA.out (by simp[impl_Chunks.j1])
    |succ kj4=>
     have H:=HA.out;clear HA;simp only[impl_Chunks.j1]at H
     by_cases c12:x32_4=true
     ·subst c12;rw[if_pos rfl]at H;simp only[Option.some.injEq,Prod.mk.injEq]at H;obtain⟨rfl,rfl⟩:=H;go_wp2
      go_ret2
      exact⟨zz3,zz11⟩
     ·replace c12:=Bool.eq_false_iff.mpr c12;subst c12;rw[if_neg Bool.false_ne_true]at H;replace H:=Option.bind_eq_some_iff.mp H;obtain⟨⟨t218,t219,t220⟩,A130,H⟩:=H;(try dsimp only at H);have A13:=Aside0.mk A130;clear A130;replace H:=Option.bind_eq_some_iff.mp H;obtain⟨⟨t221,t222⟩,A140,H⟩:=H;(try dsimp only at H);have A14:=Aside0.mk A140;clear A140;have HC15:=Aside0.mk H;clear H;go_upto_if 44 with(first|((with_reducible refine gate_callee (f:=32) rfl ?_);refine goesQ_ 35 Tryz.func32 #[.string t213,.string (⟨#[59]⟩:ByteArray)] ?_;(with_reducible refine(strings_Cut.calls t213 (⟨#[59]⟩:ByteArray) t218 t219 t220 _ ?side1 A13.out).mono ?_);(case side1=>exact Gl.below HG.out zz11);rintro e w16 ⟨rfl,hb⟩;refine⟨_,rfl,?_⟩;replace BK212:=Aside0.mk (blk_below zz28 hb);replace BK217:=Aside0.mk (blk_below zz35 hb);replace HB:=Aside0.mk (below_step zz11 hb);(try clear hb))|((with_reducible refine gate_callee (f:=33) rfl ?_);refine goesR_ 41 Tryz.func33 #[.string t218] (impl_ReadHex.calls kj4 t218 t221 t222 _ A14.out) ?_;rintro w' ⟨nd,rfl⟩))
      (try simp only[Act.put,List.setIfInBounds_toArray,List.set_cons_zero,List.set_cons_succ]);(try(rw[drewN_self w16];generalize hq_:World.drewN w16 _=w16;have n0_:Aside0 (w16.heap[gb212]?=some (.cells #[.string x213000_1,.int .i64 x213001_1] 41 (0,0))):=⟨by rw[←hq_];exact zz28⟩;have n1_:Aside0 (w16.heap[gb217]?=some (.cells #[.string t214,.int .i64 t215] 41 (0,0))):=⟨by rw[←hq_];exact zz35⟩;have n2_:Aside0 (Below w.heap.size w w16):=⟨by rw[←hq_];exact zz11⟩;clear BK212 BK217 HB hq_;have BK212:=n0_;have BK217:=n1_;have HB:=n2_;clear n0_ n1_ n2_;have hcu1:w16.cell? ⟨gb212,0,none⟩=some (.string x213000_1):=(blk_cell BK212.out 0).trans rfl;have hfu1:=blk_frozen BK212.out 0;have hcu2:w16.cell? ⟨gb212,1,none⟩=some (.int .i64 x213001_1):=(blk_cell BK212.out 1).trans rfl;have hfu2:=blk_frozen BK212.out 1;have hcu3:w16.cell? ⟨gb217,0,none⟩=some (.string t214):=(blk_cell BK217.out 0).trans rfl;have hfu3:=blk_frozen BK217.out 0;have hcu4:w16.cell? ⟨gb217,1,none⟩=some (.int .i64 t215):=(blk_cell BK217.out 1).trans rfl;have hfu4:=blk_frozen BK217.out 1));have H:=HC15.out;clear HC15
      by_cases c17:t222=true
      ·subst c17;rw[if_pos rfl]at H
       by_cases c18:(wrap64 ((x5_1.size:Int)+t221))>600
       ·rw[if_pos c18]at H;have c18b0:decide (600<(wrap64 ((x5_1.size:Int)+t221)))=true:=decide_eq_true c18;clear c18;(first|rw[c18b0]|(simp only[i64_w,i32_w];rw[c18b0])|skip);simp only[Option.some.injEq,Prod.mk.injEq]at H;obtain⟨rfl,rfl⟩:=H;go_wp2
        go_ret2
        exact⟨zz3,zz11⟩
       ·rw[if_neg c18]at H;have c18b0:decide (600<(wrap64 ((x5_1.size:Int)+t221)))=false:=decide_eq_false c18;clear c18;(first|rw[c18b0]|(simp only[i64_w,i32_w];rw[c18b0])|skip);have HC19:=Aside0.mk H;clear H;go_upto_region 12 with(fail)
        go_cut [53] (fun v53 wc=> ∃(kq:Nat) (x53_18:Bool),v53= .bool x53_18∧Aside0 (impl_Chunks.j2 kq x5_1 t221 x53_18 t214 t215=some (r1,r2))∧Aside0 (kq≤kj4)∧Aside0 (wc.heap[gb212]?=some (.cells #[.string x213000_1,.int .i64 x213001_1] 41 (0,0)))∧Aside0 (wc.heap[gb217]?=some (.cells #[.string t214,.int .i64 t215] 41 (0,0)))∧Aside0 (Below w.heap.size w wc))
        case first=>
         have H:=HC19.out;clear HC19
         by_cases c20:t221=0
         ·rw[if_pos c20]at H;have c20b0:(t221==0)=true:=beq_iff_eq.mpr c20;have c20b1:(t221 !=0)=false:=bne_eq_false_iff_eq.mpr c20;clear c20;(first|rw[c20b0]|(simp only[i64_w,i32_w];rw[c20b0])|rw[c20b1]|(rw[c20b2];simp only[Bool.not_true,Bool.not_false])|skip);replace H:=Option.bind_eq_some_iff.mp H;obtain⟨t223,A210,H⟩:=H;(try dsimp only at H);have A21:=Aside0.mk A210;clear A210;have H':=Aside0.mk H;clear H;have hnb22:=NB217_212.out;have hnc22:=NB212_217.out;obtain⟨_,_,_,_⟩:=cells2_ BK217.out;go_wp2_with (first|(go_at_call 34;(with_reducible refine(impl_trailed.calls kj4 t214 t215 t223 _ ?side1 A21.out).mono ?_);(case side1=>exact Gl.below HG.out zz11);rintro e w24 ⟨rfl,hb⟩;have n0_:=Aside0.mk (blk_below zz28 hb);have n1_:=Aside0.mk (blk_below zz35 hb);have n2_:=Aside0.mk (below_step zz11 hb);clear BK212;clear BK217;clear HB;have BK212:=n0_;have BK217:=n1_;have HB:=n2_;clear n0_ n1_ n2_;(try clear hb);(try clear hb2);(try clear hk);(try clear hi)))
          go_meet
          case rel=>exact⟨_,(!t223),zz4,H',⟨by have:=HK1.out;have:=HJ4.out;first|omega|exact Nat.le_refl _⟩,⟨zz28⟩,⟨zz35⟩,⟨zz11⟩⟩
         ·rw[if_neg c20]at H;have c20b0:(t221==0)=false:=beq_eq_false_iff_ne.mpr c20;have c20b1:(t221 !=0)=true:=bne_iff_ne.mpr c20;(first|rw[c20b0]|(simp only[i64_w,i32_w];rw[c20b0])|rw[c20b1]|(rw[c20b2];simp only[Bool.not_true,Bool.not_false])|skip);have H':=Aside0.mk H;clear H;go_wp2
          go_meet
          case rel=>exact⟨_,(false),zz4,H',⟨by have:=HK1.out;have:=HJ4.out;first|omega|exact Nat.le_refl _⟩,⟨zz28⟩,⟨zz35⟩,⟨zz11⟩⟩
        case rest=>
         clear HC19;(try clear c1);(try clear c2);(try clear p2);(try clear c3);(try clear p6);(try clear c9);(try clear c11);(try clear c11b0);(try clear c11b1);(try clear c12);(try clear c17);(try clear c18);(try clear c18b0);(try clear c20);(try clear c20b0);(try clear c20b1);(try clear c22);(try clear hcz10_0);(try clear hcz10_1);(try clear hcz23_0);(try clear hcz23_1);(try clear hcz3_0);(try clear hcz3_1);(try clear hcz6_0);(try clear hcz6_1);(try clear hfz10_0);(try clear hfz10_1);(try clear hfz23_0);(try clear hfz23_1);(try clear hfz3_0);(try clear hfz3_1);(try clear hfz6_0);(try clear hfz6_1);(try clear p2);obtain⟨kq,x53_18,rfl,HA,HJ18,BK212,BK217,HB⟩:=hcut
         cases kq with
         |zero=>exact absurd HA.out (by simp[impl_Chunks.j2])
         |succ kj18=>
          have H:=HA.out;clear HA;simp only[impl_Chunks.j2]at H
          by_cases c25:x53_18=true
          ·subst c25;rw[if_pos rfl]at H;simp only[Option.some.injEq,Prod.mk.injEq]at H;obtain⟨rfl,rfl⟩:=H;go_wp2
           go_ret2
           exact⟨zz3,zz11⟩
          ·replace c25:=Bool.eq_false_iff.mpr c25;subst c25;rw[if_neg Bool.false_ne_true]at H
           by_cases c26:t221=0
           ·rw[if_pos c26]at H;have c26b0:(t221==0)=true:=beq_iff_eq.mpr c26;have c26b1:(t221 !=0)=false:=bne_eq_false_iff_eq.mpr c26;clear c26;simp only[Option.some.injEq,Prod.mk.injEq]at H;obtain⟨rfl,rfl⟩:=H;go_wp2
            go_ret2
            exact⟨zz3,zz11⟩
           ·rw[if_neg c26]at H;have c26b0:(t221==0)=false:=beq_eq_false_iff_ne.mpr c26;have c26b1:(t221 !=0)=true:=bne_iff_ne.mpr c26;replace H:=Option.bind_eq_some_iff.mp H;obtain⟨⟨t224,t225,t226,t227⟩,A270,H⟩:=H;(try dsimp only at H);have A27:=Aside0.mk A270;clear A270;replace H:=Option.bind_eq_some_iff.mp H;obtain⟨⟨t228,t229,t230,t231⟩,A280,H⟩:=H;(try dsimp only at H);have A28:=Aside0.mk A280;clear A280;have HC29:=Aside0.mk H;clear H;have hnb30:=NB217_212.out;have hnc30:=NB212_217.out;obtain⟨_,_,_,_⟩:=cells2_ BK217.out
            repeat' (first|(go_big_may;(first|((with_reducible refine gate_callee (f:=35) rfl ?_);refine goesR_ 68 Tryz.func35 #[.agg #[.string t214,.int .i64 t215],.int .i64 t221] (impl_TakeN.calls t214 t215 t221 t224 t225 t226 t227 _ A27.out) ?_;rintro w32 hb;replace BK212:=Aside0.mk (blk_below zz28 hb);replace BK217:=Aside0.mk (blk_below zz35 hb);replace HB:=Aside0.mk (below_step zz11 hb);(try clear hb);obtain⟨_,_,_,_⟩:=cells2_ BK217.out)|((with_reducible refine gate_callee (f:=35) rfl ?_);refine goesR_ 74 Tryz.func35 #[.agg #[.string t225,.int .i64 t226],.int .i64 2] (impl_TakeN.calls t225 t226 2 t228 t229 t230 t231 _ A28.out) ?_;rintro w34 hb;replace BK212:=Aside0.mk (blk_below (g:=gb212) (o:= .cells #[.string x213000_1,.int .i64 x213001_1] 41 (0,0)) zz44 hb);replace BK217:=Aside0.mk (blk_below (g:=gb217) (o:= .cells #[.string t225,.int .i64 t226] 41 (0,0)) (by(with_reducible repeat(first|refine blk_drewN ?_ _|refine blk_drew ?_|refine blk_alloc ?_ _));refine blk_put (cs:= #[.string t225,.int .i64 t215]) ?_ 1 _ rfl;(with_reducible repeat(first|refine blk_drewN ?_ _|refine blk_drew ?_|refine blk_alloc ?_ _));refine blk_put (cs:= #[.string t214,.int .i64 t215]) ?_ 0 _ rfl;(with_reducible repeat(first|refine blk_drewN ?_ _|refine blk_drew ?_|refine blk_alloc ?_ _));exact BK217.out) hb);replace HB:=Aside0.mk (below_step zz11 hb);(try clear hb))|((with_reducible refine gate_dst (N:=16) rfl ?_);(try(refine gate_guard (by rfl) ?_;dsimp only));refine boxP_ (N:=16) (cs:= #[.string (⟨#[]⟩:ByteArray),.int .i64 0]) (t:=41) ?_;intro gb232 hg w35 hbox hb;have BK232:=Aside0.mk (hbox);have GE232:=geb_ (w:=w) hg zz11;replace HB:=Aside0.mk (below_step zz11 hb);have NB212_232:=nbL_ (g:=gb212) hg zz28;have NB232_212:=nbG_ (g:=gb212) hg zz28;replace BK212:=Aside0.mk (blk_below zz28 hb);have NB217_232:=nbL_ (g:=gb217) hg zz35;have NB232_217:=nbG_ (g:=gb217) hg zz35;replace BK217:=Aside0.mk (blk_below zz35 hb);clear hb hbox hg;have hnb36:=NB232_212.out;have hnc36:=NB212_232.out;have hnb37:=NB232_217.out;have hnc37:=NB217_232.out;obtain⟨_,_,_,_⟩:=cells2_ BK232.out)))|go_values|go_skip|go_big_skip|go_big_want|((first|(with_reducible refine gate_nog rfl ?_)|(fail_if_success with_reducible refine gate_any ?_));go_step)|go_upon|simp only[Bool.not_true,Bool.not_false,Bool.true_and,Bool.false_and,Bool.true_or,Bool.false_or]|dsimp only)
            (try simp only[Act.put,List.setIfInBounds_toArray,List.set_cons_zero,List.set_cons_succ]);have H:=HC29.out;clear HC29
            by_cases c39:t227=true
            ·subst c39;rw[if_pos rfl]at H
             by_cases c40:t231=true
             ·subst c40;rw[if_pos rfl]at H
              by_cases c41:t228.toList=([13,10]:List UInt8)
              ·rw[if_pos c41]at H;have c41b0:(t228.toList==([13,10]:List UInt8))=true:=beq_iff_eq.mpr c41;have c41b1:(t228.toList !=([13,10]:List UInt8))=false:=bne_eq_false_iff_eq.mpr c41;clear c41;(first|rw[c41b0]|(simp only[i64_w,i32_w];rw[c41b0])|rw[c41b1]|(rw[c41b2];simp only[Bool.not_true,Bool.not_false])|skip)
               by_cases c42:x5_1.size+t224.size≤9223372036854775807
               ·rw[if_pos c42]at H;have c42b0:=eq_true c42;have c42b1:decide (x5_1.size+t224.size≤9223372036854775807)=true:=decide_eq_true c42;(try have c42b2:(9223372036854775807<x5_1.size+t224.size)=False:=eq_false (Nat.not_lt.2 c42));have H':=Aside0.mk H;clear H;have hnb43:=NB232_212.out;have hnc43:=NB212_232.out;have hnb44:=NB232_217.out;have hnc44:=NB217_232.out;obtain⟨_,_,_,_⟩:=cells2_ BK232.out;have hnb46:=NB212_217.out;have hnc46:=NB217_212.out;obtain⟨_,_,_,_⟩:=cells2_ BK212.out;go_wp2
                go_roundg kj18
                (case measure=>have:=HK1.out;have:=HJ4.out;have:=HJ18.out;omega);case rel=>exact⟨(x5_1++t224),(t229),(t230),zz4,H',⟨by have:=HK1.out;have:=HJ4.out;have:=HJ18.out;omega⟩,⟨by(with_reducible repeat(first|refine blk_drewN ?_ _|refine blk_drew ?_|refine blk_alloc ?_ _));refine blk_put (cs:= #[.string t229,.int .i64 x213001_1]) ?_ 1 _ rfl;(with_reducible repeat(first|refine blk_drewN ?_ _|refine blk_drew ?_|refine blk_alloc ?_ _));refine blk_put (cs:= #[.string x213000_1,.int .i64 x213001_1]) ?_ 0 _ rfl;(iterate 2 ((with_reducible repeat(first|refine blk_drewN ?_ _|refine blk_drew ?_|refine blk_alloc ?_ _));refine blk_far ?_ NB212_232.out _));(with_reducible repeat(first|refine blk_drewN ?_ _|refine blk_drew ?_|refine blk_alloc ?_ _));exact BK212.out⟩,⟨zz52⟩⟩
               ·rw[if_neg c42]at H;exact absurd H (by simp)
              ·rw[if_neg c41]at H;have c41b0:(t228.toList==([13,10]:List UInt8))=false:=beq_eq_false_iff_ne.mpr c41;have c41b1:(t228.toList !=([13,10]:List UInt8))=true:=bne_iff_ne.mpr c41;(first|rw[c41b0]|(simp only[i64_w,i32_w];rw[c41b0])|rw[c41b1]|(rw[c41b2];simp only[Bool.not_true,Bool.not_false])|skip);simp only[Option.some.injEq,Prod.mk.injEq]at H;obtain⟨rfl,rfl⟩:=H;go_wp2
               go_ret2
               exact⟨zz3,zz52⟩
             ·replace c40:=Bool.eq_false_iff.mpr c40;subst c40;rw[if_neg Bool.false_ne_true]at H;simp only[Option.some.injEq,Prod.mk.injEq]at H;obtain⟨rfl,rfl⟩:=H;go_wp2
              go_ret2
              exact⟨zz3,zz52⟩
            ·replace c39:=Bool.eq_false_iff.mpr c39;subst c39;rw[if_neg Bool.false_ne_true]at H;simp only[Option.some.injEq,Prod.mk.injEq]at H;obtain⟨rfl,rfl⟩:=H;go_wp2
             go_ret2
             exact⟨zz3,zz52⟩
      ·replace c17:=Bool.eq_false_iff.mpr c17;subst c17;rw[if_neg Bool.false_ne_true]at H;simp only[Option.some.injEq,Prod.mk.injEq]at H;obtain⟨rfl,rfl⟩:=H;go_wp2
       go_ret2
       exact⟨zz3,zz11⟩
def strconv_Itoa.f (a0:Int):Option (ByteArray):=if-9223372036854775808≤a0∧a0≤9223372036854775807 then some ⟨(Lib.itoa a0).toArray⟩else none
theorem strconv_Itoa.calls (a0:Int) (r:ByteArray) (w:World) (hG:Gl w) (h:strconv_Itoa.f a0=some r):
  Calls Tryz.prog 89 #[.int .i64 a0] w fun e w'=>e= .returned (.string r)∧Below w.heap.size w w':=by
 unfold strconv_Itoa.f at h
 by_cases hs: -9223372036854775808≤a0∧a0≤9223372036854775807
 ·rw[if_pos hs]at h;obtain rfl:=Option.some.inj h;refine(Tryz.strconv_Itoa a0 hs.1 hs.2 w hG.tab).mono ?_;rintro e w' ⟨he,k,os,hw⟩;subst hw;exact⟨he,⟨rfl,rfl,rfl,by show w.heap.size≤(w.heap++os).size;rw[Array.size_append];omega,fun j hj=>by show(w.heap++os)[j]?=w.heap[j]?;rw[Array.getElem?_append_left hj]⟩⟩
 ·rw[if_neg hs]at h;cases h
def impl_fieldText.f (a0_0 a0_1:ByteArray):Option (ByteArray):=if a0_0.size+2≤9223372036854775807 then(if(a0_0++(⟨#[58,32]⟩:ByteArray)).size+a0_1.size≤9223372036854775807 then(some ((a0_0++(⟨#[58,32]⟩:ByteArray))++a0_1))else(none))else(none)
theorem impl_fieldText.calls (a0_0 a0_1 r:ByteArray) (w:World) (h:impl_fieldText.f a0_0 a0_1=some r):
  Calls Tryz.prog 90 #[.agg #[.string a0_0,.string a0_1]] w fun e w'=>e= .returned (.string r)∧Below w.heap.size w w':=by
 have hu82:=Tryz.underlying82;have HB:=Aside0.mk (Below.refl w.heap.size w);have H:(if a0_0.size+2≤9223372036854775807 then(if(a0_0++(⟨#[58,32]⟩:ByteArray)).size+a0_1.size≤9223372036854775807 then(some ((a0_0++(⟨#[58,32]⟩:ByteArray))++a0_1))else(none))else(none))=some r:=h;clear h
 by_cases c2:a0_0.size+2≤9223372036854775807
 ·rw[if_pos c2]at H;have c2b0:=eq_true c2;have c2b1:decide (a0_0.size+2≤9223372036854775807)=true:=decide_eq_true c2;try have c2b2:(9223372036854775807<a0_0.size+2)=False:=eq_false (Nat.not_lt.2 c2)
  by_cases c3:(a0_0++(⟨#[58,32]⟩:ByteArray)).size+a0_1.size≤9223372036854775807
  ·rw[if_pos c3]at H;have c3b0:=eq_true c3;have c3b1:decide ((a0_0++(⟨#[58,32]⟩:ByteArray)).size+a0_1.size≤9223372036854775807)=true:=decide_eq_true c3;(try have c3b2:(9223372036854775807<(a0_0++(⟨#[58,32]⟩:ByteArray)).size+a0_1.size)=False:=eq_false (Nat.not_lt.2 c3));(try have c3z:=c3b2;simp only[ByteArray.size_append,show(⟨#[58,32]⟩:ByteArray).size=2 from rfl]at c3z;have c3b3:=c3z);obtain rfl:=Option.some.inj H;go_enter Tryz.func90,Tryz.ntmps90
   go_wp2_with (first|((with_reducible refine gate_dst (N:=1) rfl ?_);refine boxP_ (N:=1) (cs:= #[.string a0_0,.string a0_1]) (t:=82) ?_;intro gb233 hg w4 hbox hb;have BK233:=Aside0.mk (hbox);have GE233:=geb_ (w:=w) hg zz0;replace HB:=Aside0.mk (below_step zz0 hb);clear hb hbox hg;obtain⟨_,_,_,_⟩:=cells2_ BK233.out))
   go_ret;exact⟨zz3,by repeat(first|(with_reducible first|exact HB.out|apply below_alloc|apply pw_below_drewN|apply below_drew1|refine below_set ?_ GE233.out)|exact HB.out)⟩
  ·rw[if_neg c3]at H;exact absurd H (by simp)
 ·rw[if_neg c2]at H;exact absurd H (by simp)
end Go.Proofs.YtnilblnhlpnpgaaGreatDoor.GFnChunks
