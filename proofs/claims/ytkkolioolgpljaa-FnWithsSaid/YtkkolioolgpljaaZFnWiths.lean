-- Proofs that the walks of the law FnWiths give often, each as the default of a hypothesis: by squeeze.py of this session.
import Derived.Test.YtkkolioolgpljaaVFnWiths
namespace Go.Proofs.YtkkolioolgpljaaW.Zs
open Go.RowKit Go.Proofs.YtkkolioolgpljaaW.PrintWords Go.Proofs.YtkkolioolgpljaaW.PrintLast Go.Proofs.YtkkolioolgpljaaW.PrintMore
set_option linter.unusedVariables false
set_option autoImplicit false
theorem geb_ {w W:World} {g:Nat} (hg:g=W.heap.size) (h:Below w.heap.size w W):Aside0 (w.heap.size≤g):=⟨hg ▸ below_size h⟩
theorem boxP_ {P:Program} {ops:Array Oper} {o:Oper} {rest:List Oper} {a:Act} {Q:Exit→Act→World→Prop} {W:World} {N:Tmp} {cs:Array Value} {t:TypeId}
 (h: ∀g,g=W.heap.size→ ∀w1,w1.heap[g]?=some (.cells cs t (0,0))→Below W.heap.size W w1→wpList P ops Q rest (a.put o.dst (.pointer (some ⟨g,0,none⟩))) w1)
 (hgd:o.guard=none:=by rfl) (hd:o.dst=some N:=by rfl)
 (hrun:(execOp a.eval o).run P W= .ok (.value (.pointer (some ⟨W.heap.size,0,none⟩))) (W.alloc (.cells cs t (0,0))):=by first|(go_simp;done)|(go_simp;rfl)):wpList P ops Q (o::rest) a W:=box_event hgd hd hrun h
theorem goesQ_ {P:Program} {ops:Array Oper} {Q:Exit→Act→World→Prop} {rest:List Oper} {oi:Oper} {a:Act} {w:World} (N:Tmp) {f:FuncId} {fn:Func} {as_:Array Operand} {ts:Array TypeId} (hf:P.funcs[f]?=some fn) (args:Array Value)
 (h:Calls P f args w fun e w'=> ∃v,e= .returned v∧wpList P ops Q rest (a.put (some N) v) w')
 (hd:oi.dst=some N:=by rfl) (hg:oi.guard=none:=by rfl) (hname:(fn.name== "runtime.NumGoroutine")=false:=by kernel_rfl) (hb:fn.body.isSome=true:=by rfl)
 (hop:oi.op= .call {callee:= .value (.func f),args:=as_,argTypes:=ts}:=by rfl) (hargs:as_.map a.eval=args:=by(try simp only[List.map_toArray,List.map_cons,List.map_nil]);first|done|rfl|(simp only[List.length_drop,List.length_take];rfl)):wpList P ops Q (oi::rest) a w:=goesL_ (some N) hd hg hf hname hb args hop hargs h
theorem st_ {P:Program} {ops:Array Oper} {Q:Exit→Act→World→Prop} {S:World→Prop} {ds:List Nat} {l0:Array Bool} {id n:Nat} {a:Act} {w:World} (hS:S w.drew)
 (h:S w.drew→wpAnyLast P .any ops Q S ds n l0 a w.drew) (hl0:Array.replicate n false=l0:=by(try simp only[←List.toArray_replicate,List.reduceReplicate]);(all_goals rfl)) (hm:P.follows .mixedOrders=true:=by kernel_rfl) (hn:ops.size=n:=by rfl):(Code.region id ops true).wp P Q a w:=start_ _ hm hn rfl hS (hl0 ▸ h)
theorem goZ {P:Program} {ops:Array Oper} {Q:Exit→Act→World→Prop} {oi:Oper} {N:Option Tmp} {a:Act} {w:World} {K:Act→World→Prop} {f:FuncId} {fn:Func} {as_:Array Operand} {ts:Array TypeId} (hf:P.funcs[f]?=some fn) (args:Array Value) {v:Value} {R:World→Prop}
 (h:Calls P f args w fun e w'=>e= .returned v∧R w') (k: ∀w',R w'→K (a.put N v) w') (hname:(fn.name== "runtime.NumGoroutine")=false:=by kernel_rfl) (hb:fn.body.isSome=true:=by rfl)
 (hw:Region.wanted oi (yielded ops a.tmps)=true:=by kernel_rfl) (hN:oi.dst=N:=by rfl) (hop:oi.op= .call {callee:= .value (.func f),args:=as_,argTypes:=ts}:=by rfl) (hargs:as_.map a.eval=args:=by(try simp only[List.map_toArray,List.map_cons,List.map_nil]);first|done|rfl|(simp only[List.length_drop,List.length_take];rfl)):
 if Region.wanted oi (yielded ops a.tmps)=true then Oper.wp P oi a w K Q else K (a.put N undef) w:=goes_ hf hname hb args hw hN hop hargs (h.mono fun e w' q=>⟨v,q.1,k w' q.2⟩)
theorem goesR_ {P:Program} {ops:Array Oper} {Q:Exit→Act→World→Prop} {rest:List Oper} {oi:Oper} {a:Act} {w:World} (N:Tmp) {f:FuncId} {fn:Func} {as_:Array Operand} {ts:Array TypeId} (hf:P.funcs[f]?=some fn) (args:Array Value) {v:Value} {R:World→Prop}
 (h:Calls P f args w fun e w'=>e= .returned v∧R w') (k: ∀w',R w'→wpList P ops Q rest (a.put (some N) v) w')
 (hd:oi.dst=some N:=by rfl) (hg:oi.guard=none:=by rfl) (hname:(fn.name== "runtime.NumGoroutine")=false:=by kernel_rfl) (hb:fn.body.isSome=true:=by rfl)
 (hop:oi.op= .call {callee:= .value (.func f),args:=as_,argTypes:=ts}:=by rfl) (hargs:as_.map a.eval=args:=by(try simp only[List.map_toArray,List.map_cons,List.map_nil]);first|done|rfl|(simp only[List.length_drop,List.length_take];rfl)):wpList P ops Q (oi::rest) a w:=goesL_ (some N) hd hg hf hname hb args hop hargs (h.mono fun e w' q=>⟨v,q.1,k w' q.2⟩)
theorem nbL_ {W:World} {g gn:Nat} {o:Obj} (hg:gn=W.heap.size) (h:W.heap[g]?=some o):Aside0 (g≠gn):=⟨by rw[hg];exact Nat.ne_of_lt (blk_lt h)⟩
theorem nbG_ {W:World} {g gn:Nat} {o:Obj} (hg:gn=W.heap.size) (h:W.heap[g]?=some o):Aside0 (gn≠g):=⟨by rw[hg];exact Nat.ne_of_gt (blk_lt h)⟩
theorem tk0_ {P:Program} {ops:Array Oper} {Q:Exit→Act→World→Prop} {md:Region.Mode} {S:World→Prop} {ds:List Nat} (i:Nat) (N:Tmp) {oi:Oper} {v:Value} {fuel:Nat} {l l':Array Bool} {a:Act} {w:World} (hS:S w) {a':Act}
 (h:wpAnyLast P md ops Q S ds fuel l' a' w) (hi:ops[i]?=some oi:=by rfl) (hN:oi.dst=some N:=by rfl) (hl:l.setIfInBounds i true=l':=by(try simp only[List.setIfInBounds_toArray,List.set_cons_zero,List.set_cons_succ]);(all_goals rfl)) (hc:takeB md ops ds l l' i=true:=by exact take_ofW HT_.out HW_.out (by kernel_rfl))
 (hy:YieldsIf P ops S oi v a:=by exact Or.inl ⟨by kernel_rfl,by rintro w' ⟨_,_⟩;go_simp;with_reducible rfl⟩)
 (ha:a.put (some N) v=a':=by simp only[Act.put,List.setIfInBounds_toArray,List.set_cons_zero,List.set_cons_succ,i64_w,i32_w];rfl) (hQ: ∀c a w,Q (.panic c) (a.put oi.dst v) w→Q (.panic c) a w:=by exact fun _ _ _ h=>h):wpAnyLast P md ops Q S ds (fuel+1) l a w:=take_ _ hi hN hc hQ hy hS ha h
theorem pz {P:Program} {ops:Array Oper} {Q:Exit→Act→World→Prop} {md:Region.Mode} {S:World→Prop} {ds:List Nat} {fuel:Nat} {l l':Array Bool} {a:Act} {w:World} (i:Nat) (N:Tmp) {oi:Oper} {v:Value} {a':Act}
 (h:wpAnyLast P md ops Q S ds fuel l' a' w) (hi:ops[i]?=some oi:=by rfl) (hN:oi.dst=some N:=by rfl) (hl:l.setIfInBounds i true=l':=by(try simp only[List.setIfInBounds_toArray,List.set_cons_zero,List.set_cons_succ]);(all_goals rfl)) (hc:anyB md ops l l' i=true:=by exact any_of HT_.out (by kernel_rfl))
 (hy:Yields P ops oi v a:=by exact Or.inl ⟨by kernel_rfl,by intro w';go_simp;with_reducible rfl⟩) (hQ: ∀c a w,Q (.panic c) (a.put oi.dst v) w→Q (.panic c) a w:=by exact fun _ _ _ h=>h)
 (ha:a.put (some N) v=a':=by simp only[Act.put,List.setIfInBounds_toArray,List.set_cons_zero,List.set_cons_succ,i64_w,i32_w];rfl):wpAnyLast P md ops Q S ds (fuel+1) l a w:=pure_ _ hi hN hc hQ hy ha h
theorem nz {P:Program} {ops:Array Oper} {Q:Exit→Act→World→Prop} {md:Region.Mode} {S:World→Prop} {ds:List Nat} {fuel:Nat} {l:Array Bool} {a a':Act} {w:World} (h:wpAnyLast P md ops Q S ds fuel l a' w)
 (ha:a=a':=by first|(show Act.put _ (some _) _=_;simp only[Act.put,List.setIfInBounds_toArray,List.set_cons_zero,List.set_cons_succ,i64_w,i32_w];rfl)|((try simp only[Act.put,List.setIfInBounds_toArray,List.set_cons_zero,List.set_cons_succ,i64_w,i32_w]);rfl)):wpAnyLast P md ops Q S ds fuel l a w:=norm_ ha h
theorem pu {P:Program} {ops:Array Oper} {Q:Exit→Act→World→Prop} {md:Region.Mode} {S:World→Prop} {ds:List Nat} {fuel:Nat} {l l':Array Bool} {a:Act} {w:World} (i:Nat) (N:Tmp) {oi:Oper} {a':Act}
 (h:wpAnyLast P md ops Q S ds fuel l' a' w) (hi:ops[i]?=some oi:=by rfl) (hN:oi.dst=some N:=by rfl) (hl:l.setIfInBounds i true=l':=by(try simp only[List.setIfInBounds_toArray,List.set_cons_zero,List.set_cons_succ]);(all_goals rfl)) (hc:anyB md ops l l' i=true:=by exact any_of HT_.out (by kernel_rfl))
 (hy:Yields P ops oi undef a:=by exact Or.inr ⟨by kernel_rfl,rfl⟩) (hQ: ∀c a w,Q (.panic c) (a.put oi.dst undef) w→Q (.panic c) a w:=by exact fun _ _ _ h=>h)
 (ha:a.put (some N) undef=a':=by simp only[Act.put,List.setIfInBounds_toArray,List.set_cons_zero,List.set_cons_succ,i64_w,i32_w];rfl):wpAnyLast P md ops Q S ds (fuel+1) l a w:=pure_ _ hi hN hc hQ hy ha h
theorem oz {P:Program} {ops:Array Oper} {Q:Exit→Act→World→Prop} {md:Region.Mode} {S:World→Prop} {ds:List Nat} {fuel:Nat} {l l':Array Bool} {a:Act} {w:World} (i:Nat) (N:Tmp) {oi:Oper}
 (h: ∀K:Act→World→Prop,Shut (∀a' w',S w'→(S w'→wpAnyLast P md ops Q S ds fuel l' a' w')→K a' w')→if Region.wanted oi (yielded ops a.tmps)=true then Oper.wp P oi a w K Q else K (a.put (some N) undef) w)
 (hi:ops[i]?=some oi:=by rfl) (hN:oi.dst=some N:=by rfl) (hl:l.setIfInBounds i true=l':=by(try simp only[List.setIfInBounds_toArray,List.set_cons_zero,List.set_cons_succ]);(all_goals rfl)) (hc:readyB md ops l l' i=true:=by exact one_of HT_.out (by kernel_rfl)) (hd:i∉ds:=by decide):wpAnyLast P md ops Q S ds (fuel+1) l a w:=one_ _ hi hN hc hd h
theorem tk {P:Program} {ops:Array Oper} {Q:Exit→Act→World→Prop} {md:Region.Mode} {S:World→Prop} {ds:List Nat} {i:Nat} {N:Option Tmp} {oi:Oper} {v:Value} {fuel:Nat} {l l':Array Bool} {a:Act} {w:World} (hi:ops[i]?=some oi) (hN:oi.dst=N) (hc:takeB md ops ds l (l.setIfInBounds i true) i=true)
 (hy:YieldsIf P ops S oi v a) (hS:S w) {a':Act} (ha:a.put N v=a') (h:wpAnyLast P md ops Q S ds fuel l' a' w) (hQ: ∀c a w,Q (.panic c) (a.put oi.dst v) w→Q (.panic c) a w:=by exact fun _ _ _ h=>h) (hl:l.setIfInBounds i true=l':=by(try simp only[List.setIfInBounds_toArray,List.set_cons_zero,List.set_cons_succ]);(all_goals rfl)):wpAnyLast P md ops Q S ds (fuel+1) l a w:=take_ _ hi hN hc hQ hy hS ha (hl ▸ h)
theorem ozG {P:Program} {ops:Array Oper} {Q:Exit→Act→World→Prop} {md:Region.Mode} {S:World→Prop} {ds:List Nat} {fuel:Nat} {l l':Array Bool} {a:Act} {w:World} (i:Nat) (N:Tmp) {oi:Oper} {f:FuncId} {fn:Func} {as_:Array Operand} {ts:Array TypeId} (hf:P.funcs[f]?=some fn) (args:Array Value)
 (h: ∀K:Act→World→Prop,Shut (∀a' w',S w'→(S w'→wpAnyLast P md ops Q S ds fuel l' a' w')→K a' w')→Calls P f args w fun e w'=> ∃v,e= .returned v∧K (a.put (some N) v) w')
 (hi:ops[i]?=some oi:=by rfl) (hN:oi.dst=some N:=by rfl) (hl:l.setIfInBounds i true=l':=by(try simp only[List.setIfInBounds_toArray,List.set_cons_zero,List.set_cons_succ]);(all_goals rfl)) (hc:readyB md ops l l' i=true:=by exact one_of HT_.out (by kernel_rfl)) (hd:i∉ds:=by decide) (hname:(fn.name== "runtime.NumGoroutine")=false:=by kernel_rfl) (hb:fn.body.isSome=true:=by rfl)
 (hw:Region.wanted oi (yielded ops a.tmps)=true:=by kernel_rfl) (hop:oi.op= .call {callee:= .value (.func f),args:=as_,argTypes:=ts}:=by rfl) (hargs:as_.map a.eval=args:=by(try simp only[List.map_toArray,List.map_cons,List.map_nil]);first|done|rfl|(simp only[List.length_drop,List.length_take];rfl)):
 wpAnyLast P md ops Q S ds (fuel+1) l a w:=oz i N (fun K hK=>goes_ hf hname hb args hw hN hop hargs (h K hK)) hi hN hl hc hd
theorem ozZ {P:Program} {ops:Array Oper} {Q:Exit→Act→World→Prop} {md:Region.Mode} {S:World→Prop} {ds:List Nat} {fuel:Nat} {l l':Array Bool} {a:Act} {w:World} (i:Nat) (N:Tmp) {oi:Oper} {f:FuncId} {fn:Func} {as_:Array Operand} {ts:Array TypeId} (hf:P.funcs[f]?=some fn) (args:Array Value) {v:Value} {R:World→Prop}
 (h:Calls P f args w fun e w'=>e= .returned v∧R w') (k: ∀K:Act→World→Prop,Shut (∀a' w',S w'→(S w'→wpAnyLast P md ops Q S ds fuel l' a' w')→K a' w')→ ∀w',R w'→K (a.put (some N) v) w')
 (hi:ops[i]?=some oi:=by rfl) (hN:oi.dst=some N:=by rfl) (hl:l.setIfInBounds i true=l':=by(try simp only[List.setIfInBounds_toArray,List.set_cons_zero,List.set_cons_succ]);(all_goals rfl)) (hc:readyB md ops l l' i=true:=by exact one_of HT_.out (by kernel_rfl)) (hd:i∉ds:=by decide) (hname:(fn.name== "runtime.NumGoroutine")=false:=by kernel_rfl) (hb:fn.body.isSome=true:=by rfl)
 (hw:Region.wanted oi (yielded ops a.tmps)=true:=by kernel_rfl) (hop:oi.op= .call {callee:= .value (.func f),args:=as_,argTypes:=ts}:=by rfl) (hargs:as_.map a.eval=args:=by(try simp only[List.map_toArray,List.map_cons,List.map_nil]);first|done|rfl|(simp only[List.length_drop,List.length_take];rfl)):
 wpAnyLast P md ops Q S ds (fuel+1) l a w:=oz i N (fun K hK=>goZ hf args h (k K hK) hname hb hw hN hop hargs) hi hN hl hc hd
theorem cells2_ {w:World} {g:Nat} {t:TypeId} {c0 c1:Value} (h:w.heap[g]?=some (.cells #[c0,c1] t (0,0))):w.cell? ⟨g,0,none⟩=some c0∧w.cell? ⟨g,1,none⟩=some c1∧w.frozen? ⟨g,0,none⟩=false∧w.frozen? ⟨g,1,none⟩=false:=⟨(blk_cell h 0).trans rfl,(blk_cell h 1).trans rfl,blk_frozen h 0,blk_frozen h 1⟩
theorem zz0 {p:Prop} (h:p:=by repeat(first|(with_reducible first|exact HB.out|apply below_alloc|apply pw_below_drewN|apply below_drew1)|exact HB.out)):p:=h
theorem zz1 {p:Prop} (h:p:=by repeat(first|(with_reducible first|exact HK.out|apply KeepBut.set_|apply keep_drewN|apply keep_drew|apply keep_alloc)|exact HK.out)):p:=h
theorem zz2 {p:Prop} (h:p:=by repeat(first|(with_reducible first|exact HB.out|apply below_alloc|apply pw_below_drewN|apply below_drew1|refine below_set ?_ GE360.out)|exact HB.out)):p:=h
theorem zz3 {p:Prop} (h:p:=by repeat(first|(with_reducible first|exact HI0.out|apply IsS64.alloc|apply IsS64.drewN|apply IsS64.drew|apply IsS64.set_1|apply IsS64.set_2)|exact HI0.out)):p:=h
theorem zz4 {p:Prop} (h:p:=by first|rfl|(simp[errW_none,errW_some]<;>rfl)|(simp[*,errW_none,errW_some]<;>rfl)):p:=h
theorem zz5 {p:Prop} (h:p:=by repeat(first|(with_reducible first|exact HB.out|apply below_alloc|apply pw_below_drewN|apply below_drew1|refine below_set ?_ (IsS64.ge HI0.out))|exact HB.out)):p:=h
theorem zz6 {p:Prop} (h:p:=by first|rfl|(simp;done)|(simp[*];done)):p:=h
theorem zz7 {p:Prop} (h:p:=by repeat(first|exact Drawn0.refl _|apply Drawn0.step)):p:=h
theorem zz8 {p:Prop} (h:p:=by first|(with_reducible assumption)|assumption):p:=h
theorem zz9 {p:Prop} (h:p:=by(with_reducible repeat(first|refine blk_drewN ?_ _|refine blk_drew ?_|refine blk_alloc ?_ _));exact BK360.out):p:=h
theorem zz10 {p:Prop} (h:p:=by(with_reducible repeat(first|apply Kd.R_alloc|apply Kd.R_drewN|apply Kd.R_drew));exact HO357.out):p:=h
theorem zz11 {p:Prop} (h:p:=by(with_reducible repeat(first|apply Kd.R_alloc|apply Kd.R_drewN|apply Kd.R_drew));exact HO363.out):p:=h
theorem zz12 {p:Prop} (h:p:=by(with_reducible repeat(first|apply Kd.R_alloc|apply Kd.R_drewN|apply Kd.R_drew));exact HO366.out):p:=h
theorem zz13 {p:Prop} (h:p:=by repeat(first|(with_reducible first|exact HB.out|apply below_alloc|apply pw_below_drewN|apply below_drew1|refine below_set ?_ GE339.out)|exact HB.out)):p:=h
theorem zz14 {p:Prop} (h:p:=by repeat(first|(with_reducible first|exact HB.out|apply below_alloc|apply pw_below_drewN|apply below_drew1|refine below_set ?_ GE303.out)|exact HB.out)):p:=h
theorem zz15 {p:Prop} (h:p:=by(with_reducible repeat(first|apply Kd.R_alloc|apply Kd.R_drewN|apply Kd.R_drew));exact HO370.out):p:=h
theorem zz16 {p:Prop} (h:p:=by(with_reducible repeat(first|apply Kd.R_alloc|apply Kd.R_drewN|apply Kd.R_drew));exact HO_3.out):p:=h
theorem zz17 {p:Prop} (h:p:=by repeat(first|(with_reducible first|exact HK.out|apply KeepBut.set_|apply keep_drewN|apply keep_drew|apply keep_alloc|refine keep_far ?_ GW212.out _)|exact HK.out)):p:=h
theorem zz18 {p:Prop} (h:p:=by(with_reducible repeat(first|refine blk_drewN ?_ _|refine blk_drew ?_|refine blk_alloc ?_ _));exact BK339.out):p:=h
theorem zz19 {p:Prop} (h:p:=by(with_reducible repeat(first|refine blk_drewN ?_ _|refine blk_drew ?_|refine blk_alloc ?_ _));exact BK303.out):p:=h
theorem zz20 {p:Prop} (h:p:=by first|exact Kd.R_nil _ _ _ _ _|exact Kd.N_nil _ _ _ _ _|exact Kd.V_nil _ _ _ _ _|exact Kd.Q_nil _ _ _ _ _|exact Kd.S_nil _ _ _ _ _):p:=h
theorem zz21 {p:Prop} (h:p:=by repeat(first|(with_reducible first|exact HB.out|apply below_alloc|apply pw_below_drewN|apply below_drew1|refine below_set ?_ GE166.out)|exact HB.out)):p:=h
theorem zz22 {p:Prop} (h:p:=by(with_reducible repeat(first|refine blk_drewN ?_ _|refine blk_drew ?_|refine blk_alloc ?_ _));exact BK282.out):p:=h
theorem zz23 {p:Prop} (h:p:=by(with_reducible repeat(first|refine blk_drewN ?_ _|refine blk_drew ?_|refine blk_alloc ?_ _));refine blk_put (cs:= #[.string t213,.string (⟨#[]⟩:ByteArray)]) ?_ 1 _ rfl;(with_reducible repeat(first|refine blk_drewN ?_ _|refine blk_drew ?_|refine blk_alloc ?_ _));refine blk_put (cs:= #[.string (⟨#[]⟩:ByteArray),.string (⟨#[]⟩:ByteArray)]) ?_ 0 _ rfl;(with_reducible repeat(first|refine blk_drewN ?_ _|refine blk_drew ?_|refine blk_alloc ?_ _));exact BK212.out):p:=h
theorem zz24 {p:Prop} (h:p:=by(with_reducible repeat(first|apply Kd.R_alloc|apply Kd.R_drewN|apply Kd.R_drew));exact HO_5.out):p:=h
theorem zz25 {p:Prop} (h:p:=by(with_reducible repeat(first|apply Kd.R_alloc|apply Kd.R_drewN|apply Kd.R_drew));exact HO379.out):p:=h
theorem zz26 {p:Prop} (h:p:=by(with_reducible repeat(first|apply Kd.R_alloc|apply Kd.R_drewN|apply Kd.R_drew));exact HO375.out):p:=h
theorem zz27 {p:Prop} (h:p:=by repeat(first|(with_reducible first|exact HB.out|apply below_alloc|apply pw_below_drewN|apply below_drew1|refine below_set ?_ GE426.out)|exact HB.out)):p:=h
theorem zz28 {p:Prop} (h:p:=by(with_reducible repeat(first|refine blk_drewN ?_ _|refine blk_drew ?_|refine blk_alloc ?_ _));exact BK212.out):p:=h
theorem zz29 {p:Prop} (h:p:=by(with_reducible repeat(first|apply Kd.R_alloc|apply Kd.R_drewN|apply Kd.R_drew));exact(Kd.R_mono (Kd.R_far (p:=⟨gb360,1,none⟩) (Kd.R_far (p:=⟨gb360,0,none⟩) (Kd.R_mono HO357.out (fun k_ hk=>(⟨hk,hk.2⟩:_∧k_≠gb360))) (fun _ hk=>hk.2) (.string t358)) (fun _ hk=>hk.2) (.string t359)) (fun _ h_=>h_.1))):p:=h
theorem zz30 {p:Prop} (h:p:=by repeat(first|(with_reducible first|exact HB.out|apply below_alloc|apply pw_below_drewN|apply below_drew1|refine below_set ?_ GE324.out)|exact HB.out)):p:=h
theorem zz31 {p:Prop} (h:p:=by repeat(first|(with_reducible first|exact HB.out|apply below_alloc|apply pw_below_drewN|apply below_drew1|refine below_set ?_ GE129.out)|exact HB.out)):p:=h
theorem zz32 {p:Prop} (h:p:=by repeat(first|(with_reducible first|exact HB.out|apply below_alloc|apply pw_below_drewN|apply below_drew1|refine below_set ?_ GE115.out)|exact HB.out)):p:=h
theorem zz33 {p:Prop} (h:p:=by repeat(first|(with_reducible first|exact HB.out|apply below_alloc|apply pw_below_drewN|apply below_drew1|refine below_set ?_ GE111.out)|exact HB.out)):p:=h
theorem zz34 {p:Prop} (h:p:=by repeat(first|(with_reducible first|exact HI286.out|apply IsS64.alloc|apply IsS64.drewN|apply IsS64.drew|apply IsS64.set_1|apply IsS64.set_2|refine IsS64.far ?_ NB286_282.out _)|exact HI286.out)):p:=h
theorem zz35 {p:Prop} (h:p:=by repeat(first|(with_reducible first|exact HB.out|apply below_alloc|apply pw_below_drewN|apply below_drew1|refine below_set ?_ GE115.out|refine below_set ?_ GE120.out)|exact HB.out)):p:=h
theorem zz36 {p:Prop} (h:p:=by(with_reducible repeat(first|refine blk_drewN ?_ _|refine blk_drew ?_|refine blk_alloc ?_ _));refine blk_put (cs:= #[.string t358,.string (⟨#[]⟩:ByteArray)]) ?_ 1 _ rfl;(with_reducible repeat(first|refine blk_drewN ?_ _|refine blk_drew ?_|refine blk_alloc ?_ _));refine blk_put (cs:= #[.string (⟨#[]⟩:ByteArray),.string (⟨#[]⟩:ByteArray)]) ?_ 0 _ rfl;(with_reducible repeat(first|refine blk_drewN ?_ _|refine blk_drew ?_|refine blk_alloc ?_ _));exact BK360.out):p:=h
theorem zz37 {p:Prop} (h:p:=by(with_reducible repeat(first|refine blk_drewN ?_ _|refine blk_drew ?_|refine blk_alloc ?_ _));refine blk_put (cs:= #[.string t292,.string (⟨#[]⟩:ByteArray)]) ?_ 1 _ rfl;(with_reducible repeat(first|refine blk_drewN ?_ _|refine blk_drew ?_|refine blk_alloc ?_ _));refine blk_put (cs:= #[.string (⟨#[]⟩:ByteArray),.string (⟨#[]⟩:ByteArray)]) ?_ 0 _ rfl;(with_reducible repeat(first|refine blk_drewN ?_ _|refine blk_drew ?_|refine blk_alloc ?_ _));exact BK282.out):p:=h
theorem zz38 {p:Prop} (h:p:=by(with_reducible repeat(first|refine blk_drewN ?_ _|refine blk_drew ?_|refine blk_alloc ?_ _));refine blk_put (cs:= #[.string t163,.string (⟨#[]⟩:ByteArray)]) ?_ 1 _ rfl;(with_reducible repeat(first|refine blk_drewN ?_ _|refine blk_drew ?_|refine blk_alloc ?_ _));refine blk_put (cs:= #[.string (⟨#[]⟩:ByteArray),.string (⟨#[]⟩:ByteArray)]) ?_ 0 _ rfl;(with_reducible repeat(first|refine blk_drewN ?_ _|refine blk_drew ?_|refine blk_alloc ?_ _));exact BK166.out):p:=h
theorem zz39 {p:Prop} (h:p:=by repeat(first|(with_reducible first|exact HI286.out|apply IsS64.alloc|apply IsS64.drewN|apply IsS64.drew|apply IsS64.set_1|apply IsS64.set_2|refine IsS64.far ?_ NB286_282.out _|refine IsS64.far ?_ NB286_296.out _)|exact HI286.out)):p:=h
theorem zz40 {p:Prop} (h:p:=by repeat(first|(with_reducible first|exact HB.out|apply below_alloc|apply pw_below_drewN|apply below_drew1|refine below_set ?_ (IsS64.ge HI286.out)|refine below_set ?_ GE282.out|refine below_set ?_ GE296.out)|exact HB.out)):p:=h
theorem zz41 {p:Prop} (h:p:=by(with_reducible repeat(first|refine blk_drewN ?_ _|refine blk_drew ?_|refine blk_alloc ?_ _));exact BK115.out):p:=h
theorem zz42 {p:Prop} (h:p:=by have:=HK1.out;omega):p:=h
theorem zz43 {p:Prop} (h:p:=by repeat(first|(with_reducible first|exact HB.out|apply below_alloc|apply pw_below_drewN|apply below_drew1|refine below_set ?_ (IsS64.ge HI286.out)|refine below_set ?_ GE282.out)|exact HB.out)):p:=h
theorem zz44 {p:Prop} (h:p:=by(with_reducible repeat(first|apply Kd.R_alloc|apply Kd.R_drewN|apply Kd.R_drew));exact HO_11.out):p:=h
theorem zz45 {p:Prop} (h:p:=by repeat(first|(with_reducible first|exact HI0.out|apply IsS64.alloc|apply IsS64.drewN|apply IsS64.drew|apply IsS64.set_1|apply IsS64.set_2|refine IsS64.far ?_ NB0_212.out _)|exact HI0.out)):p:=h
theorem zz46 {p:Prop} (h:p:=by repeat(first|(with_reducible first|exact HB.out|apply below_alloc|apply pw_below_drewN|apply below_drew1|refine below_set ?_ (IsS64.ge HI0.out)|refine below_set ?_ GE212.out)|exact HB.out)):p:=h
theorem zz47 {p:Prop} (h:p:=by repeat(first|(with_reducible first|exact HB.out|apply below_alloc|apply pw_below_drewN|apply below_drew1|refine below_set ?_ GE123.out)|exact HB.out)):p:=h
theorem zz48 {p:Prop} (h:p:=by(with_reducible repeat(first|refine blk_drewN ?_ _|refine blk_drew ?_));exact BK1.out):p:=h
theorem zz49 {p:Prop} (h:p:=by(with_reducible repeat(first|apply Kd.R_drewN|apply Kd.R_drew));exact HR.out):p:=h
theorem zz50 {p:Prop} (h:p:=by first|omega|exact Nat.le_refl _):p:=h
theorem zz51 {p:Prop} (h:p:=by repeat(first|exact HB1.out|apply pw_below_drewN|apply below_drew1)):p:=h
theorem zz52 {p:Prop} (h:p:=by(with_reducible repeat(first|apply Kd.R_alloc|apply Kd.R_drewN|apply Kd.R_drew));exact HO382.out):p:=h
theorem zz53 {p:Prop} (h:p:=by(with_reducible repeat(first|apply Kd.R_alloc|apply Kd.R_drewN|apply Kd.R_drew));exact HO347.out):p:=h
theorem zz54 {p:Prop} (h:p:=by(with_reducible repeat(first|apply Kd.R_alloc|apply Kd.R_drewN|apply Kd.R_drew));exact HO344.out):p:=h
theorem zz55 {p:Prop} (h:p:=by(with_reducible repeat(first|apply Kd.R_alloc|apply Kd.R_drewN|apply Kd.R_drew));exact HO311.out):p:=h
theorem zz56 {p:Prop} (h:p:=by(with_reducible repeat(first|apply Kd.R_alloc|apply Kd.R_drewN|apply Kd.R_drew));exact HO308.out):p:=h
theorem zz57 {p:Prop} (h:p:=by(with_reducible repeat(first|apply Kd.R_alloc|apply Kd.R_drewN|apply Kd.R_drew));exact HO289.out):p:=h
theorem zz58 {p:Prop} (h:p:=by(with_reducible repeat(first|apply Kd.R_alloc|apply Kd.R_drewN|apply Kd.R_drew));exact HO258.out):p:=h
theorem zz59 {p:Prop} (h:p:=by rw[lowTo_length _ _ HJL.out];have:=HX.out;omega):p:=h
theorem zz60 {p:Prop} (h:p:=by have:=HK1.out;first|omega|exact Nat.le_refl _):p:=h
theorem zz61 {p:Prop} (h:p:=by(try simp only[List.map_toArray,List.map_cons,List.map_nil]);first|done|rfl|(simp only[List.length_drop,List.length_take];rfl)):p:=h
end Go.Proofs.YtkkolioolgpljaaW.Zs
