-- Proofs that the walks of the law FnExactRecText give often, each as the default of a hypothesis: by squeeze.py of this session.
import Derived.Test.YthmehmehoehlpaaGreatDoorVFnExactRecText
namespace Go.Proofs.YthmehmehoehlpaaGreatDoorW.Zs
open Go.RowKit Go.Proofs.YthmehmehoehlpaaGreatDoorW.PrintWords Go.Proofs.YthmehmehoehlpaaGreatDoorW.PrintLast Go.Proofs.YthmehmehoehlpaaGreatDoorW.PrintMore
set_option linter.unusedVariables false
set_option autoImplicit false
theorem geb_ {w W:World} {g:Nat} (hg:g=W.heap.size) (h:Below w.heap.size w W):Aside0 (w.heap.size≤g):=⟨hg ▸ below_size h⟩
theorem boxP_ {P:Program} {ops:Array Oper} {o:Oper} {rest:List Oper} {a:Act} {Q:Exit→Act→World→Prop} {W:World} {N:Tmp} {cs:Array Value} {t:TypeId}
 (h: ∀g,g=W.heap.size→ ∀w1,w1.heap[g]?=some (.cells cs t (0,0))→Below W.heap.size W w1→wpList P ops Q rest (a.put o.dst (.pointer (some ⟨g,0,none⟩))) w1)
 (hgd:o.guard=none:=by rfl) (hd:o.dst=some N:=by rfl)
 (hrun:(execOp a.eval o).run P W= .ok (.value (.pointer (some ⟨W.heap.size,0,none⟩))) (W.alloc (.cells cs t (0,0))):=by first|(go_simp;done)|(go_simp;rfl)):wpList P ops Q (o::rest) a W:=box_event hgd hd hrun h
theorem goesQ_ {P:Program} {ops:Array Oper} {Q:Exit→Act→World→Prop} {rest:List Oper} {oi:Oper} {a:Act} {w:World} (N:Tmp) {f:FuncId} {fn:Func} {as_:Array Operand} {ts:Array TypeId} (hf:P.funcs[f]?=some fn) (args:Array Value)
 (h:Calls P f args w fun e w'=> ∃v,e= .returned v∧wpList P ops Q rest (a.put (some N) v) w')
 (hd:oi.dst=some N:=by rfl) (hg:oi.guard=none:=by rfl) (hname:(fn.name== "runtime.NumGoroutine")=false:=by kernel_rfl) (hb:fn.body.isSome=true:=by rfl)
 (hop:oi.op= .call {callee:= .value (.func f),args:=as_,argTypes:=ts}:=by rfl) (hargs:as_.map a.eval=args:=by(try simp only[List.map_toArray,List.map_cons,List.map_nil]);first|done|rfl|(simp only[List.length_drop,List.length_take];rfl)):wpList P ops Q (oi::rest) a w:=goesL_ (some N) hd hg hf hname hb args hop hargs h
theorem st_ {P:Program} {ops:Array Oper} {Q:Exit→Act→World→Prop} {S:World→Prop} {ds:List Nat} {l0:Array Bool} {id n:Nat} {a:Act} {w:World} (hS:S w.drew)
 (h:S w.drew→wpAnyLast P .any ops Q S ds n l0 a w.drew) (hl0:Array.replicate n false=l0:=by(try simp only[←List.toArray_replicate,List.reduceReplicate]);(all_goals rfl)) (hm:P.follows .mixedOrders=true:=by kernel_rfl) (hn:ops.size=n:=by rfl):(Code.region id ops true).wp P Q a w:=start_ _ hm hn rfl hS (hl0 ▸ h)
theorem goZ {P:Program} {ops:Array Oper} {Q:Exit→Act→World→Prop} {oi:Oper} {N:Option Tmp} {a:Act} {w:World} {K:Act→World→Prop} {f:FuncId} {fn:Func} {as_:Array Operand} {ts:Array TypeId} (hf:P.funcs[f]?=some fn) (args:Array Value) {v:Value} {R:World→Prop}
 (h:Calls P f args w fun e w'=>e= .returned v∧R w') (k: ∀w',R w'→K (a.put N v) w') (hname:(fn.name== "runtime.NumGoroutine")=false:=by kernel_rfl) (hb:fn.body.isSome=true:=by rfl)
 (hw:Region.wanted oi (yielded ops a.tmps)=true:=by kernel_rfl) (hN:oi.dst=N:=by rfl) (hop:oi.op= .call {callee:= .value (.func f),args:=as_,argTypes:=ts}:=by rfl) (hargs:as_.map a.eval=args:=by(try simp only[List.map_toArray,List.map_cons,List.map_nil]);first|done|rfl|(simp only[List.length_drop,List.length_take];rfl)):
 if Region.wanted oi (yielded ops a.tmps)=true then Oper.wp P oi a w K Q else K (a.put N undef) w:=goes_ hf hname hb args hw hN hop hargs (h.mono fun e w' q=>⟨v,q.1,k w' q.2⟩)
theorem goesR_ {P:Program} {ops:Array Oper} {Q:Exit→Act→World→Prop} {rest:List Oper} {oi:Oper} {a:Act} {w:World} (N:Tmp) {f:FuncId} {fn:Func} {as_:Array Operand} {ts:Array TypeId} (hf:P.funcs[f]?=some fn) (args:Array Value) {v:Value} {R:World→Prop}
 (h:Calls P f args w fun e w'=>e= .returned v∧R w') (k: ∀w',R w'→wpList P ops Q rest (a.put (some N) v) w')
 (hd:oi.dst=some N:=by rfl) (hg:oi.guard=none:=by rfl) (hname:(fn.name== "runtime.NumGoroutine")=false:=by kernel_rfl) (hb:fn.body.isSome=true:=by rfl)
 (hop:oi.op= .call {callee:= .value (.func f),args:=as_,argTypes:=ts}:=by rfl) (hargs:as_.map a.eval=args:=by(try simp only[List.map_toArray,List.map_cons,List.map_nil]);first|done|rfl|(simp only[List.length_drop,List.length_take];rfl)):wpList P ops Q (oi::rest) a w:=goesL_ (some N) hd hg hf hname hb args hop hargs (h.mono fun e w' q=>⟨v,q.1,k w' q.2⟩)
theorem nbL_ {W:World} {g gn:Nat} {o:Obj} (hg:gn=W.heap.size) (h:W.heap[g]?=some o):Aside0 (g≠gn):=⟨by rw[hg];exact Nat.ne_of_lt (blk_lt h)⟩
theorem nbG_ {W:World} {g gn:Nat} {o:Obj} (hg:gn=W.heap.size) (h:W.heap[g]?=some o):Aside0 (gn≠g):=⟨by rw[hg];exact Nat.ne_of_gt (blk_lt h)⟩
theorem tk0_ {P:Program} {ops:Array Oper} {Q:Exit→Act→World→Prop} {md:Region.Mode} {S:World→Prop} {ds:List Nat} (i:Nat) (N:Tmp) {oi:Oper} {v:Value} {fuel:Nat} {l l':Array Bool} {a:Act} {w:World} (hS:S w) {a':Act}
 (h:wpAnyLast P md ops Q S ds fuel l' a' w) (hi:ops[i]?=some oi:=by rfl) (hN:oi.dst=some N:=by rfl) (hl:l.setIfInBounds i true=l':=by(try simp only[List.setIfInBounds_toArray,List.set_cons_zero,List.set_cons_succ]);(all_goals rfl)) (hc:takeB md ops ds l l' i=true:=by exact take_ofW HT_.out HW_.out (by kernel_rfl))
 (hy:YieldsIf P ops S oi v a:=by exact Or.inl ⟨by kernel_rfl,by rintro w' ⟨_,_,_,_,_⟩;go_simp;with_reducible rfl⟩)
 (ha:a.put (some N) v=a':=by simp only[Act.put,List.setIfInBounds_toArray,List.set_cons_zero,List.set_cons_succ,i64_w,i32_w];rfl) (hQ: ∀c a w,Q (.panic c) (a.put oi.dst v) w→Q (.panic c) a w:=by exact fun _ _ _ h=>h):wpAnyLast P md ops Q S ds (fuel+1) l a w:=take_ _ hi hN hc hQ hy hS ha h
theorem tk1_ {P:Program} {ops:Array Oper} {Q:Exit→Act→World→Prop} {md:Region.Mode} {S:World→Prop} {ds:List Nat} (i:Nat) (N:Tmp) {oi:Oper} {v:Value} {fuel:Nat} {l l':Array Bool} {a:Act} {w:World} (hS:S w) {a':Act}
 (h:wpAnyLast P md ops Q S ds fuel l' a' w) (hi:ops[i]?=some oi:=by rfl) (hN:oi.dst=some N:=by rfl) (hl:l.setIfInBounds i true=l':=by(try simp only[List.setIfInBounds_toArray,List.set_cons_zero,List.set_cons_succ]);(all_goals rfl)) (hc:takeB md ops ds l l' i=true:=by exact take_ofW HT_.out HW_.out (by kernel_rfl))
 (hy:YieldsIf P ops S oi v a:=by exact Or.inl ⟨by kernel_rfl,by rintro w' ⟨_,_,_,_⟩;go_simp;with_reducible rfl⟩)
 (ha:a.put (some N) v=a':=by simp only[Act.put,List.setIfInBounds_toArray,List.set_cons_zero,List.set_cons_succ,i64_w,i32_w];rfl) (hQ: ∀c a w,Q (.panic c) (a.put oi.dst v) w→Q (.panic c) a w:=by exact fun _ _ _ h=>h):wpAnyLast P md ops Q S ds (fuel+1) l a w:=take_ _ hi hN hc hQ hy hS ha h
theorem tk2_ {P:Program} {ops:Array Oper} {Q:Exit→Act→World→Prop} {md:Region.Mode} {S:World→Prop} {ds:List Nat} (i:Nat) (N:Tmp) {oi:Oper} {v:Value} {fuel:Nat} {l l':Array Bool} {a:Act} {w:World} (hS:S w) {a':Act}
 (h:wpAnyLast P md ops Q S ds fuel l' a' w) (hi:ops[i]?=some oi:=by rfl) (hN:oi.dst=some N:=by rfl) (hl:l.setIfInBounds i true=l':=by(try simp only[List.setIfInBounds_toArray,List.set_cons_zero,List.set_cons_succ]);(all_goals rfl)) (hc:takeB md ops ds l l' i=true:=by exact take_ofW HT_.out HW_.out (by kernel_rfl))
 (hy:YieldsIf P ops S oi v a:=by exact Or.inl ⟨by kernel_rfl,by rintro w' ⟨_,_,_⟩;go_simp;with_reducible rfl⟩)
 (ha:a.put (some N) v=a':=by simp only[Act.put,List.setIfInBounds_toArray,List.set_cons_zero,List.set_cons_succ,i64_w,i32_w];rfl) (hQ: ∀c a w,Q (.panic c) (a.put oi.dst v) w→Q (.panic c) a w:=by exact fun _ _ _ h=>h):wpAnyLast P md ops Q S ds (fuel+1) l a w:=take_ _ hi hN hc hQ hy hS ha h
theorem tk3_ {P:Program} {ops:Array Oper} {Q:Exit→Act→World→Prop} {md:Region.Mode} {S:World→Prop} {ds:List Nat} (i:Nat) (N:Tmp) {oi:Oper} {v:Value} {fuel:Nat} {l l':Array Bool} {a:Act} {w:World} (hS:S w) {a':Act}
 (h:wpAnyLast P md ops Q S ds fuel l' a' w) (hi:ops[i]?=some oi:=by rfl) (hN:oi.dst=some N:=by rfl) (hl:l.setIfInBounds i true=l':=by(try simp only[List.setIfInBounds_toArray,List.set_cons_zero,List.set_cons_succ]);(all_goals rfl)) (hc:takeB md ops ds l l' i=true:=by exact take_ofW HT_.out HW_.out (by kernel_rfl))
 (hy:YieldsIf P ops S oi v a:=by exact Or.inl ⟨by kernel_rfl,by rintro w' ⟨_,_,_,_,_,_,_⟩;go_simp;with_reducible rfl⟩)
 (ha:a.put (some N) v=a':=by simp only[Act.put,List.setIfInBounds_toArray,List.set_cons_zero,List.set_cons_succ,i64_w,i32_w];rfl) (hQ: ∀c a w,Q (.panic c) (a.put oi.dst v) w→Q (.panic c) a w:=by exact fun _ _ _ h=>h):wpAnyLast P md ops Q S ds (fuel+1) l a w:=take_ _ hi hN hc hQ hy hS ha h
theorem tk4_ {P:Program} {ops:Array Oper} {Q:Exit→Act→World→Prop} {md:Region.Mode} {S:World→Prop} {ds:List Nat} (i:Nat) (N:Tmp) {oi:Oper} {v:Value} {fuel:Nat} {l l':Array Bool} {a:Act} {w:World} (hS:S w) {a':Act}
 (h:wpAnyLast P md ops Q S ds fuel l' a' w) (hi:ops[i]?=some oi:=by rfl) (hN:oi.dst=some N:=by rfl) (hl:l.setIfInBounds i true=l':=by(try simp only[List.setIfInBounds_toArray,List.set_cons_zero,List.set_cons_succ]);(all_goals rfl)) (hc:takeB md ops ds l l' i=true:=by exact take_ofW HT_.out HW_.out (by kernel_rfl))
 (hy:YieldsIf P ops S oi v a:=by exact Or.inl ⟨by kernel_rfl,by rintro w' ⟨_,_,_,_,_,_⟩;go_simp;with_reducible rfl⟩)
 (ha:a.put (some N) v=a':=by simp only[Act.put,List.setIfInBounds_toArray,List.set_cons_zero,List.set_cons_succ,i64_w,i32_w];rfl) (hQ: ∀c a w,Q (.panic c) (a.put oi.dst v) w→Q (.panic c) a w:=by exact fun _ _ _ h=>h):wpAnyLast P md ops Q S ds (fuel+1) l a w:=take_ _ hi hN hc hQ hy hS ha h
theorem tk5_ {P:Program} {ops:Array Oper} {Q:Exit→Act→World→Prop} {md:Region.Mode} {S:World→Prop} {ds:List Nat} (i:Nat) (N:Tmp) {oi:Oper} {v:Value} {fuel:Nat} {l l':Array Bool} {a:Act} {w:World} (hS:S w) {a':Act}
 (h:wpAnyLast P md ops Q S ds fuel l' a' w) (hi:ops[i]?=some oi:=by rfl) (hN:oi.dst=some N:=by rfl) (hl:l.setIfInBounds i true=l':=by(try simp only[List.setIfInBounds_toArray,List.set_cons_zero,List.set_cons_succ]);(all_goals rfl)) (hc:takeB md ops ds l l' i=true:=by exact take_ofW HT_.out HW_.out (by kernel_rfl))
 (hy:YieldsIf P ops S oi v a:=by exact Or.inl ⟨by kernel_rfl,by rintro w' ⟨_,_⟩;go_simp;with_reducible rfl⟩)
 (ha:a.put (some N) v=a':=by simp only[Act.put,List.setIfInBounds_toArray,List.set_cons_zero,List.set_cons_succ,i64_w,i32_w];rfl) (hQ: ∀c a w,Q (.panic c) (a.put oi.dst v) w→Q (.panic c) a w:=by exact fun _ _ _ h=>h):wpAnyLast P md ops Q S ds (fuel+1) l a w:=take_ _ hi hN hc hQ hy hS ha h
theorem tk6_ {P:Program} {ops:Array Oper} {Q:Exit→Act→World→Prop} {md:Region.Mode} {S:World→Prop} {ds:List Nat} (i:Nat) (N:Tmp) {oi:Oper} {v:Value} {fuel:Nat} {l l':Array Bool} {a:Act} {w:World} (hS:S w) {a':Act}
 (h:wpAnyLast P md ops Q S ds fuel l' a' w) (hi:ops[i]?=some oi:=by rfl) (hN:oi.dst=some N:=by rfl) (hl:l.setIfInBounds i true=l':=by(try simp only[List.setIfInBounds_toArray,List.set_cons_zero,List.set_cons_succ]);(all_goals rfl)) (hc:takeB md ops ds l l' i=true:=by exact take_ofW HT_.out HW_.out (by kernel_rfl))
 (hy:YieldsIf P ops S oi v a:=by exact Or.inl ⟨by kernel_rfl,by rintro w' ⟨_,_,_,_,_,_,_,_,_,_,_,_⟩;go_simp;with_reducible rfl⟩)
 (ha:a.put (some N) v=a':=by simp only[Act.put,List.setIfInBounds_toArray,List.set_cons_zero,List.set_cons_succ,i64_w,i32_w];rfl) (hQ: ∀c a w,Q (.panic c) (a.put oi.dst v) w→Q (.panic c) a w:=by exact fun _ _ _ h=>h):wpAnyLast P md ops Q S ds (fuel+1) l a w:=take_ _ hi hN hc hQ hy hS ha h
theorem pz {P:Program} {ops:Array Oper} {Q:Exit→Act→World→Prop} {md:Region.Mode} {S:World→Prop} {ds:List Nat} {fuel:Nat} {l l':Array Bool} {a:Act} {w:World} (i:Nat) (N:Tmp) {oi:Oper} {v:Value} {a':Act}
 (h:wpAnyLast P md ops Q S ds fuel l' a' w) (hi:ops[i]?=some oi:=by rfl) (hN:oi.dst=some N:=by rfl) (hl:l.setIfInBounds i true=l':=by(try simp only[List.setIfInBounds_toArray,List.set_cons_zero,List.set_cons_succ]);(all_goals rfl)) (hc:anyB md ops l l' i=true:=by exact any_of HT_.out (by kernel_rfl))
 (hy:Yields P ops oi v a:=by exact Or.inl ⟨by kernel_rfl,by intro w';go_simp;with_reducible rfl⟩) (hQ: ∀c a w,Q (.panic c) (a.put oi.dst v) w→Q (.panic c) a w:=by exact fun _ _ _ h=>h)
 (ha:a.put (some N) v=a':=by simp only[Act.put,List.setIfInBounds_toArray,List.set_cons_zero,List.set_cons_succ,i64_w,i32_w];rfl):wpAnyLast P md ops Q S ds (fuel+1) l a w:=pure_ _ hi hN hc hQ hy ha h
theorem nz {P:Program} {ops:Array Oper} {Q:Exit→Act→World→Prop} {md:Region.Mode} {S:World→Prop} {ds:List Nat} {fuel:Nat} {l:Array Bool} {a a':Act} {w:World} (h:wpAnyLast P md ops Q S ds fuel l a' w)
 (ha:a=a':=by first|(show Act.put _ (some _) _=_;simp only[Act.put,List.setIfInBounds_toArray,List.set_cons_zero,List.set_cons_succ,i64_w,i32_w];rfl)|((try simp only[Act.put,List.setIfInBounds_toArray,List.set_cons_zero,List.set_cons_succ,i64_w,i32_w]);rfl)):wpAnyLast P md ops Q S ds fuel l a w:=norm_ ha h
theorem pu {P:Program} {ops:Array Oper} {Q:Exit→Act→World→Prop} {md:Region.Mode} {S:World→Prop} {ds:List Nat} {fuel:Nat} {l l':Array Bool} {a:Act} {w:World} (i:Nat) (N:Tmp) {oi:Oper} {a':Act}
 (h:wpAnyLast P md ops Q S ds fuel l' a' w) (hi:ops[i]?=some oi:=by rfl) (hN:oi.dst=some N:=by rfl) (hl:l.setIfInBounds i true=l':=by(try simp only[List.setIfInBounds_toArray,List.set_cons_zero,List.set_cons_succ]);(all_goals rfl)) (hc:anyB md ops l l' i=true:=by exact any_of HT_.out (by kernel_rfl))
 (hy:Yields P ops oi undef a:=by exact Or.inr ⟨by kernel_rfl,rfl⟩) (hQ: ∀c a w,Q (.panic c) (a.put oi.dst undef) w→Q (.panic c) a w:=by exact fun _ _ _ h=>h)
 (ha:a.put (some N) undef=a':=by simp only[Act.put,List.setIfInBounds_toArray,List.set_cons_zero,List.set_cons_succ,i64_w,i32_w];rfl):wpAnyLast P md ops Q S ds (fuel+1) l a w:=pure_ _ hi hN hc hQ hy ha h
theorem oz {P:Program} {ops:Array Oper} {Q:Exit→Act→World→Prop} {md:Region.Mode} {S:World→Prop} {ds:List Nat} {fuel:Nat} {l l':Array Bool} {a:Act} {w:World} (i:Nat) (N:Tmp) {oi:Oper}
 (h: ∀K:Act→World→Prop,Shut (∀a' w',S w'→(S w'→wpAnyLast P md ops Q S ds fuel l' a' w')→K a' w')→if Region.wanted oi (yielded ops a.tmps)=true then Oper.wp P oi a w K Q else K (a.put (some N) undef) w)
 (hi:ops[i]?=some oi:=by rfl) (hN:oi.dst=some N:=by rfl) (hl:l.setIfInBounds i true=l':=by(try simp only[List.setIfInBounds_toArray,List.set_cons_zero,List.set_cons_succ]);(all_goals rfl)) (hc:readyB md ops l l' i=true:=by exact one_of HT_.out (by kernel_rfl)) (hd:i∉ds:=by decide):wpAnyLast P md ops Q S ds (fuel+1) l a w:=one_ _ hi hN hc hd h
theorem tk {P:Program} {ops:Array Oper} {Q:Exit→Act→World→Prop} {md:Region.Mode} {S:World→Prop} {ds:List Nat} {i:Nat} {N:Option Tmp} {oi:Oper} {v:Value} {fuel:Nat} {l l':Array Bool} {a:Act} {w:World} (hi:ops[i]?=some oi) (hN:oi.dst=N) (hc:takeB md ops ds l (l.setIfInBounds i true) i=true)
 (hy:YieldsIf P ops S oi v a) (hS:S w) {a':Act} (ha:a.put N v=a') (h:wpAnyLast P md ops Q S ds fuel l' a' w) (hQ: ∀c a w,Q (.panic c) (a.put oi.dst v) w→Q (.panic c) a w:=by exact fun _ _ _ h=>h) (hl:l.setIfInBounds i true=l':=by(try simp only[List.setIfInBounds_toArray,List.set_cons_zero,List.set_cons_succ]);(all_goals rfl)):wpAnyLast P md ops Q S ds (fuel+1) l a w:=take_ _ hi hN hc hQ hy hS ha (hl ▸ h)
theorem ozG {P:Program} {ops:Array Oper} {Q:Exit→Act→World→Prop} {md:Region.Mode} {S:World→Prop} {ds:List Nat} {fuel:Nat} {l l':Array Bool} {a:Act} {w:World} (i:Nat) (N:Tmp) {oi:Oper} {f:FuncId} {fn:Func} {as_:Array Operand} {ts:Array TypeId} (hf:P.funcs[f]?=some fn) (args:Array Value)
 (h: ∀K:Act→World→Prop,Shut (∀a' w',S w'→(S w'→wpAnyLast P md ops Q S ds fuel l' a' w')→K a' w')→Calls P f args w fun e w'=> ∃v,e= .returned v∧K (a.put (some N) v) w')
 (hi:ops[i]?=some oi:=by rfl) (hN:oi.dst=some N:=by rfl) (hl:l.setIfInBounds i true=l':=by(try simp only[List.setIfInBounds_toArray,List.set_cons_zero,List.set_cons_succ]);(all_goals rfl)) (hc:readyB md ops l l' i=true:=by exact one_of HT_.out (by kernel_rfl)) (hd:i∉ds:=by decide) (hname:(fn.name== "runtime.NumGoroutine")=false:=by kernel_rfl) (hb:fn.body.isSome=true:=by rfl)
 (hw:Region.wanted oi (yielded ops a.tmps)=true:=by kernel_rfl) (hop:oi.op= .call {callee:= .value (.func f),args:=as_,argTypes:=ts}:=by rfl) (hargs:as_.map a.eval=args:=by(try simp only[List.map_toArray,List.map_cons,List.map_nil]);first|done|rfl|(simp only[List.length_drop,List.length_take];rfl)):
 wpAnyLast P md ops Q S ds (fuel+1) l a w:=oz i N (fun K hK=>goes_ hf hname hb args hw hN hop hargs (h K hK)) hi hN hl hc hd
theorem ozZ {P:Program} {ops:Array Oper} {Q:Exit→Act→World→Prop} {md:Region.Mode} {S:World→Prop} {ds:List Nat} {fuel:Nat} {l l':Array Bool} {a:Act} {w:World} (i:Nat) (N:Tmp) {oi:Oper} {f:FuncId} {fn:Func} {as_:Array Operand} {ts:Array TypeId} (hf:P.funcs[f]?=some fn) (args:Array Value) {v:Value} {R:World→Prop}
 (h:Calls P f args w fun e w'=>e= .returned v∧R w') (k: ∀K:Act→World→Prop,Shut (∀a' w',S w'→(S w'→wpAnyLast P md ops Q S ds fuel l' a' w')→K a' w')→ ∀w',R w'→K (a.put (some N) v) w')
 (hi:ops[i]?=some oi:=by rfl) (hN:oi.dst=some N:=by rfl) (hl:l.setIfInBounds i true=l':=by(try simp only[List.setIfInBounds_toArray,List.set_cons_zero,List.set_cons_succ]);(all_goals rfl)) (hc:readyB md ops l l' i=true:=by exact one_of HT_.out (by kernel_rfl)) (hd:i∉ds:=by decide) (hname:(fn.name== "runtime.NumGoroutine")=false:=by kernel_rfl) (hb:fn.body.isSome=true:=by rfl)
 (hw:Region.wanted oi (yielded ops a.tmps)=true:=by kernel_rfl) (hop:oi.op= .call {callee:= .value (.func f),args:=as_,argTypes:=ts}:=by rfl) (hargs:as_.map a.eval=args:=by(try simp only[List.map_toArray,List.map_cons,List.map_nil]);first|done|rfl|(simp only[List.length_drop,List.length_take];rfl)):
 wpAnyLast P md ops Q S ds (fuel+1) l a w:=oz i N (fun K hK=>goZ hf args h (k K hK) hname hb hw hN hop hargs) hi hN hl hc hd
theorem cells3_ {w:World} {g:Nat} {t:TypeId} {c0 c1 c2:Value} (h:w.heap[g]?=some (.cells #[c0,c1,c2] t (0,0))):w.cell? ⟨g,0,none⟩=some c0∧w.cell? ⟨g,1,none⟩=some c1∧w.cell? ⟨g,2,none⟩=some c2∧w.frozen? ⟨g,0,none⟩=false∧w.frozen? ⟨g,1,none⟩=false∧w.frozen? ⟨g,2,none⟩=false:=⟨(blk_cell h 0).trans rfl,(blk_cell h 1).trans rfl,(blk_cell h 2).trans rfl,blk_frozen h 0,blk_frozen h 1,blk_frozen h 2⟩
theorem cells5_ {w:World} {g:Nat} {t:TypeId} {c0 c1 c2 c3 c4:Value} (h:w.heap[g]?=some (.cells #[c0,c1,c2,c3,c4] t (0,0))):w.cell? ⟨g,0,none⟩=some c0∧w.cell? ⟨g,1,none⟩=some c1∧w.cell? ⟨g,2,none⟩=some c2∧w.cell? ⟨g,3,none⟩=some c3∧w.cell? ⟨g,4,none⟩=some c4∧w.frozen? ⟨g,0,none⟩=false∧w.frozen? ⟨g,1,none⟩=false∧w.frozen? ⟨g,2,none⟩=false∧w.frozen? ⟨g,3,none⟩=false∧w.frozen? ⟨g,4,none⟩=false:=⟨(blk_cell h 0).trans rfl,(blk_cell h 1).trans rfl,(blk_cell h 2).trans rfl,(blk_cell h 3).trans rfl,(blk_cell h 4).trans rfl,blk_frozen h 0,blk_frozen h 1,blk_frozen h 2,blk_frozen h 3,blk_frozen h 4⟩
theorem cells6_ {w:World} {g:Nat} {t:TypeId} {c0 c1 c2 c3 c4 c5:Value} (h:w.heap[g]?=some (.cells #[c0,c1,c2,c3,c4,c5] t (0,0))):w.cell? ⟨g,0,none⟩=some c0∧w.cell? ⟨g,1,none⟩=some c1∧w.cell? ⟨g,2,none⟩=some c2∧w.cell? ⟨g,3,none⟩=some c3∧w.cell? ⟨g,4,none⟩=some c4∧w.cell? ⟨g,5,none⟩=some c5∧w.frozen? ⟨g,0,none⟩=false∧w.frozen? ⟨g,1,none⟩=false∧w.frozen? ⟨g,2,none⟩=false∧w.frozen? ⟨g,3,none⟩=false∧w.frozen? ⟨g,4,none⟩=false∧w.frozen? ⟨g,5,none⟩=false:=⟨(blk_cell h 0).trans rfl,(blk_cell h 1).trans rfl,(blk_cell h 2).trans rfl,(blk_cell h 3).trans rfl,(blk_cell h 4).trans rfl,(blk_cell h 5).trans rfl,blk_frozen h 0,blk_frozen h 1,blk_frozen h 2,blk_frozen h 3,blk_frozen h 4,blk_frozen h 5⟩
theorem cells7_ {w:World} {g:Nat} {t:TypeId} {c0 c1 c2 c3 c4 c5 c6:Value} (h:w.heap[g]?=some (.cells #[c0,c1,c2,c3,c4,c5,c6] t (0,0))):w.cell? ⟨g,0,none⟩=some c0∧w.cell? ⟨g,1,none⟩=some c1∧w.cell? ⟨g,2,none⟩=some c2∧w.cell? ⟨g,3,none⟩=some c3∧w.cell? ⟨g,4,none⟩=some c4∧w.cell? ⟨g,5,none⟩=some c5∧w.cell? ⟨g,6,none⟩=some c6∧w.frozen? ⟨g,0,none⟩=false∧w.frozen? ⟨g,1,none⟩=false∧w.frozen? ⟨g,2,none⟩=false∧w.frozen? ⟨g,3,none⟩=false∧w.frozen? ⟨g,4,none⟩=false∧w.frozen? ⟨g,5,none⟩=false∧w.frozen? ⟨g,6,none⟩=false:=⟨(blk_cell h 0).trans rfl,(blk_cell h 1).trans rfl,(blk_cell h 2).trans rfl,(blk_cell h 3).trans rfl,(blk_cell h 4).trans rfl,(blk_cell h 5).trans rfl,(blk_cell h 6).trans rfl,blk_frozen h 0,blk_frozen h 1,blk_frozen h 2,blk_frozen h 3,blk_frozen h 4,blk_frozen h 5,blk_frozen h 6⟩
theorem hold3_ {w:World} {g:Nat} {t:TypeId} {c0 c1 c2:Value} (h:w.heap[g]?=some (.cells #[c0,c1,c2] t (0,0))):w.cell? ⟨g,0,none⟩=some c0∧w.cell? ⟨g,1,none⟩=some c1∧w.cell? ⟨g,2,none⟩=some c2:=⟨(blk_cell h 0).trans rfl,(blk_cell h 1).trans rfl,(blk_cell h 2).trans rfl⟩
theorem hold5_ {w:World} {g:Nat} {t:TypeId} {c0 c1 c2 c3 c4:Value} (h:w.heap[g]?=some (.cells #[c0,c1,c2,c3,c4] t (0,0))):w.cell? ⟨g,0,none⟩=some c0∧w.cell? ⟨g,1,none⟩=some c1∧w.cell? ⟨g,2,none⟩=some c2∧w.cell? ⟨g,3,none⟩=some c3∧w.cell? ⟨g,4,none⟩=some c4:=⟨(blk_cell h 0).trans rfl,(blk_cell h 1).trans rfl,(blk_cell h 2).trans rfl,(blk_cell h 3).trans rfl,(blk_cell h 4).trans rfl⟩
theorem hold6_ {w:World} {g:Nat} {t:TypeId} {c0 c1 c2 c3 c4 c5:Value} (h:w.heap[g]?=some (.cells #[c0,c1,c2,c3,c4,c5] t (0,0))):w.cell? ⟨g,0,none⟩=some c0∧w.cell? ⟨g,1,none⟩=some c1∧w.cell? ⟨g,2,none⟩=some c2∧w.cell? ⟨g,3,none⟩=some c3∧w.cell? ⟨g,4,none⟩=some c4∧w.cell? ⟨g,5,none⟩=some c5:=⟨(blk_cell h 0).trans rfl,(blk_cell h 1).trans rfl,(blk_cell h 2).trans rfl,(blk_cell h 3).trans rfl,(blk_cell h 4).trans rfl,(blk_cell h 5).trans rfl⟩
theorem hold7_ {w:World} {g:Nat} {t:TypeId} {c0 c1 c2 c3 c4 c5 c6:Value} (h:w.heap[g]?=some (.cells #[c0,c1,c2,c3,c4,c5,c6] t (0,0))):w.cell? ⟨g,0,none⟩=some c0∧w.cell? ⟨g,1,none⟩=some c1∧w.cell? ⟨g,2,none⟩=some c2∧w.cell? ⟨g,3,none⟩=some c3∧w.cell? ⟨g,4,none⟩=some c4∧w.cell? ⟨g,5,none⟩=some c5∧w.cell? ⟨g,6,none⟩=some c6:=⟨(blk_cell h 0).trans rfl,(blk_cell h 1).trans rfl,(blk_cell h 2).trans rfl,(blk_cell h 3).trans rfl,(blk_cell h 4).trans rfl,(blk_cell h 5).trans rfl,(blk_cell h 6).trans rfl⟩
theorem ifS_ {c : Prop} [Decidable c] {α : Type} {a : Option α} {r : α} (h : (if c then a else none) = some r) : c ∧ a = some r := by
  by_cases q : c
  · rw [if_pos q] at h; exact ⟨q, h⟩
  · rw [if_neg q] at h; cases h
theorem bS_ {α β : Type} {o : Option α} {f : α → Option β} {r : β} (h : o.bind f = some r) : ∃ a, Aside0 (o = some a) ∧ f a = some r := by
  obtain ⟨a, p, q⟩ := Option.bind_eq_some_iff.mp h
  exact ⟨a, ⟨p⟩, q⟩
theorem bqT_ {α : Type} [BEq α] [LawfulBEq α] {a b : α} (h : a = b) : (a == b) = true ∧ (a != b) = false := ⟨beq_iff_eq.mpr h, bne_eq_false_iff_eq.mpr h⟩
theorem bqF_ {α : Type} [BEq α] [LawfulBEq α] {a b : α} (h : ¬ a = b) : (a == b) = false ∧ (a != b) = true := ⟨beq_eq_false_iff_ne.mpr h, bne_iff_ne.mpr h⟩
theorem dT_ {p : Prop} [Decidable p] (h : p) : (p = True) ∧ decide p = true := ⟨eq_true h, decide_eq_true h⟩
theorem dF_ {p : Prop} [Decidable p] (h : ¬ p) : (p = False) ∧ decide p = false := ⟨eq_false h, decide_eq_false h⟩
theorem zb_ {p:Prop} (h:p:=by repeat(first|(with_reducible first|exact HB.out|apply below_alloc|apply pw_below_drewN|apply below_drew1|refine below_set ?_ (Aside0.out (by assumption)))|exact HB.out)):p:=h
theorem zk_ {p:Prop} (h:p:=by repeat(first|(with_reducible first|exact HK.out|apply KeepBut.set_|apply keep_drewN|apply keep_drew|apply keep_alloc|refine keep_far ?_ (Aside0.out (by assumption)) _)|exact HK.out)):p:=h
theorem blkE_ {w:World} {g t:Nat} {cs cs':Array Value} (h:w.heap[g]?=some (.cells cs t (0,0))) (e:cs=cs'):w.heap[g]?=some (.cells cs' t (0,0)):=e▸h
theorem blkN_ {w:World} {g:Nat} {o:Obj} (h:w.heap[g]?=some o) {p:Addr} (hp:Aside0 (g≠p.block)) (u:Value):(w.setCell p u).heap[g]?=some o:=(Below.heap_setCell w p u g hp.out).trans h
theorem bk_ {q p:Prop} (h:Aside0 q) (k:q→p:=by (intro h_;first|((with_reducible repeat(first|exact h_|apply blk_drewN|apply blk_drew|apply blk_alloc|refine blkN_ ?_ (by assumption) _));done)|(apply blkE_;(with_reducible repeat(first|exact h_|apply blk_drewN|apply blk_drew|apply blk_alloc|refine blkN_ ?_ (by assumption) _|apply blk_set));rfl)|((with_reducible repeat(first|refine blk_drewN ?_ _|refine blk_drew ?_|refine blk_alloc ?_ _));exact h_))):p:=k h.out
theorem kr_ {q p:Prop} (h:Aside0 q) (k:q→p:=by (intro h_;(with_reducible repeat(first|apply Kd.R_alloc|apply Kd.R_drewN|apply Kd.R_drew));exact h_)):p:=k h.out
theorem ze_ {p:Prop} (h:p:=by first|rfl|(simp[errW_none,errW_some]<;>rfl)|(simp[*,errW_none,errW_some]<;>rfl)):p:=h
theorem zr_ {p:Prop} (h:p:=by first|rfl|(simp;done)|(simp[*];done)):p:=h
theorem zd_ {p:Prop} (h:p:=by repeat(first|exact Drawn0.refl _|apply Drawn0.step)):p:=h
theorem za_ {p:Prop} (h:p:=by first|(with_reducible assumption)|assumption):p:=h
theorem zn_ {p:Prop} (h:p:=by first|exact Kd.R_nil _ _ _ _ _|exact Kd.N_nil _ _ _ _ _|exact Kd.V_nil _ _ _ _ _|exact Kd.Q_nil _ _ _ _ _|exact Kd.S_nil _ _ _ _ _):p:=h
theorem zo_ {p:Prop} (h:p:=by first|omega|exact Nat.le_refl _):p:=h
theorem dnB_ {w w':World} {g n:Nat} {o:Obj} (e:w.drewN n=w') (h:Aside0 (w.heap[g]?=some o)):Aside0 (w'.heap[g]?=some o):=⟨e▸h.out⟩
theorem goesV_ {P:Program} {ops:Array Oper} {Q:Exit→Act→World→Prop} {rest:List Oper} {oi:Oper} {a:Act} {w:World} (N:Tmp) {f:FuncId} {fn:Func} {as_:Array Operand} {ts:Array TypeId} (hf:P.funcs[f]?=some fn) (args:Array Value) {α:Type} {g:α→Value} {R:α→World→Prop}
 (h:Calls P f args w fun e w'=> ∃v,e= .returned (g v)∧R v w') (k: ∀v w',R v w'→wpList P ops Q rest (a.put (some N) (g v)) w')
 (hd:oi.dst=some N:=by rfl) (hg:oi.guard=none:=by rfl) (hname:(fn.name=="runtime.NumGoroutine")=false:=by kernel_rfl) (hb:fn.body.isSome=true:=by rfl)
 (hop:oi.op= .call { callee:= .value (.func f),args:=as_,argTypes:=ts }:=by rfl) (hargs:as_.map a.eval=args:=by (try simp only[List.map_toArray,List.map_cons,List.map_nil]);first|done|rfl|(simp only[List.length_drop,List.length_take];rfl)):wpList P ops Q (oi::rest) a w:=goesL_ (some N) hd hg hf hname hb args hop hargs (h.mono fun e w' ⟨v,q,r⟩=>⟨g v,q,k v w' r⟩)
theorem gc_ {P:Program} {ops:Array Oper} {Q:Exit→Act→World→Prop} {rest:List Oper} {o:Oper} {a:Act} {w:World} (f:FuncId) {as_:Array Operand} {ts:Array TypeId} (_ho:o.op= .call {callee:= .value (.func f),args:=as_,argTypes:=ts}) (h:wpList P ops Q (o::rest) a w):wpList P ops Q (o::rest) a w:=h
theorem gR {P:Program} {ops:Array Oper} {Q:Exit→Act→World→Prop} {rest:List Oper} {oi:Oper} {a:Act} {w:World} (N:Tmp) {f:FuncId} {fn:Func} {as_:Array Operand} {ts:Array TypeId} (hf:P.funcs[f]?=some fn) {args:Array Value} {v:Value} {R:World→Prop}
 (h:Calls P f args w fun e w'=>e= .returned v∧R w') (k: ∀w',R w'→wpList P ops Q rest (a.put (some N) v) w')
 (hd:oi.dst=some N:=by rfl) (hg:oi.guard=none:=by rfl) (hname:(fn.name=="runtime.NumGoroutine")=false:=by kernel_rfl) (hb:fn.body.isSome=true:=by rfl)
 (hop:oi.op= .call { callee:= .value (.func f),args:=as_,argTypes:=ts }:=by rfl) (hargs:as_.map a.eval=args:=by (try simp only[List.map_toArray,List.map_cons,List.map_nil]);first|done|rfl|(simp only[List.length_drop,List.length_take];rfl)):wpList P ops Q (oi::rest) a w:=goesL_ (some N) hd hg hf hname hb args hop hargs (h.mono fun e w' q=>⟨v,q.1,k w' q.2⟩)
theorem gV {P:Program} {ops:Array Oper} {Q:Exit→Act→World→Prop} {rest:List Oper} {oi:Oper} {a:Act} {w:World} (N:Tmp) {f:FuncId} {fn:Func} {as_:Array Operand} {ts:Array TypeId} (hf:P.funcs[f]?=some fn) {args:Array Value} {α:Type} {g:α→Value} {R:α→World→Prop}
 (h:Calls P f args w fun e w'=> ∃v,e= .returned (g v)∧R v w') (k: ∀v w',R v w'→wpList P ops Q rest (a.put (some N) (g v)) w')
 (hd:oi.dst=some N:=by rfl) (hg:oi.guard=none:=by rfl) (hname:(fn.name=="runtime.NumGoroutine")=false:=by kernel_rfl) (hb:fn.body.isSome=true:=by rfl)
 (hop:oi.op= .call { callee:= .value (.func f),args:=as_,argTypes:=ts }:=by rfl) (hargs:as_.map a.eval=args:=by (try simp only[List.map_toArray,List.map_cons,List.map_nil]);first|done|rfl|(simp only[List.length_drop,List.length_take];rfl)):wpList P ops Q (oi::rest) a w:=goesL_ (some N) hd hg hf hname hb args hop hargs (h.mono fun e w' ⟨v,q,r⟩=>⟨g v,q,k v w' r⟩)
theorem oZ {P:Program} {ops:Array Oper} {Q:Exit→Act→World→Prop} {md:Region.Mode} {S:World→Prop} {ds:List Nat} {fuel:Nat} {l l':Array Bool} {a:Act} {w:World} (i:Nat) (N:Tmp) {oi:Oper} {f:FuncId} {fn:Func} {as_:Array Operand} {ts:Array TypeId} (hf:P.funcs[f]?=some fn) {args:Array Value} {v:Value} {R:World→Prop}
 (h:Calls P f args w fun e w'=>e= .returned v∧R w') (k: ∀K:Act→World→Prop,Shut (∀a' w',S w'→(S w'→wpAnyLast P md ops Q S ds fuel l' a' w')→K a' w')→ ∀w',R w'→K (a.put (some N) v) w')
 (hi:ops[i]?=some oi:=by rfl) (hN:oi.dst=some N:=by rfl) (hl:l.setIfInBounds i true=l':=by (try simp only[List.setIfInBounds_toArray,List.set_cons_zero,List.set_cons_succ]);(all_goals rfl)) (hc:readyB md ops l l' i=true:=by exact one_of HT_.out (by kernel_rfl)) (hd:i∉ds:=by decide) (hname:(fn.name=="runtime.NumGoroutine")=false:=by kernel_rfl) (hb:fn.body.isSome=true:=by rfl)
 (hw:Region.wanted oi (yielded ops a.tmps)=true:=by kernel_rfl) (hop:oi.op= .call { callee:= .value (.func f),args:=as_,argTypes:=ts }:=by rfl) (hargs:as_.map a.eval=args:=by (try simp only[List.map_toArray,List.map_cons,List.map_nil]);first|done|rfl|(simp only[List.length_drop,List.length_take];rfl)):
 wpAnyLast P md ops Q S ds (fuel+1) l a w:=ozZ i N hf args h k hi hN hl hc hd hname hb hw hop hargs
theorem dnH_ {w w0 w':World} {b n:Nat} (e:w.drewN n=w') (h:Aside0 (Below b w0 w)):Aside0 (Below b w0 w'):=⟨e▸pw_below_drewN h.out n⟩
theorem zz0 {p:Prop} (h:p:=by kernel_rfl):p:=h
theorem zz1 {p:Prop} (h:p:=by first|(simp only[putAll,Act.put,List.setIfInBounds_toArray,List.set_cons_zero,List.set_cons_succ];done)|(simp only[putAll,Act.put,List.setIfInBounds_toArray,List.set_cons_zero,List.set_cons_succ];rfl)):p:=h
theorem zz2 {p:Prop} (h:p:=by decide):p:=h
theorem zz3 {p:Prop} (h:p:=by rw[lowTo_length _ _ HJL.out];have:=HX.out;omega):p:=h
theorem zz4 {p:Prop} (h:p:=by have:=K0.out;omega):p:=h
theorem zz5 {p:Prop} (h:p:=by omega):p:=h
theorem zz6 {p:Prop} (h:p:=by have:=J0.out;have:=K0.out;omega):p:=h
theorem zz7 {p:Prop} (h:p:=by repeat(first|exact(Kd.C_below HR0.out HB.out)|(with_reducible refine Kd.C_alloc ?_ _)|(with_reducible refine Kd.C_drewN ?_ _)|(with_reducible refine Kd.C_drew ?_))):p:=h
theorem zz8 {p:Prop} (h:p:=by have:=K0.out;have:=K1.out;omega):p:=h
theorem zz9 {p:Prop} (h:p:=by repeat(first|exact(Kd.C_below HR0_0.out HB.out)|(with_reducible refine Kd.C_alloc ?_ _)|(with_reducible refine Kd.C_drewN ?_ _)|(with_reducible refine Kd.C_drew ?_))):p:=h
theorem zz10 {p:Prop} (h:p:=by repeat(first|exact(Kd.R_reads' O1.out).2.2|(with_reducible refine Kd.C_alloc ?_ _)|(with_reducible refine Kd.C_drewN ?_ _)|(with_reducible refine Kd.C_drew ?_))):p:=h
theorem zz11 {p:Prop} (h:p:=by repeat(first|exact(Kd.R_reads' O0.out).2.2|(with_reducible refine Kd.C_alloc ?_ _)|(with_reducible refine Kd.C_drewN ?_ _)|(with_reducible refine Kd.C_drew ?_))):p:=h
theorem zz12 {p:Prop} (h:p:=by repeat(first|exact(Kd.R_reads' O2.out).2.2|(with_reducible refine Kd.C_alloc ?_ _)|(with_reducible refine Kd.C_drewN ?_ _)|(with_reducible refine Kd.C_drew ?_))):p:=h
theorem zz13 {p:Prop} (h:p:=by first|rfl|(simp[errW_none,errW_some]<;>rfl)|(simp only[←h0];first|rfl|(simp[errW_none,errW_some]<;>rfl))|(simp[*,errW_none,errW_some]<;>rfl)):p:=h
theorem zz14 {p:Prop} (h:p:=by rw[←hq_];exact zb_):p:=h
theorem zz15 {p:Prop} (h:p:=by have:=K0.out;have:=J0.out;omega):p:=h
theorem zz16 {p:Prop} (h:p:=by(with_reducible repeat(first|apply Kd.R_alloc|apply Kd.R_drewN|apply Kd.R_drew));exact Kd.R_mono O0.out (fun _ hk=>hk.2)):p:=h
theorem zz17 {p:Prop} (h:p:=by have:=K0.out;first|omega|exact Nat.le_refl _):p:=h
theorem zz18 {p:Prop} (h:p:=by first|rfl|(simp[errW_none,errW_some]<;>rfl)|(simp only[←h11];first|rfl|(simp[errW_none,errW_some]<;>rfl))|(simp[*,errW_none,errW_some]<;>rfl)):p:=h
theorem zz19 {p:Prop} (h:p:=by(with_reducible repeat(first|apply Kd.R_alloc|apply Kd.R_drewN|apply Kd.R_drew));exact Kd.R_mono O3.out (fun _ hk=>⟨trivial,hk⟩)):p:=h
theorem zz20 {p:Prop} (h:p:=by(with_reducible repeat(first|apply Kd.R_alloc|apply Kd.R_drewN|apply Kd.R_drew));exact Kd.R_mono O2.out (fun _ hk=>⟨trivial,hk⟩)):p:=h
theorem zz21 {p:Prop} (h:p:=by simpa only[impl_CleanPath_ownB]using hk_):p:=h
theorem zz22 {p:Prop} (h:p:=by(with_reducible repeat(first|apply Kd.R_alloc|apply Kd.R_drewN|apply Kd.R_drew));exact Kd.R_mono O0.out (fun _ hk=>(by simp[Value.ownBlock]))):p:=h
theorem zz23 {p:Prop} (h:p:=by have:=J0.out;first|omega|exact Nat.le_refl _):p:=h
theorem zz24 {p:Prop} (h:p:=by(try simp only[List.map_toArray,List.map_cons,List.map_nil]);first|done|(simp only[h3];rfl)|rfl|(simp only[List.length_drop,List.length_take];rfl)):p:=h
theorem zz25 {p:Prop} (h:p:=by(with_reducible repeat(first|apply Kd.V_alloc|apply Kd.V_drewN|apply Kd.V_drew));exact O1.out):p:=h
theorem zz26 {p:Prop} (h:p:=by(with_reducible repeat(first|apply Kd.V_alloc|apply Kd.V_drewN|apply Kd.V_drew));exact O0.out):p:=h
theorem zz27 {p:Prop} (h:p:=by have:=HL.out.2.2.2.2.2.2.2.2;unfold impl_recText_lim at this;omega):p:=h
theorem zz28 {p:Prop} (h:p:=by simpa only[spec_CleanPath_ownB]using hk_):p:=h
theorem zz29 {p:Prop} (h:p:=by(with_reducible repeat(first|apply Kd.R_alloc|apply Kd.R_drewN|apply Kd.R_drew));exact Kd.R_mono O1.out (fun _ hk=>hk.2)):p:=h
theorem zz30 {p:Prop} (h:p:=by have:=J0.out;have:=K0.out;have:=K1.out;have:=J1.out;have:=J2.out;have:=J3.out;omega):p:=h
theorem zz31 {p:Prop} (h:p:=by(with_reducible repeat(first|apply Kd.R_alloc|apply Kd.R_drewN|apply Kd.R_drew));exact Kd.R_mono O1.out (fun _ hk=>⟨trivial,hk⟩)):p:=h
theorem zz32 {p:Prop} (h:p:=by have:=J0.out;have:=K0.out;have:=K1.out;omega):p:=h
theorem zz33 {p:Prop} (h:p:=by first|rfl|(simp[errW_none,errW_some]<;>rfl)|(simp only[←h53];first|rfl|(simp[errW_none,errW_some]<;>rfl))|(simp[*,errW_none,errW_some]<;>rfl)):p:=h
theorem zz34 {p:Prop} (h:p:=by(with_reducible repeat(first|apply Kd.R_alloc|apply Kd.R_drewN|apply Kd.R_drew));first|exact O3.out|exact Kd.R_mono O3.out (fun _ hk_=>zz21)):p:=h
theorem zz35 {p:Prop} (h:p:=by(with_reducible repeat(first|apply Kd.R_alloc|apply Kd.R_drewN|apply Kd.R_drew));first|exact O2.out|exact Kd.R_mono O2.out (fun _ hk_=>zz21)):p:=h
theorem zz36 {p:Prop} (h:p:=by(with_reducible repeat(first|apply Kd.R_alloc|apply Kd.R_drewN|apply Kd.R_drew));first|exact O2.out|exact Kd.R_mono O2.out (fun _ hk_=>zz28)):p:=h
theorem zz37 {p:Prop} (h:p:=by(with_reducible repeat(first|apply Kd.R_alloc|apply Kd.R_drewN|apply Kd.R_drew));first|exact O1.out|exact Kd.R_mono O1.out (fun _ hk_=>zz28)):p:=h
end Go.Proofs.YthmehmehoehlpaaGreatDoorW.Zs
