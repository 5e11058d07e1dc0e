import PyProof.Rows.All
import Wide.All
import OpenK.AllK
import Wide.FinOn
import HandS.ForSpec
import HandS.ExcInitHot
import KE.GoesEnumKw
import HandS.Comp
import HandS.Dict
import HandS.Iter
import HandS.More
import HandS.Text
import HandS.Flow
import HandS.Codes
import HandS.ExcField
import HandS.Defaults
import HandS.HeadHook1
import HandS.HeadHook2
import HandS.HeadHook3
import HandS.HeadHook4
import KE.KStateDown
import KE.OsHead
import KE.OsGo
import HandS.Head0
import HandS.Head1
import HandS.Head2
import HandS.Head3
import HandS.Head4
import HandS.Walk
import HandS.HotCalls
import HandS.SortRule
import PySem.Challenge.RW_toteplants_s01_answers
set_option Elab.async false
set_option linter.all false
set_option maxRecDepth 100000
set_option maxHeartbeats 0
namespace Tq
open PySem PySem.Spec PyProof.Rows L2 HotX
/-- the contexts behind an exception's record: none, or one whose own context is none -/
def Chain (B : Heap) (vs : Array Value) : Prop :=
  vs[2]? = some .none ∨ ∃ (y : Addr) (oy : Obj) (ws : Array Value), vs[2]? = some (.ref y) ∧ B.get? y = some oy ∧ oy.data = .fields ws ∧ ws[2]? = some .none
section
variable {prog : Program} {w : World} {A : Around} {E : Value → Shared → Prop} {s : Shared}
theorem unchain2 {x a : Addr} {ox : Obj} {vs : Array Value} {Q : Value → Shared → Prop} (hx : s.heap.get? x = some ox) (dx : ox.data = .fields vs) (c : Chain s.heap vs)
    (na : ∀ y, vs[2]? = some (.ref y) → y ≠ a) (q : Q .none s) :
    wpAny (model prog w) A (holding [Value.ref a] (runValue (.builtin "proto.unchain" ⟨[.ref a, .ref x, .ref x, .bool false], []⟩))) Q E s := by
  rcases c with c | ⟨y, oy, ws, c, gy, dy, cy⟩
  · exact unchained hx dx c q
  · refine wpAny_holding (wpAny_runValue (codeAny_builtin entry_unchain ?_))
    show wpAny _ _ (field (.ref x) 2 >>= _) _ _ s
    refine wpAny_bind (wpAny_field hx dx c ?_)
    have nya : y ≠ a := na y c
    rw [if_neg (show ¬ (Value.ref y == Value.none) = true from by simp), if_neg (show ¬ (Value.ref y == Value.ref a) = true from by simpa using nya)]
    by_cases hyx : y = x
    · subst hyx
      rw [if_pos (by simp)]
      exact wpAny_bind (wpAny_rule (wpAny_pure q))
    · rw [if_neg (show ¬ (Value.ref y == Value.ref x) = true from by simpa using hyx)]
      show wpAny _ _ (if false = true then _ else _) _ _ s
      rw [if_neg Bool.false_ne_true]
      refine wpAny_bind (wpAny_pure ?_)
      refine wpAny_pure ⟨Code.quiet_builtin _ (by decide +kernel), codeAny_builtin entry_unchain ?_⟩
      show wpAny _ _ (field (.ref y) 2 >>= _) _ _ s
      refine wpAny_bind (wpAny_field gy dy cy ?_)
      rw [if_pos (show (Value.none == Value.none) = true from rfl)]
      refine wpAny_bind (wpAny_pure ?_)
      exact wpAny_pure q
/-- the heap where the exception at a has its cause (field 3), its mark (field 4), its context (field 2) -/
def linked (h : Heap) (a x : Addr) : Heap := ((h.update a (Obj.mapFields (·.setIfInBounds 3 (.ref x)))).update a (Obj.mapFields (·.setIfInBounds 4 (.bool true)))).update a (Obj.mapFields (·.setIfInBounds 2 (.ref x)))
theorem linked_other {h : Heap} {a b x : Addr} (n : b ≠ a) : (linked h a x).get? b = h.get? b := by
  unfold linked
  rw [Heap.get?_update_other _ _ n.symm, Heap.get?_update_other _ _ n.symm, Heap.get?_update_other _ _ n.symm]
/-- what is no class -/
theorem not_type {a : Addr} {oe : Obj} {vs : Array Value} {Q : Bool → Shared → Prop} (ha : s.heap.get? a = some oe) (hd : oe.data = .fields vs) (q : Q false s) : wpAny (model prog w) A (isType (.ref a)) Q E s := by
  simp only [isType, loadHead]
  refine wpAny_bind (wpAny_loadPart ha ?_)
  rw [hd]
  exact wpAny_pure q
/-- an instance of an exception's class, taken as it is -/
theorem exc_inst {a : Addr} {oe : Obj} {vs : Array Value} {cls : Value} {msg : String} {Q : Value → Shared → Prop} (ha : s.heap.get? a = some oe) (hc : oe.cls = cls) (hd : oe.data = .fields vs)
    (L : PySem.W.Looks (model prog w) s.heap (isSubtype cls (.type "BaseException")) true) (q : Q (.ref a) s) : wpAny (model prog w) A (excFromValue (.ref a) msg) Q E s := by
  have LT : PySem.W.Looks (model prog w) s.heap (typeOf (.ref a)) cls := fun _ _ _ _ k z => wpAny_typeOf_ref (k _ _ ha) (by rw [hc]; exact z)
  have LI : PySem.W.Looks (model prog w) s.heap (isInstance (.ref a) (.type "BaseException")) true := LT.andThen L
  unfold excFromValue isExcClass
  refine wpAny_bind (wpAny_bind (not_type ha hd ?_))
  rw [if_neg Bool.false_ne_true]
  refine wpAny_pure ?_
  rw [if_neg Bool.false_ne_true]
  refine wpAny_bind (LI.here ?_)
  rw [if_pos rfl]
  exact wpAny_pure q
theorem size_set {vs : Array Value} {i : Nat} {v : Value} : (vs.setIfInBounds i v).size = vs.size := by simp
theorem at_set {vs : Array Value} {i j : Nat} {u v : Value} (n : i ≠ j) (e : vs[j]? = some u) : (vs.setIfInBounds i v)[j]? = some u := by
  rw [Array.getElem?_setIfInBounds_ne n]
  exact e
/-- raise (a new exception at a) from (the one that is handled, at x) -/
theorem raise_linked {env : Env} {m c : Sem Value} {Q : Flow → Shared → Prop} {x : Addr}
    (h : wpAny (model prog w) A m (fun v s1 => ∃ a oe vs cls ox ws clx, v = .ref a ∧ s1.heap.get? a = some oe ∧ oe.cls = cls ∧ oe.data = .fields vs ∧ vs[1]? = some .none ∧ 4 < vs.size ∧ x ≠ a ∧
      A.handled = some (.ref x) ∧ s1.heap.get? x = some ox ∧ ox.data = .fields ws ∧ ox.cls = clx ∧ Chain s1.heap ws ∧ (∀ y, ws[2]? = some (.ref y) → y ≠ a) ∧
      (∀ g : Heap, (∀ b o, b ≠ a → s1.heap.get? b = some o → g.get? b = some o) → PySem.W.Looks (model prog w) g (isSubtype cls (.type "BaseException")) true ∧ PySem.W.Looks (model prog w) g (typeOf cls) (.type "type") ∧ PySem.W.Looks (model prog w) g (isSubtype clx (.type "BaseException")) true) ∧
      wpAny (model prog w) A c (fun u s2 => u = .ref x ∧ s2.heap = s1.heap ∧ E (.ref a) { s2 with heap := linked s2.heap a x }) E s1) E s) :
    wpAny (model prog w) A (raiseStmt env (some m) (some c)) Q E s := by
  unfold raiseStmt
  dsimp only
  refine wpAny_bind (wpAny_mono h (fun v s1 h1 => ?_) fun _ _ z => z)
  obtain ⟨a, oe, vs, cls, ox, ws, clx, rfl, ha, hcls, hd, hf1, h4, nxa, hh, hx, dx, hclx, ch, nch, LK, hc⟩ := h1
  refine wpAny_bind (wpAny_holding (wpAny_mono hc (fun u s2 h2 => ?_) fun _ _ z => z))
  obtain ⟨rfl, hs2, hE⟩ := h2
  have ha2 : s2.heap.get? a = some oe := by rw [hs2]; exact ha
  have hx2 : s2.heap.get? x = some ox := by rw [hs2]; exact hx
  have LK2 : ∀ g : Heap, (∀ b o, b ≠ a → s2.heap.get? b = some o → g.get? b = some o) → PySem.W.Looks (model prog w) g (isSubtype cls (.type "BaseException")) true ∧ PySem.W.Looks (model prog w) g (typeOf cls) (.type "type") ∧ PySem.W.Looks (model prog w) g (isSubtype clx (.type "BaseException")) true := by
    rw [hs2]; exact LK
  have ch2 : Chain s2.heap ws := by rw [hs2]; exact ch
  refine wpAny_bind (wpAny_pure ?_)
  dsimp only
  obtain ⟨l1, _, l3⟩ := LK2 s2.heap fun b o _ e => e
  refine wpAny_bind (wpAny_holding (exc_inst ha2 hcls hd l1 ?_))
  rw [if_neg (show ¬ (Value.ref x == Value.none) = true from by simp)]
  refine wpAny_bind (wpAny_holding (exc_inst hx2 hclx dx l3 ?_))
  -- field 3, field 4
  have s3 : 3 < vs.size := by omega
  have hd3 := Obj.data_mapFields hd (·.setIfInBounds 3 (.ref x))
  have ha3 := Heap.get?_update_self (Obj.mapFields (·.setIfInBounds 3 (.ref x))) ha2 (Obj.isFreed_of_fields hd3)
  have s4 : 4 < (vs.setIfInBounds 3 (Value.ref x)).size := by rw [size_set]; exact h4
  have hd4 := Obj.data_mapFields hd3 (·.setIfInBounds 4 (.bool true))
  have ha4 := Heap.get?_update_self (Obj.mapFields (·.setIfInBounds 4 (.bool true))) ha3 (Obj.isFreed_of_fields hd4)
  have h14 : ((vs.setIfInBounds 3 (Value.ref x)).setIfInBounds 4 (Value.bool true))[1]? = some Value.none := at_set (by decide) (at_set (by decide) hf1)
  have s2' : 2 < ((vs.setIfInBounds 3 (Value.ref x)).setIfInBounds 4 (Value.bool true)).size := by rw [size_set, size_set]; omega
  refine wpAny_bind (wpAny_setField ha2 hd s3 (wpAny_bind (wpAny_setField ha3 hd3 s4 ?_)))
  have oth : ∀ b, b ≠ a → ((s2.heap.update a (Obj.mapFields (·.setIfInBounds 3 (.ref x)))).update a (Obj.mapFields (·.setIfInBounds 4 (.bool true)))).get? b = s2.heap.get? b := fun b n => by
    rw [Heap.get?_update_other _ _ n.symm, Heap.get?_update_other _ _ n.symm]
  refine wpAny_bind (not_type (s := { s2 with heap := _ }) ha4 hd4 ?_)
  rw [if_neg Bool.false_ne_true]
  obtain ⟨_, l2, _⟩ := LK2 ((s2.heap.update a (Obj.mapFields (·.setIfInBounds 3 (.ref x)))).update a (Obj.mapFields (·.setIfInBounds 4 (.bool true)))) fun b o n e => by rw [oth b n]; exact e
  have hcls4 : ((oe.mapFields (·.setIfInBounds 3 (.ref x))).mapFields (·.setIfInBounds 4 (.bool true))).cls = cls := by rw [Obj.cls_mapFields, Obj.cls_mapFields]; exact hcls
  have LT4 : PySem.W.Looks (model prog w) ((s2.heap.update a (Obj.mapFields (·.setIfInBounds 3 (.ref x)))).update a (Obj.mapFields (·.setIfInBounds 4 (.bool true)))) (typeOf (.ref a)) cls := fun _ _ _ _ k z => wpAny_typeOf_ref (k _ _ ha4) (by rw [hcls4]; exact z)
  unfold raisedInstance
  refine wpAny_bind (wpAny_bind (LT4.here (wpAny_bind (l2.here ?_))))
  rw [if_pos (beq_self_eq_true _)]
  refine wpAny_pure ?_
  unfold setFlight
  refine wpAny_bind (wpAny_bind (wpAny_field ha4 hd4 h14 ?_))
  rw [if_neg (by decide)]
  refine wpAny_pure ?_
  unfold raiseNew
  refine wpAny_bind (wpAny_handled ?_)
  rw [hh]
  show wpAny _ _ (if (Value.ref x != Value.ref a) = true then _ else _) _ _ _
  rw [if_pos (show (Value.ref x != Value.ref a) = true from by simpa using nxa)]
  have hx4 : ((s2.heap.update a (Obj.mapFields (·.setIfInBounds 3 (.ref x)))).update a (Obj.mapFields (·.setIfInBounds 4 (.bool true)))).get? x = some ox := by rw [oth x nxa]; exact hx2
  refine wpAny_bind (unchain2 (s := { s2 with heap := _ }) hx4 dx ?_ nch (wpAny_bind ?_))
  · rcases ch2 with c | ⟨y, oy, zs, c, gy, dy, cy⟩
    · exact .inl c
    · exact .inr ⟨y, oy, zs, c, by rw [oth y (nch y c)]; exact gy, dy, cy⟩
  · exact chained ha4 hd4 s2' (wpAny_throw hE)
end
end Tq
namespace Tq
open PySem PySem.Spec PyProof.Rows L2 HotX
/-! ### an exception in the air, with what is known of its context (R of what is tracked, the ground and the record's fields) -/
abbrev RC := Hp → Heap → Array Value → Prop
/-- R asks of the record's context alone -/
structure RC.Ok (R : RC) : Prop where
  ctx : ∀ H B vs ws, ws[2]? = vs[2]? → R H B vs → R H B ws
def RN : RC := fun _ _ vs => vs[2]? = some .none
theorem RN.ok : RC.Ok RN := ⟨fun _ _ _ _ e h => e.trans h⟩
/-- the context is none, or an untracked exception whose own context is none -/
def RCh : RC := fun H B vs => vs[2]? = some .none ∨ ∃ (y : Addr) (oy : Obj) (ws : Array Value), vs[2]? = some (.ref y) ∧ H y = none ∧ B.get? y = some oy ∧ oy.data = .fields ws ∧ ws[2]? = some .none
theorem RCh.ok : RC.Ok RCh := ⟨fun H B vs ws e h => by
  rcases h with h | ⟨y, oy, zs, h, r⟩
  · exact .inl (e.trans h)
  · exact .inr ⟨y, oy, zs, e.trans h, r⟩⟩
def Zr (R : RC) (H : Hp) (B : Heap) (cls : Value) (d : Option Addr) : Obj → Prop := fun o => o.cls = cls ∧ o.dict = d ∧ ∀ vs, o.data = .fields vs → R H B vs
section
variable {R : RC} {H : Hp} {B : Heap} {cls : Value} {d : Option Addr}
theorem Zr.zc {o : Obj} (h : Zr R H B cls d o) : Zc cls d o := ⟨h.1, h.2.1⟩
theorem Zr.steady (hR : RC.Ok R) : PySem.PXN.Steady1 (Zr R H B cls d) := fun o v h => by
  refine ⟨PySem.PXN.steady_cls o v h.1, PySem.PXN.steady_dict o v h.2.1, ?_⟩
  obtain ⟨oc, od, dt, sl⟩ := o
  cases dt with
  | fields us =>
    intro vs e
    have e2 : us.setIfInBounds 1 v = vs := Data.fields.inj e
    subst e2
    exact hR.ctx H B us _ (Array.getElem?_setIfInBounds_ne (by decide)) (h.2.2 us rfl)
  | _ =>
    intro vs e
    first
      | exact Data.noConfusion e
      | cases e
end
def XEr (R : RC) (X : Cx) (W : WX) (u : Value) (s' : Shared) : Prop :=
  ∃ (a : Addr) (B : Heap) (sI : Shared) (pins : List (Addr × Obj)) (σ : L2.St) (H : Hp) (cls : Value) (d : Option Addr),
    u = .ref a ∧ Inv X pins σ H sI ∧ (∀ b o, sI.heap.get? b = some o → b ∉ frs X.stack → B.get? b = some o) ∧ sI.heap.UpToSlots s'.heap ∧
      Sky B X.stack a (Zr R H B cls d) X.env.locals s'.heap ∧ H a = none ∧ s'.os = sI.os ∧ AllBare s'.gens ∧ W cls d σ H
def TakesR (R : RC) (X : Cx) (W : WX) : Prop := ∀ u s', XEr R X W u s' → X.xe u s'
def CXr (R : RC) (P : Program) (w : World) (outer : List Env) (H : Hp) (s : Shared) (E : XK) (u : Value) (s' : Shared) : Prop :=
  ∃ (a : Addr) (B : Heap) (H' : Hp) (cls : Value) (d : Option Addr), u = .ref a ∧ HandSPX.FlyingZ B outer a (Zr R H' B cls d) s'.heap ∧ HOk P w H' B ∧ UB (frs outer) H H' s.heap B s'.heap ∧ H' a = none ∧ s'.os = s.os ∧ AllBare s'.gens ∧ E cls d H'
theorem takesN {X : Cx} {W : WX} (t : TakesR RN X W) : L2N.Takes X W := fun u s' x => t u s' x
section
variable {R : RC} {X : Cx} {pins : List (Addr × Obj)} {σ : L2.St} {H : Hp} {sI s s' : Shared} {B : Heap} {W : WX} {E : XK}
/-- a callee's exception, in the caller's air -/
theorem XEr.fromCall (I : Inv X pins σ H s) (hW : ∀ cls d H', E cls d H' → W cls d σ H') {u : Value} (c : CXr R X.prog X.w X.stack H s E u s') : XEr R X W u s' := by
  obtain ⟨a, B, H', cls, d, rfl, fl, hok, ub, na, os, ag, hE⟩ := c
  have st : B.StaysIn s'.heap := fl.1
  obtain ⟨G, in1, in2⟩ := restrict s'.heap fun b => (B.get? b).isSome || decide (b ∈ frs X.stack)
  have ground : ∀ b o, B.get? b = some o → G.get? b = some o := fun b o e => by
    rw [in1 b (by simp [e])]; exact st b o e
  have frame : ∀ b, b ∈ frs X.stack → G.get? b = s'.heap.get? b := fun b hb => in1 b (by simp [hb])
  have back : ∀ b o, G.get? b = some o → s'.heap.get? b = some o ∧ ((B.get? b).isSome = true ∨ b ∈ frs X.stack) := fun b o e => by
    cases q : (B.get? b).isSome || decide (b ∈ frs X.stack) with
    | false => rw [in2 b q] at e; cases e
    | true => rw [in1 b q] at e; exact ⟨e, by simpa [Bool.or_eq_true] using q⟩
  have J : Inv X pins σ H' { s with heap := G, gens := s'.gens, drawn := s'.drawn, toks := s'.toks } := by
    refine I.call (ch := []) ⟨fun b o e n hb _ => ground b o (ub.keep b o e n hb), fun b o e n hb _ => ?_, fun b o e n _ => ub.free b o e n, fun b o e _ => ?_, ub.tups, ub.frzs, ub.tbls⟩ (hok.kept ground) ag (fun _ z => nomatch z)
    · obtain ⟨sl, q⟩ := ub.slot b o e hb
      exact ⟨sl, (frame b hb).trans q⟩
    · by_cases hb : b ∈ frs X.stack
      · obtain ⟨sl, q⟩ := ub.slot b o e hb
        exact ⟨_, (frame b hb).trans q⟩
      · obtain ⟨o', q⟩ := ub.there b o e hb
        exact ⟨o', ground b o' q⟩
  refine ⟨a, B, _, pins, σ, H', cls, d, rfl, J, fun b o e hb => ?_, Heap.UpToSlots.of_keeps fun b o e => (back b o e).1, .inr (.inl fl), na, os, ag, hW _ _ _ hE⟩
  obtain ⟨e', z⟩ := back b o e
  rcases z with z | z
  · obtain ⟨o', q⟩ := Option.isSome_iff_exists.mp z
    have y := st b o' q
    rw [e'] at y; cases y
    exact q
  · exact absurd z hb
/-- a new exception, in the air -/
theorem XEr.made {a : Addr} {oe : Obj} {vs : Array Value} {cls : Value} {d : Option Addr} (I : Inv X pins σ H sI) (k : ∀ b o, sI.heap.get? b = some o → s'.heap.get? b = some o) (new : sI.heap.get? a = none) (he : s'.heap.get? a = some oe)
    (hz : Zr R H (PySem.W.hideAll sI.heap (frs X.stack)) cls d oe) (hd : oe.data = .fields vs) (h1 : vs[1]? = some .none) (na : H a = none) (os : s'.os = sI.os) (ag : AllBare s'.gens) (w : W cls d σ H) : XEr R X W (.ref a) s' := by
  refine ⟨a, PySem.W.hideAll sI.heap (frs X.stack), sI, pins, σ, H, cls, d, rfl, I, fun b o e hb => PySem.W.hideAll_get _ e hb, Heap.UpToSlots.of_keeps k, .inl ⟨fun b o e => k b o (PySem.W.of_hideAll _ e), ?_, ?_, oe, vs, he, hz, hd, h1⟩, na, os, ag, w⟩
  · cases q : (PySem.W.hideAll sI.heap (frs X.stack)).get? a with
    | none => rfl
    | some o =>
      have z := PySem.W.of_hideAll _ q
      rw [new] at z; cases z
  · exact Heap.FunFrames.of_keeps (fun b o e _ => ⟨o, k b o e, rfl⟩) (funFrames_none I.stack fun b hb => PySem.W.hideAll_none _ hb)
/-- it leaves the def's frame -/
theorem XEr.leaves (hR : RC.Ok R) (hs : X.stack = X.env :: X.outer) (hf : X.env.frame = some X.env.locals) (hex : X.ex = []) {E' : Value → Shared → Prop} (hW : ∀ cls d σ H, W cls d σ H → E cls d H) {u : Value} (x : XEr R X W u s') :
    wpAny (model X.prog X.w) X.A (leaving X.env u) (fun _ s2 => CXr R X.prog X.w X.outer X.H_0 X.s_0 E u s2) E' s' := by
  obtain ⟨a, B, sI, pins, σ, H, cls, d, rfl, I, nb, up, sky, na, os, ag, w⟩ := x
  have hfr : X.A.frames = some (X.env :: X.outer) := by rw [I.ok.frames, hs]
  have nex : ∀ b, b ∉ X.ex := fun b hb => by rw [hex] at hb; cases hb
  have nst : ∀ b o, X.s_0.heap.get? b = some o → b ∉ X.fs → b ∉ frs X.stack := fun b o e hb hm => by
    rcases List.mem_cons.mp (I.stkSub b hm) with z | z
    · have h1 := Heap.lt_size e
      have h2 := I.ok.above
      rw [z] at h1
      exact (Nat.lt_irrefl _ (Nat.lt_of_lt_of_le h1 h2)).elim
    · exact hb z
  have fin : ∀ h', HandSPX.FlyingZ B X.outer a (Zr R H B cls d) h' → s'.heap.UpToSlots h' → CXr R X.prog X.w X.outer X.H_0 X.s_0 E (.ref a) { s' with heap := h' } := fun h' fl up' => by
    refine ⟨a, B, H, cls, d, rfl, fl, I.inGround nb, ⟨fun b o e n hb => nb b o (I.base.keep b o e n hb (nex b)) (nst b o e hb), fun b o e hb => ?_, fun b o e n => I.base.free b o e n (nex b), fun b o e hb => ?_, I.base.tups, I.base.frzs, I.base.tbls⟩, na, os.trans I.os, ag, hW _ _ _ _ w⟩
    · obtain ⟨_, o2, e2, hnf⟩ := I.ok.funs.mem hb
      rw [e] at e2; cases e2
      obtain ⟨l1, q1⟩ := I.base.slot b o e (I.ok.frf b hb) hb (nex b)
      obtain ⟨l2, q2⟩ := up b _ q1 hnf
      obtain ⟨l3, q3⟩ := up' b _ q2 hnf
      exact ⟨l3, q3⟩
    · obtain ⟨o', q⟩ := I.base.there b o e (nex b)
      exact ⟨o', nb b o' q (nst b o e hb)⟩
  rw [hs] at sky
  rcases sky with ⟨hB, hn, hl, oe, vs, he, hz, hd, h1⟩ | fl | hd
  · exact PySem.PXN.leaving_firstZ (Zr.steady hR) hfr hl hf he hB hn hd h1 hz fin
  · exact PySem.PXN.leaves_onZ (Zr.steady hR) hfr hf fl fin
  · exact HandSPX.leaves_heldZ hf hd fin
theorem takes_ofR (hR : RC.Ok R) (hs : X.stack = X.env :: X.outer) (hf : X.env.frame = some X.env.locals) (hex : X.ex = []) {E' : Value → Shared → Prop}
    (hx : X.xe = fun e s' => wpAny (model X.prog X.w) X.A (leaving X.env e) (fun _ s2 => CXr R X.prog X.w X.outer X.H_0 X.s_0 E e s2) E' s') : TakesR R X (fun cls d _ H => E cls d H) := fun u s' x => by
  rw [hx]
  exact XEr.leaves (W := fun cls d _ H => E cls d H) (E := E) hR hs hf hex (fun _ _ _ _ h => h) x
theorem passes_callR (tk : TakesR R X W) (hW : ∀ cls d σ H, E cls d H → W cls d σ H) : Passes (CXr R X.prog X.w) X E :=
  fun _ σ _ _ e s' I c => tk e s' (XEr.fromCall I (fun cls d H' h => hW cls d σ H' h) c)
theorem passAtR (tk : TakesR R X W) (σ : L2.St) : PassesAt (CXr R X.prog X.w) X σ (WE W σ) := fun _ _ _ e s' I c => tk e s' (XEr.fromCall I (fun _ _ _ h => h) c)
/-- an Inv on a heap that lacks some untracked objects of ours -/
theorem invLess (I : Inv X pins σ H s) {G : Heap} {dn : List Addr} (hG : ∀ b, b ∉ dn → G.get? b = s.heap.get? b) (h0 : ∀ b ∈ dn, X.s_0.heap.get? b = none) (hH : ∀ b ∈ dn, H b = none) (hL : X.env.locals ∉ dn)
    (hc : ∀ x c, X.env.cells.lookup x = some c → c ∉ dn) (hp : ∀ p ∈ X.pn ++ pins, p.1 ∉ dn) : Inv X pins σ H { s with heap := G } := by
  have old : ∀ {b : Addr} {o : Obj}, X.s_0.heap.get? b = some o → b ∉ dn := fun {b o} e z => by rw [h0 b z] at e; cases e
  have cellG : ∀ {x : Str} {c : Addr} {v : Option Value}, X.env.cells.lookup x = some c → s.heap.IsCell c v → G.IsCell c v := fun {x c v} e z => by
    obtain ⟨o, ho, hd⟩ := z
    exact ⟨o, (hG c (hc x c e)).trans ho, hd⟩
  refine ⟨I.ok, I.os, I.bare, ⟨fun b o q n hb hx => (hG b (old q)).trans (I.base.keep b o q n hb hx), fun b o q n hb hx => ?_, I.base.free, fun b o q hx => ?_, I.base.tups, I.base.frzs, I.base.tbls⟩, ?_, fun x c e => ?_, I.free, I.freeC, fun p h => ?_, fun b o q => ?_, I.len⟩
  · obtain ⟨sl, z⟩ := I.base.slot b o q n hb hx
    exact ⟨sl, (hG b (old q)).trans z⟩
  · obtain ⟨o', z⟩ := I.base.there b o q hx
    exact ⟨o', (hG b (old q)).trans z⟩
  · obtain ⟨m, ⟨o, es, ep, ho, r⟩, hl⟩ := I.loc
    refine ⟨m, ⟨o, es, ep, (hG _ hL).trans ho, r⟩, fun i x v e1 e2 e3 => ?_⟩
    obtain ⟨u, ru, l⟩ := hl i x v e1 e2 e3
    refine ⟨u, ru, ?_⟩
    rcases l with l | ⟨kd, c, ec, z⟩
    · exact .inl l
    · exact .inr ⟨kd, c, ec, cellG ec z⟩
  · obtain ⟨v, z⟩ := I.cell x c e
    exact ⟨v, cellG e z⟩
  · obtain ⟨e, r⟩ := I.pin p h
    exact ⟨(hG _ (hp p h)).trans e, r⟩
  · have nb : ∀ c, (c = b ∨ H c = some (.own b)) → c ∉ dn := fun c hc z => by
      have n := hH c z
      rcases hc with rfl | hc
      · rw [n] at q; cases q
      · rw [n] at hc; cases hc
    exact (I.hok b o q).stay (fun c u hc z => (hG c (nb c hc)).trans z) (fun _ z => z) fun _ _ z => z
end
end Tq
namespace Tq
open PySem PySem.Spec PyProof.Rows L2 L2H HotX
/-! ### a def that runs whatever is handled -/
structure FnA (P : Program) (w : World) (K : PySem.W.Frag) (mg : Str → Option Value) (base : Heap) (CX : CXT) (k : Nat) (f : Addr) (fd : FuncData) (ps : List Str) (sp : Sp) : Prop where
  len : ∀ vs H Q E, sp vs H Q E → vs.length = ps.length
  run : ∀ (A : Around) (outer : List Env) (s : Shared) (H : Hp) (args : Args) (us : List Value) (vs : List V) (Q : VK) (E : XK) (p : Addr × Obj), RoomH k A → PinOk outer H s p → Env0 P w K mg base A outer s H →
    BindsTo s fd args (ps.zip us) → Vals vs us → sp vs H Q E → codeAny (model P w) A (.call (.ref f) args) (CR CX outer P w H s Q E) s
theorem fnA_of {CX : CXT} {P : Program} {w : World} {K : PySem.W.Frag} {mg : Str → Option Value} {base : Heap} {k : Nat} {f : Addr} {name qual : Str} {params : Arguments} {body : List Stmt} {scope : Scope} {dV kV doc pm cdv ct oc : Value} {an od : Option Addr}
    {osl : Array (Option Value)} {N ps : List Str} {sp : Sp} (lk : K.lookup f = some ⟨oc, od, .func (PySem.W.fnOf name qual params body scope dV kV doc pm an cdv ct), osl⟩) (hcd : PySem.W.codeIn K cdv qual = true) (S : FnScope N ps scope)
    (len : ∀ vs H Q E, sp vs H Q E → vs.length = ps.length)
    (hbody : ∀ (A : Around) (outer : List Env) (s : Shared) (H : Hp) (vs : List V) (Q : VK) (E : XK) (p : Addr × Obj), sp vs H Q E →
      ∃ t, PSs (cxH CX P w K mg base N qual scope f cdv A outer s H E p) body t ∧ t { nx := fun _ H' => Q .non H', rt := Q } (L2.start N vs) H) :
    FnA P w K mg base CX (k + 1) f (PySem.W.fnOf name qual params body scope dV kV doc pm an cdv ct) ps sp := by
  refine ⟨len, fun A outer s H args us vs Q E p hr hpin e0 hb r hsp => ?_⟩
  have KX : K.In s.heap := e0.mod.kin.keeps fun b o e => (e0.bs b o e).1
  have par : ∀ y ∈ ps.zip us, scope.names.lookup y.1 = some .local ∨ (scope.names.lookup y.1 = some .cell ∧ ((cellsFrom (s.heap.objs.size + 1) scope.names []).lookup y.1).isSome = true) := fun ⟨n, v⟩ hy =>
    (S.par n (List.of_mem_zip hy).1).elim .inl fun q => .inr ⟨q, PySem.W.cellsFrom_some _ _ _ (.inl q)⟩
  refine codeAny_call_function hr.depth (KX _ _ lk) rfl S.co S.gen rfl (PySem.W.codeRec_of KX hcd) (hb _ _ _ _ ?_)
  refine wpAny_newFunctionEnv_cells S.kind par fun env he s1 x => ?_
  subst he
  refine ⟨(e0.mod.nolimit.keeps fun b o e => (e0.bs b o e).1).keeps x.toInCall.keep, codeAny_func ?_⟩
  obtain ⟨t, ht, hq⟩ := hbody A outer s H vs Q E p hsp
  have I : Inv (cxH CX P w K mg base N qual scope f cdv A outer s H E p) [] (L2.start N vs) H s1 := inv_startH S hpin e0 (len _ _ _ _ hsp) r x
  refine wpAny_mono (ht.run [] s1 (L2.start N vs) H _ I hq) (fun fl s' hs => ?_) fun e s' hs => hs
  cases fl with
  | ret u =>
    obtain ⟨v, σ', H', J, rv, q⟩ := hs
    exact ⟨v, H', J.os, J.bare, J.base, J.hok, rv, q⟩
  | next =>
    obtain ⟨σ', H', J, q⟩ := hs
    exact ⟨.non, H', J.os, J.bare, J.base, J.hok, rfl, q⟩
  | brk => exact hs.elim fun _ z => z.elim fun _ z => z.2.elim
  | cont => exact hs.elim fun _ z => z.elim fun _ z => z.2.elim
/-! ### C(e, ..) of an own exception class, its __init__ run as told -/
theorem pmk_gen {X : Cx} {CX : CXT} {x : Str} {e : Expr} {es : List Expr} {ta : TA} {p pos : Pos} {C fI : Addr} {sp : Sp} (T : OexC X.K C) (iC : PySem.W.findIn X.K (.ref C) "__init__" = some (some (.ref fI))) (tI : PySem.W.typeIn X.K (.ref fI) = some (.type "function"))
    (hx : Passes CX X (fun _ _ _ => False))
    (run : ∀ (pins : List (Addr × Obj)) (σ : L2.St) (H : Hp) (s : Shared) (rest : List Value) (vs : List V) (Q : VK) (a : Addr), Inv X pins σ H s → Vals (.ref a :: vs) (.ref a :: rest) → sp (.ref a :: vs) H Q (fun _ _ _ => False) →
      codeAny (model X.prog X.w) (X.A.under (.builtin "type.__call__" ⟨.ref C :: rest, []⟩)) (.call (.ref fI) ⟨.ref a :: rest, []⟩) (CR CX X.stack X.prog X.w H s Q fun _ _ _ => False) s)
    (hg : Gl X x) (hm : X.mg x = some (.ref C)) (ha : PA X (e :: es) ta)
    (hdb : (x == ("__debug__" : Str)) = false := by decide) (he : starEach (e :: es) X.env = (false, eval e X.env) :: starEach es X.env := by rfl) (hpl : (backTo pos (starEach es X.env)).any (·.1) = false := by rfl) :
    PMk5 X (.Call (.Name x p) (e :: es) [] pos) (tMkO C sp [] ta) := by
  intro pins s σ H Q I h
  obtain ⟨nm, q, N, bs, bm, sn, sub, ab, col, dd, k0, k1, k2, k3, k5, hC, hbm⟩ := T.cls
  refine wpAny_Call_Name_kw (ld_glob I hg hm ?_ hdb)
  refine PySem.W.callWith_K (h₀ := X.base) I.ok.mod.kin T.kC (thn (ha.run pos pins s σ H _ I h) fun us s1 ⟨vs, H1, I1, r1, hz, q1⟩ => ⟨I1.kIn, ?_⟩) he hpl
  show wpAny _ _ (call (.ref C) us) _ _ _
  obtain ⟨hp, g, dr, tk, os⟩ := s1
  have hsz : hp.objs.size ≤ hp.objs.size + 1 := Nat.le_succ _
  have hq := q1 (hp.objs.size + 1) (I1.hok.fresh hsz)
  rw [List.append_nil] at hq
  generalize hh2 : (hp.push (PySem.W.kdv_tup us)).push (PySem.HandSPX.excO C hp.objs.size) = hp2
  have kk : ∀ b o, hp.get? b = some o → hp2.get? b = some o := fun b o e => by rw [← hh2]; exact Heap.get?_push_of_some _ (Heap.get?_push_of_some _ e)
  have hget : hp2.get? (hp.objs.size + 1) = some (PySem.HandSPX.excO C hp.objs.size) := by rw [← hh2]; heap_get
  have I2 : Inv X pins σ (upd H1 (hp.objs.size + 1) (exo (hp.objs.size + 1) C none)) ⟨hp2, g, dr, tk, os⟩ := I1.laid (t' := tk) (a := hp.objs.size + 1) (o := exo (hp.objs.size + 1) C none) (h' := hp2) kk hsz (exo_ok hget)
  have hus : us.length ≤ sizeLine := by
    rw [← Paired.length r1, sizeLine_eq]
    omega
  have go := run pins σ _ _ us vs _ (hp.objs.size + 1) I2 (.cons rfl r1) hq
  rw [← hh2] at go kk I2
  refine wpAny_call (PySem.HandSPX.call_own F.excBase_ValueError (fun Y => PySem.HandSPX.refsVE_contains Y bm hbm) (I1.kIn _ _ hC) (PySem.W.looks_findIn I1.kIn iC) (fun self => PySem.W.bind_fn I1.kIn self tI) hus (codeAny_mono go fun r s' hq' => ?_))
  cases r with
  | error er => exact hx pins σ _ _ er s' I2 hq'
  | ok fl =>
    cases fl with
    | ret u =>
      obtain ⟨v, H2, os2, bare2, un2, hok2, rv, ev, d, fs, ea, ed, hd1, q2⟩ := hq'
      subst ev
      obtain ⟨h2, g2, d2, t2, os'⟩ := s'
      obtain ⟨t0, G, J, kG, ge, hoe, na⟩ := mk_end0 (d2 := d2) (t2 := t2) I1 hsz kk un2 hok2 os2 bare2 ea ed hd1
      refine ⟨rv, ⟨hp.objs.size + 1, _, _, ⟨G, g2, d2, t2, os'⟩, _, .ref C, some d, rfl, J, kG, ge, hoe, ⟨rfl, rfl, fun vs hv => ?_⟩, rfl, rfl, na, rfl, bare2, raises_own T.exC T.tyC, q2⟩, fun a oe vs ea2 hg2 hd2 => ?_⟩
      · cases hv
        rfl
      · cases ea2
        have hg3 : h2.get? (hp.objs.size + 1) = some oe := hg2
        rw [hoe] at hg3
        cases hg3
        cases hd2
        show (4 : Nat) < 6
        decide
    | next => exact False.elim hq'
    | brk => exact False.elim hq'
    | cont => exact False.elim hq'
section
variable {X : Cx} {CX : CXT} {x : Str} {e : Expr} {es : List Expr} {ta : TA} {p pos : Pos} {C fI : Addr} {k : Nat} {fd : FuncData} {ps : List Str} {sp : Sp}
theorem vals_len {us : List Value} {vs : List V} {ps : List Str} (r : Vals vs us) (h : vs.length = ps.length) : (us ++ ([] : List Value)).length = ps.length := by
  rw [List.append_nil, ← r.length, h]
/-- where nothing is handled -/
theorem pmk_calm (T : OexC X.K C) (iC : PySem.W.findIn X.K (.ref C) "__init__" = some (some (.ref fI))) (tI : PySem.W.typeIn X.K (.ref fI) = some (.type "function")) (F1 : FnOk X.prog X.w X.K X.mg X.base CX k fI fd ps sp) (hr : Room (k + 1) X.A) (hb : Binds X.K fd ps [])
    (hx : Passes CX X (fun _ _ _ => False)) (hg : Gl X x) (hm : X.mg x = some (.ref C)) (ha : PA X (e :: es) ta)
    (hdb : (x == ("__debug__" : Str)) = false := by decide) (he : starEach (e :: es) X.env = (false, eval e X.env) :: starEach es X.env := by rfl) (hpl : (backTo pos (starEach es X.env)).any (·.1) = false := by rfl) : PMk5 X (.Call (.Name x p) (e :: es) [] pos) (tMkO C sp [] ta) :=
  pmk_gen T iC tI hx (fun pins σ H s rest vs Q a I r h => by
    have b := hb s (.ref a :: rest) I.kIn (vals_len r (F1.len _ _ _ _ h))
    rw [List.append_nil] at b
    exact F1.run _ X.stack s H _ _ _ Q _ (hr.make C rest []) (I.env0.make C rest []) b r h) hg hm ha hdb he hpl
/-- where an exception is handled: some object is pinned -/
theorem pmk_hot (T : OexC X.K C) (iC : PySem.W.findIn X.K (.ref C) "__init__" = some (some (.ref fI))) (tI : PySem.W.typeIn X.K (.ref fI) = some (.type "function")) (F1 : FnA X.prog X.w X.K X.mg X.base CX k fI fd ps sp) (hr : RoomH (k + 1) X.A) (hb : Binds X.K fd ps [])
    {pp : Addr × Obj} (hpp : pp ∈ X.pn) (hx : Passes CX X (fun _ _ _ => False)) (hg : Gl X x) (hm : X.mg x = some (.ref C)) (ha : PA X (e :: es) ta)
    (hdb : (x == ("__debug__" : Str)) = false := by decide) (he : starEach (e :: es) X.env = (false, eval e X.env) :: starEach es X.env := by rfl) (hpl : (backTo pos (starEach es X.env)).any (·.1) = false := by rfl) : PMk5 X (.Call (.Name x p) (e :: es) [] pos) (tMkO C sp [] ta) :=
  pmk_gen T iC tI hx (fun pins σ H s rest vs Q a I r h => by
    have b := hb s (.ref a :: rest) I.kIn (vals_len r (F1.len _ _ _ _ h))
    rw [List.append_nil] at b
    have z := I.pin pp (List.mem_append_left _ hpp)
    exact F1.run _ X.stack s H _ _ _ Q _ pp (hr.make C rest []) ⟨z.1, z.2.1, fun hm => (List.mem_cons.mp (I.stkSub pp.1 hm)).elim z.2.2.1 z.2.2.2.1, z.2.2.2.2⟩ (I.env0.make C rest []) b r h) hg hm ha hdb he hpl
end
end Tq
namespace Tq
open PySem PySem.Spec PyProof.Rows L2 L2H HotX
/-! ### try: body, except C as n: raise Y(..) from n -/
/-- what is kept of the exception that the suite raises: its context is the handled one, of whose record P holds -/
def Zo (P : Array Value → Prop) (H : Hp) (B : Heap) (cls : Value) (d : Option Addr) : Obj → Prop := fun o => o.cls = cls ∧ o.dict = d ∧ ∀ vs, o.data = .fields vs →
  ∃ (x : Addr) (ox : Obj) (ws : Array Value), vs[2]? = some (.ref x) ∧ H x = none ∧ B.get? x = some ox ∧ ox.data = .fields ws ∧ P ws
/-- .. its context is x -/
def Zx (x : Addr) (cls : Value) (d : Option Addr) : Obj → Prop := fun o => o.cls = cls ∧ o.dict = d ∧ ∀ vs, o.data = .fields vs → vs[2]? = some (.ref x)
theorem Zx.steady {x : Addr} {cls : Value} {d : Option Addr} : PySem.PXN.Steady1 (Zx x cls d) := fun o v h => by
  refine ⟨PySem.PXN.steady_cls o v h.1, PySem.PXN.steady_dict o v h.2.1, ?_⟩
  obtain ⟨oc, od, dt, sl⟩ := o
  cases dt with
  | fields us =>
    intro vs e
    have e2 : us.setIfInBounds 1 v = vs := Data.fields.inj e
    subst e2
    exact at_set (by decide) (h.2.2 us rfl)
  | _ =>
    intro vs e
    first
      | exact Data.noConfusion e
      | cases e
/-- it has left the suite, noted by the def's frame -/
def XOut (P : Array Value → Prop) (X : Cx) (W : WX) (u : Value) (s' : Shared) : Prop :=
  ∃ (a : Addr) (B : Heap) (sI : Shared) (pins : List (Addr × Obj)) (σ : L2.St) (H : Hp) (cls : Value) (d : Option Addr),
    u = .ref a ∧ Inv X pins σ H sI ∧ (∀ b o, sI.heap.get? b = some o → b ∉ frs X.stack → B.get? b = some o) ∧ sI.heap.UpToSlots s'.heap ∧
      HandSPX.HeldZ B X.stack a (Zo P H B cls d) X.env.locals s'.heap ∧ H a = none ∧ s'.os = sI.os ∧ AllBare s'.gens ∧ W cls d σ H
theorem held_imp {B h : Heap} {l : List Env} {a L : Addr} {Z Z' : Obj → Prop} (z : ∀ o, Z o → Z' o) (x : HandSPX.HeldZ B l a Z L h) : HandSPX.HeldZ B l a Z' L h := ⟨x.1, x.2.1, x.2.2.1, tracedZ_imp z x.2.2.2⟩
theorem out_any {P : Array Value → Prop} {X : Cx} {W : WX} (t : L2.Takes X W) : ∀ u s', XOut P X W u s' → X.xe u s' := fun u s' ⟨a, B, sI, pins, σ, H, cls, d, e, I, nb, up, hd, r⟩ =>
  t u s' ⟨a, B, sI, pins, σ, H, cls, d, e, I, nb, up, .inr (.inr (held_imp (fun o z => ⟨z.1, z.2.1⟩) hd)), r⟩
theorem out_chain {X : Cx} {W : WX} (t : TakesR RCh X W) : ∀ u s', XOut (fun ws => ws[2]? = some .none) X W u s' → X.xe u s' := fun u s' ⟨a, B, sI, pins, σ, H, cls, d, e, I, nb, up, hd, r⟩ =>
  t u s' ⟨a, B, sI, pins, σ, H, cls, d, e, I, nb, up, .inr (.inr (held_imp (fun o z => ⟨z.1, z.2.1, fun vs hv => .inr (z.2.2 vs hv)⟩) hd)), r⟩
/-- the wish of the body's exceptions -/
def wFrom (C : Addr) (i : Nat) (tm : Addr → Option Addr → L2.St → Hp → XK → Prop) (Wout : WX) : WX := fun cls d σ H =>
  cls = .ref C ∧ ∀ a, H a = none → tm a d (σ.set i (some (.ref a))) H fun c2 d2 H2 => Wout c2 d2 ((σ.set i (some (.ref a))).set i none) H2
theorem ps_tryR {R : RC} {P : Array Value → Prop} {X : Cx} {x n : Str} {C : Addr} {i : Nat} {body : List Stmt} {e : Expr} {np cp rp pos pos' : Pos} {tb : WX → TS} {tm : Addr → Option Addr → L2.St → Hp → XK → Prop} {Wout : WX}
    (hR : RC.Ok R) (hRC : ∀ H B vs, R H B vs → RCh H B vs) (hRP : ∀ H B vs, R H B vs → P vs)
    (hs : X.stack = X.env :: X.outer) (hf : X.env.frame = some X.env.locals) (hex : X.ex = []) (hN : X.N.Nodup) (hi : X.N[i]? = some n) (hln : X.env.kindOf n = some .local)
    (hc : Names X x (.ref C)) (hx1 : PySem.W.exmOne X.K (.ref C) (.ref C) = some true) (hrC : Raises X (.ref C))
    (hpa : ∀ hd : Option Value, PassesOwnAt (model X.prog X.w) (X.A.mark hd) X.A X.env X.xe) (out : ∀ u s', XOut P X Wout u s' → X.xe u s')
    (hb : ∀ (W : WX) (pn : List (Addr × Obj)) (xe : Value → Shared → Prop), TakesR R (X.tr pn xe) W → PassesOwn (model X.prog X.w) X.A X.env xe → PSs (X.tr pn xe) body (tb W))
    (hsu : ∀ (a : Addr) (oe : Obj) (d : Option Addr) (pn : List (Addr × Obj)), oe.cls = .ref C → oe.dict = d → (∃ vs, oe.data = .fields vs) → PMk5 (X.suite a ((a, oe) :: pn)) e (tm a d))
    (hnd : (n == ("__debug__" : Str)) = false := by decide) :
    PS X (.Try body [.ExceptHandler (some (.Name x np)) (some n) [.Raise (some e) (some (.Name n cp)) rp] pos'] [] [] pos) (fun D σ H => tb (wFrom C i tm Wout) D σ H) := by
  refine ⟨fun pins s σ H D I h => ?_⟩
  have ok := I.ok
  have hfr : X.A.frames = some (X.env :: X.outer) := by rw [ok.frames, hs]
  refine wpAny_Try_except (wpAny_mono ((hb (wFrom C i tm Wout) (X.pn ++ pins) (fun u s1 => wpAny (model X.prog X.w) X.A (noteFrame u X.env) (fun _ s2 => wpAny (model X.prog X.w) X.A (setFlight u none) (fun _ s3 =>
    wpAny (model X.prog X.w) X.A (handleBy u X.env [.ExceptHandler (some (.Name x np)) (some n) [.Raise (some e) (some (.Name n cp)) rp] pos']) (SP X pins D) X.xe s3) X.xe s2) X.xe s1) (fun u s' air => ?_) PassesOwn.looking).run [] s σ H D (I.toTry _) h) (fun f s1 hsp => ?_) (fun _ _ he => he))
  · obtain ⟨a, B, sI, pins', σ1, H1, cls, d, rfl, J', nb, up, sky, na, os, ag, rfl, hmk⟩ := air
    have J : Inv X pins σ1 H1 sI := J'.ofTry ok
    have sky' : Sky B (X.env :: X.outer) a (Zr R H1 B (.ref C) d) X.env.locals s'.heap := by rw [← hs]; exact sky
    show wpAny (model X.prog X.w) X.A (noteFrame (.ref a) X.env) _ _ _
    refine L2N.Sky.land (Zr.steady hR) hfr hf sky' fun h3 fl3 up3 => ?_
    have J3 : Inv X pins σ1 H1 { s' with heap := h3 } := J.landed nb fl3.1 (up.trans up3) os ag
    obtain ⟨oe3, vs3, he3, hz3, hd3⟩ := fl3.there
    have noFr : ∀ {B h : Heap} {b : Addr} {o : Obj} {vs : Array Value}, h.FunFrames B (X.env :: X.outer) → h.get? b = some o → o.data = .fields vs → b ∉ frs (X.env :: X.outer) := fun {B h b o vs} ff e1 dd hm => by
      obtain ⟨_, o2, e2, hnf⟩ := ff.mem hm
      rw [e1] at e2; cases e2
      exact hnf _ dd
    have nLF : ∀ {b : Addr}, b ∉ frs (X.env :: X.outer) → b ≠ X.env.locals ∧ b ∉ X.fs := fun {b} nf => by
      refine ⟨fun z => nf (List.mem_filterMap.mpr ⟨X.env, List.mem_cons_self, by rw [hf, z]⟩), fun hm => ?_⟩
      obtain ⟨v, hv, q⟩ := List.mem_filterMap.mp hm
      exact nf (List.mem_filterMap.mpr ⟨v, List.mem_cons_of_mem _ hv, q⟩)
    have nfa := noFr fl3.2.2.1 he3 hd3
    have S3 := J3.suite he3 hd3 na (nLF nfa).1 (nLF nfa).2
    refine wpAny_handleBy_cons (codeAny_handlers_test ?_) (by intro q; cases q)
    have LT : PySem.W.Looks (model X.prog X.w) h3 (typeOf (.ref a)) (.ref C) := fun _ _ _ _ k q => wpAny_typeOf_ref (k _ _ he3) (by rw [hz3.1]; exact q)
    have LM := PySem.W.exm_one (M := model X.prog X.w) J3.kIn LT hx1
    have look : ∀ {Q : Value → Shared → Prop} {E : Value → Shared → Prop}, Q (.ref C) { s' with heap := h3 } → wpAny (model X.prog X.w) (X.A.mark (some (.ref a))) (eval (.Name x np) X.env) Q E { s' with heap := h3 } := fun {Q E} q => by
      obtain ⟨hg, hdbg, hm | ⟨hm, hv, hnn⟩⟩ := hc
      · exact ld_glob (X := X.suite a ((a, oe3) :: (X.pn ++ pins))) S3 hg hm q hdbg
      · exact ld_blt (X := X.suite a ((a, oe3) :: (X.pn ++ pins))) S3 hg hm hv q hnn hdbg
    refine look (LM.here ?_)
    refine codeAny_handlers_suite_as ?_
    refine HandSPX.lands_againZ fl3 fun h4 fl4 up4 => ?_
    have J4 : Inv X pins σ1 H1 { s' with heap := h4 } := J.landed nb fl4.1 ((up.trans up3).trans up4) os ag
    obtain ⟨oe4, vs4, he4, hz4, hd4⟩ := fl4.there
    have hch : RCh H1 B vs4 := hRC _ _ _ (hz4.2.2 vs4 hd4)
    -- what is pinned through the suite: the exception, and its context where there is one
    obtain ⟨py, hpy1, hpy2⟩ : ∃ py : List (Addr × Obj), (∀ p ∈ py, h4.get? p.1 = some p.2 ∧ H1 p.1 = none ∧ p.1 ≠ X.env.locals ∧ p.1 ∉ X.fs ∧ ∀ v, p.2.data ≠ .cell v) ∧
        (vs4[2]? = some .none ∨ ∃ y oy ws, vs4[2]? = some (.ref y) ∧ (y, oy) ∈ py ∧ oy.data = .fields ws ∧ ws[2]? = some .none) := by
      rcases hch with c | ⟨y, oy, ws, c, ny, gy, dy, cy⟩
      · exact ⟨[], fun p hp => absurd hp (by simp), .inl c⟩
      · refine ⟨[(y, oy)], fun p hp => ?_, .inr ⟨y, oy, ws, c, by simp, dy, cy⟩⟩
        have ep : p = (y, oy) := by simpa using hp
        subst ep
        have gy4 : h4.get? y = some oy := fl4.1 _ _ gy
        have nfy := noFr fl4.2.2.1 gy4 dy
        exact ⟨gy4, ny, (nLF nfy).1, (nLF nfy).2, fun v z => by rw [dy] at z; cases z⟩
    have J4p : Inv X (py ++ pins) σ1 H1 { s' with heap := h4 } := J4.pins_of fun p hp => (List.mem_append.mp hp).elim (hpy1 p) fun z => J4.pin p (List.mem_append_right _ z)
    have S4 := J4p.suite he4 hd4 na (nLF nfa).1 (nLF nfa).2
    refine store_ok (X := X.suite a ((a, oe4) :: (X.pn ++ (py ++ pins)))) (v := .ref a) S4 hN hi (.inl hln) rfl (fun s5 S5 => ?_) (.inr hln)
    refine wpAny_execs_cons ?_
    show wpAny _ _ (do standAt rp; raiseStmt X.env (some (do let v ← eval e X.env; standAt rp; pure v)) (some (do let v ← eval (.Name n cp) X.env; standAt rp; pure v))) _ _ _
    refine wpAny_bind (wpAny_standAt (raise_linked (x := a) (wpAny_bind (wpAny_mono (hsu a oe4 d (X.pn ++ (py ++ pins)) hz4.1 hz4.2.1 ⟨_, hd4⟩ [] s5 _ H1 _ S5 (hmk a na)) (fun u s6 hu => wpAny_bind (wpAny_standAt (wpAny_pure ?_))) fun _ _ z => False.elim z))))
    obtain ⟨⟨a2, oe2, vs2, sI2, H2, cls2, d2, rfl, J2, k2, new2, ha2, hz2, hd2, h12, na2, os2, ag2, r2, q2⟩, six⟩ := hu
    have pin_a := J2.pin (a, oe4) (List.mem_append_left _ List.mem_cons_self)
    have ga6 : s6.heap.get? a = some oe4 := k2 _ _ pin_a.1
    have nn : ∀ {b : Addr} {o : Obj}, sI2.heap.get? b = some o → b ≠ a2 := fun {b o} z q => by rw [q, new2] at z; cases z
    have pin_y : ∀ {y : Addr} {oy : Obj}, (y, oy) ∈ py → sI2.heap.get? y = some oy := fun {y oy} hy => (J2.pin (y, oy) (List.mem_append_left _ (List.mem_cons_of_mem _ (List.mem_append_right _ (List.mem_append_left _ hy))))).1
    refine ⟨a2, oe2, vs2, cls2, oe4, vs4, .ref C, rfl, ha2, hz2.1, hd2, h12, six a2 oe2 vs2 rfl ha2 hd2, nn pin_a.1, rfl, ga6, hd4, hz4.1, ?_, ?_, fun g kg => ?_, ?_⟩
    · rcases hpy2 with c | ⟨y, oy, ws, c, hy, dy, cy⟩
      · exact .inl c
      · exact .inr ⟨y, oy, ws, c, k2 _ _ (pin_y hy), dy, cy⟩
    · intro y hy
      rcases hpy2 with c | ⟨y', oy, ws, c, hy', dy, cy⟩
      · rw [c] at hy; cases hy
      · rw [c] at hy; cases hy
        exact nn (pin_y hy')
    · have KG : X.K.In g := J2.kIn.keeps fun b o z => kg b o (nn z) (k2 b o z)
      exact ⟨(r2 _ g KG).1, (r2 _ g KG).2, (hrC _ g KG).1⟩
    · -- the cause: the name
      have J6 : Inv (X.suite a ((a, oe4) :: (X.pn ++ (py ++ pins)))) [] (σ1.set i (some (.ref a))) H2 s6 := J2.call' (ch := []) os2 (Un.kept k2) (J2.hok.kept k2) ag2 (fun _ z => nomatch z)
      obtain ⟨m, hn6, hl6⟩ := J6.loc
      have hiσ : i < σ1.length := by
        have hl := J4.len
        rw [hl]; exact (List.getElem?_eq_some_iff.mp hi).1
      obtain ⟨u6, ru6, lk6⟩ := hl6 i n (.ref a) hi (by rw [List.getElem?_set_self hiσ]) (.inl hln)
      obtain rfl : u6 = Value.ref a := ru6
      have hm6 : m n = some (.ref a) := by
        rcases lk6 with ⟨_, z⟩ | ⟨z, _⟩
        · exact z
        · have hk : X.env.kindOf n = some .cell ∨ X.env.kindOf n = some .free := z
          rw [hln] at hk
          rcases hk with z | z <;> cases z
      refine wpAny_bind (wpAny_Name (wpAny_loadName_local J6.ok.kind hln hn6 hm6 (wpAny_bind (wpAny_standAt (wpAny_pure ⟨rfl, rfl, ?_⟩)))) hnd)
      -- the raise has come: the new exception is linked; the ground B2
      have B2st : (PySem.W.hideAll sI2.heap (frs X.stack)).StaysIn (linked s6.heap a2 a) := fun b o z => by
        have z1 := PySem.W.of_hideAll _ z
        rw [linked_other (nn z1)]
        exact k2 _ _ z1
      have nfr2 : ∀ b ∈ frs X.stack, (PySem.W.hideAll sI2.heap (frs X.stack)).get? b = none := fun b hb => PySem.W.hideAll_none _ hb
      have keep2 : ∀ b o, sI2.heap.get? b = some o → b ∉ frs X.stack → (PySem.W.hideAll sI2.heap (frs X.stack)).get? b = some o := fun b o z hb => PySem.W.hideAll_get _ z hb
      have B2none : (PySem.W.hideAll sI2.heap (frs X.stack)).get? a2 = none := by
        cases z : (PySem.W.hideAll sI2.heap (frs X.stack)).get? a2 with
        | none => rfl
        | some o =>
          have z1 := PySem.W.of_hideAll _ z
          rw [new2] at z1; cases z1
      generalize PySem.W.hideAll sI2.heap (frs X.stack) = B2 at B2st nfr2 keep2 B2none
      -- its record behind the link
      obtain ⟨oe8, vs8, he8, hc8, hdt8, hd8, h18, h28⟩ : ∃ (oe8 : Obj) (vs8 : Array Value), (linked s6.heap a2 a).get? a2 = some oe8 ∧ oe8.cls = cls2 ∧ oe8.dict = d2 ∧ oe8.data = .fields vs8 ∧ vs8[1]? = some .none ∧ vs8[2]? = some (.ref a) := by
        have z3 := Obj.data_mapFields hd2 (·.setIfInBounds 3 (.ref a))
        have a3 := Heap.get?_update_self (Obj.mapFields (·.setIfInBounds 3 (.ref a))) ha2 (Obj.isFreed_of_fields z3)
        have z4 := Obj.data_mapFields z3 (·.setIfInBounds 4 (.bool true))
        have a4 := Heap.get?_update_self (Obj.mapFields (·.setIfInBounds 4 (.bool true))) a3 (Obj.isFreed_of_fields z4)
        have z5 := Obj.data_mapFields z4 (·.setIfInBounds 2 (.ref a))
        have a5 := Heap.get?_update_self (Obj.mapFields (·.setIfInBounds 2 (.ref a))) a4 (Obj.isFreed_of_fields z5)
        refine ⟨_, _, a5, ?_, ?_, z5, at_set (by decide) (at_set (by decide) (at_set (by decide) h12)), ?_⟩
        · rw [Obj.cls_mapFields, Obj.cls_mapFields, Obj.cls_mapFields]; exact hz2.1
        · rw [HandSPX.dict_mapFields, HandSPX.dict_mapFields, HandSPX.dict_mapFields]; exact hz2.2.1
        · have big : 4 < vs2.size := six a2 oe2 vs2 rfl ha2 hd2
          exact Array.getElem?_setIfInBounds_self_of_lt (by rw [size_set, size_set]; omega)
      have ga2 : B2.get? a = some oe4 := keep2 _ _ pin_a.1 (by rw [hs]; exact nfa)
      have hP : P vs4 := hRP _ _ _ (hz4.2.2 vs4 hd4)
      have J6r : s6.heap.FunFrames X.base X.stack := J6.stack
      have J8r : (linked s6.heap a2 a).FunFrames B2 X.stack := by
        have k8 : (linked s6.heap a2 a).FunFrames X.base X.stack := J6r.of_keeps fun b o z nf => by
          refine ⟨o, ?_, rfl⟩
          rw [linked_other (fun q => by rw [q, ha2] at z; cases z; exact nf _ hd2)]
          exact z
        exact funFrames_none k8 nfr2
      rw [hs] at J8r
      refine PySem.PXN.look_newZ (s := { s6 with heap := linked s6.heap a2 a }) (base := B2) (Zx.steady (x := a) (cls := cls2) (d := d2)) hfr J8r hf he8 B2st B2none hd8 h18
        ⟨hc8, hdt8, fun vs hv => by rw [hd8] at hv; cases hv; exact h28⟩ fun h9 held9 up9 => ?_
      obtain ⟨st9, _, ff9, oe9, vs9, T, oT, ts, he9, hz9, hd9, h19, hnT, hTa, hT9, hdT, h39⟩ := held9
      have upI : sI2.heap.UpToSlots h9 := (Heap.UpToSlots.of_keeps fun b o z => by rw [linked_other (nn z)]; exact k2 _ _ z).trans up9
      have J9s := J2.landed (s' := { s6 with heap := h9 }) (B := B2) keep2 st9 upI os2 ag2
      have J9 : Inv X (py ++ pins) ((σ1.set i (some (.ref a)))) H2 { s6 with heap := h9 } := J9s.unsuite ok
      have nfa2 := noFr ff9 he9 hd9
      have nfT := noFr ff9 hT9 hdT
      have HT : H2 T = none := by
        refine J2.hok.gone ?_
        cases z : sI2.heap.get? T with
        | none => rfl
        | some o =>
          have z1 : B2.get? T = some o := keep2 _ _ z (by rw [hs]; exact nfT)
          rw [hnT] at z1; cases z1
      have noCell : ∀ {o : Obj} {vs : Array Value}, o.data = .fields vs → ∀ v, o.data ≠ .cell v := fun {o vs} z v q => by rw [z] at q; cases q
      have ga9 : h9.get? a = some oe4 := st9 _ _ ga2
      have J9p : Inv X ([(a2, oe9), (T, oT), (a, oe4)] ++ pins) (σ1.set i (some (.ref a))) H2 { s6 with heap := h9 } := J9.pins_of fun p hp => by
        rcases List.mem_append.mp hp with z | z
        · have z : p = (a2, oe9) ∨ p = (T, oT) ∨ p = (a, oe4) := by simpa using z
          rcases z with rfl | rfl | rfl
          · exact ⟨he9, na2, (nLF nfa2).1, (nLF nfa2).2, noCell hd9⟩
          · exact ⟨hT9, HT, (nLF nfT).1, (nLF nfT).2, noCell hdT⟩
          · exact ⟨ga9, pin_a.2.1, (nLF nfa).1, (nLF nfa).2, noCell hd4⟩
        · exact J9.pin p (List.mem_append_right _ (List.mem_append_right _ z))
      refine gone_ok J9p hN hi hln fun s10 J10 => ?_
      have P10 : ∀ {b : Addr} {o : Obj}, (b, o) ∈ [(a2, oe9), (T, oT), (a, oe4)] → s10.heap.get? b = some o := fun {b o} z => (J10.pin (b, o) (List.mem_append_right _ (List.mem_append_left _ z))).1
      have he10 : s10.heap.get? a2 = some oe9 := P10 (by simp)
      have hT10 : s10.heap.get? T = some oT := P10 (by simp)
      have ga10 : s10.heap.get? a = some oe4 := P10 (by simp)
      obtain ⟨G, in1, in2⟩ := restrict s10.heap fun b => decide (b ≠ a2 ∧ b ≠ T)
      have two : ∀ {b : Addr}, b ∈ [a2, T] → b = a2 ∨ b = T := fun {b} hb => by simpa using hb
      have inG : ∀ b, b ∉ [a2, T] → G.get? b = s10.heap.get? b := fun b hb => in1 b (decide_eq_true ⟨fun q => hb (by rw [q]; simp), fun q => hb (by rw [q]; simp)⟩)
      have outG : ∀ b, b ∈ [a2, T] → G.get? b = none := fun b hb => in2 b (decide_eq_false fun q => (two hb).elim q.1 q.2)
      have fromG : ∀ b o, G.get? b = some o → s10.heap.get? b = some o := fun b o z => by
        by_cases hb : b ∈ [a2, T]
        · rw [outG b hb] at z; cases z
        · rw [← inG b hb]; exact z
      have nf2 : ∀ b ∈ [a2, T], B2.get? b = none ∧ b ∉ frs X.stack := fun b hb => by
        rcases two hb with rfl | rfl
        · exact ⟨B2none, by rw [hs]; exact nfa2⟩
        · exact ⟨hnT, by rw [hs]; exact nfT⟩
      have young : ∀ b ∈ [a2, T], X.s_0.heap.get? b = none := fun b hb => by
        cases z : X.s_0.heap.get? b with
        | none => rfl
        | some o =>
          obtain ⟨o', z'⟩ := J2.base.there b o z (fun q => by
            have q' : b ∈ X.ex := q
            rw [hex] at q'; cases q')
          have z1 := keep2 _ _ z' (nf2 b hb).2
          rw [(nf2 b hb).1] at z1; cases z1
      have H2n : ∀ b ∈ [a2, T], H2 b = none := fun b hb => (two hb).elim (fun q => by rw [q]; exact na2) fun q => by rw [q]; exact HT
      have J10n : Inv X pins ((σ1.set i (some (.ref a))).set i none) H2 s10 := J10.pins_of fun p hp => J10.pin p (List.mem_append_right _ (List.mem_append_right _ hp))
      have recPin : ∀ {b : Addr} {o : Obj} {vs : Array Value} {v : Option Value}, s10.heap.get? b = some o → o.data = .fields vs → s10.heap.IsCell b v → False := fun {b o vs v} z dz q => by
        obtain ⟨o2, e2, d2⟩ := q
        rw [z] at e2; cases e2
        rw [dz] at d2; cases d2
      have JG : Inv X pins ((σ1.set i (some (.ref a))).set i none) H2 { s10 with heap := G } := by
        refine invLess J10n inG young H2n (fun q => ?_) (fun y c ec q => ?_) (fun p hp q => ?_)
        · exact (two q).elim (fun z => (nLF nfa2).1 z.symm) fun z => (nLF nfT).1 z.symm
        · obtain ⟨v, z⟩ := J10n.cell y c ec
          exact (two q).elim (fun w => recPin he10 hd9 (by rw [← w]; exact z)) fun w => recPin hT10 hdT (by rw [← w]; exact z)
        · have z := (J2.pin p (List.mem_append_left _ (List.mem_cons_of_mem _ ((List.mem_append.mp hp).elim (fun z => List.mem_append_left _ z) fun z => List.mem_append_right _ (List.mem_append_right _ z))))).1
          have z1 := keep2 _ _ z (nf2 p.1 q).2
          rw [(nf2 p.1 q).1] at z1; cases z1
      have BGst : (PySem.W.hideAll G (frs X.stack)).StaysIn s10.heap := fun b o z => fromG b o (PySem.W.of_hideAll _ z)
      have BGno : ∀ b ∈ [a2, T], (PySem.W.hideAll G (frs X.stack)).get? b = none := fun b hb => by
        cases z : (PySem.W.hideAll G (frs X.stack)).get? b with
        | none => rfl
        | some o =>
          have z1 := PySem.W.of_hideAll _ z
          rw [outG b hb] at z1; cases z1
      have nTwo : a ∉ [a2, T] := fun q => by
        have z1 := nf2 a q
        rw [ga2] at z1
        exact absurd z1.1 (by simp)
      have gaG : (PySem.W.hideAll G (frs X.stack)).get? a = some oe4 := PySem.W.hideAll_get _ (by rw [inG a nTwo]; exact ga10) (by rw [hs]; exact nfa)
      have zo10 : Zo P H2 (PySem.W.hideAll G (frs X.stack)) cls2 d2 oe9 := ⟨hz9.1, hz9.2.1, fun vs hv => by
        exact ⟨a, oe4, vs4, hz9.2.2 vs hv, pin_a.2.1, gaG, hd4, hP⟩⟩
      have held10 : HandSPX.HeldZ (PySem.W.hideAll G (frs X.stack)) X.stack a2 (Zo P H2 (PySem.W.hideAll G (frs X.stack)) cls2 d2) X.env.locals s10.heap :=
        ⟨BGst, BGno a2 (by simp), funFrames_none J10n.stack fun b hb => PySem.W.hideAll_none _ hb, oe9, vs9, T, oT, ts, he10, zo10, hd9, h19, BGno T (by simp), hTa, hT10, hdT, h39⟩
      unfold PySem.passOn
      refine wpAny_bind (wpAny_field he10 hd9 h19 ?_)
      rw [if_neg (show ¬ ((Value.ref T == Value.none) = true) from by simp)]
      have fin : wpAny (model X.prog X.w) (X.A.mark (some (.ref a))) (setFlight (.ref a2) X.env.frame) (fun _ s4 => wpAny (model X.prog X.w) (X.A.mark (some (.ref a))) (throw (.ref a2) : Sem Flow) (fun _ _ => False)
          (notedBy (model X.prog X.w) (X.A.mark (some (.ref a))) X.env (cameBackBy (model X.prog X.w) X.A X.env X.xe)) s4) (notedBy (model X.prog X.w) (X.A.mark (some (.ref a))) X.env (cameBackBy (model X.prog X.w) X.A X.env X.xe)) s10 := by
        rw [hf]
        refine HandSPX.setFlight_onZ held10 fun h11 held11 up11 => wpAny_throw (hpa (some (.ref a)) _ _ (out _ _ ?_))
        exact ⟨a2, _, { s10 with heap := G }, pins, _, H2, cls2, d2, rfl, JG, fun b o z hb => PySem.W.hideAll_get _ z hb, (Heap.UpToSlots.of_keeps fromG).trans up11, held11, na2, rfl, J10n.bare, q2⟩
      first
        | exact wpAny_bind (wpAny_pure (wpAny_bind fin))
        | exact wpAny_bind fin
  · cases f with
    | next =>
      obtain ⟨σ', H', J', q⟩ := hsp
      exact wpAny_execs_nil ⟨σ', H', J'.ofTry ok, q⟩
    | brk =>
      obtain ⟨σ', H', J', q⟩ := hsp
      exact ⟨σ', H', J'.ofTry ok, q⟩
    | cont =>
      obtain ⟨σ', H', J', q⟩ := hsp
      exact ⟨σ', H', J'.ofTry ok, q⟩
    | ret u =>
      obtain ⟨v, σ', H', J', r, q⟩ := hsp
      exact ⟨v, σ', H', J'.ofTry ok, r, q⟩
end Tq
namespace Tq
open PySem PySem.Spec PyProof.Rows L2
/-! ### o.f as a target; xs[i] read by values -/
def gFld (K : PySem.W.Frag) (ta : TE) (f : Str) : TG := fun v σ H Q => ta σ H fun x H1 => ∃ a C dx fs, x = .ref a ∧ H1 a = some (.ins C dx fs) ∧ Cls K C ∧ NoAttr K C f ∧ fs.length < 1000 ∧ Q σ (upd H1 a (.ins C dx (putF f v fs)))
theorem pg_fld {X : Cx} {o : Expr} {f : Str} {pos : Pos} {ta : TE} (ho : PE X o ta) : PG X (.Attribute o f pos) (gFld X.K ta f) := by
  refine ⟨fun pins s σ H v u Q I r h => ?_⟩
  rw [assign_Attribute]
  refine wpAny_bind (wpAny_holding (thn (ho.run pins s σ H _ I h) fun ov s1 ⟨x, H1, I1, rx, a, C, dx, fs, ex, ea, c, n, l, q⟩ => ?_))
  subst ex
  obtain rfl : ov = Value.ref a := rx
  exact wpAny_bind (wpAny_standAt (wpAny_bind (wpAny_holding (setattr_ok I1 ea c n l r fun s2 I2 => wpAny_release ⟨σ, _, I2, q⟩))))
def rGetL (K : PySem.W.Frag) : V → V → Hp → VK → Prop := fun o i H Q => ∃ (p : Addr) (xs : List V) (k : Nat) (v : V), o = .ref p ∧ i = .int k ∧ SqL K H p xs ∧ xs[k]? = some v ∧ Q v H
theorem get_list {X : Cx} : PGet X (rGetL X.K) := by
  intro pins s σ H o i ov iv Q I r1 r2 h
  obtain ⟨p, xs, k, v, rfl, rfl, hq, hx, q⟩ := h
  cases r1
  obtain ⟨t, rfl⟩ := r2
  obtain ⟨its, rv, pl, hz⟩ := I.list hq
  obtain ⟨u, hu, ru⟩ := rv.get hx
  have hk : k < xs.length := (List.getElem?_eq_some_iff.mp hx).1
  have big := line63
  exact wpAny_getItem_list pl.isList (by omega) (by omega) (by simpa using hu) ⟨v, H, I, ru, q⟩
/-! ### a target of two, one of them a tuple of its own: nothing new is asked (pg_tup within pg_tup) -/
/-! ### a call of a built-in class with keywords -/
section
variable {M : Model} {A : Around} {E : Value → Shared → Prop} {s : Shared}
theorem callWith_tyK {pos : Pos} {T : String} {args : List (Bool × Sem Value)} {kws : List (Option Str × Sem Value)} {Q : Value → Shared → Prop} (h1 : args.any (·.1) = false) (h2 : kws.any (·.1.isNone) = false)
    (h : wpAny M A (evalArgs (.type T) true args kws) (fun a s1 => wpAny M A (call (.type T) a.pos a.kw) Q E s1) E s) : wpAny M A (callWith pos (.type T) [] args kws) Q E s := by
  unfold callWith
  refine wpAny_bind (wpAny_holding (wpAny_mono h (fun a s1 ha => wpAny_bind (wpAny_standAt ?_)) fun _ _ z => z))
  simp only [h1, h2, Bool.or_false]
  refine wpAny_bind (wpAny_pure ?_)
  exact wpAny_bind (wpAny_mono ha (fun r s2 hr => wpAny_bind (wpAny_holding (wpAny_point (wpAny_pure hr)))) fun _ _ z => z)
end
/-- the end of an enumerate whose count is any -/
theorem enum_endC {prog : Program} {w : World} {A : Around} {E : Value → Shared → Prop} {s : Shared} {e it l : Addr} {c : Int} {i : Nat} {items : Array Value} {old : Value} {Q : Option Value → Shared → Prop} (hh : A.handled = none)
    (he : IsEnum s.heap e it c old) (hit : s.heap.IsListIter it l i) (hl : s.heap.IsList l items) (hx : items[i]? = none) (hQ : ∀ h', Heap.ExtBut it s.heap h' → Q none { s with heap := h' }) : wpAny (model prog w) A (pyNext (.ref e)) Q E s := by
  have ty : s.TypeIs (.ref e) "enumerate" := ⟨_, he, rfl⟩
  unfold pyNext
  refine wpAny_bind (wpAny_attempt (wpAny_callSpecial?_slot (name := Str.ofString "__next__") ty F.slot_enumerate_next (wpAny_call_entry F.slot_enumerate_next ty F.entry_enumerate_next ?_ (F.args_enumerate_next_1 _))))
  show wpAny _ _ (field (.ref e) 2 >>= _) _ _ _
  refine wpAny_bind (wpAny_field he rfl (x := .ref it) rfl (wpAny_bind (wpAny_nextOf_list_end hh hit hl hx fun h' x he' hx' => ?_)))
  obtain ⟨o, ho, hc⟩ := hx'
  exact wpAny_bind (wpAny_isInstance (T := "StopIteration") (b := true) ⟨o, ho, hc⟩ isSubtype_stop (wpAny_pure (hQ _ he')))
/-- enumerate(list, start = k): pairs of k + i and the item -/
def IteS (K : PySem.W.Frag) (a : Addr) (k : Int) : It :=
  ⟨fun i H => ∃ (xs : List V) (x : V), SqL K H a xs ∧ xs[i]? = some x, fun i H v H' => ∃ T x, v = .ref T ∧ H T = none ∧ H' = upd H T (.tup [.int (k + (i : Nat)), x]) ∧ ∀ xs, SqL K H a xs → xs[i]? = some x, fun i H => ∃ xs : List V, SqL K H a xs ∧ xs.length ≤ i⟩
theorem turn_enumS {P : Program} {w : World} {K : PySem.W.Frag} {elts : List Expr} {kk : Nat} {tpos : Pos} (k : Int) (a e it : Addr) :
    Turn P w K (.Tuple elts kk tpos) (IteS K a k) [e, it] e (fun i h => (∃ old, IsEnum h e it (k + ((i : Nat) : Int)) old) ∧ h.IsListIter it a i ∧ e ≠ it) where
  mem := by simp
  obj := fun i h st b hb => by
    obtain ⟨⟨old, he⟩, ⟨o, ho, hc, hd⟩, _⟩ := st
    have two : b = e ∨ b = it := by simpa using hb
    rcases two with rfl | rfl
    · exact ⟨_, he, fun v q => nomatch q⟩
    · exact ⟨o, ho, fun v q => by rw [hd] at q; cases q⟩
  keep := fun i h h' st kp => ⟨st.1.elim fun old he => ⟨old, kp e (by simp) _ he⟩, st.2.1.at fun o q => kp it (by simp) o q, st.2.2⟩
  item := by
    intro X hP hw hK hc i pins s σ H E I hf st hg
    subst hP hw hK
    obtain ⟨⟨old, he⟩, hit, ne⟩ := st
    obtain ⟨xs, x, hq, hx⟩ := hg
    obtain ⟨its, rv, pl, hz⟩ := I.list hq
    obtain ⟨u, hu, ru⟩ := rv.get hx
    have le : e < s.heap.objs.size := Heap.lt_size he
    have li : it < s.heap.objs.size := by obtain ⟨_, q, _⟩ := hit; exact Heap.lt_size q
    have hh : X.A.in1.handled = none := I.ok.hd hc
    have nea : e ≠ a := fun z => by
      obtain ⟨o, ho, hcl, _⟩ := pl.isList
      rw [← z, he] at ho; cases ho
      exact absurd (show Value.type "enumerate" = Value.type "list" from hcl) (by decide)
    have nia : a ≠ it := fun z => by
      obtain ⟨o, ho, hcl, _⟩ := pl.isList
      obtain ⟨o2, ho2, hc2, _⟩ := hit
      rw [z, ho2] at ho; cases ho
      rw [hc2] at hcl
      exact absurd hcl (by decide)
    refine wpAny_pyNext_enum_itemC (Draws.list (prog := X.prog) (w := X.w) (A := X.A.in1) hh it a nia its.toArray) he ⟨hit, pl.isList⟩ (i := i) (by have := (List.getElem?_eq_some_iff.mp hu).1; simpa using this) ne (by simp [ne, nea]) fun y h' tk hy ho hst' hT hsz hk => ?_
    have hyu : y = u := by
      have z : its[i]? = some y := by simpa using hy
      rw [hu] at z; exact (Option.some.inj z).symm
    subst hyu
    obtain ⟨hit', _⟩ := hst'
    refine ⟨_, rfl, wpAny_letOwnedTupleGo_enum (s := { s with heap := h', toks := tk + 1 }) ho fun h'' he' sb => ?_⟩
    have hT2 : h''.get? s.heap.objs.size = some { cls := .type "tuple", data := .seq #[.int (k + i) tk, y] } := (sb.2 _ (Nat.ne_of_gt le)).trans hT
    have new : ObjOk X.prog X.w (upd H s.heap.objs.size (.tup [.int (k + (i : Nat)), x])) h'' s.heap.objs.size (.tup [.int (k + (i : Nat)), x]) :=
      ⟨by show 2 ≤ sizeLine; decide, [.int (k + i) tk, y], .cons ⟨_, rfl⟩ (.cons ru .nil), ⟨_, hT2, rfl, _, rfl⟩⟩
    have I1 : Inv X pins σ (upd H s.heap.objs.size (.tup [.int (k + (i : Nat)), x])) { s with heap := h'', toks := tk + 1 } :=
      I.turnedNew (ch := [e, it]) (fun b ob hb q => (sb.2 b (fun z => hb (by simp [z]))).trans (hk b ob (fun z => hb (by simp [z])) (fun z => hb (by simp [z])) q)) hf (Nat.le_refl _) new
    refine ⟨.ref s.heap.objs.size, _, I1, rfl, ⟨_, x, rfl, I.hok.fresh (Nat.le_refl _), rfl, fun ys hy => by rw [I.list_inj hy hq]; exact hx⟩, ⟨⟨y, ?_⟩, hit'.at fun o q => (sb.2 it (Ne.symm ne)).trans q, ne⟩, fun b hb => ?_⟩
    · rw [show k + ((i + 1 : Nat) : Int) = k + (i : Int) + 1 by omega]
      exact he'
    · have two : b = e ∨ b = it := by simpa using hb
      have lb : b < s.heap.objs.size := by rcases two with rfl | rfl; exact le; exact li
      rw [upd_ne (Nat.ne_of_lt lb)]
      exact (hf b hb).1
  done := by
    intro X hP hw hK hc i pins s σ H E I hf st hg
    subst hP hw hK
    obtain ⟨⟨old, he⟩, hit, ne⟩ := st
    obtain ⟨xs, hq, hx⟩ := hg
    obtain ⟨its, rv, pl, hz⟩ := I.list hq
    obtain ⟨f0, f1, f2, f3, f4, f5⟩ := hf it (by simp)
    have hl := rv.length
    have hh : X.A.in1.handled = none := I.ok.hd hc
    exact enum_endC (I.ok.hd hc) he hit pl.isList (by simp; omega) fun h' eb => ⟨rfl, I.turned (t' := s.toks) (fun b o hb q => eb b o hb q) f0 f1 f3 f4 f5⟩
  self := fun A i s Q E st h => st.1.elim fun old he => wpAny_pyIter_enum he h
def iEnumS (K : PySem.W.Frag) (k : Int) (ta : TA) : TI := fun σ H R => ta σ H fun vs H1 => ∃ a xs, vs = [.ref a] ∧ SqL K H1 a xs ∧ R (IteS K a k) H1
theorem pi_enumS {X : Cx} {e : Expr} {ta : TA} {p pos tpos kp cp : Pos} {elts : List Expr} {kk j : Nat} {k : Int} (hg : Gl X "enumerate") (hm : X.mg "enumerate" = none) (ha : PA X [e] ta) (k0 : -(2 ^ 63) ≤ k) (k1 : k < 2 ^ 63)
    (hs : starEach [e] X.env = [(false, eval e X.env)] := by rfl) :
    PI X (.Tuple elts kk tpos) (.Call (.Name "enumerate" p) [e] [⟨some "start", .Constant (.int k) j cp, kp⟩] pos) (iEnumS X.K k ta) := by
  refine ⟨fun pins s σ H R I h => ?_⟩
  refine wpAny_Call_Name_kw (ld_blt I hg hm boot_enumerate (callWith_tyK (by rw [hs]; rfl) rfl ?_))
  have hspl := ha.run pos pins s σ H _ I h
  rw [hs] at hspl ⊢
  refine evalArgs_kwB rfl (thn hspl fun us s1 ⟨vs, H1, I1, r1, q1⟩ => ?_)
  refine kws_cons (wpAny_Constant_int (kws_nil ?_))
  obtain ⟨a, xs, ex, hq, q⟩ := q1
  subst ex
  cases r1 with
  | cons r rr =>
    cases rr
    cases r
    have I1t : Inv X pins σ H1 { s1 with toks := s1.toks + 1 } := I1.tok _
    obtain ⟨its, rv, pl, hz⟩ := I1t.list hq
    refine enum_begins_start (begins_list a its.toArray) pl.isList k0 k1 fun h' he hit hsz hk => wpAny_pyIter_enum he ?_
    have I2 : Inv X pins σ H1 { s1 with heap := h', toks := s1.toks + 1 } := I1.kept (t' := s1.toks + 1) hk
    refine ⟨s1.heap.objs.size + 1, [s1.heap.objs.size + 1, s1.heap.objs.size], _, _, H1, rfl, I2, turn_enumS k a (s1.heap.objs.size + 1) s1.heap.objs.size, ⟨⟨.none, by simpa using he⟩, ⟨_, hit, rfl, rfl⟩, Nat.succ_ne_self _⟩, fun b hb => ?_, q⟩
    have two : b = s1.heap.objs.size + 1 ∨ b = s1.heap.objs.size := by simpa using hb
    have hle : s1.heap.objs.size ≤ b := by rcases two with rfl | rfl; exact Nat.le_add_right _ _; exact Nat.le_refl _
    exact I1.fpOk hle (I1.hok.fresh hle)
end Tq
namespace Tq
open PySem PySem.Spec PyProof.Rows L2 HotX
/-! ### y = [f(..) for x in l] in a def, f may raise (its context none) -/
abbrev Zn (cls : Value) (d : Option Addr) : Obj → Prop := L2N.Zn cls d
/-- flying, over a block -/
def XFly (X : Cx) (E : XK) (u : Value) (s' : Shared) : Prop :=
  ∃ (a : Addr) (B : Heap) (sI : Shared) (pins : List (Addr × Obj)) (σ : L2.St) (H : Hp) (cls : Value) (d : Option Addr),
    u = .ref a ∧ Inv X pins σ H sI ∧ (∀ b o, sI.heap.get? b = some o → b ∉ frs X.stack → B.get? b = some o) ∧ sI.heap.UpToSlots s'.heap ∧
      HandSPX.FlyingZ B X.stack a (Zn cls d) s'.heap ∧ H a = none ∧ s'.os = sI.os ∧ AllBare s'.gens ∧ E cls d H
theorem fly_passes {X : Cx} {E : XK} : Passes (L2N.CX X.prog X.w) (X.wish (XFly X E)) E := fun pins σ H s u s' I c => by
  have I := I.unwish
  obtain ⟨a, B, H', cls, d, rfl, fl, hok, ub, na, os, ag, hE⟩ := c
  have st : B.StaysIn s'.heap := fl.1
  obtain ⟨G, in1, in2⟩ := restrict s'.heap fun b => (B.get? b).isSome || decide (b ∈ frs X.stack)
  have ground : ∀ b o, B.get? b = some o → G.get? b = some o := fun b o e => by
    rw [in1 b (by simp [e])]; exact st b o e
  have frame : ∀ b, b ∈ frs X.stack → G.get? b = s'.heap.get? b := fun b hb => in1 b (by simp [hb])
  have back : ∀ b o, G.get? b = some o → s'.heap.get? b = some o ∧ ((B.get? b).isSome = true ∨ b ∈ frs X.stack) := fun b o e => by
    cases q : (B.get? b).isSome || decide (b ∈ frs X.stack) with
    | false => rw [in2 b q] at e; cases e
    | true => rw [in1 b q] at e; exact ⟨e, by simpa [Bool.or_eq_true] using q⟩
  have J : Inv X pins σ H' { s with heap := G, gens := s'.gens, drawn := s'.drawn, toks := s'.toks } := by
    refine I.call (ch := []) ⟨fun b o e n hb _ => ground b o (ub.keep b o e n hb), fun b o e n hb _ => ?_, fun b o e n _ => ub.free b o e n, fun b o e _ => ?_, ub.tups, ub.frzs, ub.tbls⟩ (hok.kept ground) ag (fun _ z => nomatch z)
    · obtain ⟨sl, q⟩ := ub.slot b o e hb
      exact ⟨sl, (frame b hb).trans q⟩
    · by_cases hb : b ∈ frs X.stack
      · obtain ⟨sl, q⟩ := ub.slot b o e hb
        exact ⟨_, (frame b hb).trans q⟩
      · obtain ⟨o', q⟩ := ub.there b o e hb
        exact ⟨o', ground b o' q⟩
  refine ⟨a, B, _, pins, σ, H', cls, d, rfl, J, fun b o e hb => ?_, Heap.UpToSlots.of_keeps fun b o e => (back b o e).1, fl, na, os, ag, hE⟩
  obtain ⟨e', z⟩ := back b o e
  rcases z with z | z
  · obtain ⟨o', q⟩ := Option.isSome_iff_exists.mp z
    have y := st b o' q
    rw [e'] at y; cases y
    exact q
  · exact absurd z hb
/-- it flies over X's def, whatever its flight's mark -/
theorem leave_any {X : Cx} {E : XK} {E' : Value → Shared → Prop} {s' sI : Shared} {pins : List (Addr × Obj)} {σ : L2.St} {H : Hp} {a : Addr} {B : Heap} {cls : Value} {d : Option Addr} {fl : Value}
    (hs : X.stack = X.env :: X.outer) (hf : X.env.frame = some X.env.locals) (hex : X.ex = []) (I : Inv X pins σ H sI) (nb : ∀ b o, sI.heap.get? b = some o → b ∉ frs X.stack → B.get? b = some o) (up : sI.heap.UpToSlots s'.heap)
    (hB : B.StaysIn s'.heap) (hn : B.get? a = none) (hl : s'.heap.FunFrames B (X.env :: X.outer)) (ht : HandSPX.TracedZ s'.heap B a (Zn cls d) fl) (na : H a = none) (os : s'.os = sI.os) (ag : AllBare s'.gens) (w : E cls d H) :
    wpAny (model X.prog X.w) X.A (leaving X.env (.ref a)) (fun _ s2 => L2N.CX X.prog X.w X.outer X.H_0 X.s_0 E (.ref a) s2) E' s' := by
  have hfr : X.A.frames = some (X.env :: X.outer) := by rw [I.ok.frames, hs]
  have nex : ∀ b, b ∉ X.ex := fun b hb => by rw [hex] at hb; cases hb
  have nst : ∀ b o, X.s_0.heap.get? b = some o → b ∉ X.fs → b ∉ frs X.stack := fun b o e hb hm => by
    rcases List.mem_cons.mp (I.stkSub b hm) with z | z
    · have h1 := Heap.lt_size e
      have h2 := I.ok.above
      rw [z] at h1
      exact (Nat.lt_irrefl _ (Nat.lt_of_lt_of_le h1 h2)).elim
    · exact hb z
  have fin : ∀ h', HandSPX.FlyingZ B X.outer a (Zn cls d) h' → s'.heap.UpToSlots h' → L2N.CX X.prog X.w X.outer X.H_0 X.s_0 E (.ref a) { s' with heap := h' } := fun h' fl up' => by
    refine ⟨a, B, H, cls, d, rfl, fl, I.inGround nb, ⟨fun b o e n hb => nb b o (I.base.keep b o e n hb (nex b)) (nst b o e hb), fun b o e hb => ?_, fun b o e n => I.base.free b o e n (nex b), fun b o e hb => ?_, I.base.tups, I.base.frzs, I.base.tbls⟩, na, os.trans I.os, ag, w⟩
    · obtain ⟨_, o2, e2, hnf⟩ := I.ok.funs.mem hb
      rw [e] at e2; cases e2
      obtain ⟨l1, q1⟩ := I.base.slot b o e (I.ok.frf b hb) hb (nex b)
      obtain ⟨l2, q2⟩ := up b _ q1 hnf
      obtain ⟨l3, q3⟩ := up' b _ q2 hnf
      exact ⟨l3, q3⟩
    · obtain ⟨o', q⟩ := I.base.there b o e (nex b)
      exact ⟨o', nb b o' q (nst b o e hb)⟩
  obtain ⟨oe, vs, T, oT, ts, he, hz, hd, h1, hnT, hTe, hT, hdT, h3⟩ := ht
  by_cases hm : (fl == rawInt X.env.locals) = true
  · have e3 : fl = rawInt X.env.locals := by
      simpa [rawInt] using hm
    subst e3
    exact HandSPX.leaves_heldZ hf ⟨hB, hn, hl, oe, vs, T, oT, ts, he, hz, hd, h1, hnT, hTe, hT, hdT, h3⟩ fin
  · unfold leaving noteFrame
    simp only [hf]
    refine wpAny_bind (wpAny_bind (wpAny_field he hd h1 ?_))
    rw [if_pos (show (Value.ref T != Value.none) = true from by simp)]
    refine wpAny_bind (wpAny_field hT hdT h3 ?_)
    rw [if_neg hm]
    refine wpAny_bind (wpAny_setField hT hdT (Array.getElem?_eq_some_iff.mp h3).1 ?_)
    have apart : ∀ b, b ≠ T → (s'.heap.update T (Obj.mapFields (·.setIfInBounds 3 Value.none))).get? b = s'.heap.get? b := fun b hb => Heap.get?_update_other _ _ hb.symm
    have notT : ∀ b o, s'.heap.get? b = some o → (∀ us, o.data ≠ .fields us) → b ≠ T := fun b o hb hnf q => by
      rw [q, hT] at hb; cases hb
      exact hnf ts hdT
    refine PySem.PXN.wpAny_newEntryZ (L2N.Zn.steady) hfr (hl.of_keeps fun b o hb hnf => ⟨o, (apart b (notT b o hb hnf)).trans hb, rfl⟩) hf ((apart a hTe.symm).trans he)
      (fun b o hbo => (apart b fun q => by rw [q, hnT] at hbo; cases hbo).trans (hB b o hbo)) hn hd (Array.getElem?_eq_some_iff.mp h1).1 hz fun h' hL => ?_
    obtain ⟨x1, ⟨_, _, x2⟩, x3, x4⟩ := hL
    exact fin h' ⟨x1, hn, x2, x3⟩ fun b o hb hnf => x4 b o ((apart b (notT b o hb hnf)).trans hb) hnf
/-- the frames, in a heap where they stand as they were, over another base -/
theorem frames_to {h h' B B' : Heap} : ∀ {l : List Env}, h.FunFrames B l → (∀ L ∈ frs l, h'.get? L = h.get? L ∧ B'.get? L = none) → h'.FunFrames B' l
  | [], _, _ => trivial
  | env :: l, hl, k => by
    obtain ⟨hk, ⟨L, o, hf, _, ho, hd⟩, hr⟩ := hl
    have hL : L ∈ frs (env :: l) := List.mem_filterMap.mpr ⟨env, List.mem_cons_self, hf⟩
    refine ⟨hk, ⟨L, o, hf, (k L hL).2, (k L hL).1.trans ho, hd⟩, frames_to hr fun b hb => ?_⟩
    obtain ⟨e, he, q⟩ := List.mem_filterMap.mp hb
    exact k b (List.mem_filterMap.mpr ⟨e, List.mem_cons_of_mem _ he, q⟩)
section
variable {X : Cx}
/-- an exception of the block, noted, leaves the comprehension; its variables are let go -/
theorem block_error {E : XK} {E1 : Value → Shared → Prop} {pins : List (Addr × Obj)} {σ : L2.St} {H3 : Hp} {s3 s10 : Shared} {scope : Scope} {ce : Env} {fp : List Addr} {C : Addr} {use : Option (Value → Sem Unit)} {Qf : Value → Shared → Prop} {acc u : Value}
    (hs : X.stack = X.env :: X.outer) (hf : X.env.frame = some X.env.locals) (hex : X.ex = []) (hx : X.xe = fun e s' => wpAny (model X.prog X.w) X.A (leaving X.env e) (fun _ s2 => L2N.CX X.prog X.w X.outer X.H_0 X.s_0 E e s2) E1 s')
    (I3 : Inv X pins σ H3 s3) (cL : ce.locals = C) (hC : s3.heap.objs.size ≤ C) (cF : ce.frame = X.env.frame) (hfp : ∀ b ∈ fp, FpOk X pins H3 b) (hb0 : ∀ b o, s3.heap.get? b = some o → b ≠ C)
    (x : XFly (X.blk s3 H3 scope ce fp) E u s10) : notedBy (model X.prog X.w) X.A ce (fun e s' => compPost (model X.prog X.w) X.A X.xe use Qf acc C (.error e) s') u s10 := by
  obtain ⟨a, B, sI, pB, σ', H', cls, d, rfl, Ib, nb, up, fl, na, os, ag, hE⟩ := x
  have hfr : X.A.frames = some (X.env :: X.outer) := by rw [I3.ok.frames, hs]
  have fl : HandSPX.FlyingZ B X.stack a (Zn cls d) s10.heap := fl
  rw [hs] at fl
  have en : noteFrame (.ref a) ce = noteFrame (.ref a) X.env := by
    unfold noteFrame PySem.frameOf
    rw [cF]
  show wpAny (model X.prog X.w) X.A (noteFrame (.ref a) ce) _ _ s10
  rw [en]
  refine PySem.PXN.looks_onZ L2N.Zn.steady hfr hf fl fun h1 held up1 => ?_
  obtain ⟨st1, hn1, ff1, oe, vs, T, oT, ts, he, hz, hd, hv1, hnT, hTa, hT, hdT, h3⟩ := held
  -- the block's own dict
  have nCf : C ∉ frs X.stack := fun hm => by
    obtain ⟨_, o, ho, _⟩ := I3.stack.mem hm
    exact absurd (Nat.lt_of_lt_of_le (Heap.lt_size ho) hC) (Nat.lt_irrefl _)
  obtain ⟨m, hns, _⟩ := Ib.loc
  have hns : sI.heap.Ns ce.locals m := hns
  rw [cL] at hns
  obtain ⟨oC, es, ep, hoC, rC⟩ := hns
  have gC : B.get? C = some oC := nb C oC hoC nCf
  have naC : a ≠ C := fun z => by rw [z, gC] at hn1; cases hn1
  have nTC : T ≠ C := fun z => by rw [z, gC] at hnT; cases hnT
  show ∃ m, h1.Ns C m ∧ _
  refine ⟨m, ⟨oC, es, ep, st1 _ _ gC, rC⟩, fun h2 sb cenv hcenv => ?_⟩
  have gC0 : H' C = none := by
    have z : H' ce.locals = none := Ib.free
    rw [cL] at z; exact z
  -- back in the def
  have ID : Inv X pins σ H' sI := I3.call' (ch := fp) Ib.os Ib.base Ib.hok Ib.bare fun b hb => ⟨(hfp b hb).2.2.2.1, (hfp b hb).2.1, (hfp b hb).2.2.2.2.1, (hfp b hb).2.2.2.2.2⟩
  obtain ⟨G, in1, in2⟩ := restrict sI.heap fun b => decide (b ≠ C)
  have inG : ∀ b, b ∉ [C] → G.get? b = sI.heap.get? b := fun b hb => in1 b (decide_eq_true (by simpa using hb))
  have fromG : ∀ b o, G.get? b = some o → b ≠ C ∧ sI.heap.get? b = some o := fun b o z => by
    by_cases hb : b = C
    · rw [in2 b (decide_eq_false (by simp [hb]))] at z; cases z
    · exact ⟨hb, by rw [← inG b (by simpa using hb)]; exact z⟩
  have IG : Inv X pins σ H' { sI with heap := G } := by
    refine invLess ID inG (fun b hb => ?_) (fun b hb => ?_) (fun z => ?_) (fun y c ec z => ?_) (fun p hp z => ?_)
    · have e : b = C := by simpa using hb
      subst e
      cases q : X.s_0.heap.get? b with
      | none => rfl
      | some o => exact absurd (Nat.lt_of_lt_of_le (Heap.lt_size q) (Nat.le_trans I3.sz hC)) (Nat.lt_irrefl _)
    · have e : b = C := by simpa using hb
      rw [e]; exact gC0
    · have e : X.env.locals = C := by simpa using z
      have := I3.lt
      rw [e] at this
      exact absurd (Nat.lt_of_lt_of_le this hC) (Nat.lt_irrefl _)
    · have e : c = C := by simpa using z
      obtain ⟨v, q⟩ := I3.cell y c ec
      have := q.lt
      rw [e] at this
      exact absurd (Nat.lt_of_lt_of_le this hC) (Nat.lt_irrefl _)
    · have e : p.1 = C := by simpa using z
      have := Heap.lt_size (I3.pin p hp).1
      rw [e] at this
      exact absurd (Nat.lt_of_lt_of_le this hC) (Nat.lt_irrefl _)
  have B2st : (PySem.W.hideAll B [C]).StaysIn h2 := fun b o z => by
    have z1 := PySem.W.of_hideAll _ z
    have nC : b ≠ C := fun q => by
      have z2 : (PySem.W.hideAll B [C]).get? b = none := PySem.W.hideAll_none _ (by simp [q])
      rw [z2] at z; cases z
    exact (sb.2 b nC).trans (st1 b o z1)
  have none2 : ∀ b, B.get? b = none → (PySem.W.hideAll B [C]).get? b = none := fun b z => by
    cases q : (PySem.W.hideAll B [C]).get? b with
    | none => rfl
    | some o =>
      have z1 := PySem.W.of_hideAll _ q
      rw [z] at z1; cases z1
  have ff2 : h2.FunFrames (PySem.W.hideAll B [C]) (X.env :: X.outer) := frames_to ff1 fun L hL => by
    have hL' : L ∈ frs X.stack := by rw [hs]; exact hL
    refine ⟨sb.2 L fun q => nCf (q ▸ hL'), none2 L ?_⟩
    exact (ff1.mem hL).1
  unfold PySem.passOn
  refine wpAny_bind (wpAny_field ((sb.2 a naC).trans he) hd hv1 ?_)
  rw [if_neg (show ¬ ((Value.ref T == Value.none) = true) from by simp)]
  have fin : wpAny (model X.prog X.w) X.A (setFlight (.ref a) cenv.frame) (fun _ s4 => wpAny (model X.prog X.w) X.A (throw (.ref a) : Sem Value) (fun _ _ => False) X.xe s4) X.xe { s10 with heap := h2 } := by
    refine HandSPX.setFlight_anyZ (base := PySem.W.hideAll B [C]) (l := X.env :: X.outer) (Z := Zn cls d) B2st ff2 ⟨oe, vs, T, oT, ts, (sb.2 a naC).trans he, hz, hd, hv1, none2 T hnT, hTa, (sb.2 T nTC).trans hT, hdT, h3⟩ fun h4 st4 ff4 tr4 up4 => wpAny_throw ?_
    rw [hx]
    refine leave_any (B := PySem.W.hideAll B [C]) (sI := { sI with heap := G }) hs hf hex IG (fun b o z hb => ?_) (fun b o z hnf => ?_) st4 (none2 a hn1) ff4 tr4 na os ag hE
    · obtain ⟨z1, z2⟩ := fromG b o z
      exact PySem.W.hideAll_get _ (nb b o z2 hb) (by simpa using z1)
    · obtain ⟨z1, z2⟩ := fromG b o z
      obtain ⟨l1, q1⟩ := up b o z2 hnf
      obtain ⟨l2, q2⟩ := up1 b _ q1 hnf
      have q3 : h2.get? b = _ := (show h2.get? b = h1.get? b from sb.2 b z1).trans q2
      obtain ⟨l3, q4⟩ := up4 b _ q3 hnf
      exact ⟨l3, q4⟩
  first
    | exact wpAny_bind (wpAny_pure (wpAny_bind fin))
    | exact wpAny_bind fin
/-- the loop of the block, whose element may raise -/
theorem lc_coreR {E : XK} {E1 : Value → Shared → Prop} {pins : List (Addr × Obj)} {s : Shared} {σ : L2.St} {H : Hp} {Q : VK} {elt tg iter : Expr} {ifs : List Expr} {scope : Scope} {own : List (Str × Nat)} {pos pos' : Pos} {wi : TI} {g : TG} {tt : TT} {te : TE} {use : Option (Value → Sem Unit)} {Qf : Value → Shared → Prop}
    (hs : X.stack = X.env :: X.outer) (hf : X.env.frame = some X.env.locals) (hex : X.ex = []) (hx : X.xe = fun e s' => wpAny (model X.prog X.w) X.A (leaving X.env e) (fun _ s2 => L2N.CX X.prog X.w X.outer X.H_0 X.s_0 E e s2) E1 s')
    (hc : X.calm = true) (hN : X.N.Nodup) (I : Inv X pins σ H s) (hi : PI X tg iter wi) (ok : BlkOk X.N X.env.scope scope own)
    (hg : ∀ (s : Shared) (H : Hp) (C : Addr) (cl : List (Str × Addr)) (fp : List Addr), PG (X.blk s H scope (compEnvC scope cl C X.env) fp) tg g) (ht : ∀ (s : Shared) (H : Hp) (C : Addr) (cl : List (Str × Addr)) (fp : List Addr), PTs (X.blk s H scope (compEnvC scope cl C X.env) fp) ifs tt)
    (he : ∀ (s : Shared) (H : Hp) (C : Addr) (cl : List (Str × Addr)) (fp : List Addr) (xe : Value → Shared → Prop), Passes (L2N.CX X.prog X.w) ((X.blk s H scope (compEnvC scope cl C X.env) fp).wish xe) E → PE ((X.blk s H scope (compEnvC scope cl C X.env) fp).wish xe) elt te) (hfs : ∀ x, foldedSetIterable iter X.env x = pure x)
    (h : tLc wi g tt te (own.map (·.2)) σ H Q)
    (hRR : ∀ D C s' m H', Inv X pins σ H' s' → Q (.ref D) H' → s'.heap.Ns C m → FpOk X pins H' C → compPost (model X.prog X.w) X.A X.xe use Qf (.ref D) C (.ok .next) s') :
    wpAny (model X.prog X.w) X.A (comprehension (.ListComp elt [⟨tg, iter, ifs, 0⟩] scope pos) scope X.env pos' (newList []) false (eval iter X.env) use) Qf X.xe s := by
  have hfree : ∀ y ∈ scope.names, y.2 = .free → ∃ c, X.env.cells.lookup y.1 = some c := fun y hy e => (ok.free y hy e).elim (fun k => I.ok.has _ (.inl k)) fun k => I.ok.has _ (.inr k)
  refine wpAny_comprehension_free (use := use) rfl hfs (closure_ok hfree) ok.kind (fun y hy e => by rw [ok.uniq y hy, e]) (thn (hi.run pins s σ H _ I h) fun xv s1 hx1 => thn hx1 fun itv s2 h2 => ?_)
  obtain ⟨it, fp, tn, J, H2, e, I2, T, st2, f2, q⟩ := h2
  subst e
  refine wpAny_newObj_type (newEnv_comp ?_) (by show 0 ≤ sizeLine; decide)
  generalize hD : s2.heap.objs.size = D
  obtain ⟨W, ⟨m0, w0⟩, turn⟩ := q D (I2.hok.fresh (Nat.le_of_eq hD))
  generalize hs3 : ({ s2 with heap := s2.heap.push { cls := .type "list", data := .seq ([] : List Value).toArray } } : Shared) = s3
  have I3 : Inv X pins σ (upd H2 D (.lst [])) s3 := by
    rw [← hs3]
    refine I2.laid (t' := s2.toks) (fun b o e => Heap.get?_push_of_some _ e) (Nat.le_of_eq hD) ⟨Nat.zero_le _, [], 0, .nil, ?_⟩
    rw [← hD]
    exact Heap.get?_push_size _ rfl
  have h3 : s3.heap = s2.heap.push { cls := .type "list", data := .seq ([] : List Value).toArray } := by rw [← hs3]
  have f3 : ∀ b ∈ fp, FpOk X pins (upd H2 D (.lst [])) b ∧ b < s3.heap.objs.size := fun b hb => by
    obtain ⟨o, eo, _⟩ := T.obj _ _ st2 b hb
    have lt := Heap.lt_size eo
    refine ⟨⟨?_, (f2 b hb).2⟩, by rw [h3, Heap.size_push]; exact Nat.lt_succ_of_lt lt⟩
    rw [upd_ne (by rw [← hD]; exact Nat.ne_of_lt lt)]
    exact (f2 b hb).1
  have st3 : tn 0 s3.heap := T.keep _ _ _ st2 fun b _ o e => by rw [h3]; exact Heap.get?_push_of_some _ e
  have I4 := block_start I3 ok hN f3
  have pg := hg s3 (upd H2 D (.lst [])) s3.heap.objs.size (cellsFrom (s3.heap.objs.size + 1) scope.names (cloFrom X.env.cells scope.names [])) fp
  have pt := ht s3 (upd H2 D (.lst [])) s3.heap.objs.size (cellsFrom (s3.heap.objs.size + 1) scope.names (cloFrom X.env.cells scope.names [])) fp
  have pe := fun xe => he s3 (upd H2 D (.lst [])) s3.heap.objs.size (cellsFrom (s3.heap.objs.size + 1) scope.names (cloFrom X.env.cells scope.names [])) fp xe
  show codeAny _ _ (.compStart (.ListComp elt [⟨tg, iter, ifs, 0⟩] scope pos) 0 (.ref it) (.ref D) (compEnvC scope (cellsFrom (s3.heap.objs.size + 1) scope.names (cloFrom X.env.cells scope.names [])) s3.heap.objs.size X.env)) (compPost (model X.prog X.w) X.A X.xe use Qf (.ref D) s3.heap.objs.size) { s3 with heap := pushCells (s3.heap.push { cls := .type "dict", data := .dict #[] }) scope.names }
  have nfp : ∀ b ∈ fp, (upd H2 D (.lst [])) b = none := fun b hb => (f3 b hb).1.1
  generalize hce : compEnvC scope (cellsFrom (s3.heap.objs.size + 1) scope.names (cloFrom X.env.cells scope.names [])) s3.heap.objs.size X.env = ce at I4 pg pt pe ⊢
  have cL : ce.locals = s3.heap.objs.size := by subst hce; rfl
  have cF : ce.frame = X.env.frame := by subst hce; rfl
  generalize upd H2 D (.lst []) = H3 at I3 I4 pg pt pe w0 nfp f3
  generalize hs4 : ({ s3 with heap := pushCells (s3.heap.push { cls := .type "dict", data := .dict #[] }) scope.names } : Shared) = s4 at I4 ⊢
  have st4 : tn 0 s4.heap := T.keep _ _ _ st3 fun b _ o e => by rw [← hs4]; exact pushCells_keeps _ _ _ _ (Heap.get?_push_of_some _ e)
  have stat : ∀ {σ' : L2.St} {H' : Hp} {s' : Shared}, Inv (X.blk s3 H3 scope ce fp) [] σ' H' s' → (∀ b ∈ fp, H' b = none) → ∀ b ∈ fp, FpOk (X.blk s3 H3 scope ce fp) [] H' b := fun {σ' H' s'} I' hn b hb =>
    ⟨hn b hb, (I'.ok.exf b hb).1, I'.ok.exfs b hb, .inl hb, fun x c e => (I'.ok.exf b hb).2 x c e, fun p hp => absurd (show p ∈ ([] : List (Addr × Obj)) ++ [] from hp) (by simp)⟩
  have loop : codeAny (model X.prog X.w) X.A (.compLoop (.ListComp elt [⟨tg, iter, ifs, 0⟩] scope pos) 0 (.ref it) (.ref D) ce) (compPost (model X.prog X.w) X.A X.xe use Qf (.ref D) s3.heap.objs.size) s4 := by
    refine compLoop_any (fun n s' => ∃ i H', Inv (X.blk s3 H3 scope ce fp) [] (wipe σ (own.map (·.2))) H' s' ∧ tn i s'.heap ∧ (∀ b ∈ fp, H' b = none) ∧ W i n H') ?_ m0 ⟨0, H3, I4, st4, nfp, w0⟩
    rintro n s5 ⟨i, H5, I5, st5, n5, w5⟩
    rcases turn i n H5 w5 with ⟨stop, qq⟩ | ⟨go, Nx, hNx, step⟩
    · refine thnF (T.done (X.blk s3 H3 scope ce fp) rfl rfl rfl hc i [] s5 _ H5 (fun _ _ => False) I5 (stat I5 n5) st5 stop) fun r s6 ⟨hr, I6⟩ => ?_
      subst hr
      have I7 : Inv X pins σ H5 s6 := I3.call' (ch := fp) I6.os I6.base I6.hok I6.bare fun b hb => ⟨(f3 b hb).1.2.2.2.1, (f3 b hb).1.2.1, (f3 b hb).1.2.2.2.2.1, (f3 b hb).1.2.2.2.2.2⟩
      have nC : H5 s3.heap.objs.size = none := by
        have z : H5 ce.locals = none := I6.free
        rw [cL] at z
        exact z
      obtain ⟨m, hn, _⟩ := I6.loc
      have hn : s6.heap.Ns ce.locals m := hn
      rw [cL] at hn
      exact hRR D s3.heap.objs.size s6 m H5 I7 qq hn (I3.fpOk (Nat.le_refl _) nC)
    · refine thnF (T.item (X.blk s3 H3 scope ce fp) rfl rfl rfl hc i [] s5 _ H5 (fun _ _ => False) I5 (stat I5 n5) st5 go) fun r s6 ⟨u, hr, h6⟩ => ?_
      subst hr
      refine thnF h6 fun _ s7 ⟨x, H7, I7, r7, y7, st7, n7⟩ => ?_
      have I7' := I7.pinned (stat I7 n7) (T.obj _ _ st7)
      refine thnF (pg.run _ s7 _ H7 x u _ I7' r7 (step x H7 y7)) fun _ s8 ⟨σ8, H8, I8, hw8, q8⟩ => ?_
      refine thnF (pt.run _ s8 σ8 H8 _ I8 q8) fun b s9 ⟨H9, I9, q9⟩ => ?_
      have fin : ∀ {s' : Shared} {H' : Hp}, Inv (X.blk s3 H3 scope ce fp) ([] ++ pinsAt fp s7.heap) σ8 H' s' → Nx H' → ∃ m, m < n ∧ ∃ i H', Inv (X.blk s3 H3 scope ce fp) [] (wipe σ (own.map (·.2))) H' s' ∧ tn i s'.heap ∧ (∀ b ∈ fp, H' b = none) ∧ W i m H' := fun {s' H'} I' nx => by
        obtain ⟨m', hm, w'⟩ := hNx H' nx
        have pin' : ∀ b ∈ fp, ∀ o, s7.heap.get? b = some o → s'.heap.get? b = some o ∧ H' b = none := fun b hb o e =>
          let z := I'.pin (b, o) (List.mem_append_right _ (List.mem_append_right _ (mem_pinsAt hb e)))
          ⟨z.1, z.2.1⟩
        refine ⟨m', hm, i + 1, H', (I'.unpinned (pins := [])).weak (by rw [← hw8, wipe_length]) (fun j v e => ?_), T.keep _ _ _ st7 fun b hb o e => (pin' b hb o e).1, fun b hb => ?_, w'⟩
        · rw [← hw8] at e
          exact (wipe_some e).1
        · obtain ⟨o, e, _⟩ := T.obj _ _ st7 b hb
          exact (pin' b hb o e).2
      cases b with
      | false =>
        simp only [Bool.false_eq_true, if_false] at q9 ⊢
        exact fin I9 q9
      | true =>
        simp only [if_true] at q9 ⊢
        refine wpAny_mono ((pe _ fly_passes).run _ s9 σ8 H9 _ (I9.wish _) q9) (fun z s10 ⟨yv, H10, I10, r10, acc, hD10, hz10, nx⟩ => ?_) fun v s10 air => ?_
        · have I10 := I10.unwish
          exact wpAny_mono (app_ok (X := X.blk s3 H3 scope ce fp) (E := fun _ _ => False) I10 hD10 hz10 r10 fun s11 I11 => fin I11 nx) (fun _ _ z => z) fun _ _ z => False.elim z
        · exact block_error hs hf hex hx I3 cL (Nat.le_refl _) cF (fun b hb => (f3 b hb).1) (fun b o e => Nat.ne_of_lt (Heap.lt_size e)) air
  exact codeAny_compStart_list loop (T.self X.A 0 _ _ _ st4 loop)
/-- y = [f(..) for x in l] on one line, y a local -/
theorem ps_setLcR {E : XK} {E1 : Value → Shared → Prop} {i : Nat} {y : Str} {py : Pos} {elt tg iter : Expr} {ifs : List Expr} {scope : Scope} {own : List (Str × Nat)} {pos spos : Pos} {wi : TI} {g : TG} {tt : TT} {te : TE}
    (hs : X.stack = X.env :: X.outer) (hf : X.env.frame = some X.env.locals) (hex : X.ex = []) (hx : X.xe = fun e s' => wpAny (model X.prog X.w) X.A (leaving X.env e) (fun _ s2 => L2N.CX X.prog X.w X.outer X.H_0 X.s_0 E e s2) E1 s')
    (hc : X.calm = true) (hN : X.N.Nodup) (hy : X.N[i]? = some y) (hyl : X.env.scope.names.lookup y = some .local) (hsw : swapsWith (.ListComp elt [⟨tg, iter, ifs, 0⟩] scope pos) (some (.Name y py)) spos.line X.env = pure true) (hi : PI X tg iter wi) (ok : BlkOk X.N X.env.scope scope own)
    (hg : ∀ (s : Shared) (H : Hp) (C : Addr) (cl : List (Str × Addr)) (fp : List Addr), PG (X.blk s H scope (compEnvC scope cl C X.env) fp) tg g) (ht : ∀ (s : Shared) (H : Hp) (C : Addr) (cl : List (Str × Addr)) (fp : List Addr), PTs (X.blk s H scope (compEnvC scope cl C X.env) fp) ifs tt)
    (he : ∀ (s : Shared) (H : Hp) (C : Addr) (cl : List (Str × Addr)) (fp : List Addr) (xe : Value → Shared → Prop), Passes (L2N.CX X.prog X.w) ((X.blk s H scope (compEnvC scope cl C X.env) fp).wish xe) E → PE ((X.blk s H scope (compEnvC scope cl C X.env) fp).wish xe) elt te)
    (hfs : ∀ x, foldedSetIterable iter X.env x = pure x := by intro _; rfl) :
    PS X (.Assign [.Name y py] (.ListComp elt [⟨tg, iter, ifs, 0⟩] scope pos) spos) (tAsg (tLc wi g tt te (own.map (·.2))) (gName i)) := by
  refine ⟨fun pins s σ H D I h => ?_⟩
  rw [exec_Assign_Name_used _ _ _ _ hsw]
  refine wpAny_bind (wpAny_standAt (wpAny_bind ?_))
  show wpAny _ X.A (do let _ ← comprehension (.ListComp elt [⟨tg, iter, ifs, 0⟩] scope pos) scope X.env (firstIterPos [⟨tg, iter, ifs, 0⟩] pos) (newList []) false (eval iter X.env) (some (assign (.Name y py) X.env))) _ _ s
  have h : tLc wi g tt te (own.map (·.2)) σ H (fun x H1 => gName i x σ H1 D.nx) := h
  refine wpAny_bind (thn (lc_coreR (Qf := fun _ s' => SP X pins D .next s') hs hf hex hx hc hN I hi ok hg ht he hfs h fun L C s' m H' I' q hn f => ?_) fun _ s' hq => wpAny_pure (wpAny_pure hq))
  show wpAny _ _ (assign (.Name y py) X.env (.ref L)) _ _ _
  refine wpAny_assign_Name (store_ok2 (v := V.ref L) I' hN hy (.inl hyl) rfl (fun s2 I2 ⟨a, sb, ha⟩ => ?_) (.inr hyl))
  obtain ⟨f0, f1, f2, f3, f4, f5⟩ := f
  have haC : C ≠ a := by
    rcases ha with z | z
    · rw [z]; exact f1
    · exact fun e => f4 y a z e.symm
  exact ⟨m, hn.sameBut sb haC, fun h3 sb3 => ⟨_, H', I2.turned (t' := s2.toks) (fun b o hb e => (sb3.2 b hb).trans e) f0 f1 f3 f4 f5, q⟩⟩
end
end Tq
/-! # The text: where each def stands, its names; what the head tells -/
namespace Tote
open PySem PySem.Spec PyProof.Rows L2
def top (i : Nat) : Stmt := PySem.Challenge.pw_toteplants_s01_answers.main.body.getD i (.Pass ⟨0, 0, 0, 0⟩)

abbrev s_LineFault_init : Stmt := inClass (top 14) 0
abbrev s_want : Stmt := top 15
abbrev s_is_byte : Stmt := top 16
abbrev s_is_text : Stmt := top 17
abbrev s_sign_of : Stmt := top 18
abbrev s_lines_of : Stmt := top 19
abbrev s_is_name : Stmt := top 20
abbrev s_number_in : Stmt := top 21
abbrev s_Words_init : Stmt := inClass (top 22) 0
abbrev s_Words_is_over : Stmt := inClass (top 22) 1
abbrev s_Words_take : Stmt := inClass (top 22) 2
abbrev s_Words_sees : Stmt := inClass (top 22) 3
abbrev s_Words_take_told : Stmt := inClass (top 22) 4
abbrev s_Words_take_name : Stmt := inClass (top 22) 5
abbrev s_Words_take_number : Stmt := inClass (top 22) 6
abbrev s_Words_take_end : Stmt := inClass (top 22) 7
abbrev s_Plant_init : Stmt := inClass (top 35) 0
abbrev s_Plant_how_many : Stmt := inClass (top 35) 1
abbrev s_Plant_put_name : Stmt := inClass (top 35) 2
abbrev s_Plant_put_chute : Stmt := inClass (top 35) 3
abbrev s_Plant_put_belt : Stmt := inClass (top 35) 4
abbrev s_Plant_set_goal : Stmt := inClass (top 35) 5
abbrev s_Plant_put_eye : Stmt := inClass (top 35) 6
abbrev s_Plant_put_pusher : Stmt := inClass (top 35) 7
abbrev s_Plant_put_rule : Stmt := inClass (top 35) 8
abbrev s_Plant_put_parcel : Stmt := inClass (top 35) 9
abbrev s_want_new : Stmt := top 36
abbrev s_number_of : Stmt := top 37
abbrev s_belt_with : Stmt := top 38
abbrev s_goal_of : Stmt := top 39
abbrev s_Parcel_init : Stmt := inClass (top 41) 0
abbrev s_Parcel_told : Stmt := inClass (top 41) 1
abbrev s_Parcel_covers : Stmt := inClass (top 41) 2
abbrev s_Floor_init : Stmt := inClass (top 42) 0
abbrev s_Floor_put_parcel : Stmt := inClass (top 42) 1
abbrev s_Floor_begin_tick : Stmt := inClass (top 42) 2
abbrev s_Floor_go : Stmt := inClass (top 42) 3
abbrev s_Floor_at_place : Stmt := inClass (top 42) 4
abbrev s_Floor_of_kind : Stmt := inClass (top 42) 5
abbrev s_Floor_on_belt : Stmt := inClass (top 42) 6
abbrev s_Floor_has_room : Stmt := inClass (top 42) 7
abbrev s_Floor_is_free : Stmt := inClass (top 42) 8
abbrev s_Floor_can_go : Stmt := inClass (top 42) 9
abbrev s_Floor_do_push : Stmt := inClass (top 42) 10
abbrev s_Floor_do_pushes : Stmt := inClass (top 42) 11
abbrev s_Floor_advance : Stmt := inClass (top 42) 12
abbrev s_Floor_do_belts : Stmt := inClass (top 42) 13
abbrev s_Floor_do_feeds : Stmt := inClass (top 42) 14
abbrev s_Floor_holds : Stmt := inClass (top 42) 15
abbrev s_Floor_first_rule : Stmt := inClass (top 42) 16
abbrev s_Floor_see : Stmt := inClass (top 42) 17
abbrev s_Floor_do_eyes : Stmt := inClass (top 42) 18
abbrev s_Floor_do_tick : Stmt := inClass (top 42) 19
abbrev s_Floor_is_done : Stmt := inClass (top 42) 20
abbrev s_TextFault_init : Stmt := inClass (top 52) 0
abbrev s_read_goal : Stmt := top 53
abbrev s_do_chute : Stmt := top 54
abbrev s_do_belt : Stmt := top 55
abbrev s_do_lead : Stmt := top 56
abbrev s_do_eye : Stmt := top 57
abbrev s_do_pusher : Stmt := top 58
abbrev s_read_term : Stmt := top 59
abbrev s_read_condition : Stmt := top 60
abbrev s_known_term : Stmt := top 61
abbrev s_do_rule : Stmt := top 62
abbrev s_do_feed : Stmt := top 63
abbrev s_do_line : Stmt := top 65
abbrev s_read_line : Stmt := top 66
abbrev s_read_plant : Stmt := top 67
abbrev s_Refused_init : Stmt := inClass (top 73) 0
abbrev s_refuse_unless : Stmt := top 74
abbrev s_counted : Stmt := top 75
abbrev s_Desk_init : Stmt := inClass (top 76) 0
abbrev s_Desk_load : Stmt := inClass (top 76) 1
abbrev s_Desk_want_loaded : Stmt := inClass (top 76) 2
abbrev s_Desk_places : Stmt := inClass (top 76) 3
abbrev s_Desk_run : Stmt := inClass (top 76) 4
abbrev s_Desk_all_parcels : Stmt := inClass (top 76) 5
abbrev s_Desk_belt_told : Stmt := inClass (top 76) 6
abbrev s_Desk_chutes : Stmt := inClass (top 76) 7
abbrev s_Desk_sensors : Stmt := inClass (top 76) 8
abbrev s_Desk_rules_told : Stmt := inClass (top 76) 9
abbrev s_Desk_pushers_told : Stmt := inClass (top 76) 10
abbrev s_Desk_waiting : Stmt := inClass (top 76) 11
abbrev s_Desk_reset : Stmt := inClass (top 76) 12
abbrev s_Desk_feed : Stmt := inClass (top 76) 13
abbrev s_Desk_run_until_done : Stmt := inClass (top 76) 14
abbrev s_told : Stmt := top 80
abbrev s_answered : Stmt := top 81
abbrev s_answers : Stmt := top 82
theorem sc_LineFault_init : FnScope ["self", "code"] ["self", "code"] (defScope s_LineFault_init) := ⟨rfl, rfl, rfl, by decide +kernel, rfl, by decide +kernel, by decide +kernel⟩
theorem sc_want : FnScope ["is_so", "code"] ["is_so", "code"] (defScope s_want) := ⟨rfl, rfl, rfl, by decide +kernel, rfl, by decide +kernel, by decide +kernel⟩
theorem sc_is_byte : FnScope ["number"] ["number"] (defScope s_is_byte) := ⟨rfl, rfl, rfl, by decide +kernel, rfl, by decide +kernel, by decide +kernel⟩
theorem sc_is_text : FnScope ["numbers", "number"] ["numbers"] (defScope s_is_text) := ⟨rfl, rfl, rfl, by decide +kernel, rfl, by decide +kernel, by decide +kernel⟩
theorem sc_sign_of : FnScope ["byte"] ["byte"] (defScope s_sign_of) := ⟨rfl, rfl, rfl, by decide +kernel, rfl, by decide +kernel, by decide +kernel⟩
theorem sc_lines_of : FnScope ["text", "lines", "word", "byte"] ["text"] (defScope s_lines_of) := ⟨rfl, rfl, rfl, by decide +kernel, rfl, by decide +kernel, by decide +kernel⟩
theorem sc_is_name : FnScope ["word", "sign"] ["word"] (defScope s_is_name) := ⟨rfl, rfl, rfl, by decide +kernel, rfl, by decide +kernel, by decide +kernel⟩
theorem sc_number_in : FnScope ["word", "sign"] ["word"] (defScope s_number_in) := ⟨rfl, rfl, rfl, by decide +kernel, rfl, by decide +kernel, by decide +kernel⟩
theorem sc_Words_init : FnScope ["self", "row"] ["self", "row"] (defScope s_Words_init) := ⟨rfl, rfl, rfl, by decide +kernel, rfl, by decide +kernel, by decide +kernel⟩
theorem sc_Words_is_over : FnScope ["self"] ["self"] (defScope s_Words_is_over) := ⟨rfl, rfl, rfl, by decide +kernel, rfl, by decide +kernel, by decide +kernel⟩
theorem sc_Words_take : FnScope ["self"] ["self"] (defScope s_Words_take) := ⟨rfl, rfl, rfl, by decide +kernel, rfl, by decide +kernel, by decide +kernel⟩
theorem sc_Words_sees : FnScope ["self", "word"] ["self", "word"] (defScope s_Words_sees) := ⟨rfl, rfl, rfl, by decide +kernel, rfl, by decide +kernel, by decide +kernel⟩
theorem sc_Words_take_told : FnScope ["self", "word"] ["self", "word"] (defScope s_Words_take_told) := ⟨rfl, rfl, rfl, by decide +kernel, rfl, by decide +kernel, by decide +kernel⟩
theorem sc_Words_take_name : FnScope ["self", "word"] ["self"] (defScope s_Words_take_name) := ⟨rfl, rfl, rfl, by decide +kernel, rfl, by decide +kernel, by decide +kernel⟩
theorem sc_Words_take_number : FnScope ["self", "least", "most", "number"] ["self", "least", "most"] (defScope s_Words_take_number) := ⟨rfl, rfl, rfl, by decide +kernel, rfl, by decide +kernel, by decide +kernel⟩
theorem sc_Words_take_end : FnScope ["self"] ["self"] (defScope s_Words_take_end) := ⟨rfl, rfl, rfl, by decide +kernel, rfl, by decide +kernel, by decide +kernel⟩
theorem sc_Plant_init : FnScope ["self"] ["self"] (defScope s_Plant_init) := ⟨rfl, rfl, rfl, by decide +kernel, rfl, by decide +kernel, by decide +kernel⟩
theorem sc_Plant_how_many : FnScope ["self", "kind", "own", "number"] ["self", "kind"] (defScope s_Plant_how_many) := ⟨rfl, rfl, rfl, by decide +kernel, rfl, by decide +kernel, by decide +kernel⟩
theorem sc_Plant_put_name : FnScope ["self", "kind", "name"] ["self", "kind", "name"] (defScope s_Plant_put_name) := ⟨rfl, rfl, rfl, by decide +kernel, rfl, by decide +kernel, by decide +kernel⟩
theorem sc_Plant_put_chute : FnScope ["self", "name", "room"] ["self", "name", "room"] (defScope s_Plant_put_chute) := ⟨rfl, rfl, rfl, by decide +kernel, rfl, by decide +kernel, by decide +kernel⟩
theorem sc_Plant_put_belt : FnScope ["self", "name", "length", "goal"] ["self", "name", "length", "goal"] (defScope s_Plant_put_belt) := ⟨rfl, rfl, rfl, by decide +kernel, rfl, by decide +kernel, by decide +kernel⟩
theorem sc_Plant_set_goal : FnScope ["self", "belt", "goal"] ["self", "belt", "goal"] (defScope s_Plant_set_goal) := ⟨rfl, rfl, rfl, by decide +kernel, rfl, by decide +kernel, by decide +kernel⟩
theorem sc_Plant_put_eye : FnScope ["self", "name", "belt", "position"] ["self", "name", "belt", "position"] (defScope s_Plant_put_eye) := ⟨rfl, rfl, rfl, by decide +kernel, rfl, by decide +kernel, by decide +kernel⟩
theorem sc_Plant_put_pusher : FnScope ["self", "name", "belt", "position", "goal"] ["self", "name", "belt", "position", "goal"] (defScope s_Plant_put_pusher) := ⟨rfl, rfl, rfl, by decide +kernel, rfl, by decide +kernel, by decide +kernel⟩
theorem sc_Plant_put_rule : FnScope ["self", "rule"] ["self", "rule"] (defScope s_Plant_put_rule) := ⟨rfl, rfl, rfl, by decide +kernel, rfl, by decide +kernel, by decide +kernel⟩
theorem sc_Plant_put_parcel : FnScope ["self", "parcel"] ["self", "parcel"] (defScope s_Plant_put_parcel) := ⟨rfl, rfl, rfl, by decide +kernel, rfl, by decide +kernel, by decide +kernel⟩
theorem sc_want_new : FnScope ["plant", "kind", "name"] ["plant", "kind", "name"] (defScope s_want_new) := ⟨rfl, rfl, rfl, by decide +kernel, rfl, by decide +kernel, by decide +kernel⟩
theorem sc_number_of : FnScope ["plant", "kind", "name"] ["plant", "kind", "name"] (defScope s_number_of) := ⟨rfl, rfl, rfl, by decide +kernel, rfl, by decide +kernel, by decide +kernel⟩
theorem sc_belt_with : FnScope ["plant", "name", "position", "belt"] ["plant", "name", "position"] (defScope s_belt_with) := ⟨rfl, rfl, rfl, by decide +kernel, rfl, by decide +kernel, by decide +kernel⟩
theorem sc_goal_of : FnScope ["plant", "told", "name", "position"] ["plant", "told"] (defScope s_goal_of) := ⟨rfl, rfl, rfl, by decide +kernel, rfl, by decide +kernel, by decide +kernel⟩
theorem sc_Parcel_init : FnScope ["self", "told"] ["self", "told"] (defScope s_Parcel_init) := ⟨rfl, rfl, rfl, by decide +kernel, rfl, by decide +kernel, by decide +kernel⟩
theorem sc_Parcel_told : FnScope ["self"] ["self"] (defScope s_Parcel_told) := ⟨rfl, rfl, rfl, by decide +kernel, rfl, by decide +kernel, by decide +kernel⟩
theorem sc_Parcel_covers : FnScope ["self", "belt", "position", "kind", "own", "front"] ["self", "belt", "position"] (defScope s_Parcel_covers) := ⟨rfl, rfl, rfl, by decide +kernel, rfl, by decide +kernel, by decide +kernel⟩
theorem sc_Floor_init : FnScope ["self", "plant", "rows", "row"] ["self", "plant", "rows"] (defScope s_Floor_init) := ⟨rfl, rfl, rfl, by decide +kernel, rfl, by decide +kernel, by decide +kernel⟩
theorem sc_Floor_put_parcel : FnScope ["self", "row"] ["self", "row"] (defScope s_Floor_put_parcel) := ⟨rfl, rfl, rfl, by decide +kernel, rfl, by decide +kernel, by decide +kernel⟩
theorem sc_Floor_begin_tick : FnScope ["self", "parcel"] ["self"] (defScope s_Floor_begin_tick) := ⟨rfl, rfl, rfl, by decide +kernel, rfl, by decide +kernel, by decide +kernel⟩
theorem sc_Floor_go : FnScope ["self", "number", "place"] ["self", "number", "place"] (defScope s_Floor_go) := ⟨rfl, rfl, rfl, by decide +kernel, rfl, by decide +kernel, by decide +kernel⟩
theorem sc_Floor_at_place : FnScope ["self", "place", "number", "parcel"] ["self", "place"] (defScope s_Floor_at_place) := ⟨rfl, rfl, rfl, by decide +kernel, rfl, by decide +kernel, by decide +kernel⟩
theorem sc_Floor_of_kind : FnScope ["self", "kind", "number", "parcel"] ["self", "kind"] (defScope s_Floor_of_kind) := ⟨rfl, rfl, rfl, by decide +kernel, rfl, by decide +kernel, by decide +kernel⟩
theorem sc_Floor_on_belt : FnScope ["self", "belt", "rows", "number", "parcel", "kind", "own", "front", "back"] ["self", "belt"] (defScope s_Floor_on_belt) := ⟨rfl, rfl, rfl, by decide +kernel, rfl, by decide +kernel, by decide +kernel⟩
theorem sc_Floor_has_room : FnScope ["self", "chute"] ["self", "chute"] (defScope s_Floor_has_room) := ⟨rfl, rfl, rfl, by decide +kernel, rfl, by decide +kernel, by decide +kernel⟩
theorem sc_Floor_is_free : FnScope ["self", "number", "belt", "position", "other", "parcel"] ["self", "number", "belt", "position"] (defScope s_Floor_is_free) := ⟨rfl, rfl, rfl, by decide +kernel, rfl, by decide +kernel, by decide +kernel⟩
theorem sc_Floor_can_go : FnScope ["self", "number", "goal", "kind", "target", "position", "first", "at"] ["self", "number", "goal"] (defScope s_Floor_can_go) := ⟨rfl, rfl, rfl, by decide +kernel, rfl, by decide +kernel, by decide +kernel⟩
theorem sc_Floor_do_push : FnScope ["self", "pusher", "belt", "position", "goal", "here", "number"] ["self", "pusher"] (defScope s_Floor_do_push) := ⟨rfl, rfl, rfl, by decide +kernel, rfl, by decide +kernel, by decide +kernel⟩
theorem sc_Floor_do_pushes : FnScope ["self", "pusher", "due", "tick"] ["self"] (defScope s_Floor_do_pushes) := ⟨rfl, rfl, rfl, by decide +kernel, rfl, by decide +kernel, by decide +kernel⟩
theorem sc_Floor_advance : FnScope ["self", "belt", "number", "front", "goal"] ["self", "belt", "number"] (defScope s_Floor_advance) := ⟨rfl, rfl, rfl, by decide +kernel, rfl, by decide +kernel, by decide +kernel⟩
theorem sc_Floor_do_belts : FnScope ["self", "belt", "number"] ["self"] (defScope s_Floor_do_belts) := ⟨rfl, rfl, rfl, by decide +kernel, rfl, by decide +kernel, by decide +kernel⟩
theorem sc_Floor_do_feeds : FnScope ["self", "number", "parcel"] ["self"] (defScope s_Floor_do_feeds) := ⟨rfl, rfl, rfl, by decide +kernel, rfl, by decide +kernel, by decide +kernel⟩
theorem sc_Floor_holds : FnScope ["self", "eye", "parcel", "term", "word"] ["self", "eye", "parcel", "term"] (defScope s_Floor_holds) := ⟨rfl, rfl, rfl, by decide +kernel, rfl, by decide +kernel, by decide +kernel⟩
theorem sc_Floor_first_rule : FnScope ["self", "eye", "parcel", "number", "own", "terms", "pusher", "delay", "term"] ["self", "eye", "parcel"] (defScope s_Floor_first_rule) := ⟨rfl, rfl, rfl, by decide +kernel, rfl, by decide +kernel, by decide +kernel⟩
theorem sc_Floor_see : FnScope ["self", "eye", "parcel", "number", "own", "terms", "pusher", "delay"] ["self", "eye", "parcel"] (defScope s_Floor_see) := ⟨rfl, rfl, rfl, by decide +kernel, rfl, by decide +kernel, by decide +kernel⟩
theorem sc_Floor_do_eyes : FnScope ["self", "eye", "belt", "position", "number"] ["self"] (defScope s_Floor_do_eyes) := ⟨rfl, rfl, rfl, by decide +kernel, rfl, by decide +kernel, by decide +kernel⟩
theorem sc_Floor_do_tick : FnScope ["self"] ["self"] (defScope s_Floor_do_tick) := ⟨rfl, rfl, rfl, by decide +kernel, rfl, by decide +kernel, by decide +kernel⟩
theorem sc_Floor_is_done : FnScope ["self"] ["self"] (defScope s_Floor_is_done) := ⟨rfl, rfl, rfl, by decide +kernel, rfl, by decide +kernel, by decide +kernel⟩
theorem sc_TextFault_init : FnScope ["self", "line", "code"] ["self", "line", "code"] (defScope s_TextFault_init) := ⟨rfl, rfl, rfl, by decide +kernel, rfl, by decide +kernel, by decide +kernel⟩
theorem sc_read_goal : FnScope ["words", "name", "position"] ["words"] (defScope s_read_goal) := ⟨rfl, rfl, rfl, by decide +kernel, rfl, by decide +kernel, by decide +kernel⟩
theorem sc_do_chute : FnScope ["plant", "words", "name", "room"] ["plant", "words"] (defScope s_do_chute) := ⟨rfl, rfl, rfl, by decide +kernel, rfl, by decide +kernel, by decide +kernel⟩
theorem sc_do_belt : FnScope ["plant", "words", "name", "length", "told", "goal"] ["plant", "words"] (defScope s_do_belt) := ⟨rfl, rfl, rfl, by decide +kernel, rfl, by decide +kernel, by decide +kernel⟩
theorem sc_do_lead : FnScope ["plant", "words", "name", "told", "belt"] ["plant", "words"] (defScope s_do_lead) := ⟨rfl, rfl, rfl, by decide +kernel, rfl, by decide +kernel, by decide +kernel⟩
theorem sc_do_eye : FnScope ["plant", "words", "name", "on", "position"] ["plant", "words"] (defScope s_do_eye) := ⟨rfl, rfl, rfl, by decide +kernel, rfl, by decide +kernel, by decide +kernel⟩
theorem sc_do_pusher : FnScope ["plant", "words", "name", "on", "position", "told", "belt"] ["plant", "words"] (defScope s_do_pusher) := ⟨rfl, rfl, rfl, by decide +kernel, rfl, by decide +kernel, by decide +kernel⟩
theorem sc_read_term : FnScope ["words", "word", "least"] ["words"] (defScope s_read_term) := ⟨rfl, rfl, rfl, by decide +kernel, rfl, by decide +kernel, by decide +kernel⟩
theorem sc_read_condition : FnScope ["words", "terms"] ["words"] (defScope s_read_condition) := ⟨rfl, rfl, rfl, by decide +kernel, rfl, by decide +kernel, by decide +kernel⟩
theorem sc_known_term : FnScope ["plant", "term"] ["plant", "term"] (defScope s_known_term) := ⟨rfl, rfl, rfl, by decide +kernel, rfl, by decide +kernel, by decide +kernel⟩
theorem sc_do_rule : FnScope ["plant", "words", "name", "terms", "pushed", "delay", "eye", "known", "pusher", "term"] ["plant", "words"] (defScope s_do_rule) := ⟨rfl, rfl, rfl, by decide +kernel, rfl, by decide +kernel, by decide +kernel⟩
theorem sc_do_feed : FnScope ["plant", "words", "name", "code", "length", "tick", "apart", "times", "belt", "turn"] ["plant", "words"] (defScope s_do_feed) := ⟨rfl, rfl, rfl, by decide +kernel, rfl, by decide +kernel, by decide +kernel⟩
theorem sc_do_line : FnScope ["plant", "words", "word", "deed"] ["plant", "words"] (defScope s_do_line) := ⟨rfl, rfl, rfl, by decide +kernel, rfl, by decide +kernel, by decide +kernel⟩
theorem sc_read_line : FnScope ["plant", "number", "row", "e"] ["plant", "number", "row"] (defScope s_read_line) := ⟨rfl, rfl, rfl, by decide +kernel, rfl, by decide +kernel, by decide +kernel⟩
theorem sc_read_plant : FnScope ["text", "plant", "number", "row"] ["text"] (defScope s_read_plant) := ⟨rfl, rfl, rfl, by decide +kernel, rfl, by decide +kernel, by decide +kernel⟩
theorem sc_Refused_init : FnScope ["self", "answer"] ["self", "answer"] (defScope s_Refused_init) := ⟨rfl, rfl, rfl, by decide +kernel, rfl, by decide +kernel, by decide +kernel⟩
theorem sc_refuse_unless : FnScope ["is_so", "answer"] ["is_so", "answer"] (defScope s_refuse_unless) := ⟨rfl, rfl, rfl, by decide +kernel, rfl, by decide +kernel, by decide +kernel⟩
theorem sc_counted : FnScope ["row"] ["row"] (defScope s_counted) := ⟨rfl, rfl, rfl, by decide +kernel, rfl, by decide +kernel, by decide +kernel⟩
theorem sc_Desk_init : FnScope ["self"] ["self"] (defScope s_Desk_init) := ⟨rfl, rfl, rfl, by decide +kernel, rfl, by decide +kernel, by decide +kernel⟩
theorem sc_Desk_load : FnScope ["self", "text", "plant", "e", "found"] ["self", "text"] (defScope s_Desk_load) := ⟨rfl, rfl, rfl, by decide +kernel, rfl, by decide +kernel, by decide +kernel⟩
theorem sc_Desk_want_loaded : FnScope ["self"] ["self"] (defScope s_Desk_want_loaded) := ⟨rfl, rfl, rfl, by decide +kernel, rfl, by decide +kernel, by decide +kernel⟩
theorem sc_Desk_places : FnScope ["self"] ["self"] (defScope s_Desk_places) := ⟨rfl, rfl, rfl, by decide +kernel, rfl, by decide +kernel, by decide +kernel⟩
theorem sc_Desk_run : FnScope ["self", "ticks", "turn"] ["self", "ticks"] (defScope s_Desk_run) := ⟨rfl, rfl, rfl, by decide +kernel, rfl, by decide +kernel, by decide +kernel⟩
theorem sc_Desk_all_parcels : FnScope ["self", "found", "parcel"] ["self"] (defScope s_Desk_all_parcels) := ⟨rfl, rfl, rfl, by decide +kernel, rfl, by decide +kernel, by decide +kernel⟩
theorem sc_Desk_belt_told : FnScope ["self", "belt", "numbers", "found", "number"] ["self", "belt"] (defScope s_Desk_belt_told) := ⟨rfl, rfl, rfl, by decide +kernel, rfl, by decide +kernel, by decide +kernel⟩
theorem sc_Desk_chutes : FnScope ["self", "chute"] ["self"] (defScope s_Desk_chutes) := ⟨rfl, rfl, rfl, by decide +kernel, rfl, by decide +kernel, by decide +kernel⟩
theorem sc_Desk_sensors : FnScope ["self"] ["self"] (defScope s_Desk_sensors) := ⟨rfl, rfl, rfl, by decide +kernel, rfl, by decide +kernel, by decide +kernel⟩
theorem sc_Desk_rules_told : FnScope ["self"] ["self"] (defScope s_Desk_rules_told) := ⟨rfl, rfl, rfl, by decide +kernel, rfl, by decide +kernel, by decide +kernel⟩
theorem sc_Desk_pushers_told : FnScope ["self", "found", "done", "missed"] ["self"] (defScope s_Desk_pushers_told) := ⟨rfl, rfl, rfl, by decide +kernel, rfl, by decide +kernel, by decide +kernel⟩
theorem sc_Desk_waiting : FnScope ["self", "number"] ["self"] (defScope s_Desk_waiting) := ⟨rfl, rfl, rfl, by decide +kernel, rfl, by decide +kernel, by decide +kernel⟩
theorem sc_Desk_reset : FnScope ["self", "rows", "parcel"] ["self"] (defScope s_Desk_reset) := ⟨rfl, rfl, rfl, by decide +kernel, rfl, by decide +kernel, by decide +kernel⟩
theorem sc_Desk_feed : FnScope ["self", "belt", "code", "length", "tick", "many"] ["self", "belt", "code", "length", "tick"] (defScope s_Desk_feed) := ⟨rfl, rfl, rfl, by decide +kernel, rfl, by decide +kernel, by decide +kernel⟩
theorem sc_Desk_run_until_done : FnScope ["self", "ticks", "left"] ["self", "ticks"] (defScope s_Desk_run_until_done) := ⟨rfl, rfl, rfl, by decide +kernel, rfl, by decide +kernel, by decide +kernel⟩
theorem sc_told : FnScope ["desk", "call", "numbers"] ["desk", "call", "numbers"] (defScope s_told) := ⟨rfl, rfl, rfl, by decide +kernel, rfl, by decide +kernel, by decide +kernel⟩
theorem sc_answered : FnScope ["desk", "call", "numbers", "text", "found", "e"] ["desk", "call", "numbers", "text"] (defScope s_answered) := ⟨rfl, rfl, rfl, by decide +kernel, rfl, by decide +kernel, by decide +kernel⟩
theorem sc_answers : FnScope ["calls", "desk", "found", "at", "call", "end", "numbers", "text", "begin", "answer"] ["calls"] (defScope s_answers) := ⟨rfl, rfl, rfl, by decide +kernel, rfl, by decide +kernel, by decide +kernel⟩
/-! ## data for the head -/
def d_LineFault_init : He.DefD := ⟨("LineFault", some "__init__"), "__init__", "LineFault.__init__", defArgs s_LineFault_init, defBody s_LineFault_init, defScope s_LineFault_init, [], []⟩
def d_want : He.DefD := ⟨("want", none), "want", "want", defArgs s_want, defBody s_want, defScope s_want, [], []⟩
def d_is_byte : He.DefD := ⟨("is_byte", none), "is_byte", "is_byte", defArgs s_is_byte, defBody s_is_byte, defScope s_is_byte, [], []⟩
def d_is_text : He.DefD := ⟨("is_text", none), "is_text", "is_text", defArgs s_is_text, defBody s_is_text, defScope s_is_text, [], []⟩
def d_sign_of : He.DefD := ⟨("sign_of", none), "sign_of", "sign_of", defArgs s_sign_of, defBody s_sign_of, defScope s_sign_of, [], []⟩
def d_lines_of : He.DefD := ⟨("lines_of", none), "lines_of", "lines_of", defArgs s_lines_of, defBody s_lines_of, defScope s_lines_of, [], []⟩
def d_is_name : He.DefD := ⟨("is_name", none), "is_name", "is_name", defArgs s_is_name, defBody s_is_name, defScope s_is_name, [], []⟩
def d_number_in : He.DefD := ⟨("number_in", none), "number_in", "number_in", defArgs s_number_in, defBody s_number_in, defScope s_number_in, [], []⟩
def d_Words_init : He.DefD := ⟨("Words", some "__init__"), "__init__", "Words.__init__", defArgs s_Words_init, defBody s_Words_init, defScope s_Words_init, [], []⟩
def d_Words_is_over : He.DefD := ⟨("Words", some "is_over"), "is_over", "Words.is_over", defArgs s_Words_is_over, defBody s_Words_is_over, defScope s_Words_is_over, [], []⟩
def d_Words_take : He.DefD := ⟨("Words", some "take"), "take", "Words.take", defArgs s_Words_take, defBody s_Words_take, defScope s_Words_take, [], []⟩
def d_Words_sees : He.DefD := ⟨("Words", some "sees"), "sees", "Words.sees", defArgs s_Words_sees, defBody s_Words_sees, defScope s_Words_sees, [], []⟩
def d_Words_take_told : He.DefD := ⟨("Words", some "take_told"), "take_told", "Words.take_told", defArgs s_Words_take_told, defBody s_Words_take_told, defScope s_Words_take_told, [], []⟩
def d_Words_take_name : He.DefD := ⟨("Words", some "take_name"), "take_name", "Words.take_name", defArgs s_Words_take_name, defBody s_Words_take_name, defScope s_Words_take_name, [], []⟩
def d_Words_take_number : He.DefD := ⟨("Words", some "take_number"), "take_number", "Words.take_number", defArgs s_Words_take_number, defBody s_Words_take_number, defScope s_Words_take_number, [], []⟩
def d_Words_take_end : He.DefD := ⟨("Words", some "take_end"), "take_end", "Words.take_end", defArgs s_Words_take_end, defBody s_Words_take_end, defScope s_Words_take_end, [], []⟩
def d_Plant_init : He.DefD := ⟨("Plant", some "__init__"), "__init__", "Plant.__init__", defArgs s_Plant_init, defBody s_Plant_init, defScope s_Plant_init, [], []⟩
def d_Plant_how_many : He.DefD := ⟨("Plant", some "how_many"), "how_many", "Plant.how_many", defArgs s_Plant_how_many, defBody s_Plant_how_many, defScope s_Plant_how_many, [], []⟩
def d_Plant_put_name : He.DefD := ⟨("Plant", some "put_name"), "put_name", "Plant.put_name", defArgs s_Plant_put_name, defBody s_Plant_put_name, defScope s_Plant_put_name, [], []⟩
def d_Plant_put_chute : He.DefD := ⟨("Plant", some "put_chute"), "put_chute", "Plant.put_chute", defArgs s_Plant_put_chute, defBody s_Plant_put_chute, defScope s_Plant_put_chute, [], []⟩
def d_Plant_put_belt : He.DefD := ⟨("Plant", some "put_belt"), "put_belt", "Plant.put_belt", defArgs s_Plant_put_belt, defBody s_Plant_put_belt, defScope s_Plant_put_belt, [], []⟩
def d_Plant_set_goal : He.DefD := ⟨("Plant", some "set_goal"), "set_goal", "Plant.set_goal", defArgs s_Plant_set_goal, defBody s_Plant_set_goal, defScope s_Plant_set_goal, [], []⟩
def d_Plant_put_eye : He.DefD := ⟨("Plant", some "put_eye"), "put_eye", "Plant.put_eye", defArgs s_Plant_put_eye, defBody s_Plant_put_eye, defScope s_Plant_put_eye, [], []⟩
def d_Plant_put_pusher : He.DefD := ⟨("Plant", some "put_pusher"), "put_pusher", "Plant.put_pusher", defArgs s_Plant_put_pusher, defBody s_Plant_put_pusher, defScope s_Plant_put_pusher, [], []⟩
def d_Plant_put_rule : He.DefD := ⟨("Plant", some "put_rule"), "put_rule", "Plant.put_rule", defArgs s_Plant_put_rule, defBody s_Plant_put_rule, defScope s_Plant_put_rule, [], []⟩
def d_Plant_put_parcel : He.DefD := ⟨("Plant", some "put_parcel"), "put_parcel", "Plant.put_parcel", defArgs s_Plant_put_parcel, defBody s_Plant_put_parcel, defScope s_Plant_put_parcel, [], []⟩
def d_want_new : He.DefD := ⟨("want_new", none), "want_new", "want_new", defArgs s_want_new, defBody s_want_new, defScope s_want_new, [], []⟩
def d_number_of : He.DefD := ⟨("number_of", none), "number_of", "number_of", defArgs s_number_of, defBody s_number_of, defScope s_number_of, [], []⟩
def d_belt_with : He.DefD := ⟨("belt_with", none), "belt_with", "belt_with", defArgs s_belt_with, defBody s_belt_with, defScope s_belt_with, [], []⟩
def d_goal_of : He.DefD := ⟨("goal_of", none), "goal_of", "goal_of", defArgs s_goal_of, defBody s_goal_of, defScope s_goal_of, [], []⟩
def d_Parcel_init : He.DefD := ⟨("Parcel", some "__init__"), "__init__", "Parcel.__init__", defArgs s_Parcel_init, defBody s_Parcel_init, defScope s_Parcel_init, [], []⟩
def d_Parcel_told : He.DefD := ⟨("Parcel", some "told"), "told", "Parcel.told", defArgs s_Parcel_told, defBody s_Parcel_told, defScope s_Parcel_told, [], []⟩
def d_Parcel_covers : He.DefD := ⟨("Parcel", some "covers"), "covers", "Parcel.covers", defArgs s_Parcel_covers, defBody s_Parcel_covers, defScope s_Parcel_covers, [], []⟩
def d_Floor_init : He.DefD := ⟨("Floor", some "__init__"), "__init__", "Floor.__init__", defArgs s_Floor_init, defBody s_Floor_init, defScope s_Floor_init, [], []⟩
def d_Floor_put_parcel : He.DefD := ⟨("Floor", some "put_parcel"), "put_parcel", "Floor.put_parcel", defArgs s_Floor_put_parcel, defBody s_Floor_put_parcel, defScope s_Floor_put_parcel, [], []⟩
def d_Floor_begin_tick : He.DefD := ⟨("Floor", some "begin_tick"), "begin_tick", "Floor.begin_tick", defArgs s_Floor_begin_tick, defBody s_Floor_begin_tick, defScope s_Floor_begin_tick, [], []⟩
def d_Floor_go : He.DefD := ⟨("Floor", some "go"), "go", "Floor.go", defArgs s_Floor_go, defBody s_Floor_go, defScope s_Floor_go, [], []⟩
def d_Floor_at_place : He.DefD := ⟨("Floor", some "at_place"), "at_place", "Floor.at_place", defArgs s_Floor_at_place, defBody s_Floor_at_place, defScope s_Floor_at_place, [], []⟩
def d_Floor_of_kind : He.DefD := ⟨("Floor", some "of_kind"), "of_kind", "Floor.of_kind", defArgs s_Floor_of_kind, defBody s_Floor_of_kind, defScope s_Floor_of_kind, [], []⟩
def d_Floor_on_belt : He.DefD := ⟨("Floor", some "on_belt"), "on_belt", "Floor.on_belt", defArgs s_Floor_on_belt, defBody s_Floor_on_belt, defScope s_Floor_on_belt, [], []⟩
def d_Floor_has_room : He.DefD := ⟨("Floor", some "has_room"), "has_room", "Floor.has_room", defArgs s_Floor_has_room, defBody s_Floor_has_room, defScope s_Floor_has_room, [], []⟩
def d_Floor_is_free : He.DefD := ⟨("Floor", some "is_free"), "is_free", "Floor.is_free", defArgs s_Floor_is_free, defBody s_Floor_is_free, defScope s_Floor_is_free, [], []⟩
def d_Floor_can_go : He.DefD := ⟨("Floor", some "can_go"), "can_go", "Floor.can_go", defArgs s_Floor_can_go, defBody s_Floor_can_go, defScope s_Floor_can_go, [], []⟩
def d_Floor_do_push : He.DefD := ⟨("Floor", some "do_push"), "do_push", "Floor.do_push", defArgs s_Floor_do_push, defBody s_Floor_do_push, defScope s_Floor_do_push, [], []⟩
def d_Floor_do_pushes : He.DefD := ⟨("Floor", some "do_pushes"), "do_pushes", "Floor.do_pushes", defArgs s_Floor_do_pushes, defBody s_Floor_do_pushes, defScope s_Floor_do_pushes, [], []⟩
def d_Floor_advance : He.DefD := ⟨("Floor", some "advance"), "advance", "Floor.advance", defArgs s_Floor_advance, defBody s_Floor_advance, defScope s_Floor_advance, [], []⟩
def d_Floor_do_belts : He.DefD := ⟨("Floor", some "do_belts"), "do_belts", "Floor.do_belts", defArgs s_Floor_do_belts, defBody s_Floor_do_belts, defScope s_Floor_do_belts, [], []⟩
def d_Floor_do_feeds : He.DefD := ⟨("Floor", some "do_feeds"), "do_feeds", "Floor.do_feeds", defArgs s_Floor_do_feeds, defBody s_Floor_do_feeds, defScope s_Floor_do_feeds, [], []⟩
def d_Floor_holds : He.DefD := ⟨("Floor", some "holds"), "holds", "Floor.holds", defArgs s_Floor_holds, defBody s_Floor_holds, defScope s_Floor_holds, [], []⟩
def d_Floor_first_rule : He.DefD := ⟨("Floor", some "first_rule"), "first_rule", "Floor.first_rule", defArgs s_Floor_first_rule, defBody s_Floor_first_rule, defScope s_Floor_first_rule, [], []⟩
def d_Floor_see : He.DefD := ⟨("Floor", some "see"), "see", "Floor.see", defArgs s_Floor_see, defBody s_Floor_see, defScope s_Floor_see, [], []⟩
def d_Floor_do_eyes : He.DefD := ⟨("Floor", some "do_eyes"), "do_eyes", "Floor.do_eyes", defArgs s_Floor_do_eyes, defBody s_Floor_do_eyes, defScope s_Floor_do_eyes, [], []⟩
def d_Floor_do_tick : He.DefD := ⟨("Floor", some "do_tick"), "do_tick", "Floor.do_tick", defArgs s_Floor_do_tick, defBody s_Floor_do_tick, defScope s_Floor_do_tick, [], []⟩
def d_Floor_is_done : He.DefD := ⟨("Floor", some "is_done"), "is_done", "Floor.is_done", defArgs s_Floor_is_done, defBody s_Floor_is_done, defScope s_Floor_is_done, [], []⟩
def d_TextFault_init : He.DefD := ⟨("TextFault", some "__init__"), "__init__", "TextFault.__init__", defArgs s_TextFault_init, defBody s_TextFault_init, defScope s_TextFault_init, [], []⟩
def d_read_goal : He.DefD := ⟨("read_goal", none), "read_goal", "read_goal", defArgs s_read_goal, defBody s_read_goal, defScope s_read_goal, [], []⟩
def d_do_chute : He.DefD := ⟨("do_chute", none), "do_chute", "do_chute", defArgs s_do_chute, defBody s_do_chute, defScope s_do_chute, [], []⟩
def d_do_belt : He.DefD := ⟨("do_belt", none), "do_belt", "do_belt", defArgs s_do_belt, defBody s_do_belt, defScope s_do_belt, [], []⟩
def d_do_lead : He.DefD := ⟨("do_lead", none), "do_lead", "do_lead", defArgs s_do_lead, defBody s_do_lead, defScope s_do_lead, [], []⟩
def d_do_eye : He.DefD := ⟨("do_eye", none), "do_eye", "do_eye", defArgs s_do_eye, defBody s_do_eye, defScope s_do_eye, [], []⟩
def d_do_pusher : He.DefD := ⟨("do_pusher", none), "do_pusher", "do_pusher", defArgs s_do_pusher, defBody s_do_pusher, defScope s_do_pusher, [], []⟩
def d_read_term : He.DefD := ⟨("read_term", none), "read_term", "read_term", defArgs s_read_term, defBody s_read_term, defScope s_read_term, [], []⟩
def d_read_condition : He.DefD := ⟨("read_condition", none), "read_condition", "read_condition", defArgs s_read_condition, defBody s_read_condition, defScope s_read_condition, [], []⟩
def d_known_term : He.DefD := ⟨("known_term", none), "known_term", "known_term", defArgs s_known_term, defBody s_known_term, defScope s_known_term, [], []⟩
def d_do_rule : He.DefD := ⟨("do_rule", none), "do_rule", "do_rule", defArgs s_do_rule, defBody s_do_rule, defScope s_do_rule, [], []⟩
def d_do_feed : He.DefD := ⟨("do_feed", none), "do_feed", "do_feed", defArgs s_do_feed, defBody s_do_feed, defScope s_do_feed, [], []⟩
def d_do_line : He.DefD := ⟨("do_line", none), "do_line", "do_line", defArgs s_do_line, defBody s_do_line, defScope s_do_line, [], []⟩
def d_read_line : He.DefD := ⟨("read_line", none), "read_line", "read_line", defArgs s_read_line, defBody s_read_line, defScope s_read_line, [], []⟩
def d_read_plant : He.DefD := ⟨("read_plant", none), "read_plant", "read_plant", defArgs s_read_plant, defBody s_read_plant, defScope s_read_plant, [], []⟩
def d_Refused_init : He.DefD := ⟨("Refused", some "__init__"), "__init__", "Refused.__init__", defArgs s_Refused_init, defBody s_Refused_init, defScope s_Refused_init, [], []⟩
def d_refuse_unless : He.DefD := ⟨("refuse_unless", none), "refuse_unless", "refuse_unless", defArgs s_refuse_unless, defBody s_refuse_unless, defScope s_refuse_unless, [], []⟩
def d_counted : He.DefD := ⟨("counted", none), "counted", "counted", defArgs s_counted, defBody s_counted, defScope s_counted, [], []⟩
def d_Desk_init : He.DefD := ⟨("Desk", some "__init__"), "__init__", "Desk.__init__", defArgs s_Desk_init, defBody s_Desk_init, defScope s_Desk_init, [], []⟩
def d_Desk_load : He.DefD := ⟨("Desk", some "load"), "load", "Desk.load", defArgs s_Desk_load, defBody s_Desk_load, defScope s_Desk_load, [], []⟩
def d_Desk_want_loaded : He.DefD := ⟨("Desk", some "want_loaded"), "want_loaded", "Desk.want_loaded", defArgs s_Desk_want_loaded, defBody s_Desk_want_loaded, defScope s_Desk_want_loaded, [], []⟩
def d_Desk_places : He.DefD := ⟨("Desk", some "places"), "places", "Desk.places", defArgs s_Desk_places, defBody s_Desk_places, defScope s_Desk_places, [], []⟩
def d_Desk_run : He.DefD := ⟨("Desk", some "run"), "run", "Desk.run", defArgs s_Desk_run, defBody s_Desk_run, defScope s_Desk_run, [], []⟩
def d_Desk_all_parcels : He.DefD := ⟨("Desk", some "all_parcels"), "all_parcels", "Desk.all_parcels", defArgs s_Desk_all_parcels, defBody s_Desk_all_parcels, defScope s_Desk_all_parcels, [], []⟩
def d_Desk_belt_told : He.DefD := ⟨("Desk", some "belt_told"), "belt_told", "Desk.belt_told", defArgs s_Desk_belt_told, defBody s_Desk_belt_told, defScope s_Desk_belt_told, [], []⟩
def d_Desk_chutes : He.DefD := ⟨("Desk", some "chutes"), "chutes", "Desk.chutes", defArgs s_Desk_chutes, defBody s_Desk_chutes, defScope s_Desk_chutes, [], []⟩
def d_Desk_sensors : He.DefD := ⟨("Desk", some "sensors"), "sensors", "Desk.sensors", defArgs s_Desk_sensors, defBody s_Desk_sensors, defScope s_Desk_sensors, [], []⟩
def d_Desk_rules_told : He.DefD := ⟨("Desk", some "rules_told"), "rules_told", "Desk.rules_told", defArgs s_Desk_rules_told, defBody s_Desk_rules_told, defScope s_Desk_rules_told, [], []⟩
def d_Desk_pushers_told : He.DefD := ⟨("Desk", some "pushers_told"), "pushers_told", "Desk.pushers_told", defArgs s_Desk_pushers_told, defBody s_Desk_pushers_told, defScope s_Desk_pushers_told, [], []⟩
def d_Desk_waiting : He.DefD := ⟨("Desk", some "waiting"), "waiting", "Desk.waiting", defArgs s_Desk_waiting, defBody s_Desk_waiting, defScope s_Desk_waiting, [], []⟩
def d_Desk_reset : He.DefD := ⟨("Desk", some "reset"), "reset", "Desk.reset", defArgs s_Desk_reset, defBody s_Desk_reset, defScope s_Desk_reset, [], []⟩
def d_Desk_feed : He.DefD := ⟨("Desk", some "feed"), "feed", "Desk.feed", defArgs s_Desk_feed, defBody s_Desk_feed, defScope s_Desk_feed, [], []⟩
def d_Desk_run_until_done : He.DefD := ⟨("Desk", some "run_until_done"), "run_until_done", "Desk.run_until_done", defArgs s_Desk_run_until_done, defBody s_Desk_run_until_done, defScope s_Desk_run_until_done, [], []⟩
def d_told : He.DefD := ⟨("told", none), "told", "told", defArgs s_told, defBody s_told, defScope s_told, [], []⟩
def d_answered : He.DefD := ⟨("answered", none), "answered", "answered", defArgs s_answered, defBody s_answered, defScope s_answered, [], []⟩
def d_answers : He.DefD := ⟨("answers", none), "answers", "answers", defArgs s_answers, defBody s_answers, defScope s_answers, [], []⟩
def fn0 : List He.DefD := [d_LineFault_init, d_want, d_is_byte, d_is_text, d_sign_of, d_lines_of, d_is_name, d_number_in, d_Words_init, d_Words_is_over, d_Words_take, d_Words_sees, d_Words_take_told, d_Words_take_name, d_Words_take_number]
def fn1 : List He.DefD := [d_Words_take_end, d_Plant_init, d_Plant_how_many, d_Plant_put_name, d_Plant_put_chute, d_Plant_put_belt, d_Plant_set_goal, d_Plant_put_eye, d_Plant_put_pusher, d_Plant_put_rule, d_Plant_put_parcel, d_want_new, d_number_of, d_belt_with, d_goal_of]
def fn2 : List He.DefD := [d_Parcel_init, d_Parcel_told, d_Parcel_covers, d_Floor_init, d_Floor_put_parcel, d_Floor_begin_tick, d_Floor_go, d_Floor_at_place, d_Floor_of_kind, d_Floor_on_belt, d_Floor_has_room, d_Floor_is_free, d_Floor_can_go, d_Floor_do_push, d_Floor_do_pushes]
def fn3 : List He.DefD := [d_Floor_advance, d_Floor_do_belts, d_Floor_do_feeds, d_Floor_holds, d_Floor_first_rule, d_Floor_see, d_Floor_do_eyes, d_Floor_do_tick, d_Floor_is_done, d_TextFault_init, d_read_goal, d_do_chute, d_do_belt, d_do_lead, d_do_eye]
def fn4 : List He.DefD := [d_do_pusher, d_read_term, d_read_condition, d_known_term, d_do_rule, d_do_feed, d_do_line, d_read_line, d_read_plant, d_Refused_init, d_refuse_unless, d_counted, d_Desk_init, d_Desk_load, d_Desk_want_loaded]
def fn5 : List He.DefD := [d_Desk_places, d_Desk_run, d_Desk_all_parcels, d_Desk_belt_told, d_Desk_chutes, d_Desk_sensors, d_Desk_rules_told, d_Desk_pushers_told, d_Desk_waiting, d_Desk_reset, d_Desk_feed, d_Desk_run_until_done, d_told, d_answered, d_answers]
def fn : List He.DefD := fn0 ++ (fn1 ++ (fn2 ++ (fn3 ++ (fn4 ++ (fn5)))))
def fa0 : List He.Fa := [.glo "want", .glo "is_byte", .glo "is_text", .glo "sign_of", .glo "lines_of", .glo "is_name", .glo "number_in", .glo "want_new", .glo "number_of", .glo "belt_with", .glo "goal_of", .glo "read_goal", .glo "do_chute", .glo "do_belt", .glo "do_lead", .glo "do_eye", .glo "do_pusher", .glo "read_term", .glo "read_condition", .glo "known_term"]
def fa1 : List He.Fa := [.glo "do_rule", .glo "do_feed", .glo "do_line", .glo "read_line", .glo "read_plant", .glo "refuse_unless", .glo "counted", .glo "told", .glo "answered", .glo "answers", .glo "LineFault", .glo "Words", .glo "Plant", .glo "Parcel", .glo "Floor", .glo "TextFault", .glo "Refused", .glo "Desk", .glo "DEEDS", .glo "NUMBERS"]
def fa2 : List He.Fa := [.glo "WAITING", .free "len", .free "all", .free "any", .free "sorted", .free "enumerate", .free "range", .free "zip", .free "list", .free "int", .free "ValueError", .int "FIRST_LETTER" (97), .int "FIRST_DIGIT" (48), .int "LINE_END" (10), .int "BLANK" (32), .int "LAST_BYTE" (126), .int "LONGEST_TEXT" (4000), .int "LONGEST_NAME" (8), .int "LONGEST_NUMBER" (4), .int "NO_NUMBER" (-1)]
def fa3 : List He.Fa := [.int "NOT_FORMED" (1), .int "BELT" (1), .int "CHUTE" (2), .int "EYE" (3), .int "PUSHER" (4), .int "MOST_OF_A_KIND" (12), .int "MOST_RULES" (12), .int "MOST_PARCELS" (40), .int "WRONG_NAME" (2), .int "NO_POSITION" (3), .int "TOO_MANY" (4), .int "MOST_ROOM" (99), .int "LONGEST_BELT" (40), .int "LONGEST_PARCEL" (5), .int "MOST_DELAY" (99), .int "MOST_EACH" (99), .int "MOST_TIMES" (40), .int "MOST_TERMS" (4), .int "MOST_NUMBER" (9999), .int "OUT_OF_RANGE" (-2)]
def fa4 : List He.Fa := [.int "NO_ROOM" (-5), .int "NOT_LOADED" (-7), .int "MOST_TICKS" (200), .int "LOAD" (1), .str "LETTERS" "abcdefghijklmnopqrstuvwxyz", .str "DIGITS" "0123456789", .str "OTHER" "?", .cls "Words", .mkr "Words", .noat "Words" "row", .noat "Words" "at", .cls "Plant", .mkr "Plant", .noat "Plant" "known", .noat "Plant" "lengths", .noat "Plant" "goals", .noat "Plant" "rooms", .noat "Plant" "eyes", .noat "Plant" "pushers", .noat "Plant" "rules"]
def fa5 : List He.Fa := [.noat "Plant" "parcels", .cls "Parcel", .mkr "Parcel", .noat "Parcel" "belt", .noat "Parcel" "code", .noat "Parcel" "length", .noat "Parcel" "since", .noat "Parcel" "place", .noat "Parcel" "has_moved", .cls "Floor", .mkr "Floor", .noat "Floor" "plant", .noat "Floor" "parcels", .noat "Floor" "tick", .noat "Floor" "seen", .noat "Floor" "fired", .noat "Floor" "done", .noat "Floor" "missed", .noat "Floor" "scheduled", .cls "Desk"]
def fa6 : List He.Fa := [.mkr "Desk", .noat "Desk" "floor", .noat "LineFault" "code", .exm "LineFault" "LineFault" true, .noat "TextFault" "line", .noat "TextFault" "code", .exm "TextFault" "TextFault" true, .noat "Refused" "answer", .exm "Refused" "Refused" true, .meth "Words" "is_over", .meth "Words" "take", .meth "Words" "sees", .meth "Words" "take_told", .meth "Words" "take_name", .meth "Words" "take_number", .meth "Words" "take_end", .meth "Plant" "how_many", .meth "Plant" "put_name", .meth "Plant" "put_chute", .meth "Plant" "put_belt"]
def fa7 : List He.Fa := [.meth "Plant" "set_goal", .meth "Plant" "put_eye", .meth "Plant" "put_pusher", .meth "Plant" "put_rule", .meth "Plant" "put_parcel", .meth "Parcel" "told", .meth "Parcel" "covers", .meth "Floor" "put_parcel", .meth "Floor" "begin_tick", .meth "Floor" "go", .meth "Floor" "at_place", .meth "Floor" "of_kind", .meth "Floor" "on_belt", .meth "Floor" "has_room", .meth "Floor" "is_free", .meth "Floor" "can_go", .meth "Floor" "do_push", .meth "Floor" "do_pushes", .meth "Floor" "advance", .meth "Floor" "do_belts"]
def fa8 : List He.Fa := [.meth "Floor" "do_feeds", .meth "Floor" "holds", .meth "Floor" "first_rule", .meth "Floor" "see", .meth "Floor" "do_eyes", .meth "Floor" "do_tick", .meth "Floor" "is_done", .meth "Desk" "load", .meth "Desk" "want_loaded", .meth "Desk" "places", .meth "Desk" "run", .meth "Desk" "all_parcels", .meth "Desk" "belt_told", .meth "Desk" "chutes", .meth "Desk" "sensors", .meth "Desk" "rules_told", .meth "Desk" "pushers_told", .meth "Desk" "waiting", .meth "Desk" "reset", .meth "Desk" "feed"]
def fa9 : List He.Fa := [.meth "Desk" "run_until_done"]
def fa : List He.Fa := fa0 ++ (fa1 ++ (fa2 ++ (fa3 ++ (fa4 ++ (fa5 ++ (fa6 ++ (fa7 ++ (fa8 ++ (fa9)))))))))
def deedKeys : List Str := ["chute", "belt", "lead", "eye", "push", "when", "feed"]
def deedVals : List (Str × He.Dv) := [("chute", .glo "do_chute"), ("belt", .glo "do_belt"), ("lead", .glo "do_lead"), ("eye", .glo "do_eye"), ("push", .glo "do_pusher"), ("when", .glo "do_rule"), ("feed", .glo "do_feed")]
def tabs : List He.Tab := [(fun K => He.ga K "DEEDS", deedKeys)]
def numVals : List He.Dv := [.int 0, .int 0, .int 1, .int 0, .int 1, .int 0, .int 0, .int 0, .int 0, .int 0, .int 0, .int 4, .int 1]
def waitVals : List He.Dv := [.int 0, .int 0, .int 0]
/-- an own exception class over ValueError, made by its own __init__ -/
def oexB (K : PySem.W.Frag) (C : Addr) : Bool :=
  (match K.lookup C with
  | some ⟨.type "type", _, .cls cd, sl⟩ => (match cd.mro, sl.toList with
    | .ref D :: bm, [_, _, _, _, some (.builtin n), _] => decide (D = C) && (decide (n = "ValueError.__new__") && (!cd.hasDel && (cd.hasDict && PySem.HandSPX.refsVE bm)))
    | _, _ => false)
  | _ => false) &&
  (decide (PySem.W.findIn K (.ref C) "__setattr__" = some (some (.builtin "object.__setattr__"))) && (decide (PySem.W.subIn K (.ref C) (.type "BaseException") = some true) && (decide (PySem.W.typeIn K (.ref C) = some (.type "type")) &&
  (PySem.W.keepIn K (.ref C) && (xfB K C && (decide (PySem.W.findIn K (.ref C) "__init__" = some (some (.ref (He.ma K C "__init__")))) && decide (PySem.W.typeIn K (.ref (He.ma K C "__init__")) = some (.type "function"))))))))
structure OexF (K : PySem.W.Frag) (C : Addr) : Prop where
  o : OexC K C
  x : XfC K C
  i : PySem.W.findIn K (.ref C) "__init__" = some (some (.ref (He.ma K C "__init__")))
  t : PySem.W.typeIn K (.ref (He.ma K C "__init__")) = some (.type "function")
theorem oexB_ok {K : PySem.W.Frag} {C : Addr} (h : oexB K C = true) : OexF K C := by
  unfold oexB at h
  simp only [Bool.and_eq_true, decide_eq_true_eq] at h
  obtain ⟨h1, h2, h3, h4, h5, h6, h7, h8⟩ := h
  refine ⟨⟨?_, h2, h3, h4, h5⟩, xfB_ok h6, h7, h8⟩
  split at h1
  · rename_i dd cd sl ho
    split at h1
    · rename_i D bm k0 k1 k2 k3 n k5 hm hs
      simp only [Bool.and_eq_true, decide_eq_true_eq, Bool.not_eq_true'] at h1
      obtain ⟨rfl, rfl, hdel, hdict, hbm⟩ := h1
      obtain ⟨nm, bs, mro, ns, qn, hd, sn, sub, ab, col, del⟩ := cd
      dsimp only at hm hdel hdict
      subst hm hdel hdict
      have hsl : sl = #[k0, k1, k2, k3, some (.builtin "ValueError.__new__"), k5] := by
        obtain ⟨l⟩ := sl
        simp only at hs
        rw [hs]
      subst hsl
      exact ⟨nm, qn, ns, bs, bm, sn, sub, ab, col, dd, k0, k1, k2, k3, k5, ho, hbm⟩
    · cases h1
  · cases h1
def veB (K : PySem.W.Frag) : Bool := match PySem.W.findCls K (.type "ValueError") (.type "type") "__init__" with | some (.val (.builtin n)) => decide (n = "ValueError.__init__") | _ => false
theorem veB_ok {K : PySem.W.Frag} (h : veB K = true) : PySem.W.findCls K (.type "ValueError") (.type "type") "__init__" = some (.val (.builtin "ValueError.__init__")) := by
  unfold veB at h
  split at h
  · rename_i n hn
    rw [hn, of_decide_eq_true h]
  · cases h
def exB (K : PySem.W.Frag) : Bool := oexB K (He.ga K "LineFault") && (oexB K (He.ga K "TextFault") && (oexB K (He.ga K "Refused") && (He.tupB K "NUMBERS" numVals && (He.tupB K "WAITING" waitVals && (He.valsB K (He.ga K "DEEDS") deedVals &&
  veB K)))))
/-! ## what every walk leans on -/
structure GG where
  P : Program
  w : World
  K : PySem.W.Frag
  mg : Str → Option Value
  base : Heap
structure Tx (g : GG) : Prop where
  ex : ∃ h : Heap, g.K.In h ∧ h.Ns mainGlobals g.mg ∧ He.SaysX fa fn tabs [] exB g.w h g.K
section
variable {g : GG}
theorem Tx.d (T : Tx g) : He.SaysD fa fn g.K := by
  obtain ⟨h, _, _, c⟩ := T.ex
  exact c.t.d
theorem Tx.more (T : Tx g) : exB g.K = true := by
  obtain ⟨h, _, _, c⟩ := T.ex
  exact c.more
theorem Tx.glo (T : Tx g) {x : Str} (c : (He.Fa.glo x).ok g.K = true) : g.mg x = some (.ref (He.ga g.K x)) := by
  obtain ⟨h, X, G, _⟩ := T.ex
  exact He.glo_ok X G c
theorem Tx.free (T : Tx g) {x : Str} (c : (He.Fa.free x).ok g.K = true) : g.mg x = none := by
  obtain ⟨h, X, G, _⟩ := T.ex
  exact He.free_ok X G c
theorem Tx.int (T : Tx g) {x : Str} {i : Int} (c : (He.Fa.int x i).ok g.K = true) : ∃ u, g.mg x = some u ∧ RelV (.int i) u := by
  obtain ⟨h, X, G, _⟩ := T.ex
  obtain ⟨t, e⟩ := He.int_ok X G c
  exact ⟨_, e, t, rfl⟩
theorem Tx.str (T : Tx g) {x z : Str} (c : (He.Fa.str x z).ok g.K = true) : ∃ u, g.mg x = some u ∧ RelV (.str z) u := by
  obtain ⟨h, X, G, _⟩ := T.ex
  obtain ⟨t, e⟩ := He.str_ok X G c
  exact ⟨_, e, t, rfl⟩

theorem Tx.gl_want (T : Tx g) : g.mg "want" = some (.ref (He.ga g.K "want")) := T.glo (T.d.fact 0 (f := .glo "want") rfl)
theorem Tx.gl_is_byte (T : Tx g) : g.mg "is_byte" = some (.ref (He.ga g.K "is_byte")) := T.glo (T.d.fact 1 (f := .glo "is_byte") rfl)
theorem Tx.gl_is_text (T : Tx g) : g.mg "is_text" = some (.ref (He.ga g.K "is_text")) := T.glo (T.d.fact 2 (f := .glo "is_text") rfl)
theorem Tx.gl_sign_of (T : Tx g) : g.mg "sign_of" = some (.ref (He.ga g.K "sign_of")) := T.glo (T.d.fact 3 (f := .glo "sign_of") rfl)
theorem Tx.gl_lines_of (T : Tx g) : g.mg "lines_of" = some (.ref (He.ga g.K "lines_of")) := T.glo (T.d.fact 4 (f := .glo "lines_of") rfl)
theorem Tx.gl_is_name (T : Tx g) : g.mg "is_name" = some (.ref (He.ga g.K "is_name")) := T.glo (T.d.fact 5 (f := .glo "is_name") rfl)
theorem Tx.gl_number_in (T : Tx g) : g.mg "number_in" = some (.ref (He.ga g.K "number_in")) := T.glo (T.d.fact 6 (f := .glo "number_in") rfl)
theorem Tx.gl_want_new (T : Tx g) : g.mg "want_new" = some (.ref (He.ga g.K "want_new")) := T.glo (T.d.fact 7 (f := .glo "want_new") rfl)
theorem Tx.gl_number_of (T : Tx g) : g.mg "number_of" = some (.ref (He.ga g.K "number_of")) := T.glo (T.d.fact 8 (f := .glo "number_of") rfl)
theorem Tx.gl_belt_with (T : Tx g) : g.mg "belt_with" = some (.ref (He.ga g.K "belt_with")) := T.glo (T.d.fact 9 (f := .glo "belt_with") rfl)
theorem Tx.gl_goal_of (T : Tx g) : g.mg "goal_of" = some (.ref (He.ga g.K "goal_of")) := T.glo (T.d.fact 10 (f := .glo "goal_of") rfl)
theorem Tx.gl_read_goal (T : Tx g) : g.mg "read_goal" = some (.ref (He.ga g.K "read_goal")) := T.glo (T.d.fact 11 (f := .glo "read_goal") rfl)
theorem Tx.gl_do_chute (T : Tx g) : g.mg "do_chute" = some (.ref (He.ga g.K "do_chute")) := T.glo (T.d.fact 12 (f := .glo "do_chute") rfl)
theorem Tx.gl_do_belt (T : Tx g) : g.mg "do_belt" = some (.ref (He.ga g.K "do_belt")) := T.glo (T.d.fact 13 (f := .glo "do_belt") rfl)
theorem Tx.gl_do_lead (T : Tx g) : g.mg "do_lead" = some (.ref (He.ga g.K "do_lead")) := T.glo (T.d.fact 14 (f := .glo "do_lead") rfl)
theorem Tx.gl_do_eye (T : Tx g) : g.mg "do_eye" = some (.ref (He.ga g.K "do_eye")) := T.glo (T.d.fact 15 (f := .glo "do_eye") rfl)
theorem Tx.gl_do_pusher (T : Tx g) : g.mg "do_pusher" = some (.ref (He.ga g.K "do_pusher")) := T.glo (T.d.fact 16 (f := .glo "do_pusher") rfl)
theorem Tx.gl_read_term (T : Tx g) : g.mg "read_term" = some (.ref (He.ga g.K "read_term")) := T.glo (T.d.fact 17 (f := .glo "read_term") rfl)
theorem Tx.gl_read_condition (T : Tx g) : g.mg "read_condition" = some (.ref (He.ga g.K "read_condition")) := T.glo (T.d.fact 18 (f := .glo "read_condition") rfl)
theorem Tx.gl_known_term (T : Tx g) : g.mg "known_term" = some (.ref (He.ga g.K "known_term")) := T.glo (T.d.fact 19 (f := .glo "known_term") rfl)
theorem Tx.gl_do_rule (T : Tx g) : g.mg "do_rule" = some (.ref (He.ga g.K "do_rule")) := T.glo (T.d.fact 20 (f := .glo "do_rule") rfl)
theorem Tx.gl_do_feed (T : Tx g) : g.mg "do_feed" = some (.ref (He.ga g.K "do_feed")) := T.glo (T.d.fact 21 (f := .glo "do_feed") rfl)
theorem Tx.gl_do_line (T : Tx g) : g.mg "do_line" = some (.ref (He.ga g.K "do_line")) := T.glo (T.d.fact 22 (f := .glo "do_line") rfl)
theorem Tx.gl_read_line (T : Tx g) : g.mg "read_line" = some (.ref (He.ga g.K "read_line")) := T.glo (T.d.fact 23 (f := .glo "read_line") rfl)
theorem Tx.gl_read_plant (T : Tx g) : g.mg "read_plant" = some (.ref (He.ga g.K "read_plant")) := T.glo (T.d.fact 24 (f := .glo "read_plant") rfl)
theorem Tx.gl_refuse_unless (T : Tx g) : g.mg "refuse_unless" = some (.ref (He.ga g.K "refuse_unless")) := T.glo (T.d.fact 25 (f := .glo "refuse_unless") rfl)
theorem Tx.gl_counted (T : Tx g) : g.mg "counted" = some (.ref (He.ga g.K "counted")) := T.glo (T.d.fact 26 (f := .glo "counted") rfl)
theorem Tx.gl_told (T : Tx g) : g.mg "told" = some (.ref (He.ga g.K "told")) := T.glo (T.d.fact 27 (f := .glo "told") rfl)
theorem Tx.gl_answered (T : Tx g) : g.mg "answered" = some (.ref (He.ga g.K "answered")) := T.glo (T.d.fact 28 (f := .glo "answered") rfl)
theorem Tx.gl_answers (T : Tx g) : g.mg "answers" = some (.ref (He.ga g.K "answers")) := T.glo (T.d.fact 29 (f := .glo "answers") rfl)
theorem Tx.gl_LineFault (T : Tx g) : g.mg "LineFault" = some (.ref (He.ga g.K "LineFault")) := T.glo (T.d.fact 30 (f := .glo "LineFault") rfl)
theorem Tx.gl_Words (T : Tx g) : g.mg "Words" = some (.ref (He.ga g.K "Words")) := T.glo (T.d.fact 31 (f := .glo "Words") rfl)
theorem Tx.gl_Plant (T : Tx g) : g.mg "Plant" = some (.ref (He.ga g.K "Plant")) := T.glo (T.d.fact 32 (f := .glo "Plant") rfl)
theorem Tx.gl_Parcel (T : Tx g) : g.mg "Parcel" = some (.ref (He.ga g.K "Parcel")) := T.glo (T.d.fact 33 (f := .glo "Parcel") rfl)
theorem Tx.gl_Floor (T : Tx g) : g.mg "Floor" = some (.ref (He.ga g.K "Floor")) := T.glo (T.d.fact 34 (f := .glo "Floor") rfl)
theorem Tx.gl_TextFault (T : Tx g) : g.mg "TextFault" = some (.ref (He.ga g.K "TextFault")) := T.glo (T.d.fact 35 (f := .glo "TextFault") rfl)
theorem Tx.gl_Refused (T : Tx g) : g.mg "Refused" = some (.ref (He.ga g.K "Refused")) := T.glo (T.d.fact 36 (f := .glo "Refused") rfl)
theorem Tx.gl_Desk (T : Tx g) : g.mg "Desk" = some (.ref (He.ga g.K "Desk")) := T.glo (T.d.fact 37 (f := .glo "Desk") rfl)
theorem Tx.gl_DEEDS (T : Tx g) : g.mg "DEEDS" = some (.ref (He.ga g.K "DEEDS")) := T.glo (T.d.fact 38 (f := .glo "DEEDS") rfl)
theorem Tx.gl_NUMBERS (T : Tx g) : g.mg "NUMBERS" = some (.ref (He.ga g.K "NUMBERS")) := T.glo (T.d.fact 39 (f := .glo "NUMBERS") rfl)
theorem Tx.gl_WAITING (T : Tx g) : g.mg "WAITING" = some (.ref (He.ga g.K "WAITING")) := T.glo (T.d.fact 40 (f := .glo "WAITING") rfl)
theorem Tx.fr_len (T : Tx g) : g.mg "len" = none := T.free (T.d.fact 41 (f := .free "len") rfl)
theorem Tx.fr_all (T : Tx g) : g.mg "all" = none := T.free (T.d.fact 42 (f := .free "all") rfl)
theorem Tx.fr_any (T : Tx g) : g.mg "any" = none := T.free (T.d.fact 43 (f := .free "any") rfl)
theorem Tx.fr_sorted (T : Tx g) : g.mg "sorted" = none := T.free (T.d.fact 44 (f := .free "sorted") rfl)
theorem Tx.fr_enumerate (T : Tx g) : g.mg "enumerate" = none := T.free (T.d.fact 45 (f := .free "enumerate") rfl)
theorem Tx.fr_range (T : Tx g) : g.mg "range" = none := T.free (T.d.fact 46 (f := .free "range") rfl)
theorem Tx.fr_zip (T : Tx g) : g.mg "zip" = none := T.free (T.d.fact 47 (f := .free "zip") rfl)
theorem Tx.fr_list (T : Tx g) : g.mg "list" = none := T.free (T.d.fact 48 (f := .free "list") rfl)
theorem Tx.fr_int (T : Tx g) : g.mg "int" = none := T.free (T.d.fact 49 (f := .free "int") rfl)
theorem Tx.fr_ValueError (T : Tx g) : g.mg "ValueError" = none := T.free (T.d.fact 50 (f := .free "ValueError") rfl)
theorem Tx.in_FIRST_LETTER (T : Tx g) : ∃ u, g.mg "FIRST_LETTER" = some u ∧ RelV (.int (97)) u := T.int (T.d.fact 51 (f := .int "FIRST_LETTER" (97)) rfl)
theorem Tx.in_FIRST_DIGIT (T : Tx g) : ∃ u, g.mg "FIRST_DIGIT" = some u ∧ RelV (.int (48)) u := T.int (T.d.fact 52 (f := .int "FIRST_DIGIT" (48)) rfl)
theorem Tx.in_LINE_END (T : Tx g) : ∃ u, g.mg "LINE_END" = some u ∧ RelV (.int (10)) u := T.int (T.d.fact 53 (f := .int "LINE_END" (10)) rfl)
theorem Tx.in_BLANK (T : Tx g) : ∃ u, g.mg "BLANK" = some u ∧ RelV (.int (32)) u := T.int (T.d.fact 54 (f := .int "BLANK" (32)) rfl)
theorem Tx.in_LAST_BYTE (T : Tx g) : ∃ u, g.mg "LAST_BYTE" = some u ∧ RelV (.int (126)) u := T.int (T.d.fact 55 (f := .int "LAST_BYTE" (126)) rfl)
theorem Tx.in_LONGEST_TEXT (T : Tx g) : ∃ u, g.mg "LONGEST_TEXT" = some u ∧ RelV (.int (4000)) u := T.int (T.d.fact 56 (f := .int "LONGEST_TEXT" (4000)) rfl)
theorem Tx.in_LONGEST_NAME (T : Tx g) : ∃ u, g.mg "LONGEST_NAME" = some u ∧ RelV (.int (8)) u := T.int (T.d.fact 57 (f := .int "LONGEST_NAME" (8)) rfl)
theorem Tx.in_LONGEST_NUMBER (T : Tx g) : ∃ u, g.mg "LONGEST_NUMBER" = some u ∧ RelV (.int (4)) u := T.int (T.d.fact 58 (f := .int "LONGEST_NUMBER" (4)) rfl)
theorem Tx.in_NO_NUMBER (T : Tx g) : ∃ u, g.mg "NO_NUMBER" = some u ∧ RelV (.int (-1)) u := T.int (T.d.fact 59 (f := .int "NO_NUMBER" (-1)) rfl)
theorem Tx.in_NOT_FORMED (T : Tx g) : ∃ u, g.mg "NOT_FORMED" = some u ∧ RelV (.int (1)) u := T.int (T.d.fact 60 (f := .int "NOT_FORMED" (1)) rfl)
theorem Tx.in_BELT (T : Tx g) : ∃ u, g.mg "BELT" = some u ∧ RelV (.int (1)) u := T.int (T.d.fact 61 (f := .int "BELT" (1)) rfl)
theorem Tx.in_CHUTE (T : Tx g) : ∃ u, g.mg "CHUTE" = some u ∧ RelV (.int (2)) u := T.int (T.d.fact 62 (f := .int "CHUTE" (2)) rfl)
theorem Tx.in_EYE (T : Tx g) : ∃ u, g.mg "EYE" = some u ∧ RelV (.int (3)) u := T.int (T.d.fact 63 (f := .int "EYE" (3)) rfl)
theorem Tx.in_PUSHER (T : Tx g) : ∃ u, g.mg "PUSHER" = some u ∧ RelV (.int (4)) u := T.int (T.d.fact 64 (f := .int "PUSHER" (4)) rfl)
theorem Tx.in_MOST_OF_A_KIND (T : Tx g) : ∃ u, g.mg "MOST_OF_A_KIND" = some u ∧ RelV (.int (12)) u := T.int (T.d.fact 65 (f := .int "MOST_OF_A_KIND" (12)) rfl)
theorem Tx.in_MOST_RULES (T : Tx g) : ∃ u, g.mg "MOST_RULES" = some u ∧ RelV (.int (12)) u := T.int (T.d.fact 66 (f := .int "MOST_RULES" (12)) rfl)
theorem Tx.in_MOST_PARCELS (T : Tx g) : ∃ u, g.mg "MOST_PARCELS" = some u ∧ RelV (.int (40)) u := T.int (T.d.fact 67 (f := .int "MOST_PARCELS" (40)) rfl)
theorem Tx.in_WRONG_NAME (T : Tx g) : ∃ u, g.mg "WRONG_NAME" = some u ∧ RelV (.int (2)) u := T.int (T.d.fact 68 (f := .int "WRONG_NAME" (2)) rfl)
theorem Tx.in_NO_POSITION (T : Tx g) : ∃ u, g.mg "NO_POSITION" = some u ∧ RelV (.int (3)) u := T.int (T.d.fact 69 (f := .int "NO_POSITION" (3)) rfl)
theorem Tx.in_TOO_MANY (T : Tx g) : ∃ u, g.mg "TOO_MANY" = some u ∧ RelV (.int (4)) u := T.int (T.d.fact 70 (f := .int "TOO_MANY" (4)) rfl)
theorem Tx.in_MOST_ROOM (T : Tx g) : ∃ u, g.mg "MOST_ROOM" = some u ∧ RelV (.int (99)) u := T.int (T.d.fact 71 (f := .int "MOST_ROOM" (99)) rfl)
theorem Tx.in_LONGEST_BELT (T : Tx g) : ∃ u, g.mg "LONGEST_BELT" = some u ∧ RelV (.int (40)) u := T.int (T.d.fact 72 (f := .int "LONGEST_BELT" (40)) rfl)
theorem Tx.in_LONGEST_PARCEL (T : Tx g) : ∃ u, g.mg "LONGEST_PARCEL" = some u ∧ RelV (.int (5)) u := T.int (T.d.fact 73 (f := .int "LONGEST_PARCEL" (5)) rfl)
theorem Tx.in_MOST_DELAY (T : Tx g) : ∃ u, g.mg "MOST_DELAY" = some u ∧ RelV (.int (99)) u := T.int (T.d.fact 74 (f := .int "MOST_DELAY" (99)) rfl)
theorem Tx.in_MOST_EACH (T : Tx g) : ∃ u, g.mg "MOST_EACH" = some u ∧ RelV (.int (99)) u := T.int (T.d.fact 75 (f := .int "MOST_EACH" (99)) rfl)
theorem Tx.in_MOST_TIMES (T : Tx g) : ∃ u, g.mg "MOST_TIMES" = some u ∧ RelV (.int (40)) u := T.int (T.d.fact 76 (f := .int "MOST_TIMES" (40)) rfl)
theorem Tx.in_MOST_TERMS (T : Tx g) : ∃ u, g.mg "MOST_TERMS" = some u ∧ RelV (.int (4)) u := T.int (T.d.fact 77 (f := .int "MOST_TERMS" (4)) rfl)
theorem Tx.in_MOST_NUMBER (T : Tx g) : ∃ u, g.mg "MOST_NUMBER" = some u ∧ RelV (.int (9999)) u := T.int (T.d.fact 78 (f := .int "MOST_NUMBER" (9999)) rfl)
theorem Tx.in_OUT_OF_RANGE (T : Tx g) : ∃ u, g.mg "OUT_OF_RANGE" = some u ∧ RelV (.int (-2)) u := T.int (T.d.fact 79 (f := .int "OUT_OF_RANGE" (-2)) rfl)
theorem Tx.in_NO_ROOM (T : Tx g) : ∃ u, g.mg "NO_ROOM" = some u ∧ RelV (.int (-5)) u := T.int (T.d.fact 80 (f := .int "NO_ROOM" (-5)) rfl)
theorem Tx.in_NOT_LOADED (T : Tx g) : ∃ u, g.mg "NOT_LOADED" = some u ∧ RelV (.int (-7)) u := T.int (T.d.fact 81 (f := .int "NOT_LOADED" (-7)) rfl)
theorem Tx.in_MOST_TICKS (T : Tx g) : ∃ u, g.mg "MOST_TICKS" = some u ∧ RelV (.int (200)) u := T.int (T.d.fact 82 (f := .int "MOST_TICKS" (200)) rfl)
theorem Tx.in_LOAD (T : Tx g) : ∃ u, g.mg "LOAD" = some u ∧ RelV (.int (1)) u := T.int (T.d.fact 83 (f := .int "LOAD" (1)) rfl)
theorem Tx.st_LETTERS (T : Tx g) : ∃ u, g.mg "LETTERS" = some u ∧ RelV (.str "abcdefghijklmnopqrstuvwxyz") u := T.str (T.d.fact 84 (f := .str "LETTERS" "abcdefghijklmnopqrstuvwxyz") rfl)
theorem Tx.st_DIGITS (T : Tx g) : ∃ u, g.mg "DIGITS" = some u ∧ RelV (.str "0123456789") u := T.str (T.d.fact 85 (f := .str "DIGITS" "0123456789") rfl)
theorem Tx.st_OTHER (T : Tx g) : ∃ u, g.mg "OTHER" = some u ∧ RelV (.str "?") u := T.str (T.d.fact 86 (f := .str "OTHER" "?") rfl)
theorem Tx.cl_Words (T : Tx g) : Cls g.K (He.ga g.K "Words") := He.cls_ok (T.d.fact 87 (f := .cls "Words") rfl)
theorem Tx.mk_Words (T : Tx g) : Mk g.K (He.ga g.K "Words") (He.ma g.K (He.ga g.K "Words") "__init__") := He.mkr_ok (T.d.fact 88 (f := .mkr "Words") rfl)
theorem Tx.na_Words_row (T : Tx g) : NoAttr g.K (He.ga g.K "Words") "row" := He.noat_ok (T.d.fact 89 (f := .noat "Words" "row") rfl)
theorem Tx.na_Words_at (T : Tx g) : NoAttr g.K (He.ga g.K "Words") "at" := He.noat_ok (T.d.fact 90 (f := .noat "Words" "at") rfl)
theorem Tx.cl_Plant (T : Tx g) : Cls g.K (He.ga g.K "Plant") := He.cls_ok (T.d.fact 91 (f := .cls "Plant") rfl)
theorem Tx.mk_Plant (T : Tx g) : Mk g.K (He.ga g.K "Plant") (He.ma g.K (He.ga g.K "Plant") "__init__") := He.mkr_ok (T.d.fact 92 (f := .mkr "Plant") rfl)
theorem Tx.na_Plant_known (T : Tx g) : NoAttr g.K (He.ga g.K "Plant") "known" := He.noat_ok (T.d.fact 93 (f := .noat "Plant" "known") rfl)
theorem Tx.na_Plant_lengths (T : Tx g) : NoAttr g.K (He.ga g.K "Plant") "lengths" := He.noat_ok (T.d.fact 94 (f := .noat "Plant" "lengths") rfl)
theorem Tx.na_Plant_goals (T : Tx g) : NoAttr g.K (He.ga g.K "Plant") "goals" := He.noat_ok (T.d.fact 95 (f := .noat "Plant" "goals") rfl)
theorem Tx.na_Plant_rooms (T : Tx g) : NoAttr g.K (He.ga g.K "Plant") "rooms" := He.noat_ok (T.d.fact 96 (f := .noat "Plant" "rooms") rfl)
theorem Tx.na_Plant_eyes (T : Tx g) : NoAttr g.K (He.ga g.K "Plant") "eyes" := He.noat_ok (T.d.fact 97 (f := .noat "Plant" "eyes") rfl)
theorem Tx.na_Plant_pushers (T : Tx g) : NoAttr g.K (He.ga g.K "Plant") "pushers" := He.noat_ok (T.d.fact 98 (f := .noat "Plant" "pushers") rfl)
theorem Tx.na_Plant_rules (T : Tx g) : NoAttr g.K (He.ga g.K "Plant") "rules" := He.noat_ok (T.d.fact 99 (f := .noat "Plant" "rules") rfl)
theorem Tx.na_Plant_parcels (T : Tx g) : NoAttr g.K (He.ga g.K "Plant") "parcels" := He.noat_ok (T.d.fact 100 (f := .noat "Plant" "parcels") rfl)
theorem Tx.cl_Parcel (T : Tx g) : Cls g.K (He.ga g.K "Parcel") := He.cls_ok (T.d.fact 101 (f := .cls "Parcel") rfl)
theorem Tx.mk_Parcel (T : Tx g) : Mk g.K (He.ga g.K "Parcel") (He.ma g.K (He.ga g.K "Parcel") "__init__") := He.mkr_ok (T.d.fact 102 (f := .mkr "Parcel") rfl)
theorem Tx.na_Parcel_belt (T : Tx g) : NoAttr g.K (He.ga g.K "Parcel") "belt" := He.noat_ok (T.d.fact 103 (f := .noat "Parcel" "belt") rfl)
theorem Tx.na_Parcel_code (T : Tx g) : NoAttr g.K (He.ga g.K "Parcel") "code" := He.noat_ok (T.d.fact 104 (f := .noat "Parcel" "code") rfl)
theorem Tx.na_Parcel_length (T : Tx g) : NoAttr g.K (He.ga g.K "Parcel") "length" := He.noat_ok (T.d.fact 105 (f := .noat "Parcel" "length") rfl)
theorem Tx.na_Parcel_since (T : Tx g) : NoAttr g.K (He.ga g.K "Parcel") "since" := He.noat_ok (T.d.fact 106 (f := .noat "Parcel" "since") rfl)
theorem Tx.na_Parcel_place (T : Tx g) : NoAttr g.K (He.ga g.K "Parcel") "place" := He.noat_ok (T.d.fact 107 (f := .noat "Parcel" "place") rfl)
theorem Tx.na_Parcel_has_moved (T : Tx g) : NoAttr g.K (He.ga g.K "Parcel") "has_moved" := He.noat_ok (T.d.fact 108 (f := .noat "Parcel" "has_moved") rfl)
theorem Tx.cl_Floor (T : Tx g) : Cls g.K (He.ga g.K "Floor") := He.cls_ok (T.d.fact 109 (f := .cls "Floor") rfl)
theorem Tx.mk_Floor (T : Tx g) : Mk g.K (He.ga g.K "Floor") (He.ma g.K (He.ga g.K "Floor") "__init__") := He.mkr_ok (T.d.fact 110 (f := .mkr "Floor") rfl)
theorem Tx.na_Floor_plant (T : Tx g) : NoAttr g.K (He.ga g.K "Floor") "plant" := He.noat_ok (T.d.fact 111 (f := .noat "Floor" "plant") rfl)
theorem Tx.na_Floor_parcels (T : Tx g) : NoAttr g.K (He.ga g.K "Floor") "parcels" := He.noat_ok (T.d.fact 112 (f := .noat "Floor" "parcels") rfl)
theorem Tx.na_Floor_tick (T : Tx g) : NoAttr g.K (He.ga g.K "Floor") "tick" := He.noat_ok (T.d.fact 113 (f := .noat "Floor" "tick") rfl)
theorem Tx.na_Floor_seen (T : Tx g) : NoAttr g.K (He.ga g.K "Floor") "seen" := He.noat_ok (T.d.fact 114 (f := .noat "Floor" "seen") rfl)
theorem Tx.na_Floor_fired (T : Tx g) : NoAttr g.K (He.ga g.K "Floor") "fired" := He.noat_ok (T.d.fact 115 (f := .noat "Floor" "fired") rfl)
theorem Tx.na_Floor_done (T : Tx g) : NoAttr g.K (He.ga g.K "Floor") "done" := He.noat_ok (T.d.fact 116 (f := .noat "Floor" "done") rfl)
theorem Tx.na_Floor_missed (T : Tx g) : NoAttr g.K (He.ga g.K "Floor") "missed" := He.noat_ok (T.d.fact 117 (f := .noat "Floor" "missed") rfl)
theorem Tx.na_Floor_scheduled (T : Tx g) : NoAttr g.K (He.ga g.K "Floor") "scheduled" := He.noat_ok (T.d.fact 118 (f := .noat "Floor" "scheduled") rfl)
theorem Tx.cl_Desk (T : Tx g) : Cls g.K (He.ga g.K "Desk") := He.cls_ok (T.d.fact 119 (f := .cls "Desk") rfl)
theorem Tx.mk_Desk (T : Tx g) : Mk g.K (He.ga g.K "Desk") (He.ma g.K (He.ga g.K "Desk") "__init__") := He.mkr_ok (T.d.fact 120 (f := .mkr "Desk") rfl)
theorem Tx.na_Desk_floor (T : Tx g) : NoAttr g.K (He.ga g.K "Desk") "floor" := He.noat_ok (T.d.fact 121 (f := .noat "Desk" "floor") rfl)
theorem Tx.na_LineFault_code (T : Tx g) : PySem.W.findIn g.K (.ref (He.ga g.K "LineFault")) "code" = some none := He.noat_ok (T.d.fact 122 (f := .noat "LineFault" "code") rfl)
theorem Tx.xm_LineFault (T : Tx g) : PySem.W.exmOne g.K (.ref (He.ga g.K "LineFault")) (.ref (He.ga g.K "LineFault")) = some true := He.exm_ok (T.d.fact 123 (f := .exm "LineFault" "LineFault" true) rfl)
theorem Tx.na_TextFault_line (T : Tx g) : PySem.W.findIn g.K (.ref (He.ga g.K "TextFault")) "line" = some none := He.noat_ok (T.d.fact 124 (f := .noat "TextFault" "line") rfl)
theorem Tx.na_TextFault_code (T : Tx g) : PySem.W.findIn g.K (.ref (He.ga g.K "TextFault")) "code" = some none := He.noat_ok (T.d.fact 125 (f := .noat "TextFault" "code") rfl)
theorem Tx.xm_TextFault (T : Tx g) : PySem.W.exmOne g.K (.ref (He.ga g.K "TextFault")) (.ref (He.ga g.K "TextFault")) = some true := He.exm_ok (T.d.fact 126 (f := .exm "TextFault" "TextFault" true) rfl)
theorem Tx.na_Refused_answer (T : Tx g) : PySem.W.findIn g.K (.ref (He.ga g.K "Refused")) "answer" = some none := He.noat_ok (T.d.fact 127 (f := .noat "Refused" "answer") rfl)
theorem Tx.xm_Refused (T : Tx g) : PySem.W.exmOne g.K (.ref (He.ga g.K "Refused")) (.ref (He.ga g.K "Refused")) = some true := He.exm_ok (T.d.fact 128 (f := .exm "Refused" "Refused" true) rfl)
theorem Tx.me_Words_is_over (T : Tx g) : Meth g.K (He.ga g.K "Words") "is_over" (He.ma g.K (He.ga g.K "Words") "is_over") := He.meth_ok (T.d.fact 129 (f := .meth "Words" "is_over") rfl)
theorem Tx.me_Words_take (T : Tx g) : Meth g.K (He.ga g.K "Words") "take" (He.ma g.K (He.ga g.K "Words") "take") := He.meth_ok (T.d.fact 130 (f := .meth "Words" "take") rfl)
theorem Tx.me_Words_sees (T : Tx g) : Meth g.K (He.ga g.K "Words") "sees" (He.ma g.K (He.ga g.K "Words") "sees") := He.meth_ok (T.d.fact 131 (f := .meth "Words" "sees") rfl)
theorem Tx.me_Words_take_told (T : Tx g) : Meth g.K (He.ga g.K "Words") "take_told" (He.ma g.K (He.ga g.K "Words") "take_told") := He.meth_ok (T.d.fact 132 (f := .meth "Words" "take_told") rfl)
theorem Tx.me_Words_take_name (T : Tx g) : Meth g.K (He.ga g.K "Words") "take_name" (He.ma g.K (He.ga g.K "Words") "take_name") := He.meth_ok (T.d.fact 133 (f := .meth "Words" "take_name") rfl)
theorem Tx.me_Words_take_number (T : Tx g) : Meth g.K (He.ga g.K "Words") "take_number" (He.ma g.K (He.ga g.K "Words") "take_number") := He.meth_ok (T.d.fact 134 (f := .meth "Words" "take_number") rfl)
theorem Tx.me_Words_take_end (T : Tx g) : Meth g.K (He.ga g.K "Words") "take_end" (He.ma g.K (He.ga g.K "Words") "take_end") := He.meth_ok (T.d.fact 135 (f := .meth "Words" "take_end") rfl)
theorem Tx.me_Plant_how_many (T : Tx g) : Meth g.K (He.ga g.K "Plant") "how_many" (He.ma g.K (He.ga g.K "Plant") "how_many") := He.meth_ok (T.d.fact 136 (f := .meth "Plant" "how_many") rfl)
theorem Tx.me_Plant_put_name (T : Tx g) : Meth g.K (He.ga g.K "Plant") "put_name" (He.ma g.K (He.ga g.K "Plant") "put_name") := He.meth_ok (T.d.fact 137 (f := .meth "Plant" "put_name") rfl)
theorem Tx.me_Plant_put_chute (T : Tx g) : Meth g.K (He.ga g.K "Plant") "put_chute" (He.ma g.K (He.ga g.K "Plant") "put_chute") := He.meth_ok (T.d.fact 138 (f := .meth "Plant" "put_chute") rfl)
theorem Tx.me_Plant_put_belt (T : Tx g) : Meth g.K (He.ga g.K "Plant") "put_belt" (He.ma g.K (He.ga g.K "Plant") "put_belt") := He.meth_ok (T.d.fact 139 (f := .meth "Plant" "put_belt") rfl)
theorem Tx.me_Plant_set_goal (T : Tx g) : Meth g.K (He.ga g.K "Plant") "set_goal" (He.ma g.K (He.ga g.K "Plant") "set_goal") := He.meth_ok (T.d.fact 140 (f := .meth "Plant" "set_goal") rfl)
theorem Tx.me_Plant_put_eye (T : Tx g) : Meth g.K (He.ga g.K "Plant") "put_eye" (He.ma g.K (He.ga g.K "Plant") "put_eye") := He.meth_ok (T.d.fact 141 (f := .meth "Plant" "put_eye") rfl)
theorem Tx.me_Plant_put_pusher (T : Tx g) : Meth g.K (He.ga g.K "Plant") "put_pusher" (He.ma g.K (He.ga g.K "Plant") "put_pusher") := He.meth_ok (T.d.fact 142 (f := .meth "Plant" "put_pusher") rfl)
theorem Tx.me_Plant_put_rule (T : Tx g) : Meth g.K (He.ga g.K "Plant") "put_rule" (He.ma g.K (He.ga g.K "Plant") "put_rule") := He.meth_ok (T.d.fact 143 (f := .meth "Plant" "put_rule") rfl)
theorem Tx.me_Plant_put_parcel (T : Tx g) : Meth g.K (He.ga g.K "Plant") "put_parcel" (He.ma g.K (He.ga g.K "Plant") "put_parcel") := He.meth_ok (T.d.fact 144 (f := .meth "Plant" "put_parcel") rfl)
theorem Tx.me_Parcel_told (T : Tx g) : Meth g.K (He.ga g.K "Parcel") "told" (He.ma g.K (He.ga g.K "Parcel") "told") := He.meth_ok (T.d.fact 145 (f := .meth "Parcel" "told") rfl)
theorem Tx.me_Parcel_covers (T : Tx g) : Meth g.K (He.ga g.K "Parcel") "covers" (He.ma g.K (He.ga g.K "Parcel") "covers") := He.meth_ok (T.d.fact 146 (f := .meth "Parcel" "covers") rfl)
theorem Tx.me_Floor_put_parcel (T : Tx g) : Meth g.K (He.ga g.K "Floor") "put_parcel" (He.ma g.K (He.ga g.K "Floor") "put_parcel") := He.meth_ok (T.d.fact 147 (f := .meth "Floor" "put_parcel") rfl)
theorem Tx.me_Floor_begin_tick (T : Tx g) : Meth g.K (He.ga g.K "Floor") "begin_tick" (He.ma g.K (He.ga g.K "Floor") "begin_tick") := He.meth_ok (T.d.fact 148 (f := .meth "Floor" "begin_tick") rfl)
theorem Tx.me_Floor_go (T : Tx g) : Meth g.K (He.ga g.K "Floor") "go" (He.ma g.K (He.ga g.K "Floor") "go") := He.meth_ok (T.d.fact 149 (f := .meth "Floor" "go") rfl)
theorem Tx.me_Floor_at_place (T : Tx g) : Meth g.K (He.ga g.K "Floor") "at_place" (He.ma g.K (He.ga g.K "Floor") "at_place") := He.meth_ok (T.d.fact 150 (f := .meth "Floor" "at_place") rfl)
theorem Tx.me_Floor_of_kind (T : Tx g) : Meth g.K (He.ga g.K "Floor") "of_kind" (He.ma g.K (He.ga g.K "Floor") "of_kind") := He.meth_ok (T.d.fact 151 (f := .meth "Floor" "of_kind") rfl)
theorem Tx.me_Floor_on_belt (T : Tx g) : Meth g.K (He.ga g.K "Floor") "on_belt" (He.ma g.K (He.ga g.K "Floor") "on_belt") := He.meth_ok (T.d.fact 152 (f := .meth "Floor" "on_belt") rfl)
theorem Tx.me_Floor_has_room (T : Tx g) : Meth g.K (He.ga g.K "Floor") "has_room" (He.ma g.K (He.ga g.K "Floor") "has_room") := He.meth_ok (T.d.fact 153 (f := .meth "Floor" "has_room") rfl)
theorem Tx.me_Floor_is_free (T : Tx g) : Meth g.K (He.ga g.K "Floor") "is_free" (He.ma g.K (He.ga g.K "Floor") "is_free") := He.meth_ok (T.d.fact 154 (f := .meth "Floor" "is_free") rfl)
theorem Tx.me_Floor_can_go (T : Tx g) : Meth g.K (He.ga g.K "Floor") "can_go" (He.ma g.K (He.ga g.K "Floor") "can_go") := He.meth_ok (T.d.fact 155 (f := .meth "Floor" "can_go") rfl)
theorem Tx.me_Floor_do_push (T : Tx g) : Meth g.K (He.ga g.K "Floor") "do_push" (He.ma g.K (He.ga g.K "Floor") "do_push") := He.meth_ok (T.d.fact 156 (f := .meth "Floor" "do_push") rfl)
theorem Tx.me_Floor_do_pushes (T : Tx g) : Meth g.K (He.ga g.K "Floor") "do_pushes" (He.ma g.K (He.ga g.K "Floor") "do_pushes") := He.meth_ok (T.d.fact 157 (f := .meth "Floor" "do_pushes") rfl)
theorem Tx.me_Floor_advance (T : Tx g) : Meth g.K (He.ga g.K "Floor") "advance" (He.ma g.K (He.ga g.K "Floor") "advance") := He.meth_ok (T.d.fact 158 (f := .meth "Floor" "advance") rfl)
theorem Tx.me_Floor_do_belts (T : Tx g) : Meth g.K (He.ga g.K "Floor") "do_belts" (He.ma g.K (He.ga g.K "Floor") "do_belts") := He.meth_ok (T.d.fact 159 (f := .meth "Floor" "do_belts") rfl)
theorem Tx.me_Floor_do_feeds (T : Tx g) : Meth g.K (He.ga g.K "Floor") "do_feeds" (He.ma g.K (He.ga g.K "Floor") "do_feeds") := He.meth_ok (T.d.fact 160 (f := .meth "Floor" "do_feeds") rfl)
theorem Tx.me_Floor_holds (T : Tx g) : Meth g.K (He.ga g.K "Floor") "holds" (He.ma g.K (He.ga g.K "Floor") "holds") := He.meth_ok (T.d.fact 161 (f := .meth "Floor" "holds") rfl)
theorem Tx.me_Floor_first_rule (T : Tx g) : Meth g.K (He.ga g.K "Floor") "first_rule" (He.ma g.K (He.ga g.K "Floor") "first_rule") := He.meth_ok (T.d.fact 162 (f := .meth "Floor" "first_rule") rfl)
theorem Tx.me_Floor_see (T : Tx g) : Meth g.K (He.ga g.K "Floor") "see" (He.ma g.K (He.ga g.K "Floor") "see") := He.meth_ok (T.d.fact 163 (f := .meth "Floor" "see") rfl)
theorem Tx.me_Floor_do_eyes (T : Tx g) : Meth g.K (He.ga g.K "Floor") "do_eyes" (He.ma g.K (He.ga g.K "Floor") "do_eyes") := He.meth_ok (T.d.fact 164 (f := .meth "Floor" "do_eyes") rfl)
theorem Tx.me_Floor_do_tick (T : Tx g) : Meth g.K (He.ga g.K "Floor") "do_tick" (He.ma g.K (He.ga g.K "Floor") "do_tick") := He.meth_ok (T.d.fact 165 (f := .meth "Floor" "do_tick") rfl)
theorem Tx.me_Floor_is_done (T : Tx g) : Meth g.K (He.ga g.K "Floor") "is_done" (He.ma g.K (He.ga g.K "Floor") "is_done") := He.meth_ok (T.d.fact 166 (f := .meth "Floor" "is_done") rfl)
theorem Tx.me_Desk_load (T : Tx g) : Meth g.K (He.ga g.K "Desk") "load" (He.ma g.K (He.ga g.K "Desk") "load") := He.meth_ok (T.d.fact 167 (f := .meth "Desk" "load") rfl)
theorem Tx.me_Desk_want_loaded (T : Tx g) : Meth g.K (He.ga g.K "Desk") "want_loaded" (He.ma g.K (He.ga g.K "Desk") "want_loaded") := He.meth_ok (T.d.fact 168 (f := .meth "Desk" "want_loaded") rfl)
theorem Tx.me_Desk_places (T : Tx g) : Meth g.K (He.ga g.K "Desk") "places" (He.ma g.K (He.ga g.K "Desk") "places") := He.meth_ok (T.d.fact 169 (f := .meth "Desk" "places") rfl)
theorem Tx.me_Desk_run (T : Tx g) : Meth g.K (He.ga g.K "Desk") "run" (He.ma g.K (He.ga g.K "Desk") "run") := He.meth_ok (T.d.fact 170 (f := .meth "Desk" "run") rfl)
theorem Tx.me_Desk_all_parcels (T : Tx g) : Meth g.K (He.ga g.K "Desk") "all_parcels" (He.ma g.K (He.ga g.K "Desk") "all_parcels") := He.meth_ok (T.d.fact 171 (f := .meth "Desk" "all_parcels") rfl)
theorem Tx.me_Desk_belt_told (T : Tx g) : Meth g.K (He.ga g.K "Desk") "belt_told" (He.ma g.K (He.ga g.K "Desk") "belt_told") := He.meth_ok (T.d.fact 172 (f := .meth "Desk" "belt_told") rfl)
theorem Tx.me_Desk_chutes (T : Tx g) : Meth g.K (He.ga g.K "Desk") "chutes" (He.ma g.K (He.ga g.K "Desk") "chutes") := He.meth_ok (T.d.fact 173 (f := .meth "Desk" "chutes") rfl)
theorem Tx.me_Desk_sensors (T : Tx g) : Meth g.K (He.ga g.K "Desk") "sensors" (He.ma g.K (He.ga g.K "Desk") "sensors") := He.meth_ok (T.d.fact 174 (f := .meth "Desk" "sensors") rfl)
theorem Tx.me_Desk_rules_told (T : Tx g) : Meth g.K (He.ga g.K "Desk") "rules_told" (He.ma g.K (He.ga g.K "Desk") "rules_told") := He.meth_ok (T.d.fact 175 (f := .meth "Desk" "rules_told") rfl)
theorem Tx.me_Desk_pushers_told (T : Tx g) : Meth g.K (He.ga g.K "Desk") "pushers_told" (He.ma g.K (He.ga g.K "Desk") "pushers_told") := He.meth_ok (T.d.fact 176 (f := .meth "Desk" "pushers_told") rfl)
theorem Tx.me_Desk_waiting (T : Tx g) : Meth g.K (He.ga g.K "Desk") "waiting" (He.ma g.K (He.ga g.K "Desk") "waiting") := He.meth_ok (T.d.fact 177 (f := .meth "Desk" "waiting") rfl)
theorem Tx.me_Desk_reset (T : Tx g) : Meth g.K (He.ga g.K "Desk") "reset" (He.ma g.K (He.ga g.K "Desk") "reset") := He.meth_ok (T.d.fact 178 (f := .meth "Desk" "reset") rfl)
theorem Tx.me_Desk_feed (T : Tx g) : Meth g.K (He.ga g.K "Desk") "feed" (He.ma g.K (He.ga g.K "Desk") "feed") := He.meth_ok (T.d.fact 179 (f := .meth "Desk" "feed") rfl)
theorem Tx.me_Desk_run_until_done (T : Tx g) : Meth g.K (He.ga g.K "Desk") "run_until_done" (He.ma g.K (He.ga g.K "Desk") "run_until_done") := He.meth_ok (T.d.fact 180 (f := .meth "Desk" "run_until_done") rfl)
theorem Tx.df_LineFault_init (T : Tx g) : ∃ fd, FunD g.K "__init__" "LineFault.__init__" (defArgs s_LineFault_init) (defBody s_LineFault_init) (defScope s_LineFault_init) [] [] (He.fAd g.K ("LineFault", some "__init__")) fd := T.d.def_ 0 (d := d_LineFault_init) rfl
theorem Tx.df_want (T : Tx g) : ∃ fd, FunD g.K "want" "want" (defArgs s_want) (defBody s_want) (defScope s_want) [] [] (He.fAd g.K ("want", none)) fd := T.d.def_ 1 (d := d_want) rfl
theorem Tx.df_is_byte (T : Tx g) : ∃ fd, FunD g.K "is_byte" "is_byte" (defArgs s_is_byte) (defBody s_is_byte) (defScope s_is_byte) [] [] (He.fAd g.K ("is_byte", none)) fd := T.d.def_ 2 (d := d_is_byte) rfl
theorem Tx.df_is_text (T : Tx g) : ∃ fd, FunD g.K "is_text" "is_text" (defArgs s_is_text) (defBody s_is_text) (defScope s_is_text) [] [] (He.fAd g.K ("is_text", none)) fd := T.d.def_ 3 (d := d_is_text) rfl
theorem Tx.df_sign_of (T : Tx g) : ∃ fd, FunD g.K "sign_of" "sign_of" (defArgs s_sign_of) (defBody s_sign_of) (defScope s_sign_of) [] [] (He.fAd g.K ("sign_of", none)) fd := T.d.def_ 4 (d := d_sign_of) rfl
theorem Tx.df_lines_of (T : Tx g) : ∃ fd, FunD g.K "lines_of" "lines_of" (defArgs s_lines_of) (defBody s_lines_of) (defScope s_lines_of) [] [] (He.fAd g.K ("lines_of", none)) fd := T.d.def_ 5 (d := d_lines_of) rfl
theorem Tx.df_is_name (T : Tx g) : ∃ fd, FunD g.K "is_name" "is_name" (defArgs s_is_name) (defBody s_is_name) (defScope s_is_name) [] [] (He.fAd g.K ("is_name", none)) fd := T.d.def_ 6 (d := d_is_name) rfl
theorem Tx.df_number_in (T : Tx g) : ∃ fd, FunD g.K "number_in" "number_in" (defArgs s_number_in) (defBody s_number_in) (defScope s_number_in) [] [] (He.fAd g.K ("number_in", none)) fd := T.d.def_ 7 (d := d_number_in) rfl
theorem Tx.df_Words_init (T : Tx g) : ∃ fd, FunD g.K "__init__" "Words.__init__" (defArgs s_Words_init) (defBody s_Words_init) (defScope s_Words_init) [] [] (He.fAd g.K ("Words", some "__init__")) fd := T.d.def_ 8 (d := d_Words_init) rfl
theorem Tx.df_Words_is_over (T : Tx g) : ∃ fd, FunD g.K "is_over" "Words.is_over" (defArgs s_Words_is_over) (defBody s_Words_is_over) (defScope s_Words_is_over) [] [] (He.fAd g.K ("Words", some "is_over")) fd := T.d.def_ 9 (d := d_Words_is_over) rfl
theorem Tx.df_Words_take (T : Tx g) : ∃ fd, FunD g.K "take" "Words.take" (defArgs s_Words_take) (defBody s_Words_take) (defScope s_Words_take) [] [] (He.fAd g.K ("Words", some "take")) fd := T.d.def_ 10 (d := d_Words_take) rfl
theorem Tx.df_Words_sees (T : Tx g) : ∃ fd, FunD g.K "sees" "Words.sees" (defArgs s_Words_sees) (defBody s_Words_sees) (defScope s_Words_sees) [] [] (He.fAd g.K ("Words", some "sees")) fd := T.d.def_ 11 (d := d_Words_sees) rfl
theorem Tx.df_Words_take_told (T : Tx g) : ∃ fd, FunD g.K "take_told" "Words.take_told" (defArgs s_Words_take_told) (defBody s_Words_take_told) (defScope s_Words_take_told) [] [] (He.fAd g.K ("Words", some "take_told")) fd := T.d.def_ 12 (d := d_Words_take_told) rfl
theorem Tx.df_Words_take_name (T : Tx g) : ∃ fd, FunD g.K "take_name" "Words.take_name" (defArgs s_Words_take_name) (defBody s_Words_take_name) (defScope s_Words_take_name) [] [] (He.fAd g.K ("Words", some "take_name")) fd := T.d.def_ 13 (d := d_Words_take_name) rfl
theorem Tx.df_Words_take_number (T : Tx g) : ∃ fd, FunD g.K "take_number" "Words.take_number" (defArgs s_Words_take_number) (defBody s_Words_take_number) (defScope s_Words_take_number) [] [] (He.fAd g.K ("Words", some "take_number")) fd := T.d.def_ 14 (d := d_Words_take_number) rfl
theorem Tx.df_Words_take_end (T : Tx g) : ∃ fd, FunD g.K "take_end" "Words.take_end" (defArgs s_Words_take_end) (defBody s_Words_take_end) (defScope s_Words_take_end) [] [] (He.fAd g.K ("Words", some "take_end")) fd := T.d.def_ 15 (d := d_Words_take_end) rfl
theorem Tx.df_Plant_init (T : Tx g) : ∃ fd, FunD g.K "__init__" "Plant.__init__" (defArgs s_Plant_init) (defBody s_Plant_init) (defScope s_Plant_init) [] [] (He.fAd g.K ("Plant", some "__init__")) fd := T.d.def_ 16 (d := d_Plant_init) rfl
theorem Tx.df_Plant_how_many (T : Tx g) : ∃ fd, FunD g.K "how_many" "Plant.how_many" (defArgs s_Plant_how_many) (defBody s_Plant_how_many) (defScope s_Plant_how_many) [] [] (He.fAd g.K ("Plant", some "how_many")) fd := T.d.def_ 17 (d := d_Plant_how_many) rfl
theorem Tx.df_Plant_put_name (T : Tx g) : ∃ fd, FunD g.K "put_name" "Plant.put_name" (defArgs s_Plant_put_name) (defBody s_Plant_put_name) (defScope s_Plant_put_name) [] [] (He.fAd g.K ("Plant", some "put_name")) fd := T.d.def_ 18 (d := d_Plant_put_name) rfl
theorem Tx.df_Plant_put_chute (T : Tx g) : ∃ fd, FunD g.K "put_chute" "Plant.put_chute" (defArgs s_Plant_put_chute) (defBody s_Plant_put_chute) (defScope s_Plant_put_chute) [] [] (He.fAd g.K ("Plant", some "put_chute")) fd := T.d.def_ 19 (d := d_Plant_put_chute) rfl
theorem Tx.df_Plant_put_belt (T : Tx g) : ∃ fd, FunD g.K "put_belt" "Plant.put_belt" (defArgs s_Plant_put_belt) (defBody s_Plant_put_belt) (defScope s_Plant_put_belt) [] [] (He.fAd g.K ("Plant", some "put_belt")) fd := T.d.def_ 20 (d := d_Plant_put_belt) rfl
theorem Tx.df_Plant_set_goal (T : Tx g) : ∃ fd, FunD g.K "set_goal" "Plant.set_goal" (defArgs s_Plant_set_goal) (defBody s_Plant_set_goal) (defScope s_Plant_set_goal) [] [] (He.fAd g.K ("Plant", some "set_goal")) fd := T.d.def_ 21 (d := d_Plant_set_goal) rfl
theorem Tx.df_Plant_put_eye (T : Tx g) : ∃ fd, FunD g.K "put_eye" "Plant.put_eye" (defArgs s_Plant_put_eye) (defBody s_Plant_put_eye) (defScope s_Plant_put_eye) [] [] (He.fAd g.K ("Plant", some "put_eye")) fd := T.d.def_ 22 (d := d_Plant_put_eye) rfl
theorem Tx.df_Plant_put_pusher (T : Tx g) : ∃ fd, FunD g.K "put_pusher" "Plant.put_pusher" (defArgs s_Plant_put_pusher) (defBody s_Plant_put_pusher) (defScope s_Plant_put_pusher) [] [] (He.fAd g.K ("Plant", some "put_pusher")) fd := T.d.def_ 23 (d := d_Plant_put_pusher) rfl
theorem Tx.df_Plant_put_rule (T : Tx g) : ∃ fd, FunD g.K "put_rule" "Plant.put_rule" (defArgs s_Plant_put_rule) (defBody s_Plant_put_rule) (defScope s_Plant_put_rule) [] [] (He.fAd g.K ("Plant", some "put_rule")) fd := T.d.def_ 24 (d := d_Plant_put_rule) rfl
theorem Tx.df_Plant_put_parcel (T : Tx g) : ∃ fd, FunD g.K "put_parcel" "Plant.put_parcel" (defArgs s_Plant_put_parcel) (defBody s_Plant_put_parcel) (defScope s_Plant_put_parcel) [] [] (He.fAd g.K ("Plant", some "put_parcel")) fd := T.d.def_ 25 (d := d_Plant_put_parcel) rfl
theorem Tx.df_want_new (T : Tx g) : ∃ fd, FunD g.K "want_new" "want_new" (defArgs s_want_new) (defBody s_want_new) (defScope s_want_new) [] [] (He.fAd g.K ("want_new", none)) fd := T.d.def_ 26 (d := d_want_new) rfl
theorem Tx.df_number_of (T : Tx g) : ∃ fd, FunD g.K "number_of" "number_of" (defArgs s_number_of) (defBody s_number_of) (defScope s_number_of) [] [] (He.fAd g.K ("number_of", none)) fd := T.d.def_ 27 (d := d_number_of) rfl
theorem Tx.df_belt_with (T : Tx g) : ∃ fd, FunD g.K "belt_with" "belt_with" (defArgs s_belt_with) (defBody s_belt_with) (defScope s_belt_with) [] [] (He.fAd g.K ("belt_with", none)) fd := T.d.def_ 28 (d := d_belt_with) rfl
theorem Tx.df_goal_of (T : Tx g) : ∃ fd, FunD g.K "goal_of" "goal_of" (defArgs s_goal_of) (defBody s_goal_of) (defScope s_goal_of) [] [] (He.fAd g.K ("goal_of", none)) fd := T.d.def_ 29 (d := d_goal_of) rfl
theorem Tx.df_Parcel_init (T : Tx g) : ∃ fd, FunD g.K "__init__" "Parcel.__init__" (defArgs s_Parcel_init) (defBody s_Parcel_init) (defScope s_Parcel_init) [] [] (He.fAd g.K ("Parcel", some "__init__")) fd := T.d.def_ 30 (d := d_Parcel_init) rfl
theorem Tx.df_Parcel_told (T : Tx g) : ∃ fd, FunD g.K "told" "Parcel.told" (defArgs s_Parcel_told) (defBody s_Parcel_told) (defScope s_Parcel_told) [] [] (He.fAd g.K ("Parcel", some "told")) fd := T.d.def_ 31 (d := d_Parcel_told) rfl
theorem Tx.df_Parcel_covers (T : Tx g) : ∃ fd, FunD g.K "covers" "Parcel.covers" (defArgs s_Parcel_covers) (defBody s_Parcel_covers) (defScope s_Parcel_covers) [] [] (He.fAd g.K ("Parcel", some "covers")) fd := T.d.def_ 32 (d := d_Parcel_covers) rfl
theorem Tx.df_Floor_init (T : Tx g) : ∃ fd, FunD g.K "__init__" "Floor.__init__" (defArgs s_Floor_init) (defBody s_Floor_init) (defScope s_Floor_init) [] [] (He.fAd g.K ("Floor", some "__init__")) fd := T.d.def_ 33 (d := d_Floor_init) rfl
theorem Tx.df_Floor_put_parcel (T : Tx g) : ∃ fd, FunD g.K "put_parcel" "Floor.put_parcel" (defArgs s_Floor_put_parcel) (defBody s_Floor_put_parcel) (defScope s_Floor_put_parcel) [] [] (He.fAd g.K ("Floor", some "put_parcel")) fd := T.d.def_ 34 (d := d_Floor_put_parcel) rfl
theorem Tx.df_Floor_begin_tick (T : Tx g) : ∃ fd, FunD g.K "begin_tick" "Floor.begin_tick" (defArgs s_Floor_begin_tick) (defBody s_Floor_begin_tick) (defScope s_Floor_begin_tick) [] [] (He.fAd g.K ("Floor", some "begin_tick")) fd := T.d.def_ 35 (d := d_Floor_begin_tick) rfl
theorem Tx.df_Floor_go (T : Tx g) : ∃ fd, FunD g.K "go" "Floor.go" (defArgs s_Floor_go) (defBody s_Floor_go) (defScope s_Floor_go) [] [] (He.fAd g.K ("Floor", some "go")) fd := T.d.def_ 36 (d := d_Floor_go) rfl
theorem Tx.df_Floor_at_place (T : Tx g) : ∃ fd, FunD g.K "at_place" "Floor.at_place" (defArgs s_Floor_at_place) (defBody s_Floor_at_place) (defScope s_Floor_at_place) [] [] (He.fAd g.K ("Floor", some "at_place")) fd := T.d.def_ 37 (d := d_Floor_at_place) rfl
theorem Tx.df_Floor_of_kind (T : Tx g) : ∃ fd, FunD g.K "of_kind" "Floor.of_kind" (defArgs s_Floor_of_kind) (defBody s_Floor_of_kind) (defScope s_Floor_of_kind) [] [] (He.fAd g.K ("Floor", some "of_kind")) fd := T.d.def_ 38 (d := d_Floor_of_kind) rfl
theorem Tx.df_Floor_on_belt (T : Tx g) : ∃ fd, FunD g.K "on_belt" "Floor.on_belt" (defArgs s_Floor_on_belt) (defBody s_Floor_on_belt) (defScope s_Floor_on_belt) [] [] (He.fAd g.K ("Floor", some "on_belt")) fd := T.d.def_ 39 (d := d_Floor_on_belt) rfl
theorem Tx.df_Floor_has_room (T : Tx g) : ∃ fd, FunD g.K "has_room" "Floor.has_room" (defArgs s_Floor_has_room) (defBody s_Floor_has_room) (defScope s_Floor_has_room) [] [] (He.fAd g.K ("Floor", some "has_room")) fd := T.d.def_ 40 (d := d_Floor_has_room) rfl
theorem Tx.df_Floor_is_free (T : Tx g) : ∃ fd, FunD g.K "is_free" "Floor.is_free" (defArgs s_Floor_is_free) (defBody s_Floor_is_free) (defScope s_Floor_is_free) [] [] (He.fAd g.K ("Floor", some "is_free")) fd := T.d.def_ 41 (d := d_Floor_is_free) rfl
theorem Tx.df_Floor_can_go (T : Tx g) : ∃ fd, FunD g.K "can_go" "Floor.can_go" (defArgs s_Floor_can_go) (defBody s_Floor_can_go) (defScope s_Floor_can_go) [] [] (He.fAd g.K ("Floor", some "can_go")) fd := T.d.def_ 42 (d := d_Floor_can_go) rfl
theorem Tx.df_Floor_do_push (T : Tx g) : ∃ fd, FunD g.K "do_push" "Floor.do_push" (defArgs s_Floor_do_push) (defBody s_Floor_do_push) (defScope s_Floor_do_push) [] [] (He.fAd g.K ("Floor", some "do_push")) fd := T.d.def_ 43 (d := d_Floor_do_push) rfl
theorem Tx.df_Floor_do_pushes (T : Tx g) : ∃ fd, FunD g.K "do_pushes" "Floor.do_pushes" (defArgs s_Floor_do_pushes) (defBody s_Floor_do_pushes) (defScope s_Floor_do_pushes) [] [] (He.fAd g.K ("Floor", some "do_pushes")) fd := T.d.def_ 44 (d := d_Floor_do_pushes) rfl
theorem Tx.df_Floor_advance (T : Tx g) : ∃ fd, FunD g.K "advance" "Floor.advance" (defArgs s_Floor_advance) (defBody s_Floor_advance) (defScope s_Floor_advance) [] [] (He.fAd g.K ("Floor", some "advance")) fd := T.d.def_ 45 (d := d_Floor_advance) rfl
theorem Tx.df_Floor_do_belts (T : Tx g) : ∃ fd, FunD g.K "do_belts" "Floor.do_belts" (defArgs s_Floor_do_belts) (defBody s_Floor_do_belts) (defScope s_Floor_do_belts) [] [] (He.fAd g.K ("Floor", some "do_belts")) fd := T.d.def_ 46 (d := d_Floor_do_belts) rfl
theorem Tx.df_Floor_do_feeds (T : Tx g) : ∃ fd, FunD g.K "do_feeds" "Floor.do_feeds" (defArgs s_Floor_do_feeds) (defBody s_Floor_do_feeds) (defScope s_Floor_do_feeds) [] [] (He.fAd g.K ("Floor", some "do_feeds")) fd := T.d.def_ 47 (d := d_Floor_do_feeds) rfl
theorem Tx.df_Floor_holds (T : Tx g) : ∃ fd, FunD g.K "holds" "Floor.holds" (defArgs s_Floor_holds) (defBody s_Floor_holds) (defScope s_Floor_holds) [] [] (He.fAd g.K ("Floor", some "holds")) fd := T.d.def_ 48 (d := d_Floor_holds) rfl
theorem Tx.df_Floor_first_rule (T : Tx g) : ∃ fd, FunD g.K "first_rule" "Floor.first_rule" (defArgs s_Floor_first_rule) (defBody s_Floor_first_rule) (defScope s_Floor_first_rule) [] [] (He.fAd g.K ("Floor", some "first_rule")) fd := T.d.def_ 49 (d := d_Floor_first_rule) rfl
theorem Tx.df_Floor_see (T : Tx g) : ∃ fd, FunD g.K "see" "Floor.see" (defArgs s_Floor_see) (defBody s_Floor_see) (defScope s_Floor_see) [] [] (He.fAd g.K ("Floor", some "see")) fd := T.d.def_ 50 (d := d_Floor_see) rfl
theorem Tx.df_Floor_do_eyes (T : Tx g) : ∃ fd, FunD g.K "do_eyes" "Floor.do_eyes" (defArgs s_Floor_do_eyes) (defBody s_Floor_do_eyes) (defScope s_Floor_do_eyes) [] [] (He.fAd g.K ("Floor", some "do_eyes")) fd := T.d.def_ 51 (d := d_Floor_do_eyes) rfl
theorem Tx.df_Floor_do_tick (T : Tx g) : ∃ fd, FunD g.K "do_tick" "Floor.do_tick" (defArgs s_Floor_do_tick) (defBody s_Floor_do_tick) (defScope s_Floor_do_tick) [] [] (He.fAd g.K ("Floor", some "do_tick")) fd := T.d.def_ 52 (d := d_Floor_do_tick) rfl
theorem Tx.df_Floor_is_done (T : Tx g) : ∃ fd, FunD g.K "is_done" "Floor.is_done" (defArgs s_Floor_is_done) (defBody s_Floor_is_done) (defScope s_Floor_is_done) [] [] (He.fAd g.K ("Floor", some "is_done")) fd := T.d.def_ 53 (d := d_Floor_is_done) rfl
theorem Tx.df_TextFault_init (T : Tx g) : ∃ fd, FunD g.K "__init__" "TextFault.__init__" (defArgs s_TextFault_init) (defBody s_TextFault_init) (defScope s_TextFault_init) [] [] (He.fAd g.K ("TextFault", some "__init__")) fd := T.d.def_ 54 (d := d_TextFault_init) rfl
theorem Tx.df_read_goal (T : Tx g) : ∃ fd, FunD g.K "read_goal" "read_goal" (defArgs s_read_goal) (defBody s_read_goal) (defScope s_read_goal) [] [] (He.fAd g.K ("read_goal", none)) fd := T.d.def_ 55 (d := d_read_goal) rfl
theorem Tx.df_do_chute (T : Tx g) : ∃ fd, FunD g.K "do_chute" "do_chute" (defArgs s_do_chute) (defBody s_do_chute) (defScope s_do_chute) [] [] (He.fAd g.K ("do_chute", none)) fd := T.d.def_ 56 (d := d_do_chute) rfl
theorem Tx.df_do_belt (T : Tx g) : ∃ fd, FunD g.K "do_belt" "do_belt" (defArgs s_do_belt) (defBody s_do_belt) (defScope s_do_belt) [] [] (He.fAd g.K ("do_belt", none)) fd := T.d.def_ 57 (d := d_do_belt) rfl
theorem Tx.df_do_lead (T : Tx g) : ∃ fd, FunD g.K "do_lead" "do_lead" (defArgs s_do_lead) (defBody s_do_lead) (defScope s_do_lead) [] [] (He.fAd g.K ("do_lead", none)) fd := T.d.def_ 58 (d := d_do_lead) rfl
theorem Tx.df_do_eye (T : Tx g) : ∃ fd, FunD g.K "do_eye" "do_eye" (defArgs s_do_eye) (defBody s_do_eye) (defScope s_do_eye) [] [] (He.fAd g.K ("do_eye", none)) fd := T.d.def_ 59 (d := d_do_eye) rfl
theorem Tx.df_do_pusher (T : Tx g) : ∃ fd, FunD g.K "do_pusher" "do_pusher" (defArgs s_do_pusher) (defBody s_do_pusher) (defScope s_do_pusher) [] [] (He.fAd g.K ("do_pusher", none)) fd := T.d.def_ 60 (d := d_do_pusher) rfl
theorem Tx.df_read_term (T : Tx g) : ∃ fd, FunD g.K "read_term" "read_term" (defArgs s_read_term) (defBody s_read_term) (defScope s_read_term) [] [] (He.fAd g.K ("read_term", none)) fd := T.d.def_ 61 (d := d_read_term) rfl
theorem Tx.df_read_condition (T : Tx g) : ∃ fd, FunD g.K "read_condition" "read_condition" (defArgs s_read_condition) (defBody s_read_condition) (defScope s_read_condition) [] [] (He.fAd g.K ("read_condition", none)) fd := T.d.def_ 62 (d := d_read_condition) rfl
theorem Tx.df_known_term (T : Tx g) : ∃ fd, FunD g.K "known_term" "known_term" (defArgs s_known_term) (defBody s_known_term) (defScope s_known_term) [] [] (He.fAd g.K ("known_term", none)) fd := T.d.def_ 63 (d := d_known_term) rfl
theorem Tx.df_do_rule (T : Tx g) : ∃ fd, FunD g.K "do_rule" "do_rule" (defArgs s_do_rule) (defBody s_do_rule) (defScope s_do_rule) [] [] (He.fAd g.K ("do_rule", none)) fd := T.d.def_ 64 (d := d_do_rule) rfl
theorem Tx.df_do_feed (T : Tx g) : ∃ fd, FunD g.K "do_feed" "do_feed" (defArgs s_do_feed) (defBody s_do_feed) (defScope s_do_feed) [] [] (He.fAd g.K ("do_feed", none)) fd := T.d.def_ 65 (d := d_do_feed) rfl
theorem Tx.df_do_line (T : Tx g) : ∃ fd, FunD g.K "do_line" "do_line" (defArgs s_do_line) (defBody s_do_line) (defScope s_do_line) [] [] (He.fAd g.K ("do_line", none)) fd := T.d.def_ 66 (d := d_do_line) rfl
theorem Tx.df_read_line (T : Tx g) : ∃ fd, FunD g.K "read_line" "read_line" (defArgs s_read_line) (defBody s_read_line) (defScope s_read_line) [] [] (He.fAd g.K ("read_line", none)) fd := T.d.def_ 67 (d := d_read_line) rfl
theorem Tx.df_read_plant (T : Tx g) : ∃ fd, FunD g.K "read_plant" "read_plant" (defArgs s_read_plant) (defBody s_read_plant) (defScope s_read_plant) [] [] (He.fAd g.K ("read_plant", none)) fd := T.d.def_ 68 (d := d_read_plant) rfl
theorem Tx.df_Refused_init (T : Tx g) : ∃ fd, FunD g.K "__init__" "Refused.__init__" (defArgs s_Refused_init) (defBody s_Refused_init) (defScope s_Refused_init) [] [] (He.fAd g.K ("Refused", some "__init__")) fd := T.d.def_ 69 (d := d_Refused_init) rfl
theorem Tx.df_refuse_unless (T : Tx g) : ∃ fd, FunD g.K "refuse_unless" "refuse_unless" (defArgs s_refuse_unless) (defBody s_refuse_unless) (defScope s_refuse_unless) [] [] (He.fAd g.K ("refuse_unless", none)) fd := T.d.def_ 70 (d := d_refuse_unless) rfl
theorem Tx.df_counted (T : Tx g) : ∃ fd, FunD g.K "counted" "counted" (defArgs s_counted) (defBody s_counted) (defScope s_counted) [] [] (He.fAd g.K ("counted", none)) fd := T.d.def_ 71 (d := d_counted) rfl
theorem Tx.df_Desk_init (T : Tx g) : ∃ fd, FunD g.K "__init__" "Desk.__init__" (defArgs s_Desk_init) (defBody s_Desk_init) (defScope s_Desk_init) [] [] (He.fAd g.K ("Desk", some "__init__")) fd := T.d.def_ 72 (d := d_Desk_init) rfl
theorem Tx.df_Desk_load (T : Tx g) : ∃ fd, FunD g.K "load" "Desk.load" (defArgs s_Desk_load) (defBody s_Desk_load) (defScope s_Desk_load) [] [] (He.fAd g.K ("Desk", some "load")) fd := T.d.def_ 73 (d := d_Desk_load) rfl
theorem Tx.df_Desk_want_loaded (T : Tx g) : ∃ fd, FunD g.K "want_loaded" "Desk.want_loaded" (defArgs s_Desk_want_loaded) (defBody s_Desk_want_loaded) (defScope s_Desk_want_loaded) [] [] (He.fAd g.K ("Desk", some "want_loaded")) fd := T.d.def_ 74 (d := d_Desk_want_loaded) rfl
theorem Tx.df_Desk_places (T : Tx g) : ∃ fd, FunD g.K "places" "Desk.places" (defArgs s_Desk_places) (defBody s_Desk_places) (defScope s_Desk_places) [] [] (He.fAd g.K ("Desk", some "places")) fd := T.d.def_ 75 (d := d_Desk_places) rfl
theorem Tx.df_Desk_run (T : Tx g) : ∃ fd, FunD g.K "run" "Desk.run" (defArgs s_Desk_run) (defBody s_Desk_run) (defScope s_Desk_run) [] [] (He.fAd g.K ("Desk", some "run")) fd := T.d.def_ 76 (d := d_Desk_run) rfl
theorem Tx.df_Desk_all_parcels (T : Tx g) : ∃ fd, FunD g.K "all_parcels" "Desk.all_parcels" (defArgs s_Desk_all_parcels) (defBody s_Desk_all_parcels) (defScope s_Desk_all_parcels) [] [] (He.fAd g.K ("Desk", some "all_parcels")) fd := T.d.def_ 77 (d := d_Desk_all_parcels) rfl
theorem Tx.df_Desk_belt_told (T : Tx g) : ∃ fd, FunD g.K "belt_told" "Desk.belt_told" (defArgs s_Desk_belt_told) (defBody s_Desk_belt_told) (defScope s_Desk_belt_told) [] [] (He.fAd g.K ("Desk", some "belt_told")) fd := T.d.def_ 78 (d := d_Desk_belt_told) rfl
theorem Tx.df_Desk_chutes (T : Tx g) : ∃ fd, FunD g.K "chutes" "Desk.chutes" (defArgs s_Desk_chutes) (defBody s_Desk_chutes) (defScope s_Desk_chutes) [] [] (He.fAd g.K ("Desk", some "chutes")) fd := T.d.def_ 79 (d := d_Desk_chutes) rfl
theorem Tx.df_Desk_sensors (T : Tx g) : ∃ fd, FunD g.K "sensors" "Desk.sensors" (defArgs s_Desk_sensors) (defBody s_Desk_sensors) (defScope s_Desk_sensors) [] [] (He.fAd g.K ("Desk", some "sensors")) fd := T.d.def_ 80 (d := d_Desk_sensors) rfl
theorem Tx.df_Desk_rules_told (T : Tx g) : ∃ fd, FunD g.K "rules_told" "Desk.rules_told" (defArgs s_Desk_rules_told) (defBody s_Desk_rules_told) (defScope s_Desk_rules_told) [] [] (He.fAd g.K ("Desk", some "rules_told")) fd := T.d.def_ 81 (d := d_Desk_rules_told) rfl
theorem Tx.df_Desk_pushers_told (T : Tx g) : ∃ fd, FunD g.K "pushers_told" "Desk.pushers_told" (defArgs s_Desk_pushers_told) (defBody s_Desk_pushers_told) (defScope s_Desk_pushers_told) [] [] (He.fAd g.K ("Desk", some "pushers_told")) fd := T.d.def_ 82 (d := d_Desk_pushers_told) rfl
theorem Tx.df_Desk_waiting (T : Tx g) : ∃ fd, FunD g.K "waiting" "Desk.waiting" (defArgs s_Desk_waiting) (defBody s_Desk_waiting) (defScope s_Desk_waiting) [] [] (He.fAd g.K ("Desk", some "waiting")) fd := T.d.def_ 83 (d := d_Desk_waiting) rfl
theorem Tx.df_Desk_reset (T : Tx g) : ∃ fd, FunD g.K "reset" "Desk.reset" (defArgs s_Desk_reset) (defBody s_Desk_reset) (defScope s_Desk_reset) [] [] (He.fAd g.K ("Desk", some "reset")) fd := T.d.def_ 84 (d := d_Desk_reset) rfl
theorem Tx.df_Desk_feed (T : Tx g) : ∃ fd, FunD g.K "feed" "Desk.feed" (defArgs s_Desk_feed) (defBody s_Desk_feed) (defScope s_Desk_feed) [] [] (He.fAd g.K ("Desk", some "feed")) fd := T.d.def_ 85 (d := d_Desk_feed) rfl
theorem Tx.df_Desk_run_until_done (T : Tx g) : ∃ fd, FunD g.K "run_until_done" "Desk.run_until_done" (defArgs s_Desk_run_until_done) (defBody s_Desk_run_until_done) (defScope s_Desk_run_until_done) [] [] (He.fAd g.K ("Desk", some "run_until_done")) fd := T.d.def_ 86 (d := d_Desk_run_until_done) rfl
theorem Tx.df_told (T : Tx g) : ∃ fd, FunD g.K "told" "told" (defArgs s_told) (defBody s_told) (defScope s_told) [] [] (He.fAd g.K ("told", none)) fd := T.d.def_ 87 (d := d_told) rfl
theorem Tx.df_answered (T : Tx g) : ∃ fd, FunD g.K "answered" "answered" (defArgs s_answered) (defBody s_answered) (defScope s_answered) [] [] (He.fAd g.K ("answered", none)) fd := T.d.def_ 88 (d := d_answered) rfl
theorem Tx.df_answers (T : Tx g) : ∃ fd, FunD g.K "answers" "answers" (defArgs s_answers) (defBody s_answers) (defScope s_answers) [] [] (He.fAd g.K ("answers", none)) fd := T.d.def_ 89 (d := d_answers) rfl
theorem Tx.x_LineFault (T : Tx g) : OexF g.K (He.ga g.K "LineFault") := oexB_ok (He.ba T.more).1
theorem Tx.x_TextFault (T : Tx g) : OexF g.K (He.ga g.K "TextFault") := oexB_ok (He.ba (He.ba T.more).2).1
theorem Tx.x_Refused (T : Tx g) : OexF g.K (He.ga g.K "Refused") := oexB_ok (He.ba (He.ba (He.ba T.more).2).2).1
theorem Tx.numbers (T : Tx g) (H : Hp) : SqT g.K H (He.ga g.K "NUMBERS") (numVals.map (He.Dv.v g.K)) := He.tupB_ok (He.ba (He.ba (He.ba (He.ba T.more).2).2).2).1 H
theorem Tx.waiting (T : Tx g) (H : Hp) : SqT g.K H (He.ga g.K "WAITING") (waitVals.map (He.Dv.v g.K)) := He.tupB_ok (He.ba (He.ba (He.ba (He.ba (He.ba T.more).2).2).2).2).1 H
theorem Tx.deeds (T : Tx g) {q : Str × He.Dv} (hq : q ∈ deedVals) : ∃ u, PySem.W.nsIn g.K (He.ga g.K "DEEDS") q.1 = some (some u) ∧ RelV (q.2.v g.K) u :=
  He.valsB_ok (He.ba (He.ba (He.ba (He.ba (He.ba (He.ba T.more).2).2).2).2).2).1 hq
theorem Tx.veInit (T : Tx g) : PySem.W.findCls g.K (.type "ValueError") (.type "type") "__init__" = some (.val (.builtin "ValueError.__init__")) :=
  veB_ok (He.ba (He.ba (He.ba (He.ba (He.ba (He.ba T.more).2).2).2).2).2).2
theorem Tx.deedTab (T : Tx g) : He.dicW g.K (He.ga g.K "DEEDS") = some (He.keysIn g.w.params deedKeys) := by
  obtain ⟨h, _, _, c⟩ := T.ex
  have e : tabs.map (fun t => He.dicW g.K (t.1 g.K)) = tabs.map fun t => some (He.keysIn g.w.params t.2) := congrArg (fun z : He.AlT => z.2) c.t
  exact (List.cons.inj e).1
end
end Tote
/-! # the head: what the top leaves, looked at through few objects -/
namespace Tote
open PySem PySem.Spec PyProof.Rows L2
abbrev RowT : PySem.W.OpenSpec := PySem.Challenge.rw_toteplants_s01_answers
/-- an object's names that the facts ask for: a table's values, a def's code, a class's own names -/
def refsP (o : Obj) : List Addr := match o.data with
  | .dict es _ => es.toList.flatMap fun e => He.refV e.val
  | .func fd => He.refV fd.code
  | .cls cd => [cd.ns]
  | _ => []
def nextP (g : Addr → Option Obj) (as : List Addr) : List Addr := as.flatMap fun a => match g a with
  | some o => refsP o
  | none => []
def asP (g : Addr → Option Obj) : List Addr :=
  mainGlobals :: (nextP g [mainGlobals] ++ (nextP g (nextP g [mainGlobals]) ++ (nextP g (nextP g (nextP g [mainGlobals])) ++ nextP g (nextP g (nextP g (nextP g [mainGlobals]))))))
def obP (fa : List He.Fa) (fn : List He.DefD) (ts : List He.Tab) (ex : PySem.W.Frag → Bool) (K : PySem.W.Frag) : He.AlX := (He.obsT fa fn ts K, ex K)
/-- a look at the end of the top by those objects -/
def hookP (fa : List He.Fa) (fn : List He.DefD) (ts : List He.Tab) (ex : PySem.W.Frag → Bool) : PySem.W.Hook where
  α := He.AlX
  obs := fun s => obP fa fn ts ex (He.frG s.heap.get? (asP s.heap.get?))
  val := fun w => (He.valT fn ts w, true)
  says := fun w h => ∃ K : PySem.W.Frag, K.In h ∧ He.SaysX fa fn ts [] ex w h K
  of := fun _ _ e => ⟨_, He.frG_in, congrArg (fun z : He.AlX => z.1) e, congrArg (fun z : He.AlX => z.2) e, fun _ z => absurd z List.not_mem_nil, fun _ z => absurd z List.not_mem_nil, fun _ z => absurd z List.not_mem_nil⟩
  keeps := fun _ _ _ ⟨K, hK, c⟩ k => ⟨K, PySem.W.Frag.In.keeps hK k, c.t, c.more, c.hd, c.out, fun p hp => k _ _ (c.empty p hp)⟩
def nm0 : List PySem.Str := ["LETTERS", "DIGITS", "OTHER", "FIRST_LETTER", "FIRST_DIGIT", "LINE_END", "BLANK", "LAST_BYTE", "LONGEST_TEXT", "LONGEST_NAME", "LONGEST_NUMBER", "NO_NUMBER", "NOT_FORMED", "LineFault", "want", "is_byte", "is_text", "sign_of", "lines_of", "is_name"]
def nm1 : List PySem.Str := ["number_in", "Words", "WAITING", "BELT", "CHUTE", "EYE", "PUSHER", "MOST_OF_A_KIND", "MOST_RULES", "MOST_PARCELS", "WRONG_NAME", "NO_POSITION", "TOO_MANY", "Plant", "want_new", "number_of", "belt_with", "goal_of", "Parcel", "Floor"]
def nm2 : List PySem.Str := ["MOST_ROOM", "LONGEST_BELT", "LONGEST_PARCEL", "MOST_DELAY", "MOST_EACH", "MOST_TIMES", "MOST_TERMS", "MOST_NUMBER", "TextFault", "read_goal", "do_chute", "do_belt", "do_lead", "do_eye", "do_pusher", "read_term", "read_condition", "known_term", "do_rule", "do_feed"]
def nm3 : List PySem.Str := ["DEEDS", "do_line", "read_line", "read_plant", "OUT_OF_RANGE", "NO_ROOM", "NOT_LOADED", "MOST_TICKS", "Refused", "refuse_unless", "counted", "Desk", "LOAD", "NUMBERS", "told", "answered"]
def loose : List PySem.Str := nm0 ++ (nm1 ++ (nm2 ++ (nm3)))
abbrev hkP : PySem.W.Hook := hookP fa fn tabs exB
def obT (s : PySem.W.SharedT) : He.AlX := obP fa fn tabs exB (He.frG (HandSHeadRun.getT s) (asP (HandSHeadRun.getT s)))
theorem obT_eq (s : PySem.W.SharedT) : obT s = hkP.obs s.abs := by
  have e : HandSHeadRun.getT s = s.abs.heap.get? := funext (HandSHeadRun.getT_eq s)
  unfold obT
  rw [e]
  rfl
end Tote
namespace Tote
open PySem PySem.Spec PyProof.Rows L2
theorem runF (w : World) : HandSHeadRun.RunEqS RowT (PySem.W.view RowT.prog [82]) hkP obT 6000 loose (w.withFollow "special-get-raises" false) := by
  intro os
  kernel_rfl
theorem runT (w : World) : HandSHeadRun.RunEqS RowT (PySem.W.view RowT.prog [82]) hkP obT 6000 loose (w.withFollow "special-get-raises" true) := by
  intro os
  kernel_rfl
theorem runW (w : World) : HandSHeadRun.RunEqS RowT (PySem.W.view RowT.prog [82]) hkP obT 6000 loose w :=
  PySem.W.byRow2 "special-get-raises" (P := fun w => HandSHeadRun.RunEqS RowT (PySem.W.view RowT.prog [82]) hkP obT 6000 loose w) runF runT w
end Tote
/-! # the head's other looks at the program -/
namespace Tote
open PySem PySem.W PySem.Calls PyProof.Rows
theorem said : RowT.wellSaid = true := by decide +kernel
theorem opened : opening RowT.prog = plainProg RowT.prog.main.scope.names := by kernel_rfl
theorem fenced (s : Shared) : fenceModules? RowT.prog s = some s := by kernel_rfl
theorem chained : (chainsOk (view RowT.prog [82]) && opensWell RowT.prog) = true := by decide +kernel
theorem bared : RowT.prog.bare := ⟨rfl, rfl, rfl, rfl, rfl, by decide +kernel⟩
theorem asked3 : RowT.pre [.list [.int 3]] = true := by decide +kernel
abbrev dA := HandSHeadRun.topDef RowT.prog 82
theorem defined : defOf (view RowT.prog [82]) RowT.name = some (dA, []) := by rfl
theorem theDefA : RowT.prog.theDef RowT.name = some (dA.params, dA.body, dA.scope) := by rfl
end Tote
/-! # Calls of the text's own defs in short; fields; comprehensions that only read -/
namespace Tote
open PySem PySem.Spec PyProof.Rows L2 Tq
abbrev gg (X : Cx) : GG := ⟨X.prog, X.w, X.K, X.mg, X.base⟩
abbrev cF (g : GG) (x : Str) : Addr := He.ga g.K x
/-- a def of the module, ready to be called -/
structure Fn (CX : CXT) (g : GG) (k : Nat) (x : Str) (ps : List Str) (sp : Sp) : Prop where
  ex : ∃ f fd, g.mg x = some (.ref f) ∧ PySem.W.keepIn g.K (.ref f) = true ∧ Binds g.K fd ps [] ∧ FnOk g.P g.w g.K g.mg g.base CX k f fd ps sp
/-- a method of an own class -/
structure Mt (CX : CXT) (g : GG) (k : Nat) (C m : Str) (ps : List Str) (sp : Sp) : Prop where
  ex : ∃ f fd, Cls g.K (cF g C) ∧ Meth g.K (cF g C) m f ∧ Binds g.K fd ps [] ∧ FnOk g.P g.w g.K g.mg g.base CX k f fd ps sp
/-- a class with its __init__ -/
structure Mw (g : GG) (k : Nat) (C : Str) (ps : List Str) (sp : Sp) : Prop where
  ex : ∃ f fd, g.mg C = some (.ref (cF g C)) ∧ Mk g.K (cF g C) f ∧ Binds g.K fd ps [] ∧ FnOk g.P g.w g.K g.mg g.base CX0 k f fd ps sp
def tCl (sp : Sp) (E : XK) (t : TA) : TE := fun σ H Q => t σ H fun vs H1 => sp vs H1 Q E
def tMt (C : Addr) (m : Str) (sp : Sp) (E : XK) (ta : TE) (t : TA) : TE := fun σ H Q => ta σ H fun x H1 => ∃ a dx fs, x = .ref a ∧ H1 a = some (.ins C dx fs) ∧ fs.lookup m = none ∧ t σ H1 fun vs H2 => sp (x :: vs) H2 Q E
def tNw (C : Addr) (sp : Sp) (t : TA) : TE := fun σ H Q => t σ H fun vs H1 => ∀ x dx, H1 x = none → H1 dx = none → dx ≠ x →
  sp (.ref x :: vs) (upd (upd H1 dx (.own x)) x (.ins C dx [])) (fun v H2 => v = .non ∧ Q (.ref x) H2) E0
theorem tCall_nil (sp : Sp) (E : XK) (t : TA) : tCall sp [] E t = tCl sp E t := by
  funext σ H Q
  show t σ H (fun vs H1 => sp (vs ++ []) H1 Q E) = t σ H (fun vs H1 => sp vs H1 Q E)
  simp only [List.append_nil]
theorem tMeth_nil (C : Addr) (m : Str) (sp : Sp) (E : XK) (ta : TE) (t : TA) : tMeth C m sp [] E ta t = tMt C m sp E ta t := by
  funext σ H Q
  simp only [tMeth, tMt, List.append_nil]
theorem tMake_nil (C : Addr) (sp : Sp) (t : TA) : tMake C sp [] E0 t = tNw C sp t := by
  funext σ H Q
  simp only [tMake, tNw, List.append_nil]
section
variable {X : Cx} {CX : CXT} {j k : Nat} {ps : List Str} {sp : Sp} {E : XK} {x m C : Str} {p pos apos : Pos} {e o : Expr} {es : List Expr} {ta : TE} {t : TA}
theorem pe_fx {g : GG} (F : Fn CX g k x ps sp) (hr : Room j X.A) (hk : k ≤ j) (hx : Passes CX X E) (ha : PA X (e :: es) t) (hg : Gl X x := by rfl) (hdb : (x == ("__debug__" : Str)) = false := by decide)
    (he : starEach (e :: es) X.env = (false, eval e X.env) :: starEach es X.env := by rfl) (hpl : (backTo pos (starEach es X.env)).any (·.1) = false := by rfl) (eg : gg X = g := by rfl) : PE X (.Call (.Name x p) (e :: es) [] pos) (tCl sp E t) := by
  subst eg
  obtain ⟨f, fd, hm, kp, b, ok⟩ := F.ex
  rw [← tCall_nil]
  exact pe_call ok (hr.mono hk) hg hm kp b .nil hx ha hdb he hpl
theorem pe_fn {g : GG} (F : Fn CX0 g k x ps sp) (hr : Room j X.A) (hk : k ≤ j) (ha : PA X (e :: es) t) (hg : Gl X x := by rfl) (hdb : (x == ("__debug__" : Str)) = false := by decide)
    (he : starEach (e :: es) X.env = (false, eval e X.env) :: starEach es X.env := by rfl) (hpl : (backTo pos (starEach es X.env)).any (·.1) = false := by rfl) (eg : gg X = g := by rfl) : PE X (.Call (.Name x p) (e :: es) [] pos) (tCl sp E0 t) :=
  pe_fx F hr hk pass0 ha hg hdb he hpl eg
theorem pe_mx {g : GG} {pl : Sem Bool} (F : Mt CX g k C m ps sp) (hr : Room j X.A) (hk : k ≤ j) (hx : Passes CX X E) (he : PE X o ta) (ha : PA X (e :: es) t)
    (hst : starEach (e :: es) X.env = (false, eval e X.env) :: starEach es X.env := by rfl) (hpl : (backTo pos (starEach es X.env)).any (·.1) = false := by rfl)
    (ht : eval (.Call (.Attribute o m apos) (e :: es) [] pos) X.env = (do let ov ← eval o X.env; standAt apos.atName; let (f, first) ← holding [ov] (getMethod ov m pl); callWith pos f first (backTo pos (starEach (e :: es) X.env)) (backToKw pos (keywordEach [] X.env))) := by rfl) (eg : gg X = g := by rfl) :
    PE X (.Call (.Attribute o m apos) (e :: es) [] pos) (tMt (cF g C) m sp E ta t) := by
  subst eg
  obtain ⟨f, fd, c, hm, b, ok⟩ := F.ex
  rw [← tMeth_nil]
  exact pe_meth he c hm ok (hr.mono hk) b .nil hx ha hst hpl ht
theorem pe_mx0 {g : GG} {pl : Sem Bool} (F : Mt CX g k C m ps sp) (hr : Room j X.A) (hk : k ≤ j) (hx : Passes CX X E) (he : PE X o ta)
    (ht : eval (.Call (.Attribute o m apos) [] [] pos) X.env = (do let ov ← eval o X.env; standAt apos.atName; let (f, first) ← holding [ov] (getMethod ov m pl); callWith pos f first (backTo pos (starEach [] X.env)) (backToKw pos (keywordEach [] X.env))) := by rfl) (eg : gg X = g := by rfl) :
    PE X (.Call (.Attribute o m apos) [] [] pos) (tMt (cF g C) m sp E ta tNil) := by
  subst eg
  obtain ⟨f, fd, c, hm, b, ok⟩ := F.ex
  rw [← tMeth_nil]
  exact pe_meth0 he c hm ok (hr.mono hk) b .nil hx ht
theorem pe_mt {g : GG} {pl : Sem Bool} (F : Mt CX0 g k C m ps sp) (hr : Room j X.A) (hk : k ≤ j) (he : PE X o ta) (ha : PA X (e :: es) t)
    (hst : starEach (e :: es) X.env = (false, eval e X.env) :: starEach es X.env := by rfl) (hpl : (backTo pos (starEach es X.env)).any (·.1) = false := by rfl)
    (ht : eval (.Call (.Attribute o m apos) (e :: es) [] pos) X.env = (do let ov ← eval o X.env; standAt apos.atName; let (f, first) ← holding [ov] (getMethod ov m pl); callWith pos f first (backTo pos (starEach (e :: es) X.env)) (backToKw pos (keywordEach [] X.env))) := by rfl) (eg : gg X = g := by rfl) :
    PE X (.Call (.Attribute o m apos) (e :: es) [] pos) (tMt (cF g C) m sp E0 ta t) := pe_mx F hr hk pass0 he ha hst hpl ht eg
theorem pe_mt0 {g : GG} {pl : Sem Bool} (F : Mt CX0 g k C m ps sp) (hr : Room j X.A) (hk : k ≤ j) (he : PE X o ta)
    (ht : eval (.Call (.Attribute o m apos) [] [] pos) X.env = (do let ov ← eval o X.env; standAt apos.atName; let (f, first) ← holding [ov] (getMethod ov m pl); callWith pos f first (backTo pos (starEach [] X.env)) (backToKw pos (keywordEach [] X.env))) := by rfl) (eg : gg X = g := by rfl) :
    PE X (.Call (.Attribute o m apos) [] [] pos) (tMt (cF g C) m sp E0 ta tNil) := pe_mx0 F hr hk pass0 he ht eg
theorem pe_nw {g : GG} (F : Mw g k C ps sp) (hr : Room j X.A) (hk : k + 1 ≤ j) (ha : PA X (e :: es) t) (hg : Gl X C := by rfl) (hdb : (C == ("__debug__" : Str)) = false := by decide)
    (he : starEach (e :: es) X.env = (false, eval e X.env) :: starEach es X.env := by rfl) (hpl : (backTo pos (starEach es X.env)).any (·.1) = false := by rfl) (eg : gg X = g := by rfl) : PE X (.Call (.Name C p) (e :: es) [] pos) (tNw (cF g C) sp t) := by
  subst eg
  obtain ⟨f, fd, hm, M, b, ok⟩ := F.ex
  rw [← tMake_nil]
  exact pe_make M ok (hr.mono hk) hg hm b .nil pass0 ha hdb he hpl
theorem pe_nw0 {g : GG} (F : Mw g k C ps sp) (hr : Room j X.A) (hk : k + 1 ≤ j) (hg : Gl X C := by rfl) (hdb : (C == ("__debug__" : Str)) = false := by decide) (eg : gg X = g := by rfl) : PE X (.Call (.Name C p) [] [] pos) (tNw (cF g C) sp tNil) := by
  subst eg
  obtain ⟨f, fd, hm, M, b, ok⟩ := F.ex
  rw [← tMake_nil]
  exact pe_make0 M ok (hr.mono hk) hg hm b .nil pass0 hdb
end
/-! ## proving a def -/
section
variable {g : GG} {CX : CXT} {x qual C : Str} {params : Arguments} {body : List Stmt} {scope : Scope} {f : Addr} {N ps : List Str} {k : Nat} {sp : Sp}
abbrev BindsBy (x qual : Str) (params : Arguments) (body : List Stmt) (scope : Scope) (ps : List Str) : Prop :=
  ∀ (kV doc pm : Value) (an : Option Addr) (cdv ct : Value) (us : List Value), us.length = ps.length → bindArgs (PySem.W.fnOf x qual params body scope .none kV doc pm an cdv ct) ⟨us, []⟩ = pure (ps.zip us)
abbrev Body (CX : CXT) (g : GG) (N : List Str) (qual : Str) (body : List Stmt) (scope : Scope) (f : Addr) (k : Nat) (sp : Sp) : Prop :=
  ∀ (cdv : Value) (A : Around) (outer : List Env) (s : Shared) (H : Hp) (vs : List V) (Q : VK) (E : XK), Room k (A.deeper (envOfC qual scope s.heap.objs.size f cdv)) → sp vs H Q E →
    ∃ t, PSs (cxOf CX g.P g.w g.K g.mg g.base N qual scope f cdv A outer s H E) body t ∧ t { nx := fun _ H' => Q .non H', rt := Q } (start N vs) H
abbrev Body0 (g : GG) (N : List Str) (qual : Str) (body : List Stmt) (scope : Scope) (f : Addr) (k : Nat) (sp : Sp) : Prop :=
  ∀ (cdv : Value) (A : Around) (outer : List Env) (s : Shared) (H : Hp) (vs : List V) (Q : VK) (E : XK), Room k (A.deeper (envOfC qual scope s.heap.objs.size f cdv)) → sp vs H Q E →
    ∃ t, PSs (cxOf CX0 g.P g.w g.K g.mg g.base N qual scope f cdv A outer s H E).nox body t ∧ t { nx := fun _ H' => Q .non H', rt := Q } (start N vs) H
theorem Body0.out (h : Body0 g N qual body scope f k sp) : Body CX0 g N qual body scope f k sp := fun cdv A outer s H vs Q E hr hs => by
  obtain ⟨t, h1, h2⟩ := h cdv A outer s H vs Q E hr hs
  exact ⟨t, h1.nox, h2⟩
theorem fnC (m : g.mg x = some (.ref f)) (D : ∃ fd, FunD g.K x qual params body scope [] [] f fd) (S : FnScope N ps scope) (b : BindsBy x qual params body scope ps) (len : ∀ vs H Q E, sp vs H Q E → vs.length = ps.length)
    (h : Body CX g N qual body scope f k sp) : Fn CX g (k + 1) x ps sp := by
  obtain ⟨fd, F⟩ := D
  exact ⟨f, fd, m, F.kp, F.bindsN b, F.ok S len h⟩
theorem fnZ (m : g.mg x = some (.ref f)) (D : ∃ fd, FunD g.K x qual params body scope [] [] f fd) (S : FnScope N ps scope) (b : BindsBy x qual params body scope ps) (len : ∀ vs H Q E, sp vs H Q E → vs.length = ps.length)
    (h : Body0 g N qual body scope f k sp) : Fn CX0 g (k + 1) x ps sp := fnC m D S b len h.out
theorem mtC (c : Cls g.K (cF g C)) (m : Meth g.K (cF g C) x f) (D : ∃ fd, FunD g.K x qual params body scope [] [] f fd) (S : FnScope N ps scope) (b : BindsBy x qual params body scope ps) (len : ∀ vs H Q E, sp vs H Q E → vs.length = ps.length)
    (h : Body CX g N qual body scope f k sp) : Mt CX g (k + 1) C x ps sp := by
  obtain ⟨fd, F⟩ := D
  exact ⟨f, fd, c, m, F.bindsN b, F.ok S len h⟩
theorem mt0 (c : Cls g.K (cF g C)) (m : Meth g.K (cF g C) x f) (D : ∃ fd, FunD g.K x qual params body scope [] [] f fd) (S : FnScope N ps scope) (b : BindsBy x qual params body scope ps) (len : ∀ vs H Q E, sp vs H Q E → vs.length = ps.length)
    (h : Body0 g N qual body scope f k sp) : Mt CX0 g (k + 1) C x ps sp := mtC c m D S b len h.out
theorem mw0 (c : g.mg C = some (.ref (cF g C))) (m : Mk g.K (cF g C) f) (D : ∃ fd, FunD g.K x qual params body scope [] [] f fd) (S : FnScope N ps scope) (b : BindsBy x qual params body scope ps) (len : ∀ vs H Q E, sp vs H Q E → vs.length = ps.length)
    (h : Body0 g N qual body scope f k sp) : Mw g (k + 1) C ps sp := by
  obtain ⟨fd, F⟩ := D
  exact ⟨f, fd, c, m, F.bindsN b, F.ok S len h.out⟩
end
/-! ## fields -/
def tFc (C : Addr) (f : Str) (ta : TE) : TE := fun σ H Q => ta σ H fun x H1 => ∃ a dx fs v, x = .ref a ∧ H1 a = some (.ins C dx fs) ∧ fs.lookup f = some v ∧ Q v H1
def sFc (C : Addr) (f : Str) (ta tv : TE) : TS := fun D σ H => tv σ H fun y H1 => ta σ H1 fun x H2 => ∃ a dx fs, x = .ref a ∧ H2 a = some (.ins C dx fs) ∧ fs.length < 1000 ∧ D.nx σ (upd H2 a (.ins C dx (putF f y fs)))
def sFcA (C : Addr) (f : Str) (ta tv : TE) (rd : V → V → Hp → VK → Prop) : TS := fun D σ H => ta σ H fun x H1 => ∃ a dx fs v, x = .ref a ∧ H1 a = some (.ins C dx fs) ∧ fs.lookup f = some v ∧
  tv σ H1 fun y H2 => rd v y H2 fun z H3 => ∃ dx' fs', H3 a = some (.ins C dx' fs') ∧ fs'.length < 1000 ∧ D.nx σ (upd H3 a (.ins C dx' (putF f z fs')))
def gFc (C : Addr) (f : Str) (ta : TE) : TG := fun v σ H Q => ta σ H fun x H1 => ∃ a dx fs, x = .ref a ∧ H1 a = some (.ins C dx fs) ∧ fs.length < 1000 ∧ Q σ (upd H1 a (.ins C dx (putF f v fs)))
section
variable {X : Cx} {o e value : Expr} {f : Str} {pos pos' tpos : Pos} {ta tv : TE} {C : Addr}
theorem pe_fc (c : Cls X.K C) (n : NoAttr X.K C f) (he : PE X e ta) (hb : attributeBase e f X.env (eval e X.env) = eval e X.env := by rfl) : PE X (.Attribute e f pos) (tFc C f ta) := by
  constructor
  intro pins s σ H Q I h
  refine attr_of hb (thn (he.run pins s σ H _ I h) ?_)
  rintro u s1 ⟨x, H1, I1, rx, a, dx, fs, v, rfl, ea, l, q⟩
  cases (rx : u = Value.ref a)
  refine getattr_ok I1 ea c n l ?_
  intro u' s2 I2 ru
  exact ⟨v, H1, I2, ru, q⟩
theorem ps_fc (c : Cls X.K C) (n : NoAttr X.K C f) (ha : PE X o ta) (hv : PE X value tv) (hs : swapsWith value (some (.Attribute o f pos')) pos.line X.env = pure false := by rfl) : PS X (.Assign [.Attribute o f pos'] value pos) (sFc C f ta tv) := by
  constructor
  intro pins s σ H D I h
  refine plainObj_wpAny_Assign_Attribute (thn (hv.run pins s σ H _ I h) ?_) hs
  rintro u s1 ⟨y, H1, I1, ry, q⟩
  refine thn (ha.run pins s1 σ H1 _ I1 q) ?_
  rintro ov s2 ⟨x, H2, I2, rx, a, dx, fs, rfl, ea, l, q2⟩
  cases (rx : ov = Value.ref a)
  exact setattr_ok I2 ea c n l ry fun s3 I3 => ⟨σ, _, I3, q2⟩
theorem ps_fca {op : Operator} {rd : V → V → Hp → VK → Prop} (c : Cls X.K C) (n : NoAttr X.K C f) (hop : InOp X op rd) (ha : PE X o ta) (hv : PE X value tv) : PS X (.AugAssign (.Attribute o f tpos) op value pos) (sFcA C f ta tv rd) := by
  constructor
  intro pins s σ H D I h
  refine wpAny_AugAssign_AttributeAny (thn (ha.run pins s σ H _ I h) ?_)
  rintro ov s1 ⟨x, H1, I1, rx, a, dx, fs, v, rfl, ea, l, q⟩
  cases (rx : ov = Value.ref a)
  refine getattr_ok I1 ea c n l fun u s2 I2 ru => thn (hv.run pins s2 σ H1 _ I2 q) ?_
  rintro w3 s3 ⟨y, H2, I3, ry, q3⟩
  refine thn (hop pins s3 σ H2 v y u w3 _ I3 ru ry q3) ?_
  rintro w4 s4 ⟨z, H3, I4, rz, dx', fs', ea', l', q4⟩
  exact setattr_ok I4 ea' c n l' rz fun s5 I5 => ⟨σ, _, I5, q4⟩
end
theorem cx_K {CX : CXT} {P : Program} {w : World} {K : PySem.W.Frag} {mg : Str → Option Value} {base : Heap} {N : List Str} {qual : Str} {scope : Scope} {f : Addr} {cd : Value} {A : Around} {outer : List Env} {s : Shared} {H : Hp} {E : XK} : (cxOf CX P w K mg base N qual scope f cd A outer s H E).K = K := rfl
def rLenS (K : PySem.W.Frag) : List V → Hp → VK → Prop := fun xs H Q => ∃ p ys, xs = [.ref p] ∧ (SqL K H p ys ∨ SqT K H p ys) ∧ Q (.int ys.length) H
theorem call_lenS {X : Cx} : CallR X (.builtin "len") (rLenS X.K) := call_len_seq
/-! ## comprehensions that read -/
theorem Same.upd {H H' : Hp} {a : Addr} {o : HO} (h : H a = none) (s : Same H H') : Same H (upd H' a o) := fun b u e => by
  rw [upd_ne (fun z => by rw [z, h] at e; cases e)]
  exact s b u e
theorem Same.new {H : Hp} {a : Addr} {o : HO} (h : H a = none) : Same H (L2.upd H a o) := Same.upd h (.refl H)
theorem range_fm {α : Type} (f : Nat → Option α) (i : Nat) : (List.range (i + 1)).filterMap f = (List.range i).filterMap f ++ (f i).toList := by
  rw [List.range_succ, List.filterMap_append]
  cases h : f i <;> simp [h]
theorem lc_fm {J : It} {n : Nat} {G : Hp → Prop} {Y : Nat → Hp → V → Hp → Prop} (w : Walk J n G Y) {g : TG} {tt : TT} {te : TE} {vs : List Nat} {σ : L2.St} {H1 : Hp} {D : Addr} {Qd : Hp → Prop} (f : Nat → Option V)
    (hD : H1 D = none) (hn : n ≤ 1000000) (hG : ∀ H, Same H1 H → G H)
    (turn : ∀ i x H H' (Qk : VK) (Qn : Hp → Prop), i < n → Same H1 H → Y i H x H' → (∀ y H4, Same H H4 → f i = some y → Qk y H4) → (∀ H3, Same H H3 → f i = none → Qn H3) →
      g x (wipe σ vs) H' fun σ2 H2 => wipe σ2 vs = wipe σ vs ∧ tt σ2 H2 fun b H3 => if b = true then te σ2 H3 Qk else Qn H3)
    (done : ∀ H, Same H1 H → H D = some (.lst ((List.range n).filterMap f)) → Qd H) :
    ∃ W : Nat → Nat → Hp → Prop, (∃ m, W 0 m (upd H1 D (.lst []))) ∧ ∀ i m H, W i m H →
      (J.stop i H ∧ Qd H) ∨ (J.go i H ∧ ∃ Nx : Hp → Prop, (∀ H', Nx H' → ∃ m', m' < m ∧ W (i + 1) m' H') ∧ ∀ x H', J.yld i H x H' → g x (wipe σ vs) H' fun σ2 H2 => wipe σ2 vs = wipe σ vs ∧ tt σ2 H2 fun b H3 =>
        if b = true then te σ2 H3 fun y H4 => ∃ acc, H4 D = some (.lst acc) ∧ acc.length < sizeLine ∧ Nx (upd H4 D (.lst (acc ++ [y]))) else Nx H3) := by
  refine lc_it w (fun i H => Same H1 H ∧ H D = some (.lst ((List.range i).filterMap f))) ⟨Same.new hD, upd_same⟩ (fun i H _ p => hG H p.1) ?_ (fun H p => done H p.1 p.2)
  intro i x H H' hi p y
  have hl : ((List.range i).filterMap f).length < sizeLine := by
    have a := List.length_filterMap_le f (List.range i)
    rw [List.length_range] at a
    rw [sizeLine_eq]
    omega
  refine turn i x H H' _ _ hi p.1 y (fun y H4 s e => ⟨_, s _ _ p.2, hl, Same.upd hD (p.1.trans s), ?_⟩) (fun H3 s e => ⟨p.1.trans s, ?_⟩)
  · rw [upd_same, range_fm, e]
    rfl
  · rw [range_fm, e, s _ _ p.2]
    simp
end Tote
/-! # The own exceptions: their __init__, their raising -/
namespace Tote
open PySem PySem.Spec PyProof.Rows L2 Tq
theorem pmk_down {X : Cx} {e : Expr} {t : L2.St → Hp → XK → Prop} (h : L2N.PMk X e t) : L2.PMk X e t := by
  intro pins s σ H Q I q
  refine wpAny_mono (h pins s σ H Q I q) ?_ fun _ _ z => z
  rintro u s' ⟨a, oe, vs, sI, H', cls, d, e1, e2, e3, e4, e5, e6, e7⟩
  exact ⟨a, oe, vs, sI, H', cls, d, e1, e2, e3, e4, e5, ⟨e6.1, e6.2.1⟩, e7⟩
/-- what an __init__ of one field does to the new exception -/
def spV1 (K : PySem.W.Frag) (C : Addr) (f : Str) : Sp := fun vs H Q _ => ∃ (a : Addr) (v : V), vs = [.ref a, v] ∧ H a = some (exo a C none) ∧
  ∀ dx, H dx = none → dx ≠ a → Q .non (upd (upd H dx (exd dx [(f, v)])) a (exo a C (some dx)))
def spV2 (K : PySem.W.Frag) (C : Addr) (f1 f2 : Str) : Sp := fun vs H Q _ => ∃ (a : Addr) (v1 v2 : V), vs = [.ref a, v1, v2] ∧ H a = some (exo a C none) ∧
  ∀ dx, H dx = none → dx ≠ a → Q .non (upd (upd (upd H dx (exd dx [(f1, v1)])) a (exo a C (some dx))) dx (exd dx [(f2, v2), (f1, v1)]))
variable {g : GG}
theorem in_LineFault (T : Tx g) : ∃ fd, Binds g.K fd ["self", "code"] [] ∧ FnOk g.P g.w g.K g.mg g.base CX0 1 (He.ma g.K (cF g "LineFault") "__init__") fd ["self", "code"] (spV1 g.K (cF g "LineFault") "code") := by
  obtain ⟨fd, F⟩ := T.df_LineFault_init
  refine ⟨fd, F.bindsN (fun _ _ _ _ _ _ us hl => match us, hl with | [_, _], _ => rfl), F.ok sc_LineFault_init ?_ (Body0.out (k := 0) ?_)⟩
  · rintro vs H Q E ⟨a, v, rfl, _⟩
    rfl
  · rintro cdv A outer s H vs Q E hr ⟨a, v, rfl, ha, q⟩
    refine ⟨_, pss_cons (ps_expr (pe_veinit rfl T.fr_ValueError T.veInit (pa_cons (pv 0) (pa_cons pe_str pa_nil)))) (pss_one (ps_ost (pv 0) (pv 1))), ?_⟩
    refine ⟨_, rfl, a, _, _, rfl, by decide, T.x_LineFault.o, ha, ?_⟩
    exact ⟨_, rfl, _, rfl, a, _, rfl, T.x_LineFault.o, T.na_LineFault_code, .inl ⟨ha, fun dx h1 h2 => q dx h1 h2⟩⟩
theorem in_Refused (T : Tx g) : ∃ fd, Binds g.K fd ["self", "answer"] [] ∧ FnOk g.P g.w g.K g.mg g.base CX0 1 (He.ma g.K (cF g "Refused") "__init__") fd ["self", "answer"] (spV1 g.K (cF g "Refused") "answer") := by
  obtain ⟨fd, F⟩ := T.df_Refused_init
  refine ⟨fd, F.bindsN (fun _ _ _ _ _ _ us hl => match us, hl with | [_, _], _ => rfl), F.ok sc_Refused_init ?_ (Body0.out (k := 0) ?_)⟩
  · rintro vs H Q E ⟨a, v, rfl, _⟩
    rfl
  · rintro cdv A outer s H vs Q E hr ⟨a, v, rfl, ha, q⟩
    refine ⟨_, pss_cons (ps_expr (pe_veinit rfl T.fr_ValueError T.veInit (pa_cons (pv 0) (pa_cons pe_str pa_nil)))) (pss_one (ps_ost (pv 0) (pv 1))), ?_⟩
    refine ⟨_, rfl, a, _, _, rfl, by decide, T.x_Refused.o, ha, ?_⟩
    exact ⟨_, rfl, _, rfl, a, _, rfl, T.x_Refused.o, T.na_Refused_answer, .inl ⟨ha, fun dx h1 h2 => q dx h1 h2⟩⟩
/-- the same while another exception is handled -/
theorem fnA_D {CX : CXT} {P : Program} {w : World} {K : PySem.W.Frag} {mg : Str → Option Value} {base : Heap} {x qual : Str} {params : Arguments} {body : List Stmt} {scope : Scope} {f : Addr} {fd : FuncData} {N ps : List Str} {k : Nat} {sp : Sp}
    (F : FunD K x qual params body scope [] [] f fd) (S : FnScope N ps scope) (len : ∀ vs H Q E, sp vs H Q E → vs.length = ps.length)
    (h : ∀ (cdv : Value) (A : Around) (outer : List Env) (s : Shared) (H : Hp) (vs : List V) (Q : VK) (E : XK) (p : Addr × Obj), sp vs H Q E →
      ∃ t, PSs (L2H.cxH CX P w K mg base N qual scope f cdv A outer s H E p) body t ∧ t { nx := fun _ H' => Q .non H', rt := Q } (start N vs) H) : FnA P w K mg base CX (k + 1) f fd ps sp := by
  obtain ⟨oc, od, dV, kV, doc, pm, an, cdv, ct, osl, rfl, lk, hcd, _, _⟩ := F.ex
  exact fnA_of lk hcd S len fun A outer s H vs Q E p hs => h cdv A outer s H vs Q E p hs
theorem ih_Refused (T : Tx g) : ∃ fd, Binds g.K fd ["self", "answer"] [] ∧ FnA g.P g.w g.K g.mg g.base CX0 1 (He.ma g.K (cF g "Refused") "__init__") fd ["self", "answer"] (spV1 g.K (cF g "Refused") "answer") := by
  obtain ⟨fd, F⟩ := T.df_Refused_init
  refine ⟨fd, F.bindsN (fun _ _ _ _ _ _ us hl => match us, hl with | [_, _], _ => rfl), fnA_D (k := 0) F sc_Refused_init ?_ ?_⟩
  · rintro vs H Q E ⟨a, v, rfl, _⟩
    rfl
  · rintro cdv A outer s H vs Q E p ⟨a, v, rfl, ha, q⟩
    refine ⟨_, pss_cons (ps_expr (pe_veinit rfl T.fr_ValueError T.veInit (pa_cons (pv 0) (pa_cons pe_str pa_nil)))) (pss_one (ps_ost (pv 0) (pv 1))), ?_⟩
    refine ⟨_, rfl, a, _, _, rfl, by decide, T.x_Refused.o, ha, ?_⟩
    exact ⟨_, rfl, _, rfl, a, _, rfl, T.x_Refused.o, T.na_Refused_answer, .inl ⟨ha, fun dx h1 h2 => q dx h1 h2⟩⟩
theorem ih_TextFault (T : Tx g) : ∃ fd, Binds g.K fd ["self", "line", "code"] [] ∧ FnA g.P g.w g.K g.mg g.base CX0 1 (He.ma g.K (cF g "TextFault") "__init__") fd ["self", "line", "code"] (spV2 g.K (cF g "TextFault") "line" "code") := by
  obtain ⟨fd, F⟩ := T.df_TextFault_init
  refine ⟨fd, F.bindsN (fun _ _ _ _ _ _ us hl => match us, hl with | [_, _, _], _ => rfl), fnA_D (k := 0) F sc_TextFault_init ?_ ?_⟩
  · rintro vs H Q E ⟨a, v1, v2, rfl, _⟩
    rfl
  · rintro cdv A outer s H vs Q E p ⟨a, v1, v2, rfl, ha, q⟩
    refine ⟨_, pss_cons (ps_expr (pe_veinit rfl T.fr_ValueError T.veInit (pa_cons (pv 0) (pa_cons pe_str pa_nil)))) (pss_cons (ps_ost (pv 0) (pv 1)) (pss_one (ps_ost (pv 0) (pv 2)))), ?_⟩
    refine ⟨_, rfl, a, _, _, rfl, by decide, T.x_TextFault.o, ha, ?_⟩
    refine ⟨_, rfl, _, rfl, a, _, rfl, T.x_TextFault.o, T.na_TextFault_line, .inl ⟨ha, fun dx h1 h2 => ?_⟩⟩
    refine ⟨_, rfl, _, rfl, a, _, rfl, T.x_TextFault.o, T.na_TextFault_code, .inr ⟨dx, [("line", v1)], upd_same, ?_, (by show 1 ≤ 900; decide), ?_⟩⟩
    · rw [upd_ne h2, upd_same]
    · exact q dx h1 h2
end Tote
namespace Tote
open PySem PySem.Spec PyProof.Rows L2 Tq
theorem upd_del_same {H : Hp} {a dx : Addr} {x : HO} {y : HO} {f : List (Str × V)} (h1 : H a = none) (h2 : H dx = none) : Same H (upd (del (upd (upd (upd H a x) dx y) a x) a) dx (.xd f)) := by
  intro b o e
  have n1 : b ≠ dx := ne_of_none e h2
  have n2 : b ≠ a := ne_of_none e h1
  rw [upd_ne n1, del_ne n2, upd_ne n2, upd_ne n1, upd_ne n2]
  exact e
section
variable {X : Cx} {j i : Nat} {p pos pos' ep : Pos} {x : Str} {W : WX}
/-- raise X(c), X's __init__ of one field; c a name -/
def tR1 (C : Addr) (f : Str) (i : Nat) (W : WX) : TS := fun _ σ H => ∃ v, σ[i]? = some (some v) ∧ ∀ d H', Same H H' → H' d = some (.xd [(f, v)]) → W (.ref C) (some d) σ H'
theorem mk_read {K : PySem.W.Frag} {C : Addr} {f : Str} {σ : L2.St} {H : Hp} {Q : XK} {i : Nat} (h : ∃ v, σ[i]? = some (some v) ∧ ∀ d H', Same H H' → H' d = some (.xd [(f, v)]) → Q (.ref C) (some d) H') : tMkO C (spV1 K C f) [] (tCons (tVar i) tNil) σ H Q := by
  obtain ⟨v, hv, q⟩ := h
  refine ⟨v, hv, by show 1 ≤ 1000; decide, fun a ha => ⟨a, v, rfl, upd_same, fun dx h1 h2 => ⟨rfl, dx, _, upd_same, ?_, ?_, q dx _ ?_ upd_same⟩⟩⟩
  · rw [upd_ne h2, upd_same]
  · rw [upd_ne h2] at h1
    exact h1
  · rw [upd_ne h2] at h1
    intro b o e
    have n1 : b ≠ dx := ne_of_none e h1
    have n2 : b ≠ a := ne_of_none e ha
    rw [upd_ne n1, del_ne n2, upd_ne n2, upd_ne n1, upd_ne n2]
    exact e
theorem ps_rLF {g : GG} (T : Tx g) (hr : Room j X.A) (hk : 2 ≤ j) (hc : X.calm = true) (tk : L2N.Takes X W) (hN : X.N[i]? = some x) (hv : Vis X.env.scope x) (hd : (x == ("__debug__" : Str)) = false) (hcd : (x == ("__classdict__" : Str)) = false) (hg : Gl X "LineFault") (he : starEach [.Name x ep] X.env = [(false, eval (.Name x ep) X.env)]) (eg : gg X = g := by rfl) :
    PS X (.Raise (some (.Call (.Name "LineFault" p) [.Name x ep] [] pos)) none pos') (tR1 (cF g "LineFault") "code" i W) := by
  subst eg
  obtain ⟨fd, b, F⟩ := in_LineFault T
  have h := L2N.ps_raise (pos := pos') hc tk (pmk_calm (pos := pos) (p := p) T.x_LineFault.o T.x_LineFault.i T.x_LineFault.t F (hr.mono hk) b C8.pass0 hg T.gl_LineFault (pa_cons (pe_var (pos := ep) hN hv hd hcd) pa_nil) (by decide) he rfl).pmk
  exact ⟨fun pins s σ H D I q => h.run pins s σ H D I (mk_read q)⟩
theorem ps_rRF {g : GG} (T : Tx g) (hr : Room j X.A) (hk : 2 ≤ j) (hc : X.calm = true) (tk : L2.Takes X W) (hN : X.N[i]? = some x) (hv : Vis X.env.scope x) (hd : (x == ("__debug__" : Str)) = false) (hcd : (x == ("__classdict__" : Str)) = false) (hg : Gl X "Refused") (he : starEach [.Name x ep] X.env = [(false, eval (.Name x ep) X.env)]) (eg : gg X = g := by rfl) :
    PS X (.Raise (some (.Call (.Name "Refused" p) [.Name x ep] [] pos)) none pos') (tR1 (cF g "Refused") "answer" i W) := by
  subst eg
  obtain ⟨fd, b, F⟩ := in_Refused T
  have h := L2.ps_raise (pos := pos') hc tk (pmk_down (pmk_calm (pos := pos) (p := p) T.x_Refused.o T.x_Refused.i T.x_Refused.t F (hr.mono hk) b C8.pass0 hg T.gl_Refused (pa_cons (pe_var (pos := ep) hN hv hd hcd) pa_nil) (by decide) he rfl).pmk)
  exact ⟨fun pins s σ H D I q => h.run pins s σ H D I (mk_read q)⟩
end
section
variable {P : Program} {w : World} {K : PySem.W.Frag} {mg : Str → Option Value} {base : Heap} {N : List Str} {qual : Str} {scope : Scope} {f : Addr} {cd : Value} {A : Around} {outer : List Env} {s : Shared} {H : Hp} {E : XK}
theorem pxN : Passes (L2N.CX P w) (cxOf (L2N.CX P w) P w K mg base N qual scope f cd A outer s H E) E := L2N.passes_call (W := fun cls d _ H => E cls d H) (L2N.takes_of rfl rfl rfl rfl) fun _ _ _ _ h => h
theorem pxC : Passes (L2.CX P w) (cxOf (L2.CX P w) P w K mg base N qual scope f cd A outer s H E) E := L2.passes_call (W := fun cls d _ H => E cls d H) (L2.takes_of rfl rfl rfl rfl) fun _ _ _ _ h => h
theorem pxR : Passes (CXr RCh P w) (cxOf (CXr RCh P w) P w K mg base N qual scope f cd A outer s H E) E := passes_callR (W := fun cls d _ H => E cls d H) (takes_ofR RCh.ok rfl rfl rfl rfl) fun _ _ _ _ h => h
end
theorem bt_len : bootBuiltins "len" = some (.builtin "len") := by decide +kernel
theorem bt_all : bootBuiltins "all" = some (.builtin "all") := by decide +kernel
theorem bt_any : bootBuiltins "any" = some (.builtin "any") := by decide +kernel
theorem bt_sorted : bootBuiltins "sorted" = some (.builtin "sorted") := by decide +kernel
theorem bt_list : bootBuiltins "list" = some (.type "list") := by decide +kernel
theorem bt_int : bootBuiltins "int" = some (.type "int") := by decide +kernel
end Tote
/-! # words.py -/
namespace Tote
open PySem PySem.Spec PyProof.Rows L2 Tq
open SX (S S_inj S_len S_cat)
abbrev W := List Nat
variable {g : GG}
/-- a fault of a line is taken, whatever stands anew -/
def LFI (g : GG) (E : XK) (R : Hp) (c : Int) : Prop := ∀ d H', Same R H' → H' d = some (.xd [("code", .int c)]) → E (.ref (cF g "LineFault")) (some d) H'
def LF (g : GG) (E : XK) (R : Hp) (c : Nat) : Prop := LFI g E R c
theorem LF.mono {E : XK} {R R' : Hp} {c : Nat} (h : LF g E R c) (s : Same R R') : LF g E R' c := fun d H' s' e => h d H' (s.trans s') e
/-- what is wanted of an answer or a fault -/
def Wp {α : Type} (r : Except Nat α) (ef : Nat → Prop) (k : α → Prop) : Prop := match r with | .ok a => k a | .error c => ef c
theorem Wp.imp {α : Type} {r : Except Nat α} {e e' : Nat → Prop} {k k' : α → Prop} (h : Wp r e k) (he : ∀ c, e c → e' c) (hk : ∀ a, r = .ok a → k a → k' a) : Wp r e' k' := by
  cases r with
  | ok a => exact hk a rfl h
  | error c => exact he c h
theorem Wp_bind {α β : Type} {r : Except Nat α} {f : α → Except Nat β} {e : Nat → Prop} {k : β → Prop} : Wp (r >>= f) e k = Wp r e fun a => Wp (f a) e k := by
  cases r <;> rfl
theorem ifB {p : Bool} {A B : Prop} (h1 : p = true → A) (h2 : p = false → B) : if p = true then A else B := by
  cases p with
  | true => exact iteT (h1 rfl)
  | false => exact iteF (h2 rfl)
theorem yesI {P N : Hp → Prop} {σ : L2.St} {H : Hp} (h : P H) : tYes σ H (fun b H3 => if b = true then P H3 else N H3) := by
  show if true = true then P H else N H
  rw [if_pos rfl]
  exact h
theorem dec_str {a b : W} : decide (V.str (S a) = V.str (S b)) = decide (a = b) := by
  by_cases h : a = b
  · subst h; simp
  · rw [decide_eq_false h]
    exact decide_eq_false fun e => h (S_inj (V.str.inj e))
theorem qb {Q : VK} {H : Hp} {b b' : Bool} (q : Q (.bl b) H) (e : b' = b) : Q (.bl b') H := by rw [e]; exact q
theorem qi {Q : VK} {H : Hp} {b b' : Int} (q : Q (.int b) H) (e : b' = b) : Q (.int b') H := by rw [e]; exact q
theorem qs {Q : VK} {H : Hp} {b b' : Str} (q : Q (.str b) H) (e : b' = b) : Q (.str b') H := by rw [e]; exact q
/-- want -/
def WantP (g : GG) (E : XK) (H : Hp) (b : Bool) (c : Int) (p : Prop) : Prop := if b = true then p else LFI g E H c
def sp_want (g : GG) : Sp := fun vs H Q E => ∃ (b : Bool) (c : Int), vs = [.bl b, .int c] ∧ WantP g E H b c (Q .non H)
theorem ok_want (T : Tx g) : Fn (L2N.CX g.P g.w) g 3 "want" ["is_so", "code"] (sp_want g) := by
  refine fnC (k := 2) T.gl_want T.df_want sc_want (fun _ _ _ _ _ _ us hl => match us, hl with | [_, _], _ => rfl) ?_ ?_
  · rintro vs H Q E ⟨b, c, rfl, _⟩
    rfl
  · rintro cdv A outer s H vs Q E hr ⟨b, c, rfl, q⟩
    refine ⟨_, (pss_one (ps_if (pt_not (pt_val (pv 0))) (pss_one (ps_rLF (i := 1) T hr (by decide) rfl (L2N.takes_of rfl rfl rfl rfl) rfl (.inl rfl) (by decide) (by decide) rfl rfl)) pss_nil)), ?_⟩
    refine ⟨_, rfl, b, rfl, ?_⟩
    cases b with
    | true => exact iteF q
    | false => exact iteT ⟨_, rfl, fun d H' s e => q d H' s e⟩
def isB (i : Int) : Bool := i == 10 || Xb08.inRange 32 126 i
def sp_is_byte (g : GG) : Sp := fun vs H Q _ => ∃ i, vs = [.int i] ∧ Q (.bl (isB i)) H
theorem ok_is_byte (T : Tx g) : Fn CX0 g 1 "is_byte" ["number"] (sp_is_byte g) := by
  refine fnZ (k := 0) T.gl_is_byte T.df_is_byte sc_is_byte (fun _ _ _ _ _ _ us hl => match us, hl with | [_], _ => rfl) ?_ ?_
  · rintro vs H Q E ⟨i, rfl, _⟩
    rfl
  · rintro cdv A outer s H vs Q E hr ⟨i, rfl, q⟩
    refine ⟨_, (pss_one (ps_ret (pe_or (pe_cmpR op_eq (pv 0) (C8.pe_gc rfl T.in_LINE_END) (nomark _)) (pe_one (pe_chain op_le op_le (C8.pe_gc rfl T.in_BLANK) (pv 0) (C8.pe_gc rfl T.in_LAST_BYTE)))))), ?_⟩
    refine ⟨_, rfl, rfl, _, rfl, ifB (fun e => qb q ?_) (fun e => ⟨_, rfl, _, _, rfl, rfl, _, rfl, ifB (fun e2 => ⟨_, _, rfl, rfl, qb q ?_⟩) (fun e2 => qb q ?_)⟩)⟩
    · rw [dec_int] at e
      unfold isB
      rw [e]
      rfl
    · rw [dec_int] at e
      unfold isB Xb08.inRange
      rw [e, e2]
      rfl
    · rw [dec_int] at e
      unfold isB Xb08.inRange
      rw [e, e2]
      rfl
def sp_is_text (g : GG) : Sp := fun vs H Q _ => ∃ (a : Addr) (ns : List Int), vs = [.ref a] ∧ SqL g.K H a (ns.map .int) ∧ ns.length ≤ 1000000 ∧ ∀ H', Same H H' → Q (.bl (Xb08.isValidText ns)) H'
theorem fm_map {α β : Type} (f : α → β) (l : List α) : (List.range l.length).filterMap (fun i => (l[i]?).map f) = l.map f := by
  have h : ∀ n, n ≤ l.length → (List.range n).filterMap (fun i => (l[i]?).map f) = (l.take n).map f := by
    intro n
    induction n with
    | zero => intro _; rfl
    | succ n ih =>
      intro hn
      rw [range_fm, ih (by omega), List.take_add_one, List.map_append]
      cases l[n]? <;> rfl
  have := h l.length (Nat.le_refl _)
  rwa [List.take_length] at this
theorem ok_is_text (T : Tx g) : Fn CX0 g 2 "is_text" ["numbers"] (sp_is_text g) := by
  refine fnZ (k := 1) T.gl_is_text T.df_is_text sc_is_text (fun _ _ _ _ _ _ us hl => match us, hl with | [_], _ => rfl) ?_ ?_
  · rintro vs H Q E ⟨a, ns, rfl, _⟩
    rfl
  · rintro cdv A outer s H vs Q E hr ⟨a, ns, rfl, hS, hn, q⟩
    refine ⟨_, (pss_one (ps_ret (pe_and (pe_cmpR op_le (pe_callB call_lenS (by rfl) T.fr_len bt_len (pa_cons (pv 0) pa_nil)) (C8.pe_gc rfl T.in_LONGEST_TEXT) (nomark _)) (pe_one (pe_callB (cr_all rfl) (by rfl) T.fr_all bt_all (pa_cons (pe_lc (own := [("number", 1)]) (g := (gName 1)) rfl sc_is_text.nd (pi_list (pv 0)) (blkOk_by (N := ["numbers", "number"]) (sc := defScope s_is_text) (by decide +kernel)) (fun _ _ _ _ _ => (pg_name (i := 1) sc_is_text.nd rfl (.inl rfl))) (fun _ _ _ _ _ => pts_nil) (fun _ _ _ _ _ => (pe_fn (ok_is_byte T) hr (by decide) (pa_cons (pv 1) pa_nil)))) pa_nil)))))), ?_⟩
    refine ⟨_, rfl, a, _, rfl, .inl hS, _, _, rfl, rfl, _, rfl, ifB (fun e => ?_) (fun e => qb (q H (.refl H)) ?_)⟩
    · refine ⟨_, rfl, a, rfl, ⟨_, hS⟩, fun D hD => ?_⟩
      refine lc_fm walk_list (fun i => (ns[i]?).map fun x => V.bl (isB x)) hD (by rw [List.length_map]; exact hn) (fun H' s => s.seq hS) ?_ ?_
      · rintro i x H1 H' Qk Qn hi s1 ⟨rfl, ex⟩ hk hn
        rw [List.getElem?_map] at ex
        cases en : ns[i]? with
        | none => rw [en] at ex; cases ex
        | some z =>
          rw [en] at ex
          cases ex
          exact ⟨rfl, yesI ⟨_, rfl, z, rfl, hk _ _ (.refl _) (by rw [en]; rfl)⟩⟩
      · intro H' s1 hD'
        rw [List.length_map] at hD'
        rw [fm_map] at hD'
        refine ⟨D, ns.map isB, rfl, .inl (.inl ?_), qb (q H' s1) ?_⟩
        · rw [hD', List.map_map]
          rfl
        · unfold Xb08.isValidText
          rw [List.length_map] at e
          have e' : decide (ns.length ≤ 4000) = true := by
            have := of_decide_eq_true e
            exact decide_eq_true (by omega)
          rw [e', List.all_map]
          rfl
    · unfold Xb08.isValidText
      rw [List.length_map] at e
      have e' : decide (ns.length ≤ 4000) = false := by
        have := of_decide_eq_false e
        exact decide_eq_false (by omega)
      rw [e']
      rfl
/-! ## signs and words -/
def wV (w : W) : V := .str (S w)
def sgn (n : Nat) : Nat := if 97 ≤ n ∧ n < 123 then n else if 48 ≤ n ∧ n < 58 then n else 63
theorem letters_len : ((("abcdefghijklmnopqrstuvwxyz" : Str).length : Nat) : Int) = 26 := by decide +kernel
theorem digits_len : ((("0123456789" : Str).length : Nat) : Int) = 10 := by decide +kernel
theorem letters_sz : (Str.ofString "abcdefghijklmnopqrstuvwxyz").length ≤ sizeLine := by decide +kernel
theorem digits_sz : (Str.ofString "0123456789").length ≤ sizeLine := by decide +kernel
theorem letters_tl : ("abcdefghijklmnopqrstuvwxyz" : Str).cps.toList = (List.range 26).map (· + 97) := by decide +kernel
theorem digits_tl : ("0123456789" : Str).cps.toList = (List.range 10).map (· + 48) := by decide +kernel
theorem letter_at {n : Nat} (h1 : 97 ≤ n) (h2 : n < 123) : atI ("abcdefghijklmnopqrstuvwxyz" : Str).cps.toList ((n : Int) - 97) = some n := by
  have e : (n : Int) - 97 = ((n - 97 : Nat) : Int) := by omega
  rw [e, letters_tl]
  refine atI_nat ?_
  rw [List.getElem?_map, List.getElem?_range (by omega)]
  show some (n - 97 + 97) = some n
  rw [Nat.sub_add_cancel h1]
theorem digit_at {n : Nat} (h1 : 48 ≤ n) (h2 : n < 58) : atI ("0123456789" : Str).cps.toList ((n : Int) - 48) = some n := by
  have e : (n : Int) - 48 = ((n - 48 : Nat) : Int) := by omega
  rw [e, digits_tl]
  refine atI_nat ?_
  rw [List.getElem?_map, List.getElem?_range (by omega)]
  show some (n - 48 + 48) = some n
  rw [Nat.sub_add_cancel h1]
def sp_sign_of (g : GG) : Sp := fun vs H Q _ => ∃ n : Nat, vs = [.int n] ∧ Q (wV [sgn n]) H
theorem ok_sign_of (T : Tx g) : Fn CX0 g 1 "sign_of" ["byte"] (sp_sign_of g) := by
  refine fnZ (k := 0) T.gl_sign_of T.df_sign_of sc_sign_of (fun _ _ _ _ _ _ us hl => match us, hl with | [_], _ => rfl) ?_ ?_
  · rintro vs H Q E ⟨n, rfl, _⟩
    rfl
  · rintro cdv A outer s H vs Q E hr ⟨n, rfl, q⟩
    refine ⟨_, (pss_cons (ps_if (pt_chain op_le op_lt (C8.pe_gc rfl T.in_FIRST_LETTER) (pv 0) (pe_op op_add (C8.pe_gc rfl T.in_FIRST_LETTER) (pe_callB call_len_str (by rfl) T.fr_len bt_len (pa_cons (C8.pe_gc rfl T.st_LETTERS) pa_nil)))) (pss_one (ps_ret (pe_ix ix_str (C8.pe_gc rfl T.st_LETTERS) (pe_op op_sub (pv 0) (C8.pe_gc rfl T.in_FIRST_LETTER)) (fun _ _ => rfl)))) pss_nil) (pss_cons (ps_if (pt_chain op_le op_lt (C8.pe_gc rfl T.in_FIRST_DIGIT) (pv 0) (pe_op op_add (C8.pe_gc rfl T.in_FIRST_DIGIT) (pe_callB call_len_str (by rfl) T.fr_len bt_len (pa_cons (C8.pe_gc rfl T.st_DIGITS) pa_nil)))) (pss_one (ps_ret (pe_ix ix_str (C8.pe_gc rfl T.st_DIGITS) (pe_op op_sub (pv 0) (C8.pe_gc rfl T.in_FIRST_DIGIT)) (fun _ _ => rfl)))) pss_nil) (pss_one (ps_ret (C8.pe_gc rfl T.st_OTHER))))), ?_⟩
    simp only [rLenS, tBM, rAppend, rExtend, rIn, cx_K, rIxS, rIxL, rIxT, tRet, tIfS, tTest, tChain, rI, rI0, rU, tC, tVar, tOp, tUn, tCB, tCons, tNil, tSeq, tNext, tB, tNot, tAnd, tOr, tAndV, tOrV, tNotV, tFc, sFc, sFcA, tMt, tCl, tNw, tLst, tTup, tDrop, tAsg, tPar, gName, gCons, gNil, tR1, rEq, rNe, rAdd, rSub, tAug, ipI, L2.start, List.map, List.length, List.replicate, List.append, List.set, exists_eq_left', exists_eq_left, exists_eq_right, exists_eq_right', exists_and_left, exists_and_right, exists_eq, exists_eq', Option.some.injEq, List.getElem?_cons_zero, List.getElem?_cons_succ, V.bl.injEq, V.int.injEq, V.str.injEq, V.ref.injEq, List.cons_append, List.nil_append, List.cons.injEq, HO.ins.injEq, HO.lst.injEq, HO.tup.injEq, true_and, and_true, decide_eq_true_eq, Bool.false_eq_true, ↓reduceIte, Bool.not_true, Bool.not_false, Bool.not_eq_true', decide_eq_false_iff_not, List.set_cons_zero, List.set_cons_succ, and_assoc, scal, dec_int, dec_str, forall_const, implies_true, letters_len, digits_len, letters_sz, digits_sz]
    have fin : (n < 97 ∨ 123 ≤ n) → (if 48 ≤ (n : Int) then if (n : Int) < 48 + 10 then ∃ x, atI (Str.ofString "0123456789").cps.toList ((n : Int) - 48) = some x ∧ Q (V.str { cps := #[x] }) H else Q (V.str (Str.ofString "?")) H else Q (V.str (Str.ofString "?")) H) := by
      intro h0
      by_cases h1 : 48 ≤ n
      · rw [if_pos (by omega)]
        by_cases h2 : n < 58
        · rw [if_pos (by omega)]
          refine ⟨n, digit_at h1 h2, ?_⟩
          have e : sgn n = n := by
            unfold sgn
            rw [if_neg (by omega), if_pos (by omega)]
          rw [e] at q
          exact q
        · rw [if_neg (by omega)]
          have e : sgn n = 63 := by
            unfold sgn
            rw [if_neg (by omega), if_neg (by omega)]
          rw [e] at q
          exact q
      · rw [if_neg (by omega)]
        have e : sgn n = 63 := by
          unfold sgn
          rw [if_neg (by omega), if_neg (by omega)]
        rw [e] at q
        exact q
    by_cases h1 : 97 ≤ n
    · rw [if_pos (by omega)]
      by_cases h2 : n < 123
      · rw [if_pos (by omega)]
        refine ⟨n, letter_at h1 h2, ?_⟩
        have e : sgn n = n := by
          unfold sgn
          rw [if_pos (by omega)]
        rw [e] at q
        exact q
      · rw [if_neg (by omega)]
        exact fin (by omega)
    · rw [if_neg (by omega)]
      exact fin (by omega)
theorem drop_empty {α : Type} {l : List α} {i : Nat} (h : i ≤ l.length) : (l.drop i).isEmpty = decide ((i : Int) = (l.length : Int)) := by
  by_cases e : i = l.length
  · subst e
    rw [List.drop_length]
    exact (decide_eq_true rfl).symm
  · rw [decide_eq_false (by omega)]
    cases hd : l.drop i with
    | nil =>
      have := congrArg List.length hd
      rw [List.length_drop] at this
      simp at this
      omega
    | cons _ _ => rfl
/-! ## Words -/
def wdF (f_row f_at : V) : List (Str × V) := [("row", f_row), ("at", f_at)]
theorem wdF_get (f_row f_at : V) : List.lookup ("row" : Str) (wdF f_row f_at) = some f_row ∧ List.lookup ("at" : Str) (wdF f_row f_at) = some f_at ∧ List.lookup ("is_over" : Str) (wdF f_row f_at) = none ∧ List.lookup ("take" : Str) (wdF f_row f_at) = none ∧ List.lookup ("sees" : Str) (wdF f_row f_at) = none ∧ List.lookup ("take_told" : Str) (wdF f_row f_at) = none ∧ List.lookup ("take_name" : Str) (wdF f_row f_at) = none ∧ List.lookup ("take_number" : Str) (wdF f_row f_at) = none ∧ List.lookup ("take_end" : Str) (wdF f_row f_at) = none ∧ (wdF f_row f_at).length < 1000 := ⟨rfl, rfl, rfl, rfl, rfl, rfl, rfl, rfl, rfl, (show 2 < 1000 by decide)⟩
theorem wdF_put (v f_row f_at : V) : putF "row" v (wdF f_row f_at) = wdF v f_at ∧ putF "at" v (wdF f_row f_at) = wdF f_row v := ⟨rfl, rfl⟩
/-- a word: of 1 to 4000 signs -/
def Wd (z : W) : Prop := z ≠ [] ∧ z.length ≤ 4000
structure WordsAt (g : GG) (H R : Hp) (w : Addr) (ws : List W) : Prop where
  same : Same R H
  out : R w = none
  ex : ∃ (dx a : Addr) (i : Nat) (row : List W), H w = some (.ins (cF g "Words") dx (wdF (.ref a) (.int i))) ∧ H a = some (.lst (row.map wV)) ∧ row.drop i = ws ∧ i ≤ row.length ∧ row.length ≤ 4000 ∧ ∀ z ∈ row, Wd z
def sp_Words_is_over (g : GG) : Sp := fun vs H Q _ => ∃ (w : Addr) (R : Hp) (ws : List W), vs = [.ref w] ∧ WordsAt g H R w ws ∧ Q (.bl ws.isEmpty) H
theorem ok_Words_is_over (T : Tx g) : Mt CX0 g 1 "Words" "is_over" ["self"] (sp_Words_is_over g) := by
  refine mt0 (k := 0) T.cl_Words T.me_Words_is_over T.df_Words_is_over sc_Words_is_over (fun _ _ _ _ _ _ us hl => match us, hl with | [_], _ => rfl) ?_ ?_
  · rintro vs H Q E ⟨w, R, ws, rfl, _⟩
    rfl
  · rintro cdv A outer s H vs Q E hr ⟨w, R, ws, rfl, hw, q⟩
    obtain ⟨dx, a, i, row, h1, h2, h3, h4, h5, h6⟩ := hw.ex
    refine ⟨_, (pss_one (ps_ret (pe_cmpR op_eq (pe_fc T.cl_Words T.na_Words_at (pv 0)) (pe_callB call_lenS (by rfl) T.fr_len bt_len (pa_cons (pe_fc T.cl_Words T.na_Words_row (pv 0)) pa_nil)) (nomark _)))), ?_⟩
    simp only [rLenS, tBM, rAppend, rExtend, rIn, cx_K, rIxS, rIxL, rIxT, tRet, tIfS, tTest, tChain, rI, rI0, rU, tC, tVar, tOp, tUn, tCB, tCons, tNil, tSeq, tNext, tB, tNot, tAnd, tOr, tAndV, tOrV, tNotV, tFc, sFc, sFcA, tMt, tCl, tNw, tLst, tTup, tDrop, tAsg, tPar, gName, gCons, gNil, tR1, rEq, rNe, rAdd, rSub, tAug, ipI, L2.start, List.map, List.length, List.replicate, List.append, List.set, exists_eq_left', exists_eq_left, exists_eq_right, exists_eq_right', exists_and_left, exists_and_right, exists_eq, exists_eq', Option.some.injEq, List.getElem?_cons_zero, List.getElem?_cons_succ, V.bl.injEq, V.int.injEq, V.str.injEq, V.ref.injEq, List.cons_append, List.nil_append, List.cons.injEq, HO.ins.injEq, HO.lst.injEq, HO.tup.injEq, true_and, and_true, decide_eq_true_eq, Bool.false_eq_true, ↓reduceIte, Bool.not_true, Bool.not_false, Bool.not_eq_true', decide_eq_false_iff_not, List.set_cons_zero, List.set_cons_succ, and_assoc, scal, dec_int, dec_str, forall_const, implies_true, h1, wdF_get]
    refine ⟨_, .inl (.inl (.inl h2)), qb q ?_⟩
    rw [List.length_map, ← h3, drop_empty h4]
theorem ins_ne {H : Hp} {w a dx : Addr} {fs : List (Str × V)} {xs : List V} {C : Addr} (h1 : H w = some (.ins C dx fs)) (h2 : H a = some (.lst xs)) : a ≠ w := ne_of h2 h1 (by intro z; cases z)
def takeE (ws : List W) : Except Nat (W × List W) := match ws with
  | [] => .error 1
  | z :: r => .ok (z, r)
def sp_Words_take (g : GG) : Sp := fun vs H Q E => ∃ (w : Addr) (R : Hp) (ws : List W), vs = [.ref w] ∧ WordsAt g H R w ws ∧ Wp (takeE ws) (LF g E R) fun p => Wd p.1 → ∀ H', WordsAt g H' R w p.2 → Q (wV p.1) H'
theorem ok_Words_take (T : Tx g) : Mt (L2N.CX g.P g.w) g 4 "Words" "take" ["self"] (sp_Words_take g) := by
  refine mtC (k := 3) T.cl_Words T.me_Words_take T.df_Words_take sc_Words_take (fun _ _ _ _ _ _ us hl => match us, hl with | [_], _ => rfl) ?_ ?_
  · rintro vs H Q E ⟨w, R, ws, rfl, _⟩
    rfl
  · rintro cdv A outer s H vs Q E hr ⟨w, R, ws, rfl, hw, q⟩
    obtain ⟨dx, a, i, row, h1, h2, h3, h4, h5, h6⟩ := hw.ex
    refine ⟨_, (pss_cons (ps_expr (pe_fx (ok_want T) hr (by decide) pxN (pa_cons (pe_not (pe_mt0 (ok_Words_is_over T) hr (by decide) (pv 0))) (pa_cons (C8.pe_gc rfl T.in_NOT_FORMED) pa_nil)))) (pss_cons (ps_fca T.cl_Words T.na_Words_at in_add (pv 0) pe_int) (pss_one (ps_ret (pe_ix ix_list (pe_fc T.cl_Words T.na_Words_row (pv 0)) (pe_op op_sub (pe_fc T.cl_Words T.na_Words_at (pv 0)) pe_int) (fun _ _ => rfl)))))), ?_⟩
    simp only [rLenS, tBM, rAppend, rExtend, rIn, cx_K, rIxS, rIxL, rIxT, tRet, tIfS, tTest, tChain, rI, rI0, rU, tC, tVar, tOp, tUn, tCB, tCons, tNil, tSeq, tNext, tB, tNot, tAnd, tOr, tAndV, tOrV, tNotV, tFc, sFc, sFcA, tMt, tCl, tNw, tLst, tTup, tDrop, tAsg, tPar, gName, gCons, gNil, tR1, rEq, rNe, rAdd, rSub, tAug, ipI, L2.start, List.map, List.length, List.replicate, List.append, List.set, exists_eq_left', exists_eq_left, exists_eq_right, exists_eq_right', exists_and_left, exists_and_right, exists_eq, exists_eq', Option.some.injEq, List.getElem?_cons_zero, List.getElem?_cons_succ, V.bl.injEq, V.int.injEq, V.str.injEq, V.ref.injEq, List.cons_append, List.nil_append, List.cons.injEq, HO.ins.injEq, HO.lst.injEq, HO.tup.injEq, true_and, and_true, decide_eq_true_eq, Bool.false_eq_true, ↓reduceIte, Bool.not_true, Bool.not_false, Bool.not_eq_true', decide_eq_false_iff_not, List.set_cons_zero, List.set_cons_succ, and_assoc, scal, dec_int, dec_str, forall_const, implies_true, h1, wdF_get, wdF_put, sp_want, sp_Words_is_over, upd_same]
    refine ⟨R, ws, hw, ?_⟩
    cases ws with
    | nil => exact LF.mono q hw.same
    | cons z r =>
      have hi : row[i]? = some z := by
        have := congrArg (fun l => l[0]?) h3
        simpa using this
      have hil : i < row.length := (List.getElem?_eq_some_iff.mp hi).1
      have na : a ≠ w := ins_ne h1 h2
      refine iteT ⟨row.map wV, .inl (.inl (by rw [upd_ne na]; exact h2)), wV z, ?_, q (h6 z (List.mem_of_getElem? hi)) _ ?_⟩
      · rw [show (i : Int) + 1 - 1 = (i : Int) by omega]
        refine atI_nat ?_
        rw [List.getElem?_map, hi] <;> rfl
      · refine ⟨Same.upd hw.out hw.same, hw.out, dx, a, i + 1, row, upd_same, by rw [upd_ne na]; exact h2, ?_, hil, h5, h6⟩
        have := congrArg List.tail h3
        rw [List.tail_drop] at this
        exact this
def takeEnd (ws : List W) : Except Nat Unit := if ws.isEmpty = true then .ok () else .error 1
def sp_Words_take_end (g : GG) : Sp := fun vs H Q E => ∃ (w : Addr) (R : Hp) (ws : List W), vs = [.ref w] ∧ WordsAt g H R w ws ∧ Wp (takeEnd ws) (LF g E R) fun _ => Q .non H
theorem ok_Words_take_end (T : Tx g) : Mt (L2N.CX g.P g.w) g 4 "Words" "take_end" ["self"] (sp_Words_take_end g) := by
  refine mtC (k := 3) T.cl_Words T.me_Words_take_end T.df_Words_take_end sc_Words_take_end (fun _ _ _ _ _ _ us hl => match us, hl with | [_], _ => rfl) ?_ ?_
  · rintro vs H Q E ⟨w, R, ws, rfl, _⟩
    rfl
  · rintro cdv A outer s H vs Q E hr ⟨w, R, ws, rfl, hw, q⟩
    obtain ⟨dx, a, i, row, h1, h2, h3, h4, h5, h6⟩ := hw.ex
    refine ⟨_, (pss_one (ps_expr (pe_fx (ok_want T) hr (by decide) pxN (pa_cons (pe_mt0 (ok_Words_is_over T) hr (by decide) (pv 0)) (pa_cons (C8.pe_gc rfl T.in_NOT_FORMED) pa_nil))))), ?_⟩
    simp only [rLenS, tBM, rAppend, rExtend, rIn, cx_K, rIxS, rIxL, rIxT, tRet, tIfS, tTest, tChain, rI, rI0, rU, tC, tVar, tOp, tUn, tCB, tCons, tNil, tSeq, tNext, tB, tNot, tAnd, tOr, tAndV, tOrV, tNotV, tFc, sFc, sFcA, tMt, tCl, tNw, tLst, tTup, tDrop, tAsg, tPar, gName, gCons, gNil, tR1, rEq, rNe, rAdd, rSub, tAug, ipI, L2.start, List.map, List.length, List.replicate, List.append, List.set, exists_eq_left', exists_eq_left, exists_eq_right, exists_eq_right', exists_and_left, exists_and_right, exists_eq, exists_eq', Option.some.injEq, List.getElem?_cons_zero, List.getElem?_cons_succ, V.bl.injEq, V.int.injEq, V.str.injEq, V.ref.injEq, List.cons_append, List.nil_append, List.cons.injEq, HO.ins.injEq, HO.lst.injEq, HO.tup.injEq, true_and, and_true, decide_eq_true_eq, Bool.false_eq_true, ↓reduceIte, Bool.not_true, Bool.not_false, Bool.not_eq_true', decide_eq_false_iff_not, List.set_cons_zero, List.set_cons_succ, and_assoc, scal, dec_int, dec_str, forall_const, implies_true, h1, wdF_get, sp_want, sp_Words_is_over]
    refine ⟨R, ws, hw, ?_⟩
    cases ws with
    | nil => exact iteT q
    | cons z r => exact iteF (LF.mono q hw.same)
def sp_Words_sees (g : GG) : Sp := fun vs H Q _ => ∃ (w : Addr) (R : Hp) (ws : List W) (k : W), vs = [.ref w, wV k] ∧ WordsAt g H R w ws ∧ Q (.bl (decide (ws.head? = some k))) H
theorem ok_Words_sees (T : Tx g) : Mt CX0 g 2 "Words" "sees" ["self", "word"] (sp_Words_sees g) := by
  refine mt0 (k := 1) T.cl_Words T.me_Words_sees T.df_Words_sees sc_Words_sees (fun _ _ _ _ _ _ us hl => match us, hl with | [_, _], _ => rfl) ?_ ?_
  · rintro vs H Q E ⟨w, R, ws, k, rfl, _⟩
    rfl
  · rintro cdv A outer s H vs Q E hr ⟨w, R, ws, k, rfl, hw, q⟩
    obtain ⟨dx, a, i, row, h1, h2, h3, h4, h5, h6⟩ := hw.ex
    refine ⟨_, (pss_one (ps_ret (pe_and (pe_not (pe_mt0 (ok_Words_is_over T) hr (by decide) (pv 0))) (pe_one (pe_cmpR op_eq (pe_ix ix_list (pe_fc T.cl_Words T.na_Words_row (pv 0)) (pe_fc T.cl_Words T.na_Words_at (pv 0)) (fun _ _ => rfl)) (pv 1) (nomark _)))))), ?_⟩
    simp only [rLenS, tBM, rAppend, rExtend, rIn, cx_K, rIxS, rIxL, rIxT, tRet, tIfS, tTest, tChain, rI, rI0, rU, tC, tVar, tOp, tUn, tCB, tCons, tNil, tSeq, tNext, tB, tNot, tAnd, tOr, tAndV, tOrV, tNotV, tFc, sFc, sFcA, tMt, tCl, tNw, tLst, tTup, tDrop, tAsg, tPar, gName, gCons, gNil, tR1, rEq, rNe, rAdd, rSub, tAug, ipI, L2.start, List.map, List.length, List.replicate, List.append, List.set, exists_eq_left', exists_eq_left, exists_eq_right, exists_eq_right', exists_and_left, exists_and_right, exists_eq, exists_eq', Option.some.injEq, List.getElem?_cons_zero, List.getElem?_cons_succ, V.bl.injEq, V.int.injEq, V.str.injEq, V.ref.injEq, List.cons_append, List.nil_append, List.cons.injEq, HO.ins.injEq, HO.lst.injEq, HO.tup.injEq, true_and, and_true, decide_eq_true_eq, Bool.false_eq_true, ↓reduceIte, Bool.not_true, Bool.not_false, Bool.not_eq_true', decide_eq_false_iff_not, List.set_cons_zero, List.set_cons_succ, and_assoc, scal, dec_int, dec_str, forall_const, implies_true, h1, wdF_get, sp_Words_is_over]
    refine ⟨R, ws, hw, ?_⟩
    cases ws with
    | nil => exact q
    | cons z r =>
      have hi : row[i]? = some z := by
        have := congrArg (fun l => l[0]?) h3
        simpa using this
      refine ⟨row.map wV, .inl (.inl h2), wV z, atI_nat (by rw [List.getElem?_map, hi] <;> rfl), rfl, ?_⟩
      refine qb q ?_
      show decide (V.str (S z) = V.str (S k)) = _
      rw [dec_str]
      simp
def takeTold (k : W) (ws : List W) : Except Nat (List W) := match ws with
  | [] => .error 1
  | z :: r => if z = k then .ok r else .error 1
def sp_Words_take_told (g : GG) : Sp := fun vs H Q E => ∃ (w : Addr) (R : Hp) (ws : List W) (k : W), vs = [.ref w, wV k] ∧ WordsAt g H R w ws ∧ Wp (takeTold k ws) (LF g E R) fun r => ∀ H', WordsAt g H' R w r → Q .non H'
theorem ok_Words_take_told (T : Tx g) : Mt (L2N.CX g.P g.w) g 5 "Words" "take_told" ["self", "word"] (sp_Words_take_told g) := by
  refine mtC (k := 4) T.cl_Words T.me_Words_take_told T.df_Words_take_told sc_Words_take_told (fun _ _ _ _ _ _ us hl => match us, hl with | [_, _], _ => rfl) ?_ ?_
  · rintro vs H Q E ⟨w, R, ws, k, rfl, _⟩
    rfl
  · rintro cdv A outer s H vs Q E hr ⟨w, R, ws, k, rfl, hw, q⟩
    obtain ⟨dx, a, i, row, h1, h2, h3, h4, h5, h6⟩ := hw.ex
    refine ⟨_, (pss_one (ps_expr (pe_fx (ok_want T) hr (by decide) pxN (pa_cons (pe_cmpR op_eq (pe_mx0 (ok_Words_take T) hr (by decide) pxN (pv 0)) (pv 1) (nomark _)) (pa_cons (C8.pe_gc rfl T.in_NOT_FORMED) pa_nil))))), ?_⟩
    simp only [rLenS, tBM, rAppend, rExtend, rIn, cx_K, rIxS, rIxL, rIxT, tRet, tIfS, tTest, tChain, rI, rI0, rU, tC, tVar, tOp, tUn, tCB, tCons, tNil, tSeq, tNext, tB, tNot, tAnd, tOr, tAndV, tOrV, tNotV, tFc, sFc, sFcA, tMt, tCl, tNw, tLst, tTup, tDrop, tAsg, tPar, gName, gCons, gNil, tR1, rEq, rNe, rAdd, rSub, tAug, ipI, L2.start, List.map, List.length, List.replicate, List.append, List.set, exists_eq_left', exists_eq_left, exists_eq_right, exists_eq_right', exists_and_left, exists_and_right, exists_eq, exists_eq', Option.some.injEq, List.getElem?_cons_zero, List.getElem?_cons_succ, V.bl.injEq, V.int.injEq, V.str.injEq, V.ref.injEq, List.cons_append, List.nil_append, List.cons.injEq, HO.ins.injEq, HO.lst.injEq, HO.tup.injEq, true_and, and_true, decide_eq_true_eq, Bool.false_eq_true, ↓reduceIte, Bool.not_true, Bool.not_false, Bool.not_eq_true', decide_eq_false_iff_not, List.set_cons_zero, List.set_cons_succ, and_assoc, scal, dec_int, dec_str, forall_const, implies_true, h1, wdF_get, sp_want, sp_Words_take]
    refine ⟨R, ws, hw, ?_⟩
    cases ws with
    | nil => exact q
    | cons z r =>
      intro wd H' hw'
      refine ⟨rfl, ?_⟩
      show WantP g E H' (decide (V.str (S z) = V.str (S k))) 1 _
      rw [dec_str]
      change Wp (if z = k then Except.ok r else Except.error 1) _ _ at q
      by_cases e : z = k
      · rw [if_pos e] at q
        rw [decide_eq_true e]
        exact iteT (q H' hw')
      · rw [if_neg e] at q
        rw [decide_eq_false e]
        exact iteF (LF.mono q hw'.same)
theorem letter_mem {c : Nat} : decide (c ∈ (Str.ofString "abcdefghijklmnopqrstuvwxyz").cps.toList) = (decide (97 ≤ c) && decide (c ≤ 122)) := by
  rw [letters_tl]
  by_cases h : 97 ≤ c ∧ c ≤ 122
  · rw [decide_eq_true h.1, decide_eq_true h.2]
    exact decide_eq_true (List.mem_map.mpr ⟨c - 97, List.mem_range.mpr (by omega), by omega⟩)
  · rw [decide_eq_false (fun e => by
      obtain ⟨k, hk, rfl⟩ := List.mem_map.mp e
      have := List.mem_range.mp hk
      omega)]
    exact (decide_eq_false h).symm.trans (Bool.decide_and _ _)
theorem digit_mem {c : Nat} : decide (c ∈ (Str.ofString "0123456789").cps.toList) = (decide (48 ≤ c) && decide (c ≤ 57)) := by
  rw [digits_tl]
  by_cases h : 48 ≤ c ∧ c ≤ 57
  · rw [decide_eq_true h.1, decide_eq_true h.2]
    exact decide_eq_true (List.mem_map.mpr ⟨c - 48, List.mem_range.mpr (by omega), by omega⟩)
  · rw [decide_eq_false (fun e => by
      obtain ⟨k, hk, rfl⟩ := List.mem_map.mp e
      have := List.mem_range.mp hk
      omega)]
    exact (decide_eq_false h).symm.trans (Bool.decide_and _ _)
def isLet (c : Nat) : Bool := decide (97 ≤ c) && decide (c ≤ 122)
def isDig (c : Nat) : Bool := decide (48 ≤ c) && decide (c ≤ 57)
theorem line_of {n : Nat} (h : n ≤ 4000) : n ≤ sizeLine := by
  rw [sizeLine_eq]
  omega
theorem isName_eq {z : W} (h : z ≠ []) : Xb08.isName z = (decide (z.length ≤ 8) && z.all isLet) := by
  unfold Xb08.isName
  have e : 1 ≤ z.length := by
    cases z with
    | nil => exact absurd rfl h
    | cons _ _ => exact Nat.succ_le_succ (Nat.zero_le _)
  rw [decide_eq_true e]
  rfl
def sp_is_name (g : GG) : Sp := fun vs H Q _ => ∃ z : W, vs = [wV z] ∧ Wd z ∧ ∀ H', Same H H' → Q (.bl (Xb08.isName z)) H'
theorem ok_is_name (T : Tx g) : Fn CX0 g 1 "is_name" ["word"] (sp_is_name g) := by
  refine fnZ (k := 0) T.gl_is_name T.df_is_name sc_is_name (fun _ _ _ _ _ _ us hl => match us, hl with | [_], _ => rfl) ?_ ?_
  · rintro vs H Q E ⟨z, rfl, _⟩
    rfl
  · rintro cdv A outer s H vs Q E hr ⟨z, rfl, hz, q⟩
    refine ⟨_, (pss_one (ps_ret (pe_and (pe_cmpR op_le (pe_callB call_len_str (by rfl) T.fr_len bt_len (pa_cons (pv 0) pa_nil)) (C8.pe_gc rfl T.in_LONGEST_NAME) (nomark _)) (pe_one (pe_callB (cr_all rfl) (by rfl) T.fr_all bt_all (pa_cons (pe_lc (own := [("sign", 1)]) (g := (gName 1)) rfl sc_is_name.nd (pi_str (pv 0)) (blkOk_by (N := ["word", "sign"]) (sc := defScope s_is_name) (by decide +kernel)) (fun _ _ _ _ _ => (pg_name (i := 1) sc_is_name.nd rfl (.inl rfl))) (fun _ _ _ _ _ => pts_nil) (fun _ _ _ _ _ => (pe_cmpR op_in_sign (pv 1) (C8.pe_gc rfl T.st_LETTERS) (by rfl)))) pa_nil)))))), ?_⟩
    rw [isName_eq hz.1] at q
    simp only [rLenS, tBM, rAppend, rExtend, rIn, cx_K, rIxS, rIxL, rIxT, tRet, tIfS, tTest, tChain, rI, rI0, rU, tC, tVar, tOp, tUn, tCB, tCons, tNil, tSeq, tNext, tB, tNot, tAnd, tOr, tAndV, tOrV, tNotV, tFc, sFc, sFcA, tMt, tCl, tNw, tLst, tTup, tDrop, tAsg, tPar, gName, gCons, gNil, tR1, rEq, rNe, rAdd, rSub, tAug, ipI, L2.start, List.map, List.length, List.replicate, List.append, List.set, exists_eq_left', exists_eq_left, exists_eq_right, exists_eq_right', exists_and_left, exists_and_right, exists_eq, exists_eq', Option.some.injEq, List.getElem?_cons_zero, List.getElem?_cons_succ, V.bl.injEq, V.int.injEq, V.str.injEq, V.ref.injEq, List.cons_append, List.nil_append, List.cons.injEq, HO.ins.injEq, HO.lst.injEq, HO.tup.injEq, true_and, and_true, decide_eq_true_eq, Bool.false_eq_true, ↓reduceIte, Bool.not_true, Bool.not_false, Bool.not_eq_true', decide_eq_false_iff_not, List.set_cons_zero, List.set_cons_succ, and_assoc, scal, dec_int, dec_str, forall_const, implies_true, wV, S_len]
    refine ⟨line_of hz.2, ?_⟩
    by_cases e : z.length ≤ 8
    · rw [if_pos (by omega)]
      rw [decide_eq_true e] at q
      refine ⟨_, rfl, _, rfl, fun D hD => ?_⟩
      refine lc_fm walk_str (fun i => (z[i]?).map fun c => V.bl (isLet c)) hD (by show z.toArray.size ≤ _; rw [List.size_toArray]; have := hz.2; omega) (fun H' s => trivial) ?_ ?_
      · rintro i x H1 H' Qk Qn hi s1 ⟨rfl, c, ec, rfl⟩ hk hn
        have ec' : z[i]? = some c := by rw [← ec]; exact (List.getElem?_toArray ..).symm
        refine ⟨rfl, yesI ?_⟩
        refine ⟨_, rfl, c, rfl, _, rfl, hk _ _ (.refl _) ?_⟩
        rw [ec', letter_mem]
        rfl
      · intro H' s1 hD'
        rw [show (S z).cps.size = z.length from List.size_toArray .., fm_map] at hD'
        refine ⟨D, z.map isLet, rfl, .inl (.inl ?_), qb (q H' s1) ?_⟩
        · rw [hD', List.map_map]
          rfl
        · rw [List.all_map]
          rfl
    · rw [if_neg (by omega)]
      rw [decide_eq_false e] at q
      exact q H (.refl H)
/-- what a word's number is, or -1 -/
def numI (z : W) : Int := match Xb08.parseNat? z with
  | some n => n
  | none => -1
def sp_number_in (g : GG) : Sp := fun vs H Q _ => ∃ z : W, vs = [wV z] ∧ Wd z ∧ ∀ H', Same H H' → Q (.int (numI z)) H'
theorem ok_number_in (T : Tx g) : Fn CX0 g 1 "number_in" ["word"] (sp_number_in g) := by
  refine fnZ (k := 0) T.gl_number_in T.df_number_in sc_number_in (fun _ _ _ _ _ _ us hl => match us, hl with | [_], _ => rfl) ?_ ?_
  · rintro vs H Q E ⟨z, rfl, _⟩
    rfl
  · rintro cdv A outer s H vs Q E hr ⟨z, rfl, hz, q⟩
    refine ⟨_, (pss_cons (ps_if (PW.pt (pw_or (pt_cmpR op_gt (pe_callB call_len_str (by rfl) T.fr_len bt_len (pa_cons (pv 0) pa_nil)) (C8.pe_gc rfl T.in_LONGEST_NUMBER) (nomark _)) (pw_or1 (pt_not (pt_val (pe_callB (cr_all rfl) (by rfl) T.fr_all bt_all (pa_cons (pe_lc (own := [("sign", 1)]) (g := (gName 1)) rfl sc_number_in.nd (pi_str (pv 0)) (blkOk_by (N := ["word", "sign"]) (sc := defScope s_number_in) (by decide +kernel)) (fun _ _ _ _ _ => (pg_name (i := 1) sc_number_in.nd rfl (.inl rfl))) (fun _ _ _ _ _ => pts_nil) (fun _ _ _ _ _ => (pe_cmpR op_in_sign (pv 1) (C8.pe_gc rfl T.st_DIGITS) (by rfl)))) pa_nil))))))) (pss_one (ps_ret (C8.pe_gc rfl T.in_NO_NUMBER))) pss_nil) (pss_cons (ps_if (PW.pt (pw_and (pt_cmpR op_eq (pe_ix ix_str (pv 0) pe_int (fun _ _ => rfl)) pe_str (nomark _)) (pw_and1 (pt_cmpR op_gt (pe_callB call_len_str (by rfl) T.fr_len bt_len (pa_cons (pv 0) pa_nil)) pe_int (nomark _))))) (pss_one (ps_ret (C8.pe_gc rfl T.in_NO_NUMBER))) pss_nil) (pss_one (ps_ret (pe_callTy call_int_str (by rfl) T.fr_int bt_int (pa_cons (pv 0) pa_nil)))))), ?_⟩
    simp only [rLenS, tBM, rAppend, rExtend, rIn, cx_K, rIxS, rIxL, rIxT, tRet, tIfS, tTest, tChain, rI, rI0, rU, tC, tVar, tOp, tUn, tCB, tCons, tNil, tSeq, tNext, tB, tNot, tAnd, tOr, tAndV, tOrV, tNotV, tFc, sFc, sFcA, tMt, tCl, tNw, tLst, tTup, tDrop, tAsg, tPar, gName, gCons, gNil, tR1, rEq, rNe, rAdd, rSub, tAug, ipI, L2.start, List.map, List.length, List.replicate, List.append, List.set, exists_eq_left', exists_eq_left, exists_eq_right, exists_eq_right', exists_and_left, exists_and_right, exists_eq, exists_eq', Option.some.injEq, List.getElem?_cons_zero, List.getElem?_cons_succ, V.bl.injEq, V.int.injEq, V.str.injEq, V.ref.injEq, List.cons_append, List.nil_append, List.cons.injEq, HO.ins.injEq, HO.lst.injEq, HO.tup.injEq, true_and, and_true, decide_eq_true_eq, Bool.false_eq_true, ↓reduceIte, Bool.not_true, Bool.not_false, Bool.not_eq_true', decide_eq_false_iff_not, List.set_cons_zero, List.set_cons_succ, and_assoc, scal, dec_int, dec_str, forall_const, implies_true, wV, S_len]
    refine ⟨line_of hz.2, ?_⟩
    have none_q : Xb08.parseNat? z = none → ∀ H', Same H H' → Q (.int (-1)) H' := fun e H' s => by
      have := q H' s
      unfold numI at this
      rw [e] at this
      exact this
    by_cases h4 : 4 < z.length
    · rw [if_pos (by omega)]
      exact none_q (if_pos (.inr (.inl h4))) H (.refl H)
    rw [if_neg (by omega)]
    refine ⟨_, rfl, _, rfl, fun D hD => ?_⟩
    refine lc_fm walk_str (fun i => (z[i]?).map fun c => V.bl (isDig c)) hD (by show z.toArray.size ≤ _; rw [List.size_toArray]; omega) (fun H' s => trivial) ?_ ?_
    · rintro i x H1 H' Qk Qn hi s1 ⟨rfl, c, ec, rfl⟩ hk hn
      have ec' : z[i]? = some c := by rw [← ec]; exact (List.getElem?_toArray ..).symm
      refine ⟨rfl, yesI ?_⟩
      refine ⟨_, rfl, c, rfl, _, rfl, hk _ _ (.refl _) ?_⟩
      rw [ec', digit_mem]
      rfl
    · intro H' s1 hD'
      rw [show (S z).cps.size = z.length from List.size_toArray .., fm_map] at hD'
      refine ⟨D, z.map isDig, rfl, .inl (.inl (by rw [hD', List.map_map] <;> rfl)), _, rfl, ?_⟩
      have ea : (z.map isDig).all id = z.all isDig := by
        rw [List.all_map]
        rfl
      rw [ea]
      cases hd : z.all isDig with
      | false =>
        rw [if_pos rfl]
        exact none_q (if_pos (.inr (.inr (.inl hd)))) H' s1
      | true =>
        rw [if_neg (by decide)]
        refine ⟨line_of hz.2, ?_⟩
        obtain ⟨c, r, rfl⟩ : ∃ c r, z = c :: r := by
          cases z with
          | nil => exact absurd rfl hz.1
          | cons c r => exact ⟨c, r, rfl⟩
        refine ⟨c, atI_nat (j := 0) rfl, ?_⟩
        have hz0 : (({ cps := #[c] } : Str) = Str.ofString "0") ↔ c = 48 := by
          rw [show Str.ofString "0" = ({ cps := #[48] } : Str) by decide +kernel]
          constructor
          · intro h
            exact (List.cons.inj (congrArg (fun x : Str => x.cps.toList) h)).1
          · intro h
            rw [h]
        have good : ¬ (1 < (c :: r).length ∧ c = 48) → ∃ x, intText? (S (c :: r)) = some x ∧ List.length (c :: r) ≤ 640 ∧ Q (V.int x) H' := by
          intro hn
          refine ⟨_, SX.int_S hd (List.cons_ne_nil _ _) (by omega), by omega, ?_⟩
          have e : Xb08.parseNat? (c :: r) = some (NumText.digitsVal (c :: r)) := by
            unfold Xb08.parseNat?
            rw [if_neg]
            · rfl
            · rintro (h | h | h | ⟨h1, h2⟩)
              · cases h
              · exact h4 h
              · have : (c :: r).all isDig = false := h
                rw [hd] at this
                cases this
              · exact hn ⟨h1, Option.some.inj h2⟩
          have := q H' s1
          unfold numI at this
          rw [e] at this
          exact this
        by_cases hc : c = 48
        · rw [if_pos (hz0.mpr hc)]
          refine ⟨line_of hz.2, ?_⟩
          by_cases h1 : 1 < (c :: r).length
          · rw [if_pos (by omega)]
            refine none_q (if_pos (.inr (.inr (.inr ⟨h1, ?_⟩)))) H' s1
            rw [hc]
            rfl
          · rw [if_neg (by omega)]
            exact good fun z => h1 z.1
        · rw [if_neg fun z => hc (hz0.mp z)]
          exact good fun z => hc z.2
def takeName (ws : List W) : Except Nat (W × List W) := match ws with
  | [] => .error 1
  | z :: r => if Xb08.isName z = true then .ok (z, r) else .error 1
def sp_Words_take_name (g : GG) : Sp := fun vs H Q E => ∃ (w : Addr) (R : Hp) (ws : List W), vs = [.ref w] ∧ WordsAt g H R w ws ∧ Wp (takeName ws) (LF g E R) fun p => ∀ H', WordsAt g H' R w p.2 → Q (wV p.1) H'
theorem WordsAt.mono {H H' R : Hp} {w : Addr} {ws : List W} (h : WordsAt g H R w ws) (s : Same H H') : WordsAt g H' R w ws := by
  obtain ⟨h1, h2, dx, a, i, row, h3, h4, h5⟩ := h
  exact ⟨h1.trans s, h2, dx, a, i, row, s _ _ h3, s _ _ h4, h5⟩
theorem ok_Words_take_name (T : Tx g) : Mt (L2N.CX g.P g.w) g 5 "Words" "take_name" ["self"] (sp_Words_take_name g) := by
  refine mtC (k := 4) T.cl_Words T.me_Words_take_name T.df_Words_take_name sc_Words_take_name (fun _ _ _ _ _ _ us hl => match us, hl with | [_], _ => rfl) ?_ ?_
  · rintro vs H Q E ⟨w, R, ws, rfl, _⟩
    rfl
  · rintro cdv A outer s H vs Q E hr ⟨w, R, ws, rfl, hw, q⟩
    obtain ⟨dx, a, i, row, h1, h2, h3, h4, h5, h6⟩ := hw.ex
    refine ⟨_, (pss_cons (ps_set (i := 1) sc_Words_take_name.nd rfl (.inl rfl) (pe_mx0 (ok_Words_take T) hr (by decide) pxN (pv 0))) (pss_cons (ps_expr (pe_fx (ok_want T) hr (by decide) pxN (pa_cons (pe_fn (ok_is_name T) hr (by decide) (pa_cons (pv 1) pa_nil)) (pa_cons (C8.pe_gc rfl T.in_NOT_FORMED) pa_nil)))) (pss_one (ps_ret (pv 1))))), ?_⟩
    simp only [rLenS, tBM, rAppend, rExtend, rIn, cx_K, rIxS, rIxL, rIxT, tRet, tIfS, tTest, tChain, rI, rI0, rU, tC, tVar, tOp, tUn, tCB, tCons, tNil, tSeq, tNext, tB, tNot, tAnd, tOr, tAndV, tOrV, tNotV, tFc, sFc, sFcA, tMt, tCl, tNw, tLst, tTup, tDrop, tAsg, tPar, gName, gCons, gNil, tR1, rEq, rNe, rAdd, rSub, tAug, ipI, L2.start, List.map, List.length, List.replicate, List.append, List.set, exists_eq_left', exists_eq_left, exists_eq_right, exists_eq_right', exists_and_left, exists_and_right, exists_eq, exists_eq', Option.some.injEq, List.getElem?_cons_zero, List.getElem?_cons_succ, V.bl.injEq, V.int.injEq, V.str.injEq, V.ref.injEq, List.cons_append, List.nil_append, List.cons.injEq, HO.ins.injEq, HO.lst.injEq, HO.tup.injEq, true_and, and_true, decide_eq_true_eq, Bool.false_eq_true, ↓reduceIte, Bool.not_true, Bool.not_false, Bool.not_eq_true', decide_eq_false_iff_not, List.set_cons_zero, List.set_cons_succ, and_assoc, scal, dec_int, dec_str, forall_const, implies_true, h1, wdF_get, sp_want, sp_Words_take, sp_is_name]
    refine ⟨R, ws, hw, ?_⟩
    cases ws with
    | nil => exact q
    | cons z r =>
      intro wd H' hw'
      refine ⟨z, rfl, wd, fun H2 s2 => ?_⟩
      change Wp (if Xb08.isName z = true then Except.ok (z, r) else Except.error 1) _ _ at q
      cases e : Xb08.isName z with
      | true =>
        rw [e] at q
        exact iteT (q H2 (hw'.mono s2))
      | false =>
        rw [e] at q
        exact iteF (LF.mono q (hw'.mono s2).same)
def takeNumber (a b : Nat) (ws : List W) : Except Nat (Nat × List W) := match ws with
  | [] => .error 1
  | z :: r => match Xb08.parseInRange? a b z with
    | some n => .ok (n, r)
    | none => .error 1
def sp_Words_take_number (g : GG) : Sp := fun vs H Q E => ∃ (w : Addr) (R : Hp) (ws : List W) (a b : Nat), vs = [.ref w, .int a, .int b] ∧ WordsAt g H R w ws ∧ Wp (takeNumber a b ws) (LF g E R) fun p => ∀ H', WordsAt g H' R w p.2 → Q (.int p.1) H'
theorem ok_Words_take_number (T : Tx g) : Mt (L2N.CX g.P g.w) g 5 "Words" "take_number" ["self", "least", "most"] (sp_Words_take_number g) := by
  refine mtC (k := 4) T.cl_Words T.me_Words_take_number T.df_Words_take_number sc_Words_take_number (fun _ _ _ _ _ _ us hl => match us, hl with | [_, _, _], _ => rfl) ?_ ?_
  · rintro vs H Q E ⟨w, R, ws, a, b, rfl, _⟩
    rfl
  · rintro cdv A outer s H vs Q E hr ⟨w, R, ws, lo, hi, rfl, hw, q⟩
    obtain ⟨dx, a, i, row, h1, h2, h3, h4, h5, h6⟩ := hw.ex
    refine ⟨_, (pss_cons (ps_set (i := 3) sc_Words_take_number.nd rfl (.inl rfl) (pe_fn (ok_number_in T) hr (by decide) (pa_cons (pe_mx0 (ok_Words_take T) hr (by decide) pxN (pv 0)) pa_nil))) (pss_cons (ps_expr (pe_fx (ok_want T) hr (by decide) pxN (pa_cons (pe_chain op_le op_le (pv 1) (pv 3) (pv 2)) (pa_cons (C8.pe_gc rfl T.in_NOT_FORMED) pa_nil)))) (pss_one (ps_ret (pv 3))))), ?_⟩
    simp only [rLenS, tBM, rAppend, rExtend, rIn, cx_K, rIxS, rIxL, rIxT, tRet, tIfS, tTest, tChain, rI, rI0, rU, tC, tVar, tOp, tUn, tCB, tCons, tNil, tSeq, tNext, tB, tNot, tAnd, tOr, tAndV, tOrV, tNotV, tFc, sFc, sFcA, tMt, tCl, tNw, tLst, tTup, tDrop, tAsg, tPar, gName, gCons, gNil, tR1, rEq, rNe, rAdd, rSub, tAug, ipI, L2.start, List.map, List.length, List.replicate, List.append, List.set, exists_eq_left', exists_eq_left, exists_eq_right, exists_eq_right', exists_and_left, exists_and_right, exists_eq, exists_eq', Option.some.injEq, List.getElem?_cons_zero, List.getElem?_cons_succ, V.bl.injEq, V.int.injEq, V.str.injEq, V.ref.injEq, List.cons_append, List.nil_append, List.cons.injEq, HO.ins.injEq, HO.lst.injEq, HO.tup.injEq, true_and, and_true, decide_eq_true_eq, Bool.false_eq_true, ↓reduceIte, Bool.not_true, Bool.not_false, Bool.not_eq_true', decide_eq_false_iff_not, List.set_cons_zero, List.set_cons_succ, and_assoc, scal, dec_int, dec_str, forall_const, implies_true, h1, wdF_get, sp_want, sp_Words_take, sp_number_in]
    refine ⟨R, ws, hw, ?_⟩
    cases ws with
    | nil => exact q
    | cons z r =>
      intro wd H' hw'
      refine ⟨z, rfl, wd, fun H2 s2 => ?_⟩
      change Wp (match Xb08.parseInRange? lo hi z with | some n => Except.ok (n, r) | none => Except.error 1) _ _ at q
      unfold Xb08.parseInRange? at q
      unfold numI
      cases e : Xb08.parseNat? z with
      | none =>
        rw [e] at q
        dsimp only
        rw [if_neg (by omega)]
        exact iteF (LF.mono q (hw'.mono s2).same)
      | some n =>
        rw [e] at q
        dsimp only [Option.bind_some] at q ⊢
        by_cases h1 : lo ≤ n ∧ n ≤ hi
        · rw [if_pos h1] at q
          rw [if_pos (by omega), decide_eq_true (by omega : (n : Int) ≤ hi)]
          exact iteT (q H2 (hw'.mono s2))
        · rw [if_neg h1] at q
          by_cases h2 : lo ≤ n
          · rw [if_pos (by omega), decide_eq_false (by omega : ¬ (n : Int) ≤ hi)]
            exact iteF (LF.mono q (hw'.mono s2).same)
          · rw [if_neg (by omega)]
            exact iteF (LF.mono q (hw'.mono s2).same)
def sp_Words_init (g : GG) : Sp := fun vs H Q _ => ∃ (w a dx : Addr) (row : List W), vs = [.ref w, .ref a] ∧ H w = some (.ins (cF g "Words") dx []) ∧ H a = some (.lst (row.map wV)) ∧ row.length ≤ 4000 ∧ (∀ z ∈ row, Wd z) ∧ ∀ H', (∀ R, Same R H → R w = none → WordsAt g H' R w row) → Q .non H'
theorem ok_Words_init (T : Tx g) : Mw g 1 "Words" ["self", "row"] (sp_Words_init g) := by
  refine mw0 (k := 0) T.gl_Words T.mk_Words T.df_Words_init sc_Words_init (fun _ _ _ _ _ _ us hl => match us, hl with | [_, _], _ => rfl) ?_ ?_
  · rintro vs H Q E ⟨w, a, dx, row, rfl, _⟩
    rfl
  · rintro cdv A outer s H vs Q E hr ⟨w, a, dx, row, rfl, h1, h2, h3, h4, q⟩
    refine ⟨_, (pss_cons (ps_fc T.cl_Words T.na_Words_row (pv 0) (pv 1)) (pss_one (ps_fc T.cl_Words T.na_Words_at (pv 0) pe_int))), ?_⟩
    simp only [rLenS, tBM, rAppend, rExtend, rIn, cx_K, rIxS, rIxL, rIxT, tRet, tIfS, tTest, tChain, rI, rI0, rU, tC, tVar, tOp, tUn, tCB, tCons, tNil, tSeq, tNext, tB, tNot, tAnd, tOr, tAndV, tOrV, tNotV, tFc, sFc, sFcA, tMt, tCl, tNw, tLst, tTup, tDrop, tAsg, tPar, gName, gCons, gNil, tR1, rEq, rNe, rAdd, rSub, tAug, ipI, L2.start, List.map, List.length, List.replicate, List.append, List.set, exists_eq_left', exists_eq_left, exists_eq_right, exists_eq_right', exists_and_left, exists_and_right, exists_eq, exists_eq', Option.some.injEq, List.getElem?_cons_zero, List.getElem?_cons_succ, V.bl.injEq, V.int.injEq, V.str.injEq, V.ref.injEq, List.cons_append, List.nil_append, List.cons.injEq, HO.ins.injEq, HO.lst.injEq, HO.tup.injEq, true_and, and_true, decide_eq_true_eq, Bool.false_eq_true, ↓reduceIte, Bool.not_true, Bool.not_false, Bool.not_eq_true', decide_eq_false_iff_not, List.set_cons_zero, List.set_cons_succ, and_assoc, scal, dec_int, dec_str, forall_const, implies_true, h1, upd_same]
    have na : a ≠ w := ins_ne h1 h2
    refine ⟨by decide, by show 1 < 1000; decide, q _ fun R sR nR => ⟨Same.upd nR (Same.upd nR sR), nR, dx, a, 0, row, upd_same, ?_, rfl, Nat.zero_le _, h3, h4⟩⟩
    rw [upd_ne na, upd_ne na]
    exact h2
end Tote
namespace Tote
open PySem PySem.Spec PyProof.Rows L2 Tq
open SX (S S_inj S_len S_cat)
variable {g : GG}
/-! ## lines_of -/
def iV (n : Nat) : V := .int n
def endW (cu : List W) (w : W) : List W := if w = [] then cu else cu ++ [w]
def lnStep (x : List (List W) × List W × W) (b : Nat) : List (List W) × List W × W :=
  if b = 10 then (x.1 ++ [endW x.2.1 x.2.2], [], []) else if b = 32 then (x.1, endW x.2.1 x.2.2, []) else (x.1, x.2.1, x.2.2 ++ [sgn b])
def lnAt (t : List Nat) (i : Nat) : List (List W) × List W × W := (t.take i).foldl lnStep ([], [], [])
theorem lnAt_succ {t : List Nat} {i n : Nat} (h : t[i]? = some n) : lnAt t (i + 1) = lnStep (lnAt t i) n := by
  unfold lnAt
  rw [List.take_add_one, h]
  simp
theorem endW_len (cu : List W) (w : W) : (endW cu w).length ≤ cu.length + 1 := by
  unfold endW
  split
  · omega
  · simp
theorem lnAt_len (t : List Nat) : ∀ i, (lnAt t i).1.length ≤ i ∧ (lnAt t i).2.1.length ≤ i ∧ (lnAt t i).2.2.length ≤ i
  | 0 => ⟨Nat.zero_le _, Nat.zero_le _, Nat.zero_le _⟩
  | i + 1 => by
    have ih := lnAt_len t i
    cases h : t[i]? with
    | none =>
      have e : lnAt t (i + 1) = lnAt t i := by
        unfold lnAt
        rw [List.take_add_one, h]
        simp
      rw [e]
      omega
    | some n =>
      rw [lnAt_succ h]
      have el := endW_len (lnAt t i).2.1 (lnAt t i).2.2
      unfold lnStep
      split
      · dsimp only
        rw [List.length_append]
        exact ⟨by simp; omega, Nat.zero_le _, Nat.zero_le _⟩
      · split
        · exact ⟨by dsimp only; omega, by dsimp only; omega, Nat.zero_le _⟩
        · dsimp only
          rw [List.length_append]
          exact ⟨by omega, by omega, by simp; omega⟩
theorem empty_S : Str.ofString "" = S [] := by decide +kernel
def linesW (t : List Nat) : List (List W) := let x := t.foldl lnStep ([], [], []); x.1 ++ [endW x.2.1 x.2.2]
/-- rows that stand -/
def RowsAt (H : Hp) (rs : List Addr) (L : List (List W)) : Prop := rs.length = L.length ∧ ∀ (i : Nat) (r : Addr) (l : List W), rs[i]? = some r → L[i]? = some l → H r = some (.lst (l.map wV))
def sp_lines_of (g : GG) : Sp := fun vs H Q _ => ∃ (a : Addr) (ns : List Nat), vs = [.ref a] ∧ SqL g.K H a (ns.map iV) ∧ ns.length ≤ 4000 ∧
  ∀ H' p rs, Same H H' → H' p = some (.lst (rs.map .ref)) → RowsAt H' rs (linesW ns) → H p = none → (∀ r ∈ rs, H r = none) → Q (.ref p) H'
structure LnAt (H0 H : Hp) (ln : Addr) (rs : List Addr) (c : Addr) (dn : List (List W)) (cu : List W) : Prop where
  same : Same H0 H
  at_ : H ln = some (.lst ((rs ++ [c]).map .ref))
  rows : RowsAt H rs dn
  cur : H c = some (.lst (cu.map wV))
  n0 : H0 ln = none
  nc : H0 c = none
  nr : ∀ r ∈ rs, H0 r = none
  nodup : (ln :: c :: rs).Nodup
  few : rs.length ≤ 5000
  fw : cu.length ≤ 5000
theorem LnAt.mono {H0 H H' : Hp} {ln c : Addr} {rs : List Addr} {dn : List (List W)} {cu : List W} (h : LnAt H0 H ln rs c dn cu) (s : Same H H') : LnAt H0 H' ln rs c dn cu :=
  ⟨h.same.trans s, s _ _ h.at_, ⟨h.rows.1, fun i r l hr hl => s _ _ (h.rows.2 i r l hr hl)⟩, s _ _ h.cur, h.n0, h.nc, h.nr, h.nodup, h.few, h.fw⟩
theorem line_of' {n : Nat} (h : n ≤ 9000) : n < sizeLine := by
  rw [sizeLine_eq]
  omega
theorem iteT' {c A B : Prop} [Decidable c] (hc : c) (h : A) : if c then A else B := by
  rw [if_pos hc]
  exact h
theorem in_ends {n : Nat} : inV (.int n) [.int 10, .int 32] = (decide (n = 10) || decide (n = 32)) := by
  show ((10 : Int) == (n : Int) || ((32 : Int) == (n : Int) || false)) = _
  rw [Bool.or_false]
  congr 1
  · by_cases h : n = 10
    · subst h; rfl
    · rw [decide_eq_false h]
      exact beq_eq_false_iff_ne.mpr (by omega)
  · by_cases h : n = 32
    · subst h; rfl
    · rw [decide_eq_false h]
      exact beq_eq_false_iff_ne.mpr (by omega)
/-- a word more in the current row -/
theorem LnAt.word {H0 H : Hp} {ln c : Addr} {rs : List Addr} {dn : List (List W)} {cu : List W} (h : LnAt H0 H ln rs c dn cu) (w : W) (hw : cu.length < 5000) : LnAt H0 (upd H c (.lst ((cu ++ [w]).map wV))) ln rs c dn (cu ++ [w]) := by
  have nd := h.nodup
  have n1 : ln ≠ c := fun e => by
    subst e
    exact (List.nodup_cons.mp nd).1 (List.mem_cons_self ..)
  have n2 : ∀ r ∈ rs, r ≠ c := fun r hr e => by
    subst e
    exact (List.nodup_cons.mp (List.nodup_cons.mp nd).2).1 hr
  refine ⟨Same.upd h.nc h.same, by rw [upd_ne n1]; exact h.at_, ⟨h.rows.1, fun i r l hr hl => ?_⟩, upd_same, h.n0, h.nc, h.nr, nd, h.few, by rw [List.length_append]; exact hw⟩
  rw [upd_ne (n2 r (List.mem_of_getElem? hr))]
  exact h.rows.2 i r l hr hl
/-- the next row -/
theorem LnAt.next {H0 H : Hp} {ln c p : Addr} {rs : List Addr} {dn : List (List W)} {cu : List W} (h : LnAt H0 H ln rs c dn cu) (hp : H p = none) (hf : rs.length < 5000) :
    LnAt H0 (upd (upd H p (.lst [])) ln (.lst (((rs ++ [c]) ++ [p]).map .ref))) ln (rs ++ [c]) p (dn ++ [cu]) [] := by
  have nd := h.nodup
  have n1 : ln ≠ c := fun e => by
    subst e
    exact (List.nodup_cons.mp nd).1 (List.mem_cons_self ..)
  have n2 : ∀ r ∈ rs, r ≠ c := fun r hr e => by
    subst e
    exact (List.nodup_cons.mp (List.nodup_cons.mp nd).2).1 hr
  have n3 : ∀ r ∈ rs, r ≠ ln := fun r hr e => by
    subst e
    exact (List.nodup_cons.mp nd).1 (List.mem_cons_of_mem _ hr)
  have rr : ∀ r ∈ rs, ∃ o, H r = some o := fun r hr => by
    obtain ⟨i, hi⟩ := List.getElem?_of_mem hr
    have hl : i < dn.length := by
      rw [← h.rows.1]
      exact (List.getElem?_eq_some_iff.mp hi).1
    exact ⟨_, h.rows.2 i r _ hi (List.getElem?_eq_getElem hl)⟩
  have pl : ln ≠ p := ne_of_none h.at_ hp
  have pc : c ≠ p := ne_of_none h.cur hp
  have pr : ∀ r ∈ rs, r ≠ p := fun r hr => by
    obtain ⟨o, e⟩ := rr r hr
    exact ne_of_none e hp
  refine ⟨Same.upd h.n0 (Same.upd (h.same.free hp) h.same), upd_same, ⟨by rw [List.length_append, List.length_append, h.rows.1]; rfl, fun i r l hr hl => ?_⟩, by rw [upd_ne pl.symm, upd_same]; rfl, h.n0, h.same.free hp, ?_, ?_, by rw [List.length_append]; exact hf, Nat.zero_le _⟩
  · by_cases hi : i < rs.length
    · rw [List.getElem?_append_left hi] at hr
      rw [List.getElem?_append_left (by rw [← h.rows.1]; exact hi)] at hl
      have hm := List.mem_of_getElem? hr
      rw [upd_ne (n3 r hm), upd_ne (pr r hm)]
      exact h.rows.2 i r l hr hl
    · have ei : i = rs.length := by
        have := (List.getElem?_eq_some_iff.mp hr).1
        rw [List.length_append, List.length_singleton] at this
        omega
      subst ei
      rw [List.getElem?_append_right (Nat.le_refl _), Nat.sub_self] at hr
      rw [h.rows.1, List.getElem?_append_right (Nat.le_refl _), Nat.sub_self] at hl
      cases hr
      cases hl
      rw [upd_ne n1.symm, upd_ne pc]
      exact h.cur
  · intro r hr
    rcases List.mem_append.mp hr with hr | hr
    · exact h.nr r hr
    · rw [List.mem_singleton.mp hr]
      exact h.nc
  · refine List.nodup_cons.mpr ⟨fun hm => ?_, List.nodup_cons.mpr ⟨fun hm => ?_, ?_⟩⟩
    · rcases List.mem_cons.mp hm with e | hm
      · exact pl e
      · rcases List.mem_append.mp hm with hm | hm
        · exact n3 _ hm rfl
        · exact n1 (List.mem_singleton.mp hm)
    · rcases List.mem_append.mp hm with hm | hm
      · exact pr _ hm rfl
      · exact pc (List.mem_singleton.mp hm).symm
    · refine List.nodup_append.mpr ⟨(List.nodup_cons.mp (List.nodup_cons.mp nd).2).2, List.nodup_cons.mpr ⟨List.not_mem_nil, List.nodup_nil⟩, fun a ha b hb => ?_⟩
      rw [List.mem_singleton.mp hb]
      exact n2 a ha
theorem ok_lines_of (T : Tx g) : Fn CX0 g 2 "lines_of" ["text"] (sp_lines_of g) := by
  refine fnZ (k := 1) T.gl_lines_of T.df_lines_of sc_lines_of (fun _ _ _ _ _ _ us hl => match us, hl with | [_], _ => rfl) ?_ ?_
  · rintro vs H Q E ⟨a, ns, rfl, _⟩
    rfl
  · rintro cdv A outer s H vs Q E hr ⟨a, ns, rfl, hS, hn, q⟩
    refine ⟨_, (pss_cons (ps_set (i := 1) sc_lines_of.nd rfl (.inl rfl) (pe_lst (pa_cons (pe_lst pa_nil) pa_nil))) (pss_cons (ps_set (i := 2) sc_lines_of.nd rfl (.inl rfl) pe_str) (pss_cons (ps_for PassesOwn.never rfl (pi_list (pv 0)) (pg_name (i := 3) sc_lines_of.nd rfl (.inl rfl)) (pss_cons (ps_if (pt_cmpR op_notIn_seq (pv 3) (pe_tup (pa_cons (C8.pe_gc rfl T.in_LINE_END) (pa_cons (C8.pe_gc rfl T.in_BLANK) pa_nil))) (by rfl)) (pss_one (ps_set (i := 2) sc_lines_of.nd rfl (.inl rfl) (pe_op op_add_str (pv 2) (pe_fn (ok_sign_of T) hr (by decide) (pa_cons (pv 3) pa_nil))))) (pss_one (ps_if (pt_cmpR op_ne (pv 2) pe_str (nomark _)) (pss_cons (ps_expr (pe_bm PySem.F.plainAttrs_list PySem.F.slot_list_append PySem.F.type_list_append mt_append (pe_ix ix_list (pv 1) (pe_un un_neg pe_int) (fun _ _ => rfl)) (pa_cons (pv 2) pa_nil))) (pss_one (ps_set (i := 2) sc_lines_of.nd rfl (.inl rfl) pe_str))) pss_nil))) (pss_one (ps_if (pt_cmpR op_eq (pv 3) (C8.pe_gc rfl T.in_LINE_END) (nomark _)) (pss_one (ps_expr (pe_bm PySem.F.plainAttrs_list PySem.F.slot_list_append PySem.F.type_list_append mt_append (pv 1) (pa_cons (pe_lst pa_nil) pa_nil)))) pss_nil)))) (pss_cons (ps_if (pt_cmpR op_ne (pv 2) pe_str (nomark _)) (pss_one (ps_expr (pe_bm PySem.F.plainAttrs_list PySem.F.slot_list_append PySem.F.type_list_append mt_append (pe_ix ix_list (pv 1) (pe_un un_neg pe_int) (fun _ _ => rfl)) (pa_cons (pv 2) pa_nil)))) pss_nil) (pss_one (ps_ret (pv 1))))))), ?_⟩
    simp only [rIxD, gSub, rSetL, sDPut, tDGet, tDIn, tDNotIn, wipe, rLenS, tBM, rAppend, rExtend, rIn, cx_K, rIxS, rIxL, rIxT, tRet, tIfS, tTest, tChain, rI, rI0, rU, tC, tVar, tOp, tUn, tCB, tCons, tNil, tSeq, tNext, tB, tNot, tAnd, tOr, tAndV, tOrV, tNotV, tFc, sFc, sFcA, tMt, tCl, tNw, tLst, tTup, tDrop, tAsg, tPar, gName, gCons, gNil, tR1, rEq, rNe, rAdd, rSub, tAug, ipI, L2.start, List.map, List.length, List.replicate, List.append, List.set, exists_eq_left', exists_eq_left, exists_eq_right, exists_eq_right', exists_and_left, exists_and_right, exists_eq, exists_eq', Option.some.injEq, List.getElem?_cons_zero, List.getElem?_cons_succ, V.bl.injEq, V.int.injEq, V.str.injEq, V.ref.injEq, List.cons_append, List.nil_append, List.cons.injEq, HO.ins.injEq, HO.lst.injEq, HO.tup.injEq, true_and, and_true, decide_eq_true_eq, Bool.false_eq_true, ↓reduceIte, Bool.not_true, Bool.not_false, Bool.not_eq_true', decide_eq_false_iff_not, List.set_cons_zero, List.set_cons_succ, and_assoc, scal, dec_int, dec_str, forall_const, implies_true, sp_sign_of]
    refine ⟨Nat.zero_le _, fun c hc => ⟨by decide, fun ln hl => ?_⟩⟩
    have nlc : ln ≠ c := fun e => by
      rw [e, upd_same] at hl
      cases hl
    rw [upd_ne nlc] at hl
    have start0 : LnAt H (upd (upd H c (.lst [])) ln (.lst [.ref c])) ln [] c [] [] := by
      refine ⟨Same.upd hl (Same.new hc), upd_same, ⟨rfl, fun i r l hr _ => by cases hr⟩, by rw [upd_ne nlc.symm, upd_same]; rfl, hl, hc, fun r hr => absurd hr List.not_mem_nil, ?_, Nat.zero_le _, Nat.zero_le _⟩
      exact List.nodup_cons.mpr ⟨fun hm => nlc (List.mem_singleton.mp hm), List.nodup_cons.mpr ⟨List.not_mem_nil, List.nodup_nil⟩⟩
    refine ⟨_, rfl, a, rfl, ⟨_, start0.same.seq hS⟩, for_it (walk_list (xs := ns.map iV)) (fun i σ H' => ∃ rs c y, σ = [some (.ref a), some (.ref ln), some (wV (lnAt ns i).2.2), y] ∧ LnAt H H' ln rs c (lnAt ns i).1 (lnAt ns i).2.1) ⟨_, _, _, by rw [empty_S]; rfl, start0⟩ ?_ ?_ ?_⟩
    · rintro i σ H' hi ⟨rs, c, y, rfl, h⟩
      exact h.same.seq hS
    · rintro i x σ H' H2 hi ⟨rs, c, y, rfl, h⟩ ⟨rfl, hx⟩
      rw [List.getElem?_map] at hx
      cases en : ns[i]? with
      | none => rw [en] at hx; cases hx
      | some n =>
        rw [en] at hx
        cases hx
        rw [lnAt_succ en]
        have hlen := lnAt_len ns i
        rw [List.length_map] at hi
        generalize lnAt ns i = st at h hlen ⊢
        obtain ⟨dn, cu, w⟩ := st
        dsimp only at h hlen
        simp only [rIxD, gSub, rSetL, sDPut, tDGet, tDIn, tDNotIn, wipe, rLenS, tBM, rAppend, rExtend, rIn, cx_K, rIxS, rIxL, rIxT, tRet, tIfS, tTest, tChain, rI, rI0, rU, tC, tVar, tOp, tUn, tCB, tCons, tNil, tSeq, tNext, tB, tNot, tAnd, tOr, tAndV, tOrV, tNotV, tFc, sFc, sFcA, tMt, tCl, tNw, tLst, tTup, tDrop, tAsg, tPar, gName, gCons, gNil, tR1, rEq, rNe, rAdd, rSub, tAug, ipI, L2.start, List.map, List.length, List.replicate, List.append, List.set, exists_eq_left', exists_eq_left, exists_eq_right, exists_eq_right', exists_and_left, exists_and_right, exists_eq, exists_eq', Option.some.injEq, List.getElem?_cons_zero, List.getElem?_cons_succ, V.bl.injEq, V.int.injEq, V.str.injEq, V.ref.injEq, List.cons_append, List.nil_append, List.cons.injEq, HO.ins.injEq, HO.lst.injEq, HO.tup.injEq, true_and, and_true, decide_eq_true_eq, Bool.false_eq_true, ↓reduceIte, Bool.not_true, Bool.not_false, Bool.not_eq_true', decide_eq_false_iff_not, List.set_cons_zero, List.set_cons_succ, and_assoc, scal, dec_int, dec_str, forall_const, implies_true, sp_sign_of, iV, wV, empty_S, S_len, S_cat]
        refine ⟨by decide, fun p hp => ⟨[.int 10, .int 32], .inr (.inl (.inl upd_same)), rfl, rfl, ?_⟩⟩
        have h' := h.mono (Same.new (o := .tup [.int 10, .int 32]) hp)
        generalize upd H2 p (.tup [.int 10, .int 32]) = H3 at h' ⊢
        rw [in_ends]
        have wd : ∀ l : List (List W), l = dn ++ [endW cu w] → True := fun _ _ => trivial
        -- the word's end
        have lst : ∀ (H4 : Hp) (cu' : List W), LnAt H H4 ln rs c dn cu' → tyV g.K "list" (.ref ln) H4 := fun H4 cu' h4 => .inl ⟨rfl, _, .inl (.inl h4.at_)⟩
        by_cases e10 : n = 10
        · subst e10
          by_cases ew : w = []
          · subst ew
            have es : lnStep (dn, cu, []) 10 = (dn ++ [cu], [], []) := rfl
            rw [es]
            simp only [decide_true, Bool.true_or, Bool.true_eq_false, ↓reduceIte, not_true_eq_false]
            refine iteT' rfl ⟨lst _ _ h', Nat.zero_le _, fun p2 hp2 => ⟨_, by rw [upd_ne (ne_of_none h'.at_ hp2)]; exact h'.at_, ?_, by trivial, rs ++ [c], p2, ?_⟩⟩
            · rw [List.length_map, List.length_append]
              exact line_of' (by have := h'.rows.1; simp; omega)
            · have := h'.next hp2 (by have := h.rows.1; omega)
              rw [List.map_append] at this
              exact this
          · have es : lnStep (dn, cu, w) 10 = (dn ++ [cu ++ [w]], [], []) := by
              unfold lnStep endW
              rw [if_pos rfl]
              dsimp only
              rw [if_neg ew]
            rw [es]
            simp only [decide_true, Bool.true_or, Bool.true_eq_false, ↓reduceIte]
            have ew' : ¬ S w = S [] := fun z => ew (S_inj z)
            rw [if_pos ew']
            refine ⟨_, .inl (.inl h'.at_), .ref c, by rw [List.map_append]; exact atI_last _ _, .inl ⟨rfl, _, .inl (.inl h'.cur)⟩, c, rfl, _, h'.cur, by rw [List.length_map]; exact line_of' (by omega), ?_⟩
            have h4 := h'.word w (by omega)
            rw [List.map_append] at h4
            refine iteT' rfl ⟨lst _ _ h4, Nat.zero_le _, fun p2 hp2 => ⟨_, by rw [upd_ne (ne_of_none h4.at_ hp2)]; exact h4.at_, ?_, by trivial, rs ++ [c], p2, ?_⟩⟩
            · rw [List.length_map, List.length_append]
              exact line_of' (by have := h.rows.1; simp; omega)
            · have := h4.next hp2 (by have := h.rows.1; omega)
              rw [List.map_append] at this
              exact this
        · have e10' : ¬ (n : Int) = 10 := by omega
          by_cases e32 : n = 32
          · subst e32
            by_cases ew : w = []
            · subst ew
              have es : lnStep (dn, cu, []) 32 = (dn, cu, []) := rfl
              rw [es]
              simp only [decide_true, Bool.or_true, Bool.true_eq_false, ↓reduceIte, not_true_eq_false]
              rw [if_neg (by decide)]
              exact ⟨by trivial, _, _, h'⟩
            · have es : lnStep (dn, cu, w) 32 = (dn, cu ++ [w], []) := by
                unfold lnStep endW
                rw [if_neg (by decide), if_pos rfl]
                dsimp only
                rw [if_neg ew]
              rw [es]
              simp only [decide_true, Bool.or_true, Bool.true_eq_false, ↓reduceIte]
              have ew' : ¬ S w = S [] := fun z => ew (S_inj z)
              rw [if_pos ew']
              refine ⟨_, .inl (.inl h'.at_), .ref c, by rw [List.map_append]; exact atI_last _ _, .inl ⟨rfl, _, .inl (.inl h'.cur)⟩, c, rfl, _, h'.cur, by rw [List.length_map]; exact line_of' (by omega), ?_⟩
              have h4 := h'.word w (by omega)
              rw [List.map_append] at h4
              rw [if_neg (by decide)]
              exact ⟨by trivial, _, _, h4⟩
          · have es : lnStep (dn, cu, w) n = (dn, cu, w ++ [sgn n]) := by
              unfold lnStep
              rw [if_neg e10, if_neg e32]
            rw [es, decide_eq_false e10, decide_eq_false e32]
            refine iteT' rfl ⟨n, rfl, line_of (by omega), ?_⟩
            rw [if_neg e10']
            exact ⟨by trivial, _, _, h'⟩
    · rintro σ H' ⟨rs, c, y, rfl, h⟩
      rw [List.length_map] at h ⊢
      have hlen := lnAt_len ns ns.length
      have hq : linesW ns = (lnAt ns ns.length).1 ++ [endW (lnAt ns ns.length).2.1 (lnAt ns ns.length).2.2] := by
        unfold linesW lnAt
        rw [List.take_length]
      rw [hq] at q
      generalize lnAt ns ns.length = st at h hlen q ⊢
      obtain ⟨dn, cu, w⟩ := st
      dsimp only at h hlen q
      simp only [rIxD, gSub, rSetL, sDPut, tDGet, tDIn, tDNotIn, wipe, rLenS, tBM, rAppend, rExtend, rIn, cx_K, rIxS, rIxL, rIxT, tRet, tIfS, tTest, tChain, rI, rI0, rU, tC, tVar, tOp, tUn, tCB, tCons, tNil, tSeq, tNext, tB, tNot, tAnd, tOr, tAndV, tOrV, tNotV, tFc, sFc, sFcA, tMt, tCl, tNw, tLst, tTup, tDrop, tAsg, tPar, gName, gCons, gNil, tR1, rEq, rNe, rAdd, rSub, tAug, ipI, L2.start, List.map, List.length, List.replicate, List.append, List.set, exists_eq_left', exists_eq_left, exists_eq_right, exists_eq_right', exists_and_left, exists_and_right, exists_eq, exists_eq', Option.some.injEq, List.getElem?_cons_zero, List.getElem?_cons_succ, V.bl.injEq, V.int.injEq, V.str.injEq, V.ref.injEq, List.cons_append, List.nil_append, List.cons.injEq, HO.ins.injEq, HO.lst.injEq, HO.tup.injEq, true_and, and_true, decide_eq_true_eq, Bool.false_eq_true, ↓reduceIte, Bool.not_true, Bool.not_false, Bool.not_eq_true', decide_eq_false_iff_not, List.set_cons_zero, List.set_cons_succ, and_assoc, scal, dec_int, dec_str, forall_const, implies_true, wV, empty_S]
      have fin : ∀ (H4 : Hp) (cu' : List W), LnAt H H4 ln rs c dn cu' → endW cu w = cu' → Q (.ref ln) H4 := fun H4 cu' h4 e => by
        refine q H4 ln (rs ++ [c]) h4.same h4.at_ ⟨by rw [List.length_append, List.length_append, h4.rows.1]; rfl, fun i r l hr hl => ?_⟩ h4.n0 (fun r hr => ?_)
        rotate_left
        · rcases List.mem_append.mp hr with hr | hr
          · exact h4.nr r hr
          · rw [List.mem_singleton.mp hr]
            exact h4.nc
        by_cases hi : i < rs.length
        · rw [List.getElem?_append_left hi] at hr
          rw [List.getElem?_append_left (by rw [← h4.rows.1]; exact hi)] at hl
          exact h4.rows.2 i r l hr hl
        · have ei : i = rs.length := by
            have := (List.getElem?_eq_some_iff.mp hr).1
            rw [List.length_append, List.length_singleton] at this
            omega
          subst ei
          rw [List.getElem?_append_right (Nat.le_refl _), Nat.sub_self] at hr
          rw [h4.rows.1, List.getElem?_append_right (Nat.le_refl _), Nat.sub_self] at hl
          cases hr
          cases hl
          rw [e]
          exact h4.cur
      by_cases ew : w = []
      · subst ew
        rw [if_neg fun z => z rfl]
        exact fin _ _ h rfl
      · have ew' : ¬ S w = S [] := fun z => ew (S_inj z)
        rw [if_pos ew']
        refine ⟨_, .inl (.inl h.at_), .ref c, by rw [List.map_append]; exact atI_last _ _, .inl ⟨rfl, _, .inl (.inl h.cur)⟩, c, rfl, _, h.cur, by rw [List.length_map]; exact line_of' (by omega), ?_⟩
        have h4 := h.word w (by omega)
        have e : endW cu w = cu ++ [w] := if_neg ew
        have := fin _ _ h4 e
        rw [List.map_append] at this
        exact this
end Tote
/-! # The plant in the heap -/
namespace Tote
open PySem PySem.Spec PyProof.Rows L2 Tq
open SX (S S_inj S_len S_cat)
variable {g : GG}
/-! ## two lists side by side -/
structure F2 {α β : Type} (R : α → β → Prop) (xs : List α) (ys : List β) : Prop where
  len : xs.length = ys.length
  at_ : ∀ (i : Nat) (x : α) (y : β), xs[i]? = some x → ys[i]? = some y → R x y
namespace F2
variable {α β : Type} {R R' : α → β → Prop} {xs : List α} {ys : List β}
theorem nil : F2 R ([] : List α) ([] : List β) := ⟨rfl, fun i x y h => by simp at h⟩
theorem imp (h : F2 R xs ys) (f : ∀ x y, x ∈ xs → y ∈ ys → R x y → R' x y) : F2 R' xs ys := ⟨h.len, fun i x y hx hy => f x y (List.mem_of_getElem? hx) (List.mem_of_getElem? hy) (h.at_ i x y hx hy)⟩
theorem get (h : F2 R xs ys) {i : Nat} {y : β} (hy : ys[i]? = some y) : ∃ x, xs[i]? = some x ∧ R x y := by
  have hl : i < xs.length := by
    rw [h.len]
    exact (List.getElem?_eq_some_iff.mp hy).1
  exact ⟨xs[i], List.getElem?_eq_getElem hl, h.at_ i _ y (List.getElem?_eq_getElem hl) hy⟩
theorem get' (h : F2 R xs ys) {i : Nat} {x : α} (hx : xs[i]? = some x) : ∃ y, ys[i]? = some y ∧ R x y := by
  have hl : i < ys.length := by
    rw [← h.len]
    exact (List.getElem?_eq_some_iff.mp hx).1
  exact ⟨ys[i], List.getElem?_eq_getElem hl, h.at_ i x _ hx (List.getElem?_eq_getElem hl)⟩
theorem snoc (h : F2 R xs ys) {x : α} {y : β} (r : R x y) : F2 R (xs ++ [x]) (ys ++ [y]) := by
  refine ⟨by rw [List.length_append, List.length_append, h.len]; rfl, fun i a b ha hb => ?_⟩
  by_cases hi : i < xs.length
  · rw [List.getElem?_append_left hi] at ha
    rw [List.getElem?_append_left (by rw [← h.len]; exact hi)] at hb
    exact h.at_ i a b ha hb
  · have hl := (List.getElem?_eq_some_iff.mp ha).1
    rw [List.length_append, List.length_singleton] at hl
    have ei : i = xs.length := by omega
    subst ei
    rw [List.getElem?_append_right (Nat.le_refl _), Nat.sub_self] at ha
    rw [h.len, List.getElem?_append_right (Nat.le_refl _), Nat.sub_self] at hb
    cases ha
    cases hb
    exact r
theorem set (h : F2 R xs ys) {k : Nat} {x : α} {f : β → β} (r : ∀ b, ys[k]? = some b → R x (f b)) : F2 R (xs.set k x) (ys.modify k f) := by
  refine ⟨by rw [List.length_set, List.length_modify, h.len], fun i a b ha hb => ?_⟩
  rw [List.getElem?_set] at ha
  rw [List.getElem?_modify] at hb
  by_cases e : k = i
  · subst e
    rw [if_pos rfl] at ha
    split at ha
    · cases ha
      cases hy : ys[k]? with
      | none => rw [hy] at hb; simp at hb
      | some y =>
        rw [hy] at hb
        simp at hb
        rw [← hb]
        exact r y hy
    · cases ha
  · rw [if_neg e] at ha
    cases hy : ys[i]? with
    | none => rw [hy] at hb; simp at hb
    | some y =>
      rw [hy] at hb
      simp [e] at hb
      rw [← hb]
      exact h.at_ i a y ha hy
theorem append {zs : List α} {ws : List β} (h : F2 R xs ys) (k : F2 R zs ws) : F2 R (xs ++ zs) (ys ++ ws) := by
  refine ⟨by rw [List.length_append, List.length_append, h.len, k.len], fun i a b ha hb => ?_⟩
  by_cases hi : i < xs.length
  · rw [List.getElem?_append_left hi] at ha
    rw [List.getElem?_append_left (by rw [← h.len]; exact hi)] at hb
    exact h.at_ i a b ha hb
  · rw [List.getElem?_append_right (by omega)] at ha
    rw [List.getElem?_append_right (by rw [← h.len]; omega), ← h.len] at hb
    exact k.at_ _ a b ha hb
end F2
/-- all but the places of A stays -/
def Sta (A : Addr → Prop) (H H' : Hp) : Prop := ∀ b o, ¬ A b → H b = some o → H' b = some o
theorem Sta.of_same {H H' : Hp} (s : Same H H') : Sta (fun _ => False) H H' := fun b o _ e => s b o e
theorem Sta.of_upd {H : Hp} {a : Addr} {o : HO} : Sta (fun b => b = a) H (upd H a o) := fun b u n e => by rw [upd_ne n]; exact e
/-- no tuple stands at a place of A -/
def NoT (A : Addr → Prop) (H : Hp) : Prop := ∀ b xs, A b → H b ≠ some (.tup xs)
theorem NoT.none {H : Hp} : NoT (fun _ => False) H := fun _ _ h => h.elim
theorem NoT.lst {H : Hp} {a : Addr} {xs : List V} (h : H a = some (.lst xs)) : NoT (fun b => b = a) H := fun b ys e => by
  subst e
  rw [h]
  intro z
  cases z
theorem NoT.dK {H : Hp} {a : Addr} {xs : List (Key × V)} (h : H a = some (.dK xs)) : NoT (fun b => b = a) H := fun b ys e => by
  subst e
  rw [h]
  intro z
  cases z
theorem Sta.tup {A : Addr → Prop} {H H' : Hp} (s : Sta A H H') (n : NoT A H) {t : Addr} {xs : List V} (h : H t = some (.tup xs)) : H' t = some (.tup xs) := s t _ (fun a => n t xs a h) h
/-! ## the parts -/
structure KN where
  n : W
  k : Nat
  i : Nat
def kvsOf (ks : List KN) (ts : List Addr) : List (Key × V) := (ks.zip ts).map fun e => (Sum.inr (S e.1.n), V.ref e.2)
def KnAt (H : Hp) (a : Addr) (ks : List KN) : Prop := ∃ ts, H a = some (.dK (kvsOf ks ts)) ∧ F2 (fun (t : Addr) (e : KN) => H t = some (.tup [.int e.k, .int e.i])) ts ks
def goalT : Xb08.Goal → List V
  | .belt k x => [.int 1, .int k, .int x]
  | .chute k => [.int 2, .int k, .int 0]
def GoV (H : Hp) (v : V) : Option Xb08.Goal → Prop
  | none => v = .non
  | some gl => ∃ t, v = .ref t ∧ H t = some (.tup (goalT gl))
def LeAt (H : Hp) (a : Addr) (bs : List Xb08.Belt) : Prop := H a = some (.lst (bs.map fun b => .int b.length))
def GoAt (H : Hp) (a : Addr) (bs : List Xb08.Belt) : Prop := ∃ vs, H a = some (.lst vs) ∧ F2 (fun v (b : Xb08.Belt) => GoV H v b.goal) vs bs
def RoAt (H : Hp) (a : Addr) (cs : List Xb08.Chute) : Prop := H a = some (.lst (cs.map fun c => .int c.room))
def EyAt (H : Hp) (a : Addr) (ys : List Xb08.Sensor) : Prop := ∃ ts : List Addr, H a = some (.lst (ts.map .ref)) ∧ F2 (fun t (y : Xb08.Sensor) => H t = some (.tup [.int y.belt, .int y.position])) ts ys
def PuAt (H : Hp) (a : Addr) (us : List Xb08.Pusher) : Prop := ∃ ts : List Addr, H a = some (.lst (ts.map .ref)) ∧ F2 (fun t (u : Xb08.Pusher) => ∃ t2, H t = some (.tup [.int u.belt, .int u.position, .ref t2]) ∧ H t2 = some (.tup (goalT u.goal))) ts us
def termT : Xb08.Cond → List V
  | .code a b => [.str "code", .int a, .int b]
  | .length n => [.str "long", .int n]
  | .each n => [.str "each", .int n]
  | .full c => [.str "full", .int c]
  | .free b => [.str "free", .int b]
def TmAt (H : Hp) (a : Addr) (cs : List Xb08.Cond) : Prop := ∃ ts : List Addr, H a = some (.lst (ts.map .ref)) ∧ F2 (fun t c => H t = some (.tup (termT c))) ts cs
def RuAt (F : List Addr) (H : Hp) (a : Addr) (rs : List Xb08.Rule) : Prop := ∃ ts : List Addr, H a = some (.lst (ts.map .ref)) ∧
  F2 (fun t (r : Xb08.Rule) => ∃ l, l ∉ F ∧ H t = some (.tup [.int r.sensor, .ref l, .int r.push, .int r.after]) ∧ TmAt H l r.conds) ts rs
def parT (q : Xb08.Parcel) : List V := [.int q.belt, .int q.code, .int q.length, .int q.t]
def PaAt (H : Hp) (a : Addr) (qs : List Xb08.Parcel) : Prop := ∃ ts : List Addr, H a = some (.lst (ts.map .ref)) ∧ F2 (fun t (q : Xb08.Parcel) => H t = some (.tup (parT q))) ts qs
section
variable {A : Addr → Prop} {H H' : Hp} {a : Addr} {F : List Addr} (s : Sta A H H') (n : NoT A H) (na : ¬ A a)
include s n na
theorem KnAt.st {ks : List KN} (h : KnAt H a ks) : KnAt H' a ks := by
  obtain ⟨ts, h1, h2⟩ := h
  exact ⟨ts, s _ _ na h1, h2.imp fun _ _ _ _ r => s.tup n r⟩
theorem LeAt.st {bs : List Xb08.Belt} (h : LeAt H a bs) : LeAt H' a bs := s _ _ na h
theorem GoAt.st {bs : List Xb08.Belt} (h : GoAt H a bs) : GoAt H' a bs := by
  obtain ⟨ts, h1, h2⟩ := h
  refine ⟨ts, s _ _ na h1, h2.imp fun v b _ _ r => ?_⟩
  cases e : b.goal with
  | none => rw [e] at r; exact r
  | some gl =>
    rw [e] at r
    obtain ⟨t, e1, e2⟩ := r
    exact ⟨t, e1, s.tup n e2⟩
theorem RoAt.st {cs : List Xb08.Chute} (h : RoAt H a cs) : RoAt H' a cs := s _ _ na h
theorem EyAt.st {ys : List Xb08.Sensor} (h : EyAt H a ys) : EyAt H' a ys := by
  obtain ⟨ts, h1, h2⟩ := h
  exact ⟨ts, s _ _ na h1, h2.imp fun _ _ _ _ r => s.tup n r⟩
theorem PuAt.st {us : List Xb08.Pusher} (h : PuAt H a us) : PuAt H' a us := by
  obtain ⟨ts, h1, h2⟩ := h
  refine ⟨ts, s _ _ na h1, h2.imp fun _ _ _ _ r => ?_⟩
  obtain ⟨t2, r1, r2⟩ := r
  exact ⟨t2, s.tup n r1, s.tup n r2⟩
theorem TmAt.st {cs : List Xb08.Cond} (h : TmAt H a cs) : TmAt H' a cs := by
  obtain ⟨ts, h1, h2⟩ := h
  exact ⟨ts, s _ _ na h1, h2.imp fun _ _ _ _ r => s.tup n r⟩
theorem PaAt.st {qs : List Xb08.Parcel} (h : PaAt H a qs) : PaAt H' a qs := by
  obtain ⟨ts, h1, h2⟩ := h
  exact ⟨ts, s _ _ na h1, h2.imp fun _ _ _ _ r => s.tup n r⟩
theorem RuAt.st (hF : ∀ b, A b → b ∈ F) {rs : List Xb08.Rule} (h : RuAt F H a rs) : RuAt F H' a rs := by
  obtain ⟨ts, h1, h2⟩ := h
  refine ⟨ts, s _ _ na h1, h2.imp fun _ _ _ _ r => ?_⟩
  obtain ⟨l, r1, r2, r3⟩ := r
  exact ⟨l, r1, s.tup n r2, r3.st s n fun z => r1 (hF l z)⟩
end
structure PL where
  pl : Addr
  kn : Addr
  le : Addr
  go : Addr
  ro : Addr
  ey : Addr
  pu : Addr
  ru : Addr
  pa : Addr
def PL.lists (L : PL) : List Addr := [L.kn, L.le, L.go, L.ro, L.ey, L.pu, L.ru, L.pa]
def plF (f_known f_lengths f_goals f_rooms f_eyes f_pushers f_rules f_parcels : V) : List (Str × V) := [("known", f_known), ("lengths", f_lengths), ("goals", f_goals), ("rooms", f_rooms), ("eyes", f_eyes), ("pushers", f_pushers), ("rules", f_rules), ("parcels", f_parcels)]
theorem plF_get (f_known f_lengths f_goals f_rooms f_eyes f_pushers f_rules f_parcels : V) : List.lookup ("known" : Str) (plF f_known f_lengths f_goals f_rooms f_eyes f_pushers f_rules f_parcels) = some f_known ∧ List.lookup ("lengths" : Str) (plF f_known f_lengths f_goals f_rooms f_eyes f_pushers f_rules f_parcels) = some f_lengths ∧ List.lookup ("goals" : Str) (plF f_known f_lengths f_goals f_rooms f_eyes f_pushers f_rules f_parcels) = some f_goals ∧ List.lookup ("rooms" : Str) (plF f_known f_lengths f_goals f_rooms f_eyes f_pushers f_rules f_parcels) = some f_rooms ∧ List.lookup ("eyes" : Str) (plF f_known f_lengths f_goals f_rooms f_eyes f_pushers f_rules f_parcels) = some f_eyes ∧ List.lookup ("pushers" : Str) (plF f_known f_lengths f_goals f_rooms f_eyes f_pushers f_rules f_parcels) = some f_pushers ∧ List.lookup ("rules" : Str) (plF f_known f_lengths f_goals f_rooms f_eyes f_pushers f_rules f_parcels) = some f_rules ∧ List.lookup ("parcels" : Str) (plF f_known f_lengths f_goals f_rooms f_eyes f_pushers f_rules f_parcels) = some f_parcels ∧ List.lookup ("how_many" : Str) (plF f_known f_lengths f_goals f_rooms f_eyes f_pushers f_rules f_parcels) = none ∧ List.lookup ("put_name" : Str) (plF f_known f_lengths f_goals f_rooms f_eyes f_pushers f_rules f_parcels) = none ∧ List.lookup ("put_chute" : Str) (plF f_known f_lengths f_goals f_rooms f_eyes f_pushers f_rules f_parcels) = none ∧ List.lookup ("put_belt" : Str) (plF f_known f_lengths f_goals f_rooms f_eyes f_pushers f_rules f_parcels) = none ∧ List.lookup ("set_goal" : Str) (plF f_known f_lengths f_goals f_rooms f_eyes f_pushers f_rules f_parcels) = none ∧ List.lookup ("put_eye" : Str) (plF f_known f_lengths f_goals f_rooms f_eyes f_pushers f_rules f_parcels) = none ∧ List.lookup ("put_pusher" : Str) (plF f_known f_lengths f_goals f_rooms f_eyes f_pushers f_rules f_parcels) = none ∧ List.lookup ("put_rule" : Str) (plF f_known f_lengths f_goals f_rooms f_eyes f_pushers f_rules f_parcels) = none ∧ List.lookup ("put_parcel" : Str) (plF f_known f_lengths f_goals f_rooms f_eyes f_pushers f_rules f_parcels) = none ∧ (plF f_known f_lengths f_goals f_rooms f_eyes f_pushers f_rules f_parcels).length < 1000 := ⟨rfl, rfl, rfl, rfl, rfl, rfl, rfl, rfl, rfl, rfl, rfl, rfl, rfl, rfl, rfl, rfl, rfl, (show 8 < 1000 by decide)⟩
theorem plF_put (v f_known f_lengths f_goals f_rooms f_eyes f_pushers f_rules f_parcels : V) : putF "known" v (plF f_known f_lengths f_goals f_rooms f_eyes f_pushers f_rules f_parcels) = plF v f_lengths f_goals f_rooms f_eyes f_pushers f_rules f_parcels ∧ putF "lengths" v (plF f_known f_lengths f_goals f_rooms f_eyes f_pushers f_rules f_parcels) = plF f_known v f_goals f_rooms f_eyes f_pushers f_rules f_parcels ∧ putF "goals" v (plF f_known f_lengths f_goals f_rooms f_eyes f_pushers f_rules f_parcels) = plF f_known f_lengths v f_rooms f_eyes f_pushers f_rules f_parcels ∧ putF "rooms" v (plF f_known f_lengths f_goals f_rooms f_eyes f_pushers f_rules f_parcels) = plF f_known f_lengths f_goals v f_eyes f_pushers f_rules f_parcels ∧ putF "eyes" v (plF f_known f_lengths f_goals f_rooms f_eyes f_pushers f_rules f_parcels) = plF f_known f_lengths f_goals f_rooms v f_pushers f_rules f_parcels ∧ putF "pushers" v (plF f_known f_lengths f_goals f_rooms f_eyes f_pushers f_rules f_parcels) = plF f_known f_lengths f_goals f_rooms f_eyes v f_rules f_parcels ∧ putF "rules" v (plF f_known f_lengths f_goals f_rooms f_eyes f_pushers f_rules f_parcels) = plF f_known f_lengths f_goals f_rooms f_eyes f_pushers v f_parcels ∧ putF "parcels" v (plF f_known f_lengths f_goals f_rooms f_eyes f_pushers f_rules f_parcels) = plF f_known f_lengths f_goals f_rooms f_eyes f_pushers f_rules v := ⟨rfl, rfl, rfl, rfl, rfl, rfl, rfl, rfl⟩
def PL.fs (L : PL) : List (Str × V) := plF (.ref L.kn) (.ref L.le) (.ref L.go) (.ref L.ro) (.ref L.ey) (.ref L.pu) (.ref L.ru) (.ref L.pa)
/-- the parts of a plant, at their places -/
structure PlP (H : Hp) (L : PL) (p : Xb08.Plant) (ks : List KN) : Prop where
  kn : KnAt H L.kn ks
  le : LeAt H L.le p.belts
  go : GoAt H L.go p.belts
  ro : RoAt H L.ro p.chutes
  ey : EyAt H L.ey p.sensors
  pu : PuAt H L.pu p.pushers
  ru : RuAt L.lists H L.ru p.rules
  pa : PaAt H L.pa p.parcels
structure PlantAt (g : GG) (H R : Hp) (L : PL) (p : Xb08.Plant) (ks : List KN) : Prop where
  same : Same R H
  out : ∀ a ∈ L.pl :: L.lists, R a = none
  nodup : L.lists.Nodup
  ins : ∃ dx, H L.pl = some (.ins (cF g "Plant") dx L.fs)
  parts : PlP H L p ks
theorem PlP.same {H H' : Hp} {L : PL} {p : Xb08.Plant} {ks : List KN} (h : PlP H L p ks) (s : Same H H') : PlP H' L p ks := by
  have s' := Sta.of_same s
  exact ⟨h.kn.st s' NoT.none id, h.le.st s' NoT.none id, h.go.st s' NoT.none id, h.ro.st s' NoT.none id, h.ey.st s' NoT.none id, h.pu.st s' NoT.none id, h.ru.st s' NoT.none id (fun _ z => z.elim), h.pa.st s' NoT.none id⟩
theorem PlantAt.mono {H H' R : Hp} {L : PL} {p : Xb08.Plant} {ks : List KN} (h : PlantAt g H R L p ks) (s : Same H H') : PlantAt g H' R L p ks := by
  obtain ⟨h1, h2, h3, ⟨dx, h4⟩, h5⟩ := h
  exact ⟨h1.trans s, h2, h3, ⟨dx, s _ _ h4⟩, h5.same s⟩
/-- the frame may shrink -/
theorem PlantAt.less {H R R' : Hp} {L : PL} {p : Xb08.Plant} {ks : List KN} (h : PlantAt g H R L p ks) (s : Same R' R) : PlantAt g H R' L p ks := by
  obtain ⟨h1, h2, h3, h4, h5⟩ := h
  exact ⟨s.trans h1, fun a ha => s.free (h2 a ha), h3, h4, h5⟩
theorem PlantAt.pl_ne {H R : Hp} {L : PL} {p : Xb08.Plant} {ks : List KN} (h : PlantAt g H R L p ks) {a : Addr} (ha : (∃ xs, H a = some (.lst xs)) ∨ ∃ kv, H a = some (.dK kv)) : L.pl ≠ a := by
  obtain ⟨dx, h4⟩ := h.ins
  rcases ha with ⟨xs, e⟩ | ⟨kv, e⟩
  · exact ne_of h4 e (by intro z; cases z)
  · exact ne_of h4 e (by intro z; cases z)
/-! ## what is put into it -/
section
variable {H R : Hp} {L : PL} {p : Xb08.Plant} {ks : List KN}
theorem PL.ne (nd : L.lists.Nodup) : L.kn ≠ L.le ∧ L.kn ≠ L.go ∧ L.kn ≠ L.ro ∧ L.kn ≠ L.ey ∧ L.kn ≠ L.pu ∧ L.kn ≠ L.ru ∧ L.kn ≠ L.pa ∧ L.le ≠ L.kn ∧ L.le ≠ L.go ∧ L.le ≠ L.ro ∧ L.le ≠ L.ey ∧ L.le ≠ L.pu ∧ L.le ≠ L.ru ∧ L.le ≠ L.pa ∧ L.go ≠ L.kn ∧ L.go ≠ L.le ∧ L.go ≠ L.ro ∧ L.go ≠ L.ey ∧ L.go ≠ L.pu ∧ L.go ≠ L.ru ∧ L.go ≠ L.pa ∧ L.ro ≠ L.kn ∧ L.ro ≠ L.le ∧ L.ro ≠ L.go ∧ L.ro ≠ L.ey ∧ L.ro ≠ L.pu ∧ L.ro ≠ L.ru ∧ L.ro ≠ L.pa ∧ L.ey ≠ L.kn ∧ L.ey ≠ L.le ∧ L.ey ≠ L.go ∧ L.ey ≠ L.ro ∧ L.ey ≠ L.pu ∧ L.ey ≠ L.ru ∧ L.ey ≠ L.pa ∧ L.pu ≠ L.kn ∧ L.pu ≠ L.le ∧ L.pu ≠ L.go ∧ L.pu ≠ L.ro ∧ L.pu ≠ L.ey ∧ L.pu ≠ L.ru ∧ L.pu ≠ L.pa ∧ L.ru ≠ L.kn ∧ L.ru ≠ L.le ∧ L.ru ≠ L.go ∧ L.ru ≠ L.ro ∧ L.ru ≠ L.ey ∧ L.ru ≠ L.pu ∧ L.ru ≠ L.pa ∧ L.pa ≠ L.kn ∧ L.pa ≠ L.le ∧ L.pa ≠ L.go ∧ L.pa ≠ L.ro ∧ L.pa ≠ L.ey ∧ L.pa ≠ L.pu ∧ L.pa ≠ L.ru := by
  unfold PL.lists at nd
  simp only [List.nodup_cons, List.mem_cons, List.not_mem_nil, not_or, or_false, not_false_eq_true, and_true, List.nodup_nil] at nd
  obtain ⟨⟨h_kn_le, h_kn_go, h_kn_ro, h_kn_ey, h_kn_pu, h_kn_ru, h_kn_pa⟩, ⟨h_le_go, h_le_ro, h_le_ey, h_le_pu, h_le_ru, h_le_pa⟩, ⟨h_go_ro, h_go_ey, h_go_pu, h_go_ru, h_go_pa⟩, ⟨h_ro_ey, h_ro_pu, h_ro_ru, h_ro_pa⟩, ⟨h_ey_pu, h_ey_ru, h_ey_pa⟩, ⟨h_pu_ru, h_pu_pa⟩, h_ru_pa⟩ := nd
  exact ⟨h_kn_le, h_kn_go, h_kn_ro, h_kn_ey, h_kn_pu, h_kn_ru, h_kn_pa, Ne.symm h_kn_le, h_le_go, h_le_ro, h_le_ey, h_le_pu, h_le_ru, h_le_pa, Ne.symm h_kn_go, Ne.symm h_le_go, h_go_ro, h_go_ey, h_go_pu, h_go_ru, h_go_pa, Ne.symm h_kn_ro, Ne.symm h_le_ro, Ne.symm h_go_ro, h_ro_ey, h_ro_pu, h_ro_ru, h_ro_pa, Ne.symm h_kn_ey, Ne.symm h_le_ey, Ne.symm h_go_ey, Ne.symm h_ro_ey, h_ey_pu, h_ey_ru, h_ey_pa, Ne.symm h_kn_pu, Ne.symm h_le_pu, Ne.symm h_go_pu, Ne.symm h_ro_pu, Ne.symm h_ey_pu, h_pu_ru, h_pu_pa, Ne.symm h_kn_ru, Ne.symm h_le_ru, Ne.symm h_go_ru, Ne.symm h_ro_ru, Ne.symm h_ey_ru, Ne.symm h_pu_ru, h_ru_pa, Ne.symm h_kn_pa, Ne.symm h_le_pa, Ne.symm h_go_pa, Ne.symm h_ro_pa, Ne.symm h_ey_pa, Ne.symm h_pu_pa, Ne.symm h_ru_pa⟩
theorem PL.ne_kn (nd : L.lists.Nodup) : L.le ≠ L.kn ∧ L.go ≠ L.kn ∧ L.ro ≠ L.kn ∧ L.ey ≠ L.kn ∧ L.pu ≠ L.kn ∧ L.ru ≠ L.kn ∧ L.pa ≠ L.kn := by
  have h := PL.ne nd
  exact ⟨h.2.2.2.2.2.2.2.1, h.2.2.2.2.2.2.2.2.2.2.2.2.2.2.1, h.2.2.2.2.2.2.2.2.2.2.2.2.2.2.2.2.2.2.2.2.2.1, h.2.2.2.2.2.2.2.2.2.2.2.2.2.2.2.2.2.2.2.2.2.2.2.2.2.2.2.2.1, h.2.2.2.2.2.2.2.2.2.2.2.2.2.2.2.2.2.2.2.2.2.2.2.2.2.2.2.2.2.2.2.2.2.2.2.1, h.2.2.2.2.2.2.2.2.2.2.2.2.2.2.2.2.2.2.2.2.2.2.2.2.2.2.2.2.2.2.2.2.2.2.2.2.2.2.2.2.2.2.1, h.2.2.2.2.2.2.2.2.2.2.2.2.2.2.2.2.2.2.2.2.2.2.2.2.2.2.2.2.2.2.2.2.2.2.2.2.2.2.2.2.2.2.2.2.2.2.2.2.2.1⟩
theorem PL.ne_le (nd : L.lists.Nodup) : L.kn ≠ L.le ∧ L.go ≠ L.le ∧ L.ro ≠ L.le ∧ L.ey ≠ L.le ∧ L.pu ≠ L.le ∧ L.ru ≠ L.le ∧ L.pa ≠ L.le := by
  have h := PL.ne nd
  exact ⟨h.1, h.2.2.2.2.2.2.2.2.2.2.2.2.2.2.2.1, h.2.2.2.2.2.2.2.2.2.2.2.2.2.2.2.2.2.2.2.2.2.2.1, h.2.2.2.2.2.2.2.2.2.2.2.2.2.2.2.2.2.2.2.2.2.2.2.2.2.2.2.2.2.1, h.2.2.2.2.2.2.2.2.2.2.2.2.2.2.2.2.2.2.2.2.2.2.2.2.2.2.2.2.2.2.2.2.2.2.2.2.1, h.2.2.2.2.2.2.2.2.2.2.2.2.2.2.2.2.2.2.2.2.2.2.2.2.2.2.2.2.2.2.2.2.2.2.2.2.2.2.2.2.2.2.2.1, h.2.2.2.2.2.2.2.2.2.2.2.2.2.2.2.2.2.2.2.2.2.2.2.2.2.2.2.2.2.2.2.2.2.2.2.2.2.2.2.2.2.2.2.2.2.2.2.2.2.2.1⟩
theorem PL.ne_go (nd : L.lists.Nodup) : L.kn ≠ L.go ∧ L.le ≠ L.go ∧ L.ro ≠ L.go ∧ L.ey ≠ L.go ∧ L.pu ≠ L.go ∧ L.ru ≠ L.go ∧ L.pa ≠ L.go := by
  have h := PL.ne nd
  exact ⟨h.2.1, h.2.2.2.2.2.2.2.2.1, h.2.2.2.2.2.2.2.2.2.2.2.2.2.2.2.2.2.2.2.2.2.2.2.1, h.2.2.2.2.2.2.2.2.2.2.2.2.2.2.2.2.2.2.2.2.2.2.2.2.2.2.2.2.2.2.1, h.2.2.2.2.2.2.2.2.2.2.2.2.2.2.2.2.2.2.2.2.2.2.2.2.2.2.2.2.2.2.2.2.2.2.2.2.2.1, h.2.2.2.2.2.2.2.2.2.2.2.2.2.2.2.2.2.2.2.2.2.2.2.2.2.2.2.2.2.2.2.2.2.2.2.2.2.2.2.2.2.2.2.2.1, h.2.2.2.2.2.2.2.2.2.2.2.2.2.2.2.2.2.2.2.2.2.2.2.2.2.2.2.2.2.2.2.2.2.2.2.2.2.2.2.2.2.2.2.2.2.2.2.2.2.2.2.1⟩
theorem PL.ne_ro (nd : L.lists.Nodup) : L.kn ≠ L.ro ∧ L.le ≠ L.ro ∧ L.go ≠ L.ro ∧ L.ey ≠ L.ro ∧ L.pu ≠ L.ro ∧ L.ru ≠ L.ro ∧ L.pa ≠ L.ro := by
  have h := PL.ne nd
  exact ⟨h.2.2.1, h.2.2.2.2.2.2.2.2.2.1, h.2.2.2.2.2.2.2.2.2.2.2.2.2.2.2.2.1, h.2.2.2.2.2.2.2.2.2.2.2.2.2.2.2.2.2.2.2.2.2.2.2.2.2.2.2.2.2.2.2.1, h.2.2.2.2.2.2.2.2.2.2.2.2.2.2.2.2.2.2.2.2.2.2.2.2.2.2.2.2.2.2.2.2.2.2.2.2.2.2.1, h.2.2.2.2.2.2.2.2.2.2.2.2.2.2.2.2.2.2.2.2.2.2.2.2.2.2.2.2.2.2.2.2.2.2.2.2.2.2.2.2.2.2.2.2.2.1, h.2.2.2.2.2.2.2.2.2.2.2.2.2.2.2.2.2.2.2.2.2.2.2.2.2.2.2.2.2.2.2.2.2.2.2.2.2.2.2.2.2.2.2.2.2.2.2.2.2.2.2.2.1⟩
theorem PL.ne_ey (nd : L.lists.Nodup) : L.kn ≠ L.ey ∧ L.le ≠ L.ey ∧ L.go ≠ L.ey ∧ L.ro ≠ L.ey ∧ L.pu ≠ L.ey ∧ L.ru ≠ L.ey ∧ L.pa ≠ L.ey := by
  have h := PL.ne nd
  exact ⟨h.2.2.2.1, h.2.2.2.2.2.2.2.2.2.2.1, h.2.2.2.2.2.2.2.2.2.2.2.2.2.2.2.2.2.1, h.2.2.2.2.2.2.2.2.2.2.2.2.2.2.2.2.2.2.2.2.2.2.2.2.1, h.2.2.2.2.2.2.2.2.2.2.2.2.2.2.2.2.2.2.2.2.2.2.2.2.2.2.2.2.2.2.2.2.2.2.2.2.2.2.2.1, h.2.2.2.2.2.2.2.2.2.2.2.2.2.2.2.2.2.2.2.2.2.2.2.2.2.2.2.2.2.2.2.2.2.2.2.2.2.2.2.2.2.2.2.2.2.2.1, h.2.2.2.2.2.2.2.2.2.2.2.2.2.2.2.2.2.2.2.2.2.2.2.2.2.2.2.2.2.2.2.2.2.2.2.2.2.2.2.2.2.2.2.2.2.2.2.2.2.2.2.2.2.1⟩
theorem PL.ne_pu (nd : L.lists.Nodup) : L.kn ≠ L.pu ∧ L.le ≠ L.pu ∧ L.go ≠ L.pu ∧ L.ro ≠ L.pu ∧ L.ey ≠ L.pu ∧ L.ru ≠ L.pu ∧ L.pa ≠ L.pu := by
  have h := PL.ne nd
  exact ⟨h.2.2.2.2.1, h.2.2.2.2.2.2.2.2.2.2.2.1, h.2.2.2.2.2.2.2.2.2.2.2.2.2.2.2.2.2.2.1, h.2.2.2.2.2.2.2.2.2.2.2.2.2.2.2.2.2.2.2.2.2.2.2.2.2.1, h.2.2.2.2.2.2.2.2.2.2.2.2.2.2.2.2.2.2.2.2.2.2.2.2.2.2.2.2.2.2.2.2.1, h.2.2.2.2.2.2.2.2.2.2.2.2.2.2.2.2.2.2.2.2.2.2.2.2.2.2.2.2.2.2.2.2.2.2.2.2.2.2.2.2.2.2.2.2.2.2.2.1, h.2.2.2.2.2.2.2.2.2.2.2.2.2.2.2.2.2.2.2.2.2.2.2.2.2.2.2.2.2.2.2.2.2.2.2.2.2.2.2.2.2.2.2.2.2.2.2.2.2.2.2.2.2.2.1⟩
theorem PL.ne_ru (nd : L.lists.Nodup) : L.kn ≠ L.ru ∧ L.le ≠ L.ru ∧ L.go ≠ L.ru ∧ L.ro ≠ L.ru ∧ L.ey ≠ L.ru ∧ L.pu ≠ L.ru ∧ L.pa ≠ L.ru := by
  have h := PL.ne nd
  exact ⟨h.2.2.2.2.2.1, h.2.2.2.2.2.2.2.2.2.2.2.2.1, h.2.2.2.2.2.2.2.2.2.2.2.2.2.2.2.2.2.2.2.1, h.2.2.2.2.2.2.2.2.2.2.2.2.2.2.2.2.2.2.2.2.2.2.2.2.2.2.1, h.2.2.2.2.2.2.2.2.2.2.2.2.2.2.2.2.2.2.2.2.2.2.2.2.2.2.2.2.2.2.2.2.2.1, h.2.2.2.2.2.2.2.2.2.2.2.2.2.2.2.2.2.2.2.2.2.2.2.2.2.2.2.2.2.2.2.2.2.2.2.2.2.2.2.2.1, h.2.2.2.2.2.2.2.2.2.2.2.2.2.2.2.2.2.2.2.2.2.2.2.2.2.2.2.2.2.2.2.2.2.2.2.2.2.2.2.2.2.2.2.2.2.2.2.2.2.2.2.2.2.2.2⟩
theorem PL.ne_pa (nd : L.lists.Nodup) : L.kn ≠ L.pa ∧ L.le ≠ L.pa ∧ L.go ≠ L.pa ∧ L.ro ≠ L.pa ∧ L.ey ≠ L.pa ∧ L.pu ≠ L.pa ∧ L.ru ≠ L.pa := by
  have h := PL.ne nd
  exact ⟨h.2.2.2.2.2.2.1, h.2.2.2.2.2.2.2.2.2.2.2.2.2.1, h.2.2.2.2.2.2.2.2.2.2.2.2.2.2.2.2.2.2.2.2.1, h.2.2.2.2.2.2.2.2.2.2.2.2.2.2.2.2.2.2.2.2.2.2.2.2.2.2.2.1, h.2.2.2.2.2.2.2.2.2.2.2.2.2.2.2.2.2.2.2.2.2.2.2.2.2.2.2.2.2.2.2.2.2.2.1, h.2.2.2.2.2.2.2.2.2.2.2.2.2.2.2.2.2.2.2.2.2.2.2.2.2.2.2.2.2.2.2.2.2.2.2.2.2.2.2.2.2.1, h.2.2.2.2.2.2.2.2.2.2.2.2.2.2.2.2.2.2.2.2.2.2.2.2.2.2.2.2.2.2.2.2.2.2.2.2.2.2.2.2.2.2.2.2.2.2.2.2.1⟩
theorem PlantAt.at_upd {a : Addr} {o : HO} {p' : Xb08.Plant} {ks' : List KN} (h : PlantAt g H R L p ks) (ha : a ∈ L.lists) (hn : (∃ xs, H a = some (.lst xs)) ∨ ∃ kv, H a = some (.dK kv)) (hp : PlP (upd H a o) L p' ks') : PlantAt g (upd H a o) R L p' ks' := by
  obtain ⟨dx, hi⟩ := h.ins
  exact ⟨Same.upd (h.out a (List.mem_cons_of_mem _ ha)) h.same, h.out, h.nodup, ⟨dx, by rw [upd_ne (h.pl_ne hn)]; exact hi⟩, hp⟩
theorem PlantAt.put_ro {n : W} {r : Nat} (h : PlantAt g H R L p ks) : PlantAt g (upd H L.ro (.lst ((p.chutes.map fun c => V.int c.room) ++ [.int r]))) R L { p with chutes := p.chutes ++ [⟨n, r⟩] } ks := by
  have n := NoT.lst (show H L.ro = _ from h.parts.ro)
  have ne := PL.ne_ro h.nodup
  have mem : L.ro ∈ L.lists := by simp [PL.lists]
  have s := Sta.of_upd (H := H) (a := L.ro) (o := (.lst ((p.chutes.map fun c => V.int c.room) ++ [.int r])))
  refine h.at_upd mem (.inl ⟨_, h.parts.ro⟩) ⟨h.parts.kn.st s n ne.1, h.parts.le.st s n ne.2.1, h.parts.go.st s n ne.2.2.1, by show upd _ _ _ _ = _; rw [upd_same, List.map_append]; rfl, h.parts.ey.st s n ne.2.2.2.1, h.parts.pu.st s n ne.2.2.2.2.1, h.parts.ru.st s n ne.2.2.2.2.2.1 (fun b e => by rw [show b = L.ro from e]; exact mem), h.parts.pa.st s n ne.2.2.2.2.2.2⟩
theorem PlantAt.put_ey {n : W} {b x : Nat} {t : Addr} {ts : List Addr} (h : PlantAt g H R L p ks)(ht : H t = some (.tup [.int b, .int x])) (h1 : H L.ey = some (.lst (ts.map .ref))) (h2 : F2 (fun t (y : Xb08.Sensor) => H t = some (.tup [.int y.belt, .int y.position])) ts p.sensors) : PlantAt g (upd H L.ey (.lst ((ts.map .ref) ++ [.ref t]))) R L { p with sensors := p.sensors ++ [⟨n, b, x⟩] } ks := by
  have n := NoT.lst h1
  have ne := PL.ne_ey h.nodup
  have mem : L.ey ∈ L.lists := by simp [PL.lists]
  have s := Sta.of_upd (H := H) (a := L.ey) (o := (.lst ((ts.map .ref) ++ [.ref t])))
  refine h.at_upd mem (.inl ⟨_, h1⟩) ⟨h.parts.kn.st s n ne.1, h.parts.le.st s n ne.2.1, h.parts.go.st s n ne.2.2.1, h.parts.ro.st s n ne.2.2.2.1, ⟨ts ++ [t], by rw [upd_same, List.map_append]; rfl, (h2.imp fun _ _ _ _ r => s.tup n r).snoc (s.tup n ht)⟩, h.parts.pu.st s n ne.2.2.2.2.1, h.parts.ru.st s n ne.2.2.2.2.2.1 (fun b e => by rw [show b = L.ey from e]; exact mem), h.parts.pa.st s n ne.2.2.2.2.2.2⟩
theorem PlantAt.put_pu {n : W} {b x : Nat} {gl : Xb08.Goal} {t t2 : Addr} {ts : List Addr} (h : PlantAt g H R L p ks)(ht : H t = some (.tup [.int b, .int x, .ref t2])) (ht2 : H t2 = some (.tup (goalT gl))) (h1 : H L.pu = some (.lst (ts.map .ref))) (h2 : F2 (fun t (u : Xb08.Pusher) => ∃ t2, H t = some (.tup [.int u.belt, .int u.position, .ref t2]) ∧ H t2 = some (.tup (goalT u.goal))) ts p.pushers) : PlantAt g (upd H L.pu (.lst ((ts.map .ref) ++ [.ref t]))) R L { p with pushers := p.pushers ++ [⟨n, b, x, gl⟩] } ks := by
  have n := NoT.lst h1
  have ne := PL.ne_pu h.nodup
  have mem : L.pu ∈ L.lists := by simp [PL.lists]
  have s := Sta.of_upd (H := H) (a := L.pu) (o := (.lst ((ts.map .ref) ++ [.ref t])))
  refine h.at_upd mem (.inl ⟨_, h1⟩) ⟨h.parts.kn.st s n ne.1, h.parts.le.st s n ne.2.1, h.parts.go.st s n ne.2.2.1, h.parts.ro.st s n ne.2.2.2.1, h.parts.ey.st s n ne.2.2.2.2.1, ⟨ts ++ [t], by rw [upd_same, List.map_append]; rfl, (h2.imp fun _ _ _ _ r => by obtain ⟨t3, r1, r2⟩ := r; exact ⟨t3, s.tup n r1, s.tup n r2⟩).snoc ⟨t2, s.tup n ht, s.tup n ht2⟩⟩, h.parts.ru.st s n ne.2.2.2.2.2.1 (fun b e => by rw [show b = L.pu from e]; exact mem), h.parts.pa.st s n ne.2.2.2.2.2.2⟩
theorem PlantAt.put_ru {e u d : Nat} {cs : List Xb08.Cond} {t l : Addr} {ts : List Addr} (h : PlantAt g H R L p ks)(ht : H t = some (.tup [.int e, .ref l, .int u, .int d])) (hl : l ∉ L.lists) (hc : TmAt H l cs) (h1 : H L.ru = some (.lst (ts.map .ref))) (h2 : F2 (fun t (r : Xb08.Rule) => ∃ l, l ∉ L.lists ∧ H t = some (.tup [.int r.sensor, .ref l, .int r.push, .int r.after]) ∧ TmAt H l r.conds) ts p.rules) : PlantAt g (upd H L.ru (.lst ((ts.map .ref) ++ [.ref t]))) R L { p with rules := p.rules ++ [⟨e, cs, u, d⟩] } ks := by
  have n := NoT.lst h1
  have ne := PL.ne_ru h.nodup
  have mem : L.ru ∈ L.lists := by simp [PL.lists]
  have s := Sta.of_upd (H := H) (a := L.ru) (o := (.lst ((ts.map .ref) ++ [.ref t])))
  refine h.at_upd mem (.inl ⟨_, h1⟩) ⟨h.parts.kn.st s n ne.1, h.parts.le.st s n ne.2.1, h.parts.go.st s n ne.2.2.1, h.parts.ro.st s n ne.2.2.2.1, h.parts.ey.st s n ne.2.2.2.2.1, h.parts.pu.st s n ne.2.2.2.2.2.1, ⟨ts ++ [t], by rw [upd_same, List.map_append]; rfl, (h2.imp fun _ _ _ _ r => by obtain ⟨l3, r1, r2, r3⟩ := r; exact ⟨l3, r1, s.tup n r2, r3.st s n fun z => r1 (by rw [show l3 = L.ru from z]; exact mem)⟩).snoc ⟨l, hl, s.tup n ht, hc.st s n fun z => hl (by rw [show l = L.ru from z]; exact mem)⟩⟩, h.parts.pa.st s n ne.2.2.2.2.2.2⟩
theorem PlantAt.put_pa {q : Xb08.Parcel} {t : Addr} {ts : List Addr} (h : PlantAt g H R L p ks)(ht : H t = some (.tup (parT q))) (h1 : H L.pa = some (.lst (ts.map .ref))) (h2 : F2 (fun t (q : Xb08.Parcel) => H t = some (.tup (parT q))) ts p.parcels) : PlantAt g (upd H L.pa (.lst ((ts.map .ref) ++ [.ref t]))) R L { p with parcels := p.parcels ++ [q] } ks := by
  have n := NoT.lst h1
  have ne := PL.ne_pa h.nodup
  have mem : L.pa ∈ L.lists := by simp [PL.lists]
  have s := Sta.of_upd (H := H) (a := L.pa) (o := (.lst ((ts.map .ref) ++ [.ref t])))
  refine h.at_upd mem (.inl ⟨_, h1⟩) ⟨h.parts.kn.st s n ne.1, h.parts.le.st s n ne.2.1, h.parts.go.st s n ne.2.2.1, h.parts.ro.st s n ne.2.2.2.1, h.parts.ey.st s n ne.2.2.2.2.1, h.parts.pu.st s n ne.2.2.2.2.2.1, h.parts.ru.st s n ne.2.2.2.2.2.2 (fun b e => by rw [show b = L.pa from e]; exact mem), ⟨ts ++ [t], by rw [upd_same, List.map_append]; rfl, (h2.imp fun _ _ _ _ r => s.tup n r).snoc (s.tup n ht)⟩⟩
theorem kvsOf_snoc {ks : List KN} {ts : List Addr} {e : KN} {t : Addr} (h : ts.length = ks.length) : kvsOf (ks ++ [e]) (ts ++ [t]) = kvsOf ks ts ++ [(Sum.inr (S e.n), .ref t)] := by
  unfold kvsOf
  rw [List.zip_append h.symm, List.map_append]
  rfl
theorem PlantAt.put_kn {e : KN} {t : Addr} {ts : List Addr} (h : PlantAt g H R L p ks)(ht : H t = some (.tup [.int e.k, .int e.i])) (h1 : H L.kn = some (.dK (kvsOf ks ts))) (h2 : F2 (fun (t : Addr) (e : KN) => H t = some (.tup [.int e.k, .int e.i])) ts ks) : PlantAt g (upd H L.kn (.dK (kvsOf ks ts ++ [(Sum.inr (S e.n), .ref t)]))) R L p (ks ++ [e]) := by
  have n := NoT.dK h1
  have ne := PL.ne_kn h.nodup
  have mem : L.kn ∈ L.lists := by simp [PL.lists]
  have s := Sta.of_upd (H := H) (a := L.kn) (o := (.dK (kvsOf ks ts ++ [(Sum.inr (S e.n), .ref t)])))
  refine h.at_upd mem (.inr ⟨_, h1⟩) ⟨⟨ts ++ [t], by rw [upd_same, kvsOf_snoc h2.len], (h2.imp fun _ _ _ _ r => s.tup n r).snoc (s.tup n ht)⟩, h.parts.le.st s n ne.1, h.parts.go.st s n ne.2.1, h.parts.ro.st s n ne.2.2.1, h.parts.ey.st s n ne.2.2.2.1, h.parts.pu.st s n ne.2.2.2.2.1, h.parts.ru.st s n ne.2.2.2.2.2.1 (fun b e => by rw [show b = L.kn from e]; exact mem), h.parts.pa.st s n ne.2.2.2.2.2.2⟩
theorem GoV.st {A : Addr → Prop} {H H' : Hp} (s : Sta A H H') (n : NoT A H) {v : V} {gl : Option Xb08.Goal} (r : GoV H v gl) : GoV H' v gl := by
  cases gl with
  | none => exact r
  | some gl =>
    obtain ⟨t, e1, e2⟩ := r
    exact ⟨t, e1, s.tup n e2⟩
theorem PlantAt.put_be {n : W} {x : Nat} {gl : Option Xb08.Goal} {v : V} {vs : List V} (h : PlantAt g H R L p ks) (hv : GoV H v gl) (h1 : H L.go = some (.lst vs)) (h2 : F2 (fun v (b : Xb08.Belt) => GoV H v b.goal) vs p.belts) :
    PlantAt g (upd (upd H L.le (.lst ((p.belts.map fun b => V.int b.length) ++ [.int x]))) L.go (.lst (vs ++ [v]))) R L { p with belts := p.belts ++ [⟨n, x, gl⟩] } ks := by
  have ne := PL.ne h.nodup
  have e := PL.ne_go h.nodup
  have e2 := PL.ne_le h.nodup
  have s : Sta (fun b => b = L.le ∨ b = L.go) H (upd (upd H L.le (.lst ((p.belts.map fun b => V.int b.length) ++ [.int x]))) L.go (.lst (vs ++ [v]))) := fun b o nb hb => by
    rw [upd_ne (fun z => nb (.inr z)), upd_ne (fun z => nb (.inl z))]
    exact hb
  have nt : NoT (fun b => b = L.le ∨ b = L.go) H := fun b xs hb => by
    rcases hb with rfl | rfl
    · exact NoT.lst (show H L.le = _ from h.parts.le) _ xs rfl
    · exact NoT.lst h1 _ xs rfl
  obtain ⟨dx, hi⟩ := h.ins
  have m1 : L.le ∈ L.lists := by simp [PL.lists]
  have m2 : L.go ∈ L.lists := by simp [PL.lists]
  refine ⟨Same.upd (h.out _ (List.mem_cons_of_mem _ m2)) (Same.upd (h.out _ (List.mem_cons_of_mem _ m1)) h.same), h.out, h.nodup, ⟨dx, ?_⟩, ?_, ?_, ?_, ?_, ?_, ?_, ?_, ?_⟩
  · rw [upd_ne (h.pl_ne (.inl ⟨_, h1⟩)), upd_ne (h.pl_ne (.inl ⟨_, h.parts.le⟩))]
    exact hi
  · exact h.parts.kn.st s nt (by rintro (z | z); exact e2.1 z; exact e.1 z)
  · show upd _ _ _ _ = _
    rw [upd_ne e.2.1, upd_same, List.map_append]
    rfl
  · refine ⟨vs ++ [v], upd_same, (h2.imp fun _ _ _ _ r => r.st s nt).snoc (hv.st s nt)⟩
  · exact h.parts.ro.st s nt (by rintro (z | z); exact e2.2.2.1 z; exact e.2.2.1 z)
  · exact h.parts.ey.st s nt (by rintro (z | z); exact e2.2.2.2.1 z; exact e.2.2.2.1 z)
  · exact h.parts.pu.st s nt (by rintro (z | z); exact e2.2.2.2.2.1 z; exact e.2.2.2.2.1 z)
  · exact h.parts.ru.st s nt (by rintro (z | z); exact e2.2.2.2.2.2.1 z; exact e.2.2.2.2.2.1 z) (by rintro b (rfl | rfl); exact m1; exact m2)
  · exact h.parts.pa.st s nt (by rintro (z | z); exact e2.2.2.2.2.2.2 z; exact e.2.2.2.2.2.2 z)
theorem map_modify_goal (bs : List Xb08.Belt) (k : Nat) (gl : Xb08.Goal) : ((bs.modify k fun x => { x with goal := some gl }).map fun b => V.int b.length) = bs.map fun b => V.int b.length := by
  refine List.ext_getElem? fun i => ?_
  rw [List.getElem?_map, List.getElem?_map, List.getElem?_modify]
  cases bs[i]? with
  | none => rfl
  | some b =>
    by_cases e : k = i
    · simp [e]
    · simp [e]
theorem PlantAt.set_go {k : Nat} {gl : Xb08.Goal} {v : V} {vs : List V} (h : PlantAt g H R L p ks) (hv : GoV H v (some gl)) (h1 : H L.go = some (.lst vs)) (h2 : F2 (fun v (b : Xb08.Belt) => GoV H v b.goal) vs p.belts) :
    PlantAt g (upd H L.go (.lst (vs.set k v))) R L { p with belts := p.belts.modify k fun x => { x with goal := some gl } } ks := by
  have ne := PL.ne_go h.nodup
  have mem : L.go ∈ L.lists := by simp [PL.lists]
  have s := Sta.of_upd (H := H) (a := L.go) (o := .lst (vs.set k v))
  have n := NoT.lst h1
  refine h.at_upd mem (.inl ⟨_, h1⟩) ⟨h.parts.kn.st s n ne.1, ?_, ⟨_, upd_same, (h2.imp fun _ _ _ _ r => r.st s n).set fun b _ => hv.st s n⟩, h.parts.ro.st s n ne.2.2.1, h.parts.ey.st s n ne.2.2.2.1, h.parts.pu.st s n ne.2.2.2.2.1, h.parts.ru.st s n ne.2.2.2.2.2.1 (fun b e => by rw [show b = L.go from e]; exact mem), h.parts.pa.st s n ne.2.2.2.2.2.2⟩
  show upd _ _ _ _ = _
  rw [upd_ne ne.2.1, map_modify_goal]
  exact h.parts.le
theorem PlantAt.lists_some (h : PlantAt g H R L p ks) : ∀ a ∈ L.lists, H a ≠ none := by
  obtain ⟨ts1, h1, _⟩ := h.parts.kn
  have h2 : H L.le = _ := h.parts.le
  obtain ⟨ts3, h3, _⟩ := h.parts.go
  have h4 : H L.ro = _ := h.parts.ro
  obtain ⟨ts5, h5, _⟩ := h.parts.ey
  obtain ⟨ts6, h6, _⟩ := h.parts.pu
  obtain ⟨ts7, h7, _⟩ := h.parts.ru
  obtain ⟨ts8, h8, _⟩ := h.parts.pa
  intro a ha
  simp only [PL.lists, List.mem_cons, List.not_mem_nil, or_false] at ha
  rcases ha with rfl | rfl | rfl | rfl | rfl | rfl | rfl | rfl
  · rw [h1]; intro z; cases z
  · rw [h2]; intro z; cases z
  · rw [h3]; intro z; cases z
  · rw [h4]; intro z; cases z
  · rw [h5]; intro z; cases z
  · rw [h6]; intro z; cases z
  · rw [h7]; intro z; cases z
  · rw [h8]; intro z; cases z
end
end Tote
/-! # plants.py -/
namespace Tote
open PySem PySem.Spec PyProof.Rows L2 Tq
open SX (S S_inj S_len S_cat)
variable {g : GG}
theorem fm_bind {α β : Type} (f : α → Option β) (l : List α) : (List.range l.length).filterMap (fun i => (l[i]?).bind f) = l.filterMap f := by
  have h : ∀ n, n ≤ l.length → (List.range n).filterMap (fun i => (l[i]?).bind f) = (l.take n).filterMap f := by
    intro n
    induction n with
    | zero => intro _; rfl
    | succ n ih =>
      intro hn
      rw [range_fm, ih (by omega), List.take_add_one, List.filterMap_append]
      congr 1
      cases l[n]? with
      | none => rfl
      | some x =>
        show (f x).toList = List.filterMap f [x]
        cases h : f x <;> simp [h]
  have := h l.length (Nat.le_refl _)
  rwa [List.take_length] at this
def cnt (k : Nat) (ks : List KN) : Nat := (ks.filter fun e => decide (e.k = k)).length
theorem fm_len {α : Type} (p : α → Bool) (f : α → V) (l : List α) : (l.filterMap fun x => if p x = true then some (f x) else none).length = (l.filter p).length := by
  induction l with
  | nil => rfl
  | cons x l ih =>
    rw [List.filterMap_cons, List.filter_cons]
    cases h : p x with
    | true => simp [ih]
    | false => simp [ih]
theorem kvs_at {ks : List KN} {ts : List Addr} {i : Nat} {q : Key × V} (hl : ts.length = ks.length) (h : (kvsOf ks ts)[i]? = some q) : ∃ e t, ks[i]? = some e ∧ ts[i]? = some t ∧ q = (Sum.inr (S e.n), .ref t) := by
  unfold kvsOf at h
  rw [List.getElem?_map] at h
  cases hz : (ks.zip ts)[i]? with
  | none => rw [hz] at h; cases h
  | some z =>
    rw [hz] at h
    cases h
    rw [List.getElem?_zip_eq_some] at hz
    exact ⟨z.1, z.2, hz.1, hz.2, rfl⟩
theorem kvs_len {ks : List KN} {ts : List Addr} (hl : ts.length = ks.length) : (kvsOf ks ts).length = ks.length := by
  unfold kvsOf
  rw [List.length_map, List.length_zip, hl, Nat.min_self]
def sp_Plant_how_many (g : GG) : Sp := fun vs H Q _ => ∃ (R : Hp) (L : PL) (p : Xb08.Plant) (ks : List KN) (k : Nat), vs = [.ref L.pl, .int k] ∧ PlantAt g H R L p ks ∧ ks.length ≤ 1000 ∧ ∀ H', Same H H' → Q (.int (cnt k ks)) H'
theorem ok_Plant_how_many (T : Tx g) : Mt CX0 g 1 "Plant" "how_many" ["self", "kind"] (sp_Plant_how_many g) := by
  refine mt0 (k := 0) T.cl_Plant T.me_Plant_how_many T.df_Plant_how_many sc_Plant_how_many (fun _ _ _ _ _ _ us hl => match us, hl with | [_, _], _ => rfl) ?_ ?_
  · rintro vs H Q E ⟨R, L, p, ks, k, rfl, _⟩
    rfl
  · rintro cdv A outer s H vs Q E hr ⟨R, L, p, ks, k, rfl, hp, hk, q⟩
    refine ⟨_, (pss_one (ps_ret (pe_callB call_lenS (by rfl) T.fr_len bt_len (pa_cons (pe_lock (pe_lc (own := [("own", 2), ("number", 3)]) (g := (gTup g.K 2 (gCons (gName 2) (gCons (gName 3) gNil)))) (tt := (tTest (tOp rEq (tVar 2) (tVar 1)))) (te := (tVar 2)) rfl sc_Plant_how_many.nd (pi_values (pe_fc T.cl_Plant T.na_Plant_known (pv 0))) (blkOk_by (N := ["self", "kind", "own", "number"]) (sc := defScope s_Plant_how_many) (by decide +kernel)) (fun _ _ _ _ _ => by exact (pg_tup rfl (pgs_cons (pg_name (i := 2) sc_Plant_how_many.nd rfl (.inl rfl)) (pgs_cons (pg_name (i := 3) sc_Plant_how_many.nd rfl (.inl rfl)) pgs_nil)))) (fun _ _ _ _ _ => by exact pts_one (pt_cmpR op_eq (pv 2) (pv 1) (nomark _))) (fun _ _ _ _ _ => by exact (pv 2)))) pa_nil)))), ?_⟩
    obtain ⟨dx, hi⟩ := hp.ins
    obtain ⟨ts, h1, h2⟩ := hp.parts.kn
    have hne : L.pl ≠ L.kn := hp.pl_ne (.inr ⟨_, h1⟩)
    refine ⟨L.kn, _, h1, trivial, fun od => ⟨_, rfl, L.pl, dx, _, _, rfl, by rw [upd_ne hne]; exact hi, rfl, L.kn, od, _, rfl, upd_same, fun D hD => ?_⟩⟩
    have hDk : D ≠ L.kn := fun e => by
      rw [e, upd_same] at hD
      cases hD
    refine lc_fm walk_values (fun i => (ks[i]?).bind fun e => if decide (e.k = k) = true then some (V.int e.k) else none) hD (by rw [kvs_len h2.len]; omega) (fun H' s => s _ _ upd_same) ?_ ?_
    · rintro i x H1 H' Qk Qn hi' s1 ⟨rfl, ky, ex⟩ hk' hn
      obtain ⟨e, t, he, ht, eq⟩ := kvs_at h2.len ex
      cases eq
      have htup : H' t = some (.tup [.int e.k, .int e.i]) := by
        have z := h2.at_ i t e ht he
        refine s1 _ _ ?_
        rw [upd_ne (fun w => by rw [w, h1] at z; cases z)]
        exact z
      refine ⟨t, _, rfl, .inl (.inl htup), rfl, _, _, rfl, _, _, rfl, rfl, rfl, ?_⟩
      simp only [rIxD, gSub, rSetL, sDPut, tDGet, tDIn, tDNotIn, wipe, rLenS, tBM, rAppend, rExtend, rIn, cx_K, rIxS, rIxL, rIxT, tRet, tIfS, tTest, tChain, rI, rI0, rU, tC, tVar, tOp, tUn, tCB, tCons, tNil, tSeq, tNext, tB, tNot, tAnd, tOr, tAndV, tOrV, tNotV, tFc, sFc, sFcA, tMt, tCl, tNw, tLst, tTup, tDrop, tAsg, tPar, gName, gCons, gNil, tR1, rEq, rNe, rAdd, rSub, tAug, ipI, L2.start, List.map, List.length, List.replicate, List.append, List.set, exists_eq_left', exists_eq_left, exists_eq_right, exists_eq_right', exists_and_left, exists_and_right, exists_eq, exists_eq', Option.some.injEq, List.getElem?_cons_zero, List.getElem?_cons_succ, V.bl.injEq, V.int.injEq, V.str.injEq, V.ref.injEq, List.cons_append, List.nil_append, List.cons.injEq, HO.ins.injEq, HO.lst.injEq, HO.tup.injEq, true_and, and_true, decide_eq_true_eq, Bool.false_eq_true, ↓reduceIte, Bool.not_true, Bool.not_false, Bool.not_eq_true', decide_eq_false_iff_not, List.set_cons_zero, List.set_cons_succ, and_assoc, scal, dec_int, dec_str, forall_const, implies_true]
      rw [he] at hk' hn
      by_cases ek : e.k = k
      · rw [if_pos (by omega)]
        exact hk' _ _ (.refl _) (by simp [ek])
      · rw [if_neg (by omega)]
        exact hn _ (.refl _) (by simp [ek])
    · intro H' s1 hD'
      have hkn : H' L.kn = some (.frz od (.dK (kvsOf ks ts))) := s1 _ _ upd_same
      refine ⟨hkn, ?_⟩
      rw [kvs_len h2.len, fm_bind] at hD'
      refine ⟨D, _, rfl, .inl (.inl (.inl (by rw [upd_ne hDk]; exact hD'))), ?_⟩
      rw [fm_len]
      refine q _ fun b o hb => ?_
      by_cases e : b = L.kn
      · subst e
        rw [h1] at hb
        rw [upd_same]
        exact hb
      · rw [upd_ne e]
        exact s1 b o (by rw [upd_ne e]; exact hb)
theorem ixN_nat {n k : Nat} (h : k < n) : ixN n (k : Int) = some k := by
  unfold ixN
  rw [if_pos (by omega), if_pos (by omega)]
  rfl
theorem putK_new {ks : List KN} {ts : List Addr} {n : W} {v : V} (h : ∀ e ∈ ks, e.n ≠ n) : putK (kvsOf ks ts) (Sum.inr (S n)) v = kvsOf ks ts ++ [(Sum.inr (S n), v)] := by
  unfold putK
  rw [if_neg]
  intro hn
  rw [List.any_eq_true] at hn
  obtain ⟨q, hq, he⟩ := hn
  unfold kvsOf at hq
  obtain ⟨z, hz, rfl⟩ := List.mem_map.mp hq
  have e := of_decide_eq_true he
  exact h z.1 (List.of_mem_zip hz).1 (S_inj (Sum.inr.inj e))
/-- tuples stay -/
def Tups (H H' : Hp) : Prop := ∀ t xs, H t = some (.tup xs) → H' t = some (.tup xs)
theorem GoV.tups {H H' : Hp} (s : Tups H H') {v : V} {gl : Option Xb08.Goal} (r : GoV H v gl) : GoV H' v gl := by
  cases gl with
  | none => exact r
  | some gl =>
    obtain ⟨t, e1, e2⟩ := r
    exact ⟨t, e1, s _ _ e2⟩
def sp_Plant_put_name (g : GG) : Sp := fun vs H Q _ => ∃ (R : Hp) (L : PL) (p : Xb08.Plant) (ks : List KN) (k : Nat) (n : W), vs = [.ref L.pl, .int k, wV n] ∧ PlantAt g H R L p ks ∧ ks.length ≤ 999 ∧ (∀ e ∈ ks, e.n ≠ n) ∧
  ∀ H', PlantAt g H' R L p (ks ++ [⟨n, k, cnt k ks⟩]) → Tups H H' → Q .non H'
theorem ok_Plant_put_name (T : Tx g) : Mt CX0 g 2 "Plant" "put_name" ["self", "kind", "name"] (sp_Plant_put_name g) := by
  refine mt0 (k := 1) T.cl_Plant T.me_Plant_put_name T.df_Plant_put_name sc_Plant_put_name (fun _ _ _ _ _ _ us hl => match us, hl with | [_, _, _], _ => rfl) ?_ ?_
  · rintro vs H Q E ⟨R, L, p, ks, k, n, rfl, _⟩
    rfl
  · rintro cdv A outer s H vs Q E hr ⟨R, L, p, ks, k, n, rfl, hp, hk, hn, q⟩
    refine ⟨_, (pss_one (ps_dput (hu_of hr) (pe_fc T.cl_Plant T.na_Plant_known (pv 0)) (pv 2) (pe_tup (pa_cons (pv 1) (pa_cons (pe_mt (ok_Plant_how_many T) hr (by decide) (pv 0) (pa_cons (pv 1) pa_nil)) pa_nil))) rfl)), ?_⟩
    obtain ⟨dx, hi⟩ := hp.ins
    simp only [rIxD, gSub, rSetL, sDPut, tDGet, tDIn, tDNotIn, wipe, rLenS, tBM, rAppend, rExtend, rIn, cx_K, rIxS, rIxL, rIxT, tRet, tIfS, tTest, tChain, rI, rI0, rU, tC, tVar, tOp, tUn, tCB, tCons, tNil, tSeq, tNext, tB, tNot, tAnd, tOr, tAndV, tOrV, tNotV, tFc, sFc, sFcA, tMt, tCl, tNw, tLst, tTup, tDrop, tAsg, tPar, gName, gCons, gNil, tR1, rEq, rNe, rAdd, rSub, tAug, ipI, L2.start, List.map, List.length, List.replicate, List.append, List.set, exists_eq_left', exists_eq_left, exists_eq_right, exists_eq_right', exists_and_left, exists_and_right, exists_eq, exists_eq', Option.some.injEq, List.getElem?_cons_zero, List.getElem?_cons_succ, V.bl.injEq, V.int.injEq, V.str.injEq, V.ref.injEq, List.cons_append, List.nil_append, List.cons.injEq, HO.ins.injEq, HO.lst.injEq, HO.tup.injEq, true_and, and_true, decide_eq_true_eq, Bool.false_eq_true, ↓reduceIte, Bool.not_true, Bool.not_false, Bool.not_eq_true', decide_eq_false_iff_not, List.set_cons_zero, List.set_cons_succ, and_assoc, scal, dec_int, dec_str, forall_const, implies_true, hi, PL.fs, plF_get]
    refine ⟨R, L, p, ks, k, rfl, hp, by omega, fun H1 s1 => ⟨by decide, fun t ht => ?_⟩⟩
    have s2 := s1.trans (Same.new (o := .tup [.int k, .int (cnt k ks)]) ht)
    have hp2 := hp.mono s2
    obtain ⟨ts, h1, h2⟩ := hp2.parts.kn
    refine ⟨_, _, s2 _ _ hi, _, rfl, L.kn, rfl, _, DPut.k (k := Sum.inr (S n)) h1 (by rw [kvs_len h2.len]; exact line_of' (by omega)), ?_⟩
    rw [putK_new hn]
    refine q _ (hp2.put_kn (e := ⟨n, k, cnt k ks⟩) upd_same h1 h2) fun t' xs h => ?_
    have h3 := s2 _ _ h
    rw [upd_ne (ne_of h3 h1 (by intro z; cases z))]
    exact h3
def sp_Plant_put_chute (g : GG) : Sp := fun vs H Q _ => ∃ (R : Hp) (L : PL) (p : Xb08.Plant) (ks : List KN) (r : Nat) (n : W), vs = [.ref L.pl, wV n, .int r] ∧ PlantAt g H R L p ks ∧ ks.length ≤ 999 ∧ (∀ e ∈ ks, e.n ≠ n) ∧ p.chutes.length ≤ 1000 ∧
  ∀ H', PlantAt g H' R L { p with chutes := p.chutes ++ [⟨n, r⟩] } (ks ++ [⟨n, 2, cnt 2 ks⟩]) → Q .non H'
theorem ok_Plant_put_chute (T : Tx g) : Mt CX0 g 3 "Plant" "put_chute" ["self", "name", "room"] (sp_Plant_put_chute g) := by
  refine mt0 (k := 2) T.cl_Plant T.me_Plant_put_chute T.df_Plant_put_chute sc_Plant_put_chute (fun _ _ _ _ _ _ us hl => match us, hl with | [_, _, _], _ => rfl) ?_ ?_
  · rintro vs H Q E ⟨R, L, p, ks, r, n, rfl, _⟩
    rfl
  · rintro cdv A outer s H vs Q E hr ⟨R, L, p, ks, r, n, rfl, hp, hk, hn, hc, q⟩
    refine ⟨_, (pss_cons (ps_expr (pe_mt (ok_Plant_put_name T) hr (by decide) (pv 0) (pa_cons (C8.pe_gc rfl T.in_CHUTE) (pa_cons (pv 1) pa_nil)))) (pss_one (ps_expr (pe_bm PySem.F.plainAttrs_list PySem.F.slot_list_append PySem.F.type_list_append mt_append (pe_fc T.cl_Plant T.na_Plant_rooms (pv 0)) (pa_cons (pv 2) pa_nil))))), ?_⟩
    obtain ⟨dx, hi⟩ := hp.ins
    simp only [rIxD, gSub, rSetL, sDPut, tDGet, tDIn, tDNotIn, wipe, rLenS, tBM, rAppend, rExtend, rIn, cx_K, rIxS, rIxL, rIxT, tRet, tIfS, tTest, tChain, rI, rI0, rU, tC, tVar, tOp, tUn, tCB, tCons, tNil, tSeq, tNext, tB, tNot, tAnd, tOr, tAndV, tOrV, tNotV, tFc, sFc, sFcA, tMt, tCl, tNw, tLst, tTup, tDrop, tAsg, tPar, gName, gCons, gNil, tR1, rEq, rNe, rAdd, rSub, tAug, ipI, L2.start, List.map, List.length, List.replicate, List.append, List.set, exists_eq_left', exists_eq_left, exists_eq_right, exists_eq_right', exists_and_left, exists_and_right, exists_eq, exists_eq', Option.some.injEq, List.getElem?_cons_zero, List.getElem?_cons_succ, V.bl.injEq, V.int.injEq, V.str.injEq, V.ref.injEq, List.cons_append, List.nil_append, List.cons.injEq, HO.ins.injEq, HO.lst.injEq, HO.tup.injEq, true_and, and_true, decide_eq_true_eq, Bool.false_eq_true, ↓reduceIte, Bool.not_true, Bool.not_false, Bool.not_eq_true', decide_eq_false_iff_not, List.set_cons_zero, List.set_cons_succ, and_assoc, scal, dec_int, dec_str, forall_const, implies_true, hi, PL.fs, plF_get]
    refine ⟨R, L, p, ks, 2, n, rfl, hp, hk, hn, fun H1 h1 tu => ?_⟩
    obtain ⟨dx1, hi1⟩ := h1.ins
    refine ⟨_, _, hi1, _, rfl, .inl ⟨rfl, _, .inl (.inl h1.parts.ro)⟩, L.ro, rfl, _, h1.parts.ro, by rw [List.length_map]; exact line_of' (by omega), ?_⟩
    exact q _ h1.put_ro
def sp_Plant_put_belt (g : GG) : Sp := fun vs H Q _ => ∃ (R : Hp) (L : PL) (p : Xb08.Plant) (ks : List KN) (x : Nat) (n : W) (gl : Option Xb08.Goal) (v : V), vs = [.ref L.pl, wV n, .int x, v] ∧ PlantAt g H R L p ks ∧ GoV H v gl ∧ ks.length ≤ 999 ∧ (∀ e ∈ ks, e.n ≠ n) ∧ p.belts.length ≤ 1000 ∧
  ∀ H', PlantAt g H' R L { p with belts := p.belts ++ [⟨n, x, gl⟩] } (ks ++ [⟨n, 1, cnt 1 ks⟩]) → Q .non H'
theorem ok_Plant_put_belt (T : Tx g) : Mt CX0 g 3 "Plant" "put_belt" ["self", "name", "length", "goal"] (sp_Plant_put_belt g) := by
  refine mt0 (k := 2) T.cl_Plant T.me_Plant_put_belt T.df_Plant_put_belt sc_Plant_put_belt (fun _ _ _ _ _ _ us hl => match us, hl with | [_, _, _, _], _ => rfl) ?_ ?_
  · rintro vs H Q E ⟨R, L, p, ks, x, n, gl, v, rfl, _⟩
    rfl
  · rintro cdv A outer s H vs Q E hr ⟨R, L, p, ks, x, n, gl, v, rfl, hp, hv, hk, hn, hc, q⟩
    refine ⟨_, (pss_cons (ps_expr (pe_mt (ok_Plant_put_name T) hr (by decide) (pv 0) (pa_cons (C8.pe_gc rfl T.in_BELT) (pa_cons (pv 1) pa_nil)))) (pss_cons (ps_expr (pe_bm PySem.F.plainAttrs_list PySem.F.slot_list_append PySem.F.type_list_append mt_append (pe_fc T.cl_Plant T.na_Plant_lengths (pv 0)) (pa_cons (pv 2) pa_nil))) (pss_one (ps_expr (pe_bm PySem.F.plainAttrs_list PySem.F.slot_list_append PySem.F.type_list_append mt_append (pe_fc T.cl_Plant T.na_Plant_goals (pv 0)) (pa_cons (pv 3) pa_nil)))))), ?_⟩
    obtain ⟨dx, hi⟩ := hp.ins
    simp only [rIxD, gSub, rSetL, sDPut, tDGet, tDIn, tDNotIn, wipe, rLenS, tBM, rAppend, rExtend, rIn, cx_K, rIxS, rIxL, rIxT, tRet, tIfS, tTest, tChain, rI, rI0, rU, tC, tVar, tOp, tUn, tCB, tCons, tNil, tSeq, tNext, tB, tNot, tAnd, tOr, tAndV, tOrV, tNotV, tFc, sFc, sFcA, tMt, tCl, tNw, tLst, tTup, tDrop, tAsg, tPar, gName, gCons, gNil, tR1, rEq, rNe, rAdd, rSub, tAug, ipI, L2.start, List.map, List.length, List.replicate, List.append, List.set, exists_eq_left', exists_eq_left, exists_eq_right, exists_eq_right', exists_and_left, exists_and_right, exists_eq, exists_eq', Option.some.injEq, List.getElem?_cons_zero, List.getElem?_cons_succ, V.bl.injEq, V.int.injEq, V.str.injEq, V.ref.injEq, List.cons_append, List.nil_append, List.cons.injEq, HO.ins.injEq, HO.lst.injEq, HO.tup.injEq, true_and, and_true, decide_eq_true_eq, Bool.false_eq_true, ↓reduceIte, Bool.not_true, Bool.not_false, Bool.not_eq_true', decide_eq_false_iff_not, List.set_cons_zero, List.set_cons_succ, and_assoc, scal, dec_int, dec_str, forall_const, implies_true, hi, PL.fs, plF_get]
    refine ⟨R, L, p, ks, 1, n, rfl, hp, hk, hn, fun H1 h1 tu => ?_⟩
    obtain ⟨dx1, hi1⟩ := h1.ins
    obtain ⟨vs, hg1, hg2⟩ := h1.parts.go
    have ne := PL.ne_le h1.nodup
    have pn := h1.pl_ne (.inl ⟨_, h1.parts.le⟩)
    have hg3 : upd H1 L.le (.lst ((p.belts.map fun b => V.int b.length) ++ [.int x])) L.go = some (.lst vs) := by
      rw [upd_ne ne.2.1]
      exact hg1
    refine ⟨_, _, hi1, _, rfl, .inl ⟨rfl, _, .inl (.inl h1.parts.le)⟩, L.le, rfl, _, h1.parts.le, by rw [List.length_map]; exact line_of' (by omega), _, _, by rw [upd_ne pn]; exact hi1, .ref L.go, rfl, .inl ⟨rfl, _, .inl (.inl hg3)⟩, L.go, rfl, _, hg3, by rw [hg2.len]; exact line_of' (by omega), ?_⟩
    exact q _ (h1.put_be (hv.tups tu) hg1 hg2)
def sp_Plant_set_goal (g : GG) : Sp := fun vs H Q _ => ∃ (R : Hp) (L : PL) (p : Xb08.Plant) (ks : List KN) (k : Nat) (gl : Xb08.Goal) (v : V), vs = [.ref L.pl, .int k, v] ∧ PlantAt g H R L p ks ∧ GoV H v (some gl) ∧ k < p.belts.length ∧
  ∀ H', PlantAt g H' R L { p with belts := p.belts.modify k fun x => { x with goal := some gl } } ks → Q .non H'
theorem ok_Plant_set_goal (T : Tx g) : Mt CX0 g 1 "Plant" "set_goal" ["self", "belt", "goal"] (sp_Plant_set_goal g) := by
  refine mt0 (k := 0) T.cl_Plant T.me_Plant_set_goal T.df_Plant_set_goal sc_Plant_set_goal (fun _ _ _ _ _ _ us hl => match us, hl with | [_, _, _], _ => rfl) ?_ ?_
  · rintro vs H Q E ⟨R, L, p, ks, k, gl, v, rfl, _⟩
    rfl
  · rintro cdv A outer s H vs Q E hr ⟨R, L, p, ks, k, gl, v, rfl, hp, hv, hk, q⟩
    refine ⟨_, (pss_one (ps_asg (pv 2) (pg_sub (pe_fc T.cl_Plant T.na_Plant_goals (pv 0)) (pv 1) set_list))), ?_⟩
    obtain ⟨dx, hi⟩ := hp.ins
    obtain ⟨vs, hg1, hg2⟩ := hp.parts.go
    simp only [rIxD, gSub, rSetL, sDPut, tDGet, tDIn, tDNotIn, wipe, rLenS, tBM, rAppend, rExtend, rIn, cx_K, rIxS, rIxL, rIxT, tRet, tIfS, tTest, tChain, rI, rI0, rU, tC, tVar, tOp, tUn, tCB, tCons, tNil, tSeq, tNext, tB, tNot, tAnd, tOr, tAndV, tOrV, tNotV, tFc, sFc, sFcA, tMt, tCl, tNw, tLst, tTup, tDrop, tAsg, tPar, gName, gCons, gNil, tR1, rEq, rNe, rAdd, rSub, tAug, ipI, L2.start, List.map, List.length, List.replicate, List.append, List.set, exists_eq_left', exists_eq_left, exists_eq_right, exists_eq_right', exists_and_left, exists_and_right, exists_eq, exists_eq', Option.some.injEq, List.getElem?_cons_zero, List.getElem?_cons_succ, V.bl.injEq, V.int.injEq, V.str.injEq, V.ref.injEq, List.cons_append, List.nil_append, List.cons.injEq, HO.ins.injEq, HO.lst.injEq, HO.tup.injEq, true_and, and_true, decide_eq_true_eq, Bool.false_eq_true, ↓reduceIte, Bool.not_true, Bool.not_false, Bool.not_eq_true', decide_eq_false_iff_not, List.set_cons_zero, List.set_cons_succ, and_assoc, scal, dec_int, dec_str, forall_const, implies_true, hi, PL.fs, plF_get]
    exact ⟨_, hg1, k, ixN_nat (by rw [hg2.len]; exact hk), q _ (hp.set_go hv hg1 hg2)⟩
def sp_Plant_put_eye (g : GG) : Sp := fun vs H Q _ => ∃ (R : Hp) (L : PL) (p : Xb08.Plant) (ks : List KN) (n : W) (b x : Nat), vs = [.ref L.pl, wV n, .int b, .int x] ∧ PlantAt g H R L p ks ∧ ks.length ≤ 999 ∧ (∀ e ∈ ks, e.n ≠ n) ∧ p.sensors.length ≤ 1000 ∧
  ∀ H', PlantAt g H' R L { p with sensors := p.sensors ++ [⟨n, b, x⟩] } (ks ++ [⟨n, 3, cnt 3 ks⟩]) → Q .non H'
theorem ok_Plant_put_eye (T : Tx g) : Mt CX0 g 3 "Plant" "put_eye" ["self", "name", "belt", "position"] (sp_Plant_put_eye g) := by
  refine mt0 (k := 2) T.cl_Plant T.me_Plant_put_eye T.df_Plant_put_eye sc_Plant_put_eye (fun _ _ _ _ _ _ us hl => match us, hl with | [_, _, _, _], _ => rfl) ?_ ?_
  · rintro vs H Q E ⟨R, L, p, ks, n, b, x, rfl, _⟩
    rfl
  · rintro cdv A outer s H vs Q E hr ⟨R, L, p, ks, n, b, x, rfl, hp, hk, hn, hc, q⟩
    refine ⟨_, (pss_cons (ps_expr (pe_mt (ok_Plant_put_name T) hr (by decide) (pv 0) (pa_cons (C8.pe_gc rfl T.in_EYE) (pa_cons (pv 1) pa_nil)))) (pss_one (ps_expr (pe_bm PySem.F.plainAttrs_list PySem.F.slot_list_append PySem.F.type_list_append mt_append (pe_fc T.cl_Plant T.na_Plant_eyes (pv 0)) (pa_cons (pe_tup (pa_cons (pv 2) (pa_cons (pv 3) pa_nil))) pa_nil))))), ?_⟩
    obtain ⟨dx, hi⟩ := hp.ins
    simp only [rIxD, gSub, rSetL, sDPut, tDGet, tDIn, tDNotIn, wipe, rLenS, tBM, rAppend, rExtend, rIn, cx_K, rIxS, rIxL, rIxT, tRet, tIfS, tTest, tChain, rI, rI0, rU, tC, tVar, tOp, tUn, tCB, tCons, tNil, tSeq, tNext, tB, tNot, tAnd, tOr, tAndV, tOrV, tNotV, tFc, sFc, sFcA, tMt, tCl, tNw, tLst, tTup, tDrop, tAsg, tPar, gName, gCons, gNil, tR1, rEq, rNe, rAdd, rSub, tAug, ipI, L2.start, List.map, List.length, List.replicate, List.append, List.set, exists_eq_left', exists_eq_left, exists_eq_right, exists_eq_right', exists_and_left, exists_and_right, exists_eq, exists_eq', Option.some.injEq, List.getElem?_cons_zero, List.getElem?_cons_succ, V.bl.injEq, V.int.injEq, V.str.injEq, V.ref.injEq, List.cons_append, List.nil_append, List.cons.injEq, HO.ins.injEq, HO.lst.injEq, HO.tup.injEq, true_and, and_true, decide_eq_true_eq, Bool.false_eq_true, ↓reduceIte, Bool.not_true, Bool.not_false, Bool.not_eq_true', decide_eq_false_iff_not, List.set_cons_zero, List.set_cons_succ, and_assoc, scal, dec_int, dec_str, forall_const, implies_true, hi, PL.fs, plF_get]
    refine ⟨R, L, p, ks, 3, n, rfl, hp, hk, hn, fun H1 h1 tu => ?_⟩
    obtain ⟨dx1, hi1⟩ := h1.ins
    obtain ⟨ts, he1, he2⟩ := h1.parts.ey
    refine ⟨_, _, hi1, _, rfl, .inl ⟨rfl, _, .inl (.inl he1)⟩, by decide, fun t ht => ?_⟩
    have h2 := h1.mono (Same.new (o := .tup [.int b, .int x]) ht)
    have s2 := Same.new (o := .tup [.int b, .int x]) ht
    refine ⟨L.ey, rfl, _, s2 _ _ he1, by rw [List.length_map, he2.len]; exact line_of' (by omega), ?_⟩
    exact q _ (h2.put_ey upd_same (s2 _ _ he1) (he2.imp fun _ _ _ _ r => s2 _ _ r))
def sp_Plant_put_pusher (g : GG) : Sp := fun vs H Q _ => ∃ (R : Hp) (L : PL) (p : Xb08.Plant) (ks : List KN) (n : W) (b x : Nat) (gl : Xb08.Goal) (v : V), vs = [.ref L.pl, wV n, .int b, .int x, v] ∧ PlantAt g H R L p ks ∧ GoV H v (some gl) ∧ ks.length ≤ 999 ∧ (∀ e ∈ ks, e.n ≠ n) ∧ p.pushers.length ≤ 1000 ∧
  ∀ H', PlantAt g H' R L { p with pushers := p.pushers ++ [⟨n, b, x, gl⟩] } (ks ++ [⟨n, 4, cnt 4 ks⟩]) → Q .non H'
theorem ok_Plant_put_pusher (T : Tx g) : Mt CX0 g 3 "Plant" "put_pusher" ["self", "name", "belt", "position", "goal"] (sp_Plant_put_pusher g) := by
  refine mt0 (k := 2) T.cl_Plant T.me_Plant_put_pusher T.df_Plant_put_pusher sc_Plant_put_pusher (fun _ _ _ _ _ _ us hl => match us, hl with | [_, _, _, _, _], _ => rfl) ?_ ?_
  · rintro vs H Q E ⟨R, L, p, ks, n, b, x, gl, v, rfl, _⟩
    rfl
  · rintro cdv A outer s H vs Q E hr ⟨R, L, p, ks, n, b, x, gl, v, rfl, hp, ⟨t0, rfl, ht0⟩, hk, hn, hc, q⟩
    refine ⟨_, (pss_cons (ps_expr (pe_mt (ok_Plant_put_name T) hr (by decide) (pv 0) (pa_cons (C8.pe_gc rfl T.in_PUSHER) (pa_cons (pv 1) pa_nil)))) (pss_one (ps_expr (pe_bm PySem.F.plainAttrs_list PySem.F.slot_list_append PySem.F.type_list_append mt_append (pe_fc T.cl_Plant T.na_Plant_pushers (pv 0)) (pa_cons (pe_tup (pa_cons (pv 2) (pa_cons (pv 3) (pa_cons (pv 4) pa_nil)))) pa_nil))))), ?_⟩
    obtain ⟨dx, hi⟩ := hp.ins
    simp only [rIxD, gSub, rSetL, sDPut, tDGet, tDIn, tDNotIn, wipe, rLenS, tBM, rAppend, rExtend, rIn, cx_K, rIxS, rIxL, rIxT, tRet, tIfS, tTest, tChain, rI, rI0, rU, tC, tVar, tOp, tUn, tCB, tCons, tNil, tSeq, tNext, tB, tNot, tAnd, tOr, tAndV, tOrV, tNotV, tFc, sFc, sFcA, tMt, tCl, tNw, tLst, tTup, tDrop, tAsg, tPar, gName, gCons, gNil, tR1, rEq, rNe, rAdd, rSub, tAug, ipI, L2.start, List.map, List.length, List.replicate, List.append, List.set, exists_eq_left', exists_eq_left, exists_eq_right, exists_eq_right', exists_and_left, exists_and_right, exists_eq, exists_eq', Option.some.injEq, List.getElem?_cons_zero, List.getElem?_cons_succ, V.bl.injEq, V.int.injEq, V.str.injEq, V.ref.injEq, List.cons_append, List.nil_append, List.cons.injEq, HO.ins.injEq, HO.lst.injEq, HO.tup.injEq, true_and, and_true, decide_eq_true_eq, Bool.false_eq_true, ↓reduceIte, Bool.not_true, Bool.not_false, Bool.not_eq_true', decide_eq_false_iff_not, List.set_cons_zero, List.set_cons_succ, and_assoc, scal, dec_int, dec_str, forall_const, implies_true, hi, PL.fs, plF_get]
    refine ⟨R, L, p, ks, 4, n, rfl, hp, hk, hn, fun H1 h1 tu => ?_⟩
    obtain ⟨dx1, hi1⟩ := h1.ins
    obtain ⟨ts, he1, he2⟩ := h1.parts.pu
    refine ⟨_, _, hi1, _, rfl, .inl ⟨rfl, _, .inl (.inl he1)⟩, by decide, fun t ht => ?_⟩
    have s2 := Same.new (o := .tup [.int b, .int x, .ref t0]) ht
    have h2 := h1.mono s2
    refine ⟨L.pu, rfl, _, s2 _ _ he1, by rw [List.length_map, he2.len]; exact line_of' (by omega), ?_⟩
    exact q _ (h2.put_pu upd_same (s2 _ _ (tu _ _ ht0)) (s2 _ _ he1) (he2.imp fun _ _ _ _ r => by obtain ⟨t3, r1, r2⟩ := r; exact ⟨t3, s2 _ _ r1, s2 _ _ r2⟩))
def sp_Plant_put_rule (g : GG) : Sp := fun vs H Q _ => ∃ (R : Hp) (L : PL) (p : Xb08.Plant) (ks : List KN) (t l : Addr) (e u d : Nat) (cs : List Xb08.Cond), vs = [.ref L.pl, .ref t] ∧ PlantAt g H R L p ks ∧ H t = some (.tup [.int e, .ref l, .int u, .int d]) ∧ l ∉ L.lists ∧ TmAt H l cs ∧ p.rules.length ≤ 1000 ∧
  ∀ H', PlantAt g H' R L { p with rules := p.rules ++ [⟨e, cs, u, d⟩] } ks → Q .non H'
theorem ok_Plant_put_rule (T : Tx g) : Mt CX0 g 1 "Plant" "put_rule" ["self", "rule"] (sp_Plant_put_rule g) := by
  refine mt0 (k := 0) T.cl_Plant T.me_Plant_put_rule T.df_Plant_put_rule sc_Plant_put_rule (fun _ _ _ _ _ _ us hl => match us, hl with | [_, _], _ => rfl) ?_ ?_
  · rintro vs H Q E ⟨R, L, p, ks, t, l, e, u, d, cs, rfl, _⟩
    rfl
  · rintro cdv A outer s H vs Q E hr ⟨R, L, p, ks, t, l, e, u, d, cs, rfl, hp, ht, hl, hc, hn, q⟩
    refine ⟨_, (pss_one (ps_expr (pe_bm PySem.F.plainAttrs_list PySem.F.slot_list_append PySem.F.type_list_append mt_append (pe_fc T.cl_Plant T.na_Plant_rules (pv 0)) (pa_cons (pv 1) pa_nil)))), ?_⟩
    obtain ⟨dx, hi⟩ := hp.ins
    obtain ⟨ts, he1, he2⟩ := hp.parts.ru
    simp only [rIxD, gSub, rSetL, sDPut, tDGet, tDIn, tDNotIn, wipe, rLenS, tBM, rAppend, rExtend, rIn, cx_K, rIxS, rIxL, rIxT, tRet, tIfS, tTest, tChain, rI, rI0, rU, tC, tVar, tOp, tUn, tCB, tCons, tNil, tSeq, tNext, tB, tNot, tAnd, tOr, tAndV, tOrV, tNotV, tFc, sFc, sFcA, tMt, tCl, tNw, tLst, tTup, tDrop, tAsg, tPar, gName, gCons, gNil, tR1, rEq, rNe, rAdd, rSub, tAug, ipI, L2.start, List.map, List.length, List.replicate, List.append, List.set, exists_eq_left', exists_eq_left, exists_eq_right, exists_eq_right', exists_and_left, exists_and_right, exists_eq, exists_eq', Option.some.injEq, List.getElem?_cons_zero, List.getElem?_cons_succ, V.bl.injEq, V.int.injEq, V.str.injEq, V.ref.injEq, List.cons_append, List.nil_append, List.cons.injEq, HO.ins.injEq, HO.lst.injEq, HO.tup.injEq, true_and, and_true, decide_eq_true_eq, Bool.false_eq_true, ↓reduceIte, Bool.not_true, Bool.not_false, Bool.not_eq_true', decide_eq_false_iff_not, List.set_cons_zero, List.set_cons_succ, and_assoc, scal, dec_int, dec_str, forall_const, implies_true, hi, PL.fs, plF_get]
    exact ⟨.inl ⟨rfl, _, .inl (.inl he1)⟩, _, he1, by rw [List.length_map, he2.len]; exact line_of' (by omega), q _ (hp.put_ru ht hl hc he1 he2)⟩
def sp_Plant_put_parcel (g : GG) : Sp := fun vs H Q _ => ∃ (R : Hp) (L : PL) (p : Xb08.Plant) (ks : List KN) (t : Addr) (y : Xb08.Parcel), vs = [.ref L.pl, .ref t] ∧ PlantAt g H R L p ks ∧ H t = some (.tup (parT y)) ∧ p.parcels.length ≤ 1000 ∧
  ∀ H', PlantAt g H' R L { p with parcels := p.parcels ++ [y] } ks → Q .non H'
theorem ok_Plant_put_parcel (T : Tx g) : Mt CX0 g 1 "Plant" "put_parcel" ["self", "parcel"] (sp_Plant_put_parcel g) := by
  refine mt0 (k := 0) T.cl_Plant T.me_Plant_put_parcel T.df_Plant_put_parcel sc_Plant_put_parcel (fun _ _ _ _ _ _ us hl => match us, hl with | [_, _], _ => rfl) ?_ ?_
  · rintro vs H Q E ⟨R, L, p, ks, t, y, rfl, _⟩
    rfl
  · rintro cdv A outer s H vs Q E hr ⟨R, L, p, ks, t, y, rfl, hp, ht, hn, q⟩
    refine ⟨_, (pss_one (ps_expr (pe_bm PySem.F.plainAttrs_list PySem.F.slot_list_append PySem.F.type_list_append mt_append (pe_fc T.cl_Plant T.na_Plant_parcels (pv 0)) (pa_cons (pv 1) pa_nil)))), ?_⟩
    obtain ⟨dx, hi⟩ := hp.ins
    obtain ⟨ts, he1, he2⟩ := hp.parts.pa
    simp only [rIxD, gSub, rSetL, sDPut, tDGet, tDIn, tDNotIn, wipe, rLenS, tBM, rAppend, rExtend, rIn, cx_K, rIxS, rIxL, rIxT, tRet, tIfS, tTest, tChain, rI, rI0, rU, tC, tVar, tOp, tUn, tCB, tCons, tNil, tSeq, tNext, tB, tNot, tAnd, tOr, tAndV, tOrV, tNotV, tFc, sFc, sFcA, tMt, tCl, tNw, tLst, tTup, tDrop, tAsg, tPar, gName, gCons, gNil, tR1, rEq, rNe, rAdd, rSub, tAug, ipI, L2.start, List.map, List.length, List.replicate, List.append, List.set, exists_eq_left', exists_eq_left, exists_eq_right, exists_eq_right', exists_and_left, exists_and_right, exists_eq, exists_eq', Option.some.injEq, List.getElem?_cons_zero, List.getElem?_cons_succ, V.bl.injEq, V.int.injEq, V.str.injEq, V.ref.injEq, List.cons_append, List.nil_append, List.cons.injEq, HO.ins.injEq, HO.lst.injEq, HO.tup.injEq, true_and, and_true, decide_eq_true_eq, Bool.false_eq_true, ↓reduceIte, Bool.not_true, Bool.not_false, Bool.not_eq_true', decide_eq_false_iff_not, List.set_cons_zero, List.set_cons_succ, and_assoc, scal, dec_int, dec_str, forall_const, implies_true, hi, PL.fs, plF_get]
    exact ⟨.inl ⟨rfl, _, .inl (.inl he1)⟩, _, he1, by rw [List.length_map, he2.len]; exact line_of' (by omega), q _ (hp.put_pa ht he1 he2)⟩
/-! ## what a line's names stand for -/
def lookN (ks : List KN) (n : W) : Option KN := ks.find? fun e => decide (e.n = n)
theorem valV_kvs {ks : List KN} {ts : List Addr} {n : W} (h : ts.length = ks.length) : (lookN ks n = none ∧ valV (kvsOf ks ts) (Sum.inr (S n)) = none) ∨ ∃ (e : KN) (t : Addr) (i : Nat), lookN ks n = some e ∧ ks[i]? = some e ∧ ts[i]? = some t ∧ valV (kvsOf ks ts) (Sum.inr (S n)) = some (.ref t) := by
  induction ks generalizing ts with
  | nil =>
    left
    exact ⟨rfl, rfl⟩
  | cons e ks ih =>
    cases ts with
    | nil => cases h
    | cons t ts =>
      have hl : ts.length = ks.length := Nat.succ.inj h
      by_cases en : e.n = n
      · right
        refine ⟨e, t, 0, ?_, rfl, rfl, ?_⟩
        · unfold lookN
          rw [List.find?_cons, decide_eq_true en]
        · unfold valV kvsOf
          rw [List.zip_cons_cons, List.map_cons, List.find?_cons]
          rw [decide_eq_true (by rw [en])]
          rfl
      · have e1 : lookN (e :: ks) n = lookN ks n := by
          unfold lookN
          rw [List.find?_cons, decide_eq_false en]
        have e2 : valV (kvsOf (e :: ks) (t :: ts)) (Sum.inr (S n)) = valV (kvsOf ks ts) (Sum.inr (S n)) := by
          unfold valV kvsOf
          rw [List.zip_cons_cons, List.map_cons, List.find?_cons]
          rw [decide_eq_false fun z => en (S_inj (Sum.inr.inj z))]
        rw [e1, e2]
        rcases ih hl with ih | ⟨e', t', i, h1, h2, h3, h4⟩
        · exact .inl ih
        · exact .inr ⟨e', t', i + 1, h1, h2, h3, h4⟩
def wantNew (ks : List KN) (k : Nat) (n : W) : Except Nat Unit := if (lookN ks n).isSome = true then .error 2 else if 12 ≤ cnt k ks then .error 4 else .ok ()
def sp_want_new (g : GG) : Sp := fun vs H Q E => ∃ (R : Hp) (L : PL) (p : Xb08.Plant) (ks : List KN) (k : Nat) (n : W), vs = [.ref L.pl, .int k, wV n] ∧ PlantAt g H R L p ks ∧ ks.length ≤ 1000 ∧ Wp (wantNew ks k n) (LF g E R) fun _ => ∀ H', Same H H' → Q .non H'
theorem ok_want_new (T : Tx g) : Fn (L2N.CX g.P g.w) g 4 "want_new" ["plant", "kind", "name"] (sp_want_new g) := by
  refine fnC (k := 3) T.gl_want_new T.df_want_new sc_want_new (fun _ _ _ _ _ _ us hl => match us, hl with | [_, _, _], _ => rfl) ?_ ?_
  · rintro vs H Q E ⟨R, L, p, ks, k, n, rfl, _⟩
    rfl
  · rintro cdv A outer s H vs Q E hr ⟨R, L, p, ks, k, n, rfl, hp, hk, q⟩
    refine ⟨_, (pss_cons (ps_expr (pe_fx (ok_want T) hr (by decide) pxN (pa_cons (pe_cmp (pc_dnotin (hu_of hr) (pv 2) (pe_fc T.cl_Plant T.na_Plant_known (pv 0))) rfl) (pa_cons (C8.pe_gc rfl T.in_WRONG_NAME) pa_nil)))) (pss_one (ps_expr (pe_fx (ok_want T) hr (by decide) pxN (pa_cons (pe_cmpR op_lt (pe_mt (ok_Plant_how_many T) hr (by decide) (pv 0) (pa_cons (pv 1) pa_nil)) (C8.pe_gc rfl T.in_MOST_OF_A_KIND) (nomark _)) (pa_cons (C8.pe_gc rfl T.in_TOO_MANY) pa_nil)))))), ?_⟩
    obtain ⟨dx, hi⟩ := hp.ins
    obtain ⟨ts, h1, h2⟩ := hp.parts.kn
    simp only [rIxD, gSub, rSetL, sDPut, tDGet, tDIn, tDNotIn, wipe, rLenS, tBM, rAppend, rExtend, rIn, cx_K, rIxS, rIxL, rIxT, tRet, tIfS, tTest, tChain, rI, rI0, rU, tC, tVar, tOp, tUn, tCB, tCons, tNil, tSeq, tNext, tB, tNot, tAnd, tOr, tAndV, tOrV, tNotV, tFc, sFc, sFcA, tMt, tCl, tNw, tLst, tTup, tDrop, tAsg, tPar, gName, gCons, gNil, tR1, rEq, rNe, rAdd, rSub, tAug, ipI, L2.start, List.map, List.length, List.replicate, List.append, List.set, exists_eq_left', exists_eq_left, exists_eq_right, exists_eq_right', exists_and_left, exists_and_right, exists_eq, exists_eq', Option.some.injEq, List.getElem?_cons_zero, List.getElem?_cons_succ, V.bl.injEq, V.int.injEq, V.str.injEq, V.ref.injEq, List.cons_append, List.nil_append, List.cons.injEq, HO.ins.injEq, HO.lst.injEq, HO.tup.injEq, true_and, and_true, decide_eq_true_eq, Bool.false_eq_true, ↓reduceIte, Bool.not_true, Bool.not_false, Bool.not_eq_true', decide_eq_false_iff_not, List.set_cons_zero, List.set_cons_succ, and_assoc, scal, dec_int, dec_str, forall_const, implies_true, hi, PL.fs, plF_get, sp_want]
    refine ⟨_, DGet.k (k := Sum.inr (S n)) h1, ?_⟩
    unfold wantNew at q
    rcases valV_kvs (n := n) h2.len with ⟨e1, e2⟩ | ⟨e, t, i, e1, e2, e3, e4⟩
    · rw [e2]
      rw [e1] at q
      refine iteT ⟨R, L, p, ks, k, rfl, hp, hk, fun H1 s1 => ?_⟩
      by_cases hc : cnt k ks < 12
      · rw [if_neg (by decide), if_neg (by omega)] at q
        simp only [rIxD, gSub, rSetL, sDPut, tDGet, tDIn, tDNotIn, wipe, rLenS, tBM, rAppend, rExtend, rIn, cx_K, rIxS, rIxL, rIxT, tRet, tIfS, tTest, tChain, rI, rI0, rU, tC, tVar, tOp, tUn, tCB, tCons, tNil, tSeq, tNext, tB, tNot, tAnd, tOr, tAndV, tOrV, tNotV, tFc, sFc, sFcA, tMt, tCl, tNw, tLst, tTup, tDrop, tAsg, tPar, gName, gCons, gNil, tR1, rEq, rNe, rAdd, rSub, tAug, ipI, L2.start, List.map, List.length, List.replicate, List.append, List.set, exists_eq_left', exists_eq_left, exists_eq_right, exists_eq_right', exists_and_left, exists_and_right, exists_eq, exists_eq', Option.some.injEq, List.getElem?_cons_zero, List.getElem?_cons_succ, V.bl.injEq, V.int.injEq, V.str.injEq, V.ref.injEq, List.cons_append, List.nil_append, List.cons.injEq, HO.ins.injEq, HO.lst.injEq, HO.tup.injEq, true_and, and_true, decide_eq_true_eq, Bool.false_eq_true, ↓reduceIte, Bool.not_true, Bool.not_false, Bool.not_eq_true', decide_eq_false_iff_not, List.set_cons_zero, List.set_cons_succ, and_assoc, scal, dec_int, dec_str, forall_const, implies_true]
        rw [decide_eq_true (by omega : ((cnt k ks : Nat) : Int) < 12)]
        exact iteT (q H1 s1)
      · rw [if_neg (by decide), if_pos (by omega)] at q
        simp only [rIxD, gSub, rSetL, sDPut, tDGet, tDIn, tDNotIn, wipe, rLenS, tBM, rAppend, rExtend, rIn, cx_K, rIxS, rIxL, rIxT, tRet, tIfS, tTest, tChain, rI, rI0, rU, tC, tVar, tOp, tUn, tCB, tCons, tNil, tSeq, tNext, tB, tNot, tAnd, tOr, tAndV, tOrV, tNotV, tFc, sFc, sFcA, tMt, tCl, tNw, tLst, tTup, tDrop, tAsg, tPar, gName, gCons, gNil, tR1, rEq, rNe, rAdd, rSub, tAug, ipI, L2.start, List.map, List.length, List.replicate, List.append, List.set, exists_eq_left', exists_eq_left, exists_eq_right, exists_eq_right', exists_and_left, exists_and_right, exists_eq, exists_eq', Option.some.injEq, List.getElem?_cons_zero, List.getElem?_cons_succ, V.bl.injEq, V.int.injEq, V.str.injEq, V.ref.injEq, List.cons_append, List.nil_append, List.cons.injEq, HO.ins.injEq, HO.lst.injEq, HO.tup.injEq, true_and, and_true, decide_eq_true_eq, Bool.false_eq_true, ↓reduceIte, Bool.not_true, Bool.not_false, Bool.not_eq_true', decide_eq_false_iff_not, List.set_cons_zero, List.set_cons_succ, and_assoc, scal, dec_int, dec_str, forall_const, implies_true]
        rw [decide_eq_false (by omega : ¬ ((cnt k ks : Nat) : Int) < 12)]
        exact iteF (LF.mono q (hp.same.trans s1))
    · rw [e4]
      rw [e1] at q
      exact iteF (LF.mono q hp.same)
def numberE (ks : List KN) (k : Nat) (n : W) : Except Nat Nat := match lookN ks n with
  | some e => if e.k = k then .ok e.i else .error 2
  | none => .error 2
def sp_number_of (g : GG) : Sp := fun vs H Q E => ∃ (R : Hp) (L : PL) (p : Xb08.Plant) (ks : List KN) (k : Nat) (n : W), vs = [.ref L.pl, .int k, wV n] ∧ PlantAt g H R L p ks ∧ Wp (numberE ks k n) (LF g E R) fun i => Q (.int i) H
theorem ok_number_of (T : Tx g) : Fn (L2N.CX g.P g.w) g 4 "number_of" ["plant", "kind", "name"] (sp_number_of g) := by
  refine fnC (k := 3) T.gl_number_of T.df_number_of sc_number_of (fun _ _ _ _ _ _ us hl => match us, hl with | [_, _, _], _ => rfl) ?_ ?_
  · rintro vs H Q E ⟨R, L, p, ks, k, n, rfl, _⟩
    rfl
  · rintro cdv A outer s H vs Q E hr ⟨R, L, p, ks, k, n, rfl, hp, q⟩
    refine ⟨_, (pss_cons (ps_expr (pe_fx (ok_want T) hr (by decide) pxN (pa_cons (pe_and (pe_cmp (pc_din (hu_of hr) (pv 2) (pe_fc T.cl_Plant T.na_Plant_known (pv 0))) rfl) (pe_one (pe_cmpR op_eq (pe_ix ix_tup (pe_dget (hu_of hr) (pe_fc T.cl_Plant T.na_Plant_known (pv 0)) (pv 2) (fun _ _ => rfl)) pe_int (fun _ _ => rfl)) (pv 1) (nomark _)))) (pa_cons (C8.pe_gc rfl T.in_WRONG_NAME) pa_nil)))) (pss_one (ps_ret (pe_ix ix_tup (pe_dget (hu_of hr) (pe_fc T.cl_Plant T.na_Plant_known (pv 0)) (pv 2) (fun _ _ => rfl)) pe_int (fun _ _ => rfl))))), ?_⟩
    obtain ⟨dx, hi⟩ := hp.ins
    obtain ⟨ts, h1, h2⟩ := hp.parts.kn
    simp only [rIxD, gSub, rSetL, sDPut, tDGet, tDIn, tDNotIn, wipe, rLenS, tBM, rAppend, rExtend, rIn, cx_K, rIxS, rIxL, rIxT, tRet, tIfS, tTest, tChain, rI, rI0, rU, tC, tVar, tOp, tUn, tCB, tCons, tNil, tSeq, tNext, tB, tNot, tAnd, tOr, tAndV, tOrV, tNotV, tFc, sFc, sFcA, tMt, tCl, tNw, tLst, tTup, tDrop, tAsg, tPar, gName, gCons, gNil, tR1, rEq, rNe, rAdd, rSub, tAug, ipI, L2.start, List.map, List.length, List.replicate, List.append, List.set, exists_eq_left', exists_eq_left, exists_eq_right, exists_eq_right', exists_and_left, exists_and_right, exists_eq, exists_eq', Option.some.injEq, List.getElem?_cons_zero, List.getElem?_cons_succ, V.bl.injEq, V.int.injEq, V.str.injEq, V.ref.injEq, List.cons_append, List.nil_append, List.cons.injEq, HO.ins.injEq, HO.lst.injEq, HO.tup.injEq, true_and, and_true, decide_eq_true_eq, Bool.false_eq_true, ↓reduceIte, Bool.not_true, Bool.not_false, Bool.not_eq_true', decide_eq_false_iff_not, List.set_cons_zero, List.set_cons_succ, and_assoc, scal, dec_int, dec_str, forall_const, implies_true, hi, PL.fs, plF_get, sp_want]
    refine ⟨_, DGet.k (k := Sum.inr (S n)) h1, ?_⟩
    unfold numberE at q
    rcases valV_kvs (n := n) h2.len with ⟨e1, e2⟩ | ⟨e, t, i, e1, e2, e3, e4⟩
    · rw [e2]
      rw [e1] at q
      exact ifB (fun z => nomatch z) fun _ => iteF (LF.mono q hp.same)
    · have ht := h2.at_ i t e e3 e2
      rw [e4]
      rw [e1] at q
      have hg : DGet H L.kn (wV n) (some (.ref t)) := by
        have := DGet.k (k := Sum.inr (S n)) h1
        rw [e4] at this
        exact this
      refine ifB (fun _ => ⟨_, hg, ?_⟩) (fun z => nomatch z)
      simp only [rIxD, gSub, rSetL, sDPut, tDGet, tDIn, tDNotIn, wipe, rLenS, tBM, rAppend, rExtend, rIn, cx_K, rIxS, rIxL, rIxT, tRet, tIfS, tTest, tChain, rI, rI0, rU, tC, tVar, tOp, tUn, tCB, tCons, tNil, tSeq, tNext, tB, tNot, tAnd, tOr, tAndV, tOrV, tNotV, tFc, sFc, sFcA, tMt, tCl, tNw, tLst, tTup, tDrop, tAsg, tPar, gName, gCons, gNil, tR1, rEq, rNe, rAdd, rSub, tAug, ipI, L2.start, List.map, List.length, List.replicate, List.append, List.set, exists_eq_left', exists_eq_left, exists_eq_right, exists_eq_right', exists_and_left, exists_and_right, exists_eq, exists_eq', Option.some.injEq, List.getElem?_cons_zero, List.getElem?_cons_succ, V.bl.injEq, V.int.injEq, V.str.injEq, V.ref.injEq, List.cons_append, List.nil_append, List.cons.injEq, HO.ins.injEq, HO.lst.injEq, HO.tup.injEq, true_and, and_true, decide_eq_true_eq, Bool.false_eq_true, ↓reduceIte, Bool.not_true, Bool.not_false, Bool.not_eq_true', decide_eq_false_iff_not, List.set_cons_zero, List.set_cons_succ, and_assoc, scal, dec_int, dec_str, forall_const, implies_true]
      refine ⟨_, .inl (.inl ht), _, atI_nat (j := 0) rfl, rfl, ?_⟩
      change Wp (if e.k = k then Except.ok e.i else Except.error 2) _ _ at q
      by_cases ek : e.k = k
      · rw [if_pos ek] at q
        rw [ek, decide_eq_true rfl]
        exact iteT ⟨_, hg, _, rfl, _, .inl (.inl ht), _, atI_nat (j := 1) rfl, q⟩
      · rw [if_neg ek] at q
        rw [decide_eq_false (fun z => ek (by have := V.int.inj z; omega))]
        exact iteF (LF.mono q hp.same)
/-! ## names and numbers agree -/
def namesOf (p : Xb08.Plant) (k : Nat) : List W := if k = 1 then p.belts.map (·.name) else if k = 2 then p.chutes.map (·.name) else if k = 3 then p.sensors.map (·.name) else if k = 4 then p.pushers.map (·.name) else []
structure KnOk (ks : List KN) (p : Xb08.Plant) : Prop where
  nodup : (ks.map KN.n).Nodup
  each : ∀ k, ks.filter (fun e => decide (e.k = k)) = (namesOf p k).zipIdx.map fun q => ⟨q.1, k, q.2⟩
theorem KnOk.cnt {ks : List KN} {p : Xb08.Plant} (h : KnOk ks p) (k : Nat) : cnt k ks = (namesOf p k).length := by
  unfold Tote.cnt
  rw [h.each, List.length_map, List.length_zipIdx]
theorem KnOk.at_ {ks : List KN} {p : Xb08.Plant} (h : KnOk ks p) {e : KN} (he : e ∈ ks) : (namesOf p e.k)[e.i]? = some e.n := by
  have : e ∈ ks.filter (fun x => decide (x.k = e.k)) := List.mem_filter.mpr ⟨he, decide_eq_true rfl⟩
  rw [h.each] at this
  obtain ⟨q, hq, eq⟩ := List.mem_map.mp this
  rw [List.mem_zipIdx_iff_getElem?] at hq
  rw [← eq]
  exact hq
theorem lookN_mem {ks : List KN} {n : W} {e : KN} (h : lookN ks n = some e) : e ∈ ks ∧ e.n = n :=
  ⟨List.mem_of_find?_eq_some h, of_decide_eq_true (List.find?_some (p := fun e : KN => decide (e.n = n)) h)⟩
theorem KnOk.number {ks : List KN} {p : Xb08.Plant} (h : KnOk ks p) {k i : Nat} {n : W} (e : numberE ks k n = .ok i) : (namesOf p k)[i]? = some n := by
  unfold numberE at e
  cases hl : lookN ks n with
  | none => rw [hl] at e; cases e
  | some x =>
    rw [hl] at e
    change (if x.k = k then Except.ok x.i else Except.error 2) = _ at e
    by_cases ek : x.k = k
    · rw [if_pos ek] at e
      cases e
      have := h.at_ (lookN_mem hl).1
      rw [ek, (lookN_mem hl).2] at this
      exact this
    · rw [if_neg ek] at e
      cases e
theorem KnOk.belt_lt {ks : List KN} {p : Xb08.Plant} (h : KnOk ks p) {i : Nat} {n : W} (e : numberE ks 1 n = .ok i) : i < p.belts.length := by
  have := (List.getElem?_eq_some_iff.mp (h.number e)).1
  unfold namesOf at this
  rw [if_pos rfl, List.length_map] at this
  exact this
def beltWith (p : Xb08.Plant) (ks : List KN) (n : W) (x : Nat) : Except Nat Nat := numberE ks 1 n >>= fun k => if x < Xb08.beltLength p k then .ok k else .error 3
theorem belt_len {p : Xb08.Plant} {k : Nat} (h : k < p.belts.length) : (p.belts.map fun b => V.int b.length)[k]? = some (.int (Xb08.beltLength p k)) := by
  unfold Xb08.beltLength
  rw [List.getElem?_map, List.getElem?_eq_getElem h]
  rfl
def sp_belt_with (g : GG) : Sp := fun vs H Q E => ∃ (R : Hp) (L : PL) (p : Xb08.Plant) (ks : List KN) (n : W) (x : Nat), vs = [.ref L.pl, wV n, .int x] ∧ PlantAt g H R L p ks ∧ KnOk ks p ∧ Wp (beltWith p ks n x) (LF g E R) fun i => Q (.int i) H
theorem ok_belt_with (T : Tx g) : Fn (L2N.CX g.P g.w) g 5 "belt_with" ["plant", "name", "position"] (sp_belt_with g) := by
  refine fnC (k := 4) T.gl_belt_with T.df_belt_with sc_belt_with (fun _ _ _ _ _ _ us hl => match us, hl with | [_, _, _], _ => rfl) ?_ ?_
  · rintro vs H Q E ⟨R, L, p, ks, n, x, rfl, _⟩
    rfl
  · rintro cdv A outer s H vs Q E hr ⟨R, L, p, ks, n, x, rfl, hp, ok, q⟩
    refine ⟨_, (pss_cons (ps_set (i := 3) sc_belt_with.nd rfl (.inl rfl) (pe_fx (ok_number_of T) hr (by decide) pxN (pa_cons (pv 0) (pa_cons (C8.pe_gc rfl T.in_BELT) (pa_cons (pv 1) pa_nil))))) (pss_cons (ps_expr (pe_fx (ok_want T) hr (by decide) pxN (pa_cons (pe_cmpR op_lt (pv 2) (pe_ix ix_list (pe_fc T.cl_Plant T.na_Plant_lengths (pv 0)) (pv 3) (fun _ _ => rfl)) (nomark _)) (pa_cons (C8.pe_gc rfl T.in_NO_POSITION) pa_nil)))) (pss_one (ps_ret (pv 3))))), ?_⟩
    obtain ⟨dx, hi⟩ := hp.ins
    simp only [rIxD, gSub, rSetL, sDPut, tDGet, tDIn, tDNotIn, wipe, rLenS, tBM, rAppend, rExtend, rIn, cx_K, rIxS, rIxL, rIxT, tRet, tIfS, tTest, tChain, rI, rI0, rU, tC, tVar, tOp, tUn, tCB, tCons, tNil, tSeq, tNext, tB, tNot, tAnd, tOr, tAndV, tOrV, tNotV, tFc, sFc, sFcA, tMt, tCl, tNw, tLst, tTup, tDrop, tAsg, tPar, gName, gCons, gNil, tR1, rEq, rNe, rAdd, rSub, tAug, ipI, L2.start, List.map, List.length, List.replicate, List.append, List.set, exists_eq_left', exists_eq_left, exists_eq_right, exists_eq_right', exists_and_left, exists_and_right, exists_eq, exists_eq', Option.some.injEq, List.getElem?_cons_zero, List.getElem?_cons_succ, V.bl.injEq, V.int.injEq, V.str.injEq, V.ref.injEq, List.cons_append, List.nil_append, List.cons.injEq, HO.ins.injEq, HO.lst.injEq, HO.tup.injEq, true_and, and_true, decide_eq_true_eq, Bool.false_eq_true, ↓reduceIte, Bool.not_true, Bool.not_false, Bool.not_eq_true', decide_eq_false_iff_not, List.set_cons_zero, List.set_cons_succ, and_assoc, scal, dec_int, dec_str, forall_const, implies_true, hi, PL.fs, plF_get, sp_want]
    unfold beltWith at q
    rw [Wp_bind] at q
    refine ⟨R, L, p, ks, 1, n, rfl, hp, q.imp (fun _ z => z) fun k ek hk => ?_⟩
    have hb := ok.belt_lt ek
    refine ⟨_, _, hi, _, rfl, _, rfl, _, _, rfl, .inl (.inl hp.parts.le), _, atI_nat (belt_len hb), _, rfl, ?_⟩
    by_cases hx : x < Xb08.beltLength p k
    · rw [if_pos hx] at hk
      rw [decide_eq_true (by omega : (x : Int) < (Xb08.beltLength p k : Nat))]
      exact iteT hk
    · rw [if_neg hx] at hk
      rw [decide_eq_false (by omega : ¬ (x : Int) < (Xb08.beltLength p k : Nat))]
      exact iteF (LF.mono hk hp.same)
/-! ## goals -/
def posV : Option Nat → V
  | none => .non
  | some x => .int x
def goalE (p : Xb08.Plant) (ks : List KN) : W × Option Nat → Except Nat Xb08.Goal
  | (n, none) => numberE ks 2 n >>= fun k => .ok (.chute k)
  | (n, some x) => beltWith p ks n x >>= fun k => .ok (.belt k x)
def sp_goal_of (g : GG) : Sp := fun vs H Q E => ∃ (R : Hp) (L : PL) (p : Xb08.Plant) (ks : List KN) (t : Addr) (n : W) (o : Option Nat), vs = [.ref L.pl, .ref t] ∧ H t = some (.tup [wV n, posV o]) ∧ PlantAt g H R L p ks ∧ KnOk ks p ∧
  Wp (goalE p ks (n, o)) (LF g E R) fun gl => ∀ H' t, Same H H' → H' t = some (.tup (goalT gl)) → Q (.ref t) H'
theorem ok_goal_of (T : Tx g) : Fn (L2N.CX g.P g.w) g 6 "goal_of" ["plant", "told"] (sp_goal_of g) := by
  refine fnC (k := 5) T.gl_goal_of T.df_goal_of sc_goal_of (fun _ _ _ _ _ _ us hl => match us, hl with | [_, _], _ => rfl) ?_ ?_
  · rintro vs H Q E ⟨R, L, p, ks, t, n, o, rfl, _⟩
    rfl
  · rintro cdv A outer s H vs Q E hr ⟨R, L, p, ks, t, n, o, rfl, ht, hp, ok, q⟩
    refine ⟨_, (pss_cons (ps_asg (pv 1) (pg_tup rfl (pgs_cons (pg_name (i := 2) sc_goal_of.nd rfl (.inl rfl)) (pgs_cons (pg_name (i := 3) sc_goal_of.nd rfl (.inl rfl)) pgs_nil)))) (pss_cons (ps_if (pt_cmpR op_isN (pv 3) pe_non (nomark _)) (pss_one (ps_ret (pe_tup (pa_cons (C8.pe_gc rfl T.in_CHUTE) (pa_cons (pe_fx (ok_number_of T) hr (by decide) pxN (pa_cons (pv 0) (pa_cons (C8.pe_gc rfl T.in_CHUTE) (pa_cons (pv 2) pa_nil)))) (pa_cons pe_int pa_nil)))))) pss_nil) (pss_one (ps_ret (pe_tup (pa_cons (C8.pe_gc rfl T.in_BELT) (pa_cons (pe_fx (ok_belt_with T) hr (by decide) pxN (pa_cons (pv 0) (pa_cons (pv 2) (pa_cons (pv 3) pa_nil)))) (pa_cons (pv 3) pa_nil)))))))), ?_⟩
    refine ⟨_, rfl, t, _, rfl, .inl (.inl ht), rfl, ?_⟩
    cases o with
    | none =>
      simp only [rIxD, gSub, rSetL, sDPut, tDGet, tDIn, tDNotIn, wipe, rLenS, tBM, rAppend, rExtend, rIn, cx_K, rIxS, rIxL, rIxT, tRet, tIfS, tTest, tChain, rI, rI0, rU, tC, tVar, tOp, tUn, tCB, tCons, tNil, tSeq, tNext, tB, tNot, tAnd, tOr, tAndV, tOrV, tNotV, tFc, sFc, sFcA, tMt, tCl, tNw, tLst, tTup, tDrop, tAsg, tPar, gName, gCons, gNil, tR1, rEq, rNe, rAdd, rSub, tAug, ipI, L2.start, List.map, List.length, List.replicate, List.append, List.set, exists_eq_left', exists_eq_left, exists_eq_right, exists_eq_right', exists_and_left, exists_and_right, exists_eq, exists_eq', Option.some.injEq, List.getElem?_cons_zero, List.getElem?_cons_succ, V.bl.injEq, V.int.injEq, V.str.injEq, V.ref.injEq, List.cons_append, List.nil_append, List.cons.injEq, HO.ins.injEq, HO.lst.injEq, HO.tup.injEq, true_and, and_true, decide_eq_true_eq, Bool.false_eq_true, ↓reduceIte, Bool.not_true, Bool.not_false, Bool.not_eq_true', decide_eq_false_iff_not, List.set_cons_zero, List.set_cons_succ, and_assoc, scal, dec_int, dec_str, forall_const, implies_true, posV]
      unfold goalE at q
      rw [Wp_bind] at q
      refine ⟨R, L, p, ks, 2, n, rfl, hp, q.imp (fun _ z => z) fun k ek hk => ⟨by decide, fun t2 ht2 => ?_⟩⟩
      exact hk _ _ (Same.new ht2) upd_same
    | some x =>
      simp only [rIxD, gSub, rSetL, sDPut, tDGet, tDIn, tDNotIn, wipe, rLenS, tBM, rAppend, rExtend, rIn, cx_K, rIxS, rIxL, rIxT, tRet, tIfS, tTest, tChain, rI, rI0, rU, tC, tVar, tOp, tUn, tCB, tCons, tNil, tSeq, tNext, tB, tNot, tAnd, tOr, tAndV, tOrV, tNotV, tFc, sFc, sFcA, tMt, tCl, tNw, tLst, tTup, tDrop, tAsg, tPar, gName, gCons, gNil, tR1, rEq, rNe, rAdd, rSub, tAug, ipI, L2.start, List.map, List.length, List.replicate, List.append, List.set, exists_eq_left', exists_eq_left, exists_eq_right, exists_eq_right', exists_and_left, exists_and_right, exists_eq, exists_eq', Option.some.injEq, List.getElem?_cons_zero, List.getElem?_cons_succ, V.bl.injEq, V.int.injEq, V.str.injEq, V.ref.injEq, List.cons_append, List.nil_append, List.cons.injEq, HO.ins.injEq, HO.lst.injEq, HO.tup.injEq, true_and, and_true, decide_eq_true_eq, Bool.false_eq_true, ↓reduceIte, Bool.not_true, Bool.not_false, Bool.not_eq_true', decide_eq_false_iff_not, List.set_cons_zero, List.set_cons_succ, and_assoc, scal, dec_int, dec_str, forall_const, implies_true, posV]
      unfold goalE at q
      rw [Wp_bind] at q
      rw [if_neg (by intro z; cases z)]
      refine ⟨R, L, p, ks, n, x, rfl, hp, ok, q.imp (fun _ z => z) fun k ek hk => ⟨by decide, fun t2 ht2 => ?_⟩⟩
      exact hk _ _ (Same.new ht2) upd_same
end Tote
namespace Tote
open PySem PySem.Spec PyProof.Rows L2 Tq
open SX (S S_inj S_len S_cat)
variable {g : GG}
/-- an instance whose new things stand -/
structure PI (H0 H : Hp) (C pl dx : Addr) (fs : List (Str × V)) (as : List (Addr × HO)) : Prop where
  old : ∃ o, H0 pl = some o
  ins : H pl = some (.ins C dx fs)
  keep : ∀ b o, b ≠ pl → H0 b = some o → H b = some o
  new : ∀ q ∈ as, H q.1 = some q.2 ∧ H0 q.1 = none
  nd : (as.map (·.1)).Nodup
theorem PI.free {H0 H : Hp} {C pl dx p : Addr} {fs : List (Str × V)} {as : List (Addr × HO)} (h : PI H0 H C pl dx fs as) (hp : H p = none) : H0 p = none := by
  cases e : H0 p with
  | none => rfl
  | some o =>
    by_cases ep : p = pl
    · subst ep
      rw [h.ins] at hp
      cases hp
    · rw [h.keep p o ep e] at hp
      cases hp
theorem PI.step {H0 H : Hp} {C pl dx p : Addr} {fs fs' : List (Str × V)} {as : List (Addr × HO)} {o : HO} (h : PI H0 H C pl dx fs as) (hp : H p = none) : PI H0 (upd (upd H p o) pl (.ins C dx fs')) C pl dx fs' (as ++ [(p, o)]) := by
  have np : pl ≠ p := ne_of_none h.ins hp
  have ho := h.free hp
  refine ⟨h.old, upd_same, fun b u nb hb => ?_, fun q hq => ?_, ?_⟩
  · rw [upd_ne nb, upd_ne (ne_of_none hb ho)]
    exact h.keep b u nb hb
  · rcases List.mem_append.mp hq with hq | hq
    · obtain ⟨h1, h2⟩ := h.new q hq
      obtain ⟨o0, h0⟩ := h.old
      refine ⟨?_, h2⟩
      rw [upd_ne (fun e => by rw [e, h0] at h2; cases h2), upd_ne (ne_of_none h1 hp)]
      exact h1
    · rw [List.mem_singleton.mp hq]
      exact ⟨by rw [upd_ne np.symm, upd_same], ho⟩
  · rw [List.map_append]
    refine List.nodup_append.mpr ⟨h.nd, List.nodup_cons.mpr ⟨List.not_mem_nil, List.nodup_nil⟩, fun a ha b hb => ?_⟩
    obtain ⟨q, hq, rfl⟩ := List.mem_map.mp ha
    rw [List.mem_singleton.mp hb]
    exact ne_of_none (h.new q hq).1 hp
def noPlant : Xb08.Plant := ⟨[], [], [], [], [], []⟩
def sp_Plant_init (g : GG) : Sp := fun vs H Q _ => ∃ (pl dx : Addr), vs = [.ref pl] ∧ H pl = some (.ins (cF g "Plant") dx []) ∧
  ∀ H' L, L.pl = pl → (∀ R, Same R H → R pl = none → PlantAt g H' R L noPlant []) → (∀ a ∈ L.lists, H a = none) → Q .non H'
theorem ok_Plant_init (T : Tx g) : Mw g 1 "Plant" ["self"] (sp_Plant_init g) := by
  refine mw0 (k := 0) T.gl_Plant T.mk_Plant T.df_Plant_init sc_Plant_init (fun _ _ _ _ _ _ us hl => match us, hl with | [_], _ => rfl) ?_ ?_
  · rintro vs H Q E ⟨pl, dx, rfl, _⟩
    rfl
  · rintro cdv A outer s H vs Q E hr ⟨pl, dx, rfl, h1, q⟩
    refine ⟨_, (pss_cons (ps_fc T.cl_Plant T.na_Plant_known (pv 0) pe_dnewK) (pss_cons (ps_fc T.cl_Plant T.na_Plant_lengths (pv 0) (pe_lst pa_nil)) (pss_cons (ps_fc T.cl_Plant T.na_Plant_goals (pv 0) (pe_lst pa_nil)) (pss_cons (ps_fc T.cl_Plant T.na_Plant_rooms (pv 0) (pe_lst pa_nil)) (pss_cons (ps_fc T.cl_Plant T.na_Plant_eyes (pv 0) (pe_lst pa_nil)) (pss_cons (ps_fc T.cl_Plant T.na_Plant_pushers (pv 0) (pe_lst pa_nil)) (pss_cons (ps_fc T.cl_Plant T.na_Plant_rules (pv 0) (pe_lst pa_nil)) (pss_one (ps_fc T.cl_Plant T.na_Plant_parcels (pv 0) (pe_lst pa_nil)))))))))), ?_⟩
    have i0 : PI H H (cF g "Plant") pl dx [] [] := ⟨⟨_, h1⟩, h1, fun _ _ _ h => h, fun _ z => absurd z List.not_mem_nil, List.nodup_nil⟩
    intro a1 n1
    refine ⟨_, rfl, pl, dx, _, rfl, (by rw [upd_ne (ne_of_none i0.ins n1)]; exact i0.ins), by decide, ?_⟩
    have i1 := i0.step (fs' := putF "known" (.ref a1) []) (o := .dK []) n1
    refine ⟨Nat.zero_le _, fun a2 n2 => ⟨_, rfl, pl, dx, _, rfl, (by rw [upd_ne (ne_of_none i1.ins n2)]; exact i1.ins), (by show 1 < 1000; decide), ?_⟩⟩
    have i2 := i1.step (fs' := putF "lengths" (.ref a2) (putF "known" (.ref a1) [])) (o := .lst []) n2
    refine ⟨Nat.zero_le _, fun a3 n3 => ⟨_, rfl, pl, dx, _, rfl, (by rw [upd_ne (ne_of_none i2.ins n3)]; exact i2.ins), (by show 2 < 1000; decide), ?_⟩⟩
    have i3 := i2.step (fs' := putF "goals" (.ref a3) (putF "lengths" (.ref a2) (putF "known" (.ref a1) []))) (o := .lst []) n3
    refine ⟨Nat.zero_le _, fun a4 n4 => ⟨_, rfl, pl, dx, _, rfl, (by rw [upd_ne (ne_of_none i3.ins n4)]; exact i3.ins), (by show 3 < 1000; decide), ?_⟩⟩
    have i4 := i3.step (fs' := putF "rooms" (.ref a4) (putF "goals" (.ref a3) (putF "lengths" (.ref a2) (putF "known" (.ref a1) [])))) (o := .lst []) n4
    refine ⟨Nat.zero_le _, fun a5 n5 => ⟨_, rfl, pl, dx, _, rfl, (by rw [upd_ne (ne_of_none i4.ins n5)]; exact i4.ins), (by show 4 < 1000; decide), ?_⟩⟩
    have i5 := i4.step (fs' := putF "eyes" (.ref a5) (putF "rooms" (.ref a4) (putF "goals" (.ref a3) (putF "lengths" (.ref a2) (putF "known" (.ref a1) []))))) (o := .lst []) n5
    refine ⟨Nat.zero_le _, fun a6 n6 => ⟨_, rfl, pl, dx, _, rfl, (by rw [upd_ne (ne_of_none i5.ins n6)]; exact i5.ins), (by show 5 < 1000; decide), ?_⟩⟩
    have i6 := i5.step (fs' := putF "pushers" (.ref a6) (putF "eyes" (.ref a5) (putF "rooms" (.ref a4) (putF "goals" (.ref a3) (putF "lengths" (.ref a2) (putF "known" (.ref a1) [])))))) (o := .lst []) n6
    refine ⟨Nat.zero_le _, fun a7 n7 => ⟨_, rfl, pl, dx, _, rfl, (by rw [upd_ne (ne_of_none i6.ins n7)]; exact i6.ins), (by show 6 < 1000; decide), ?_⟩⟩
    have i7 := i6.step (fs' := putF "rules" (.ref a7) (putF "pushers" (.ref a6) (putF "eyes" (.ref a5) (putF "rooms" (.ref a4) (putF "goals" (.ref a3) (putF "lengths" (.ref a2) (putF "known" (.ref a1) []))))))) (o := .lst []) n7
    refine ⟨Nat.zero_le _, fun a8 n8 => ⟨_, rfl, pl, dx, _, rfl, (by rw [upd_ne (ne_of_none i7.ins n8)]; exact i7.ins), (by show 7 < 1000; decide), ?_⟩⟩
    have i8 := i7.step (fs' := putF "parcels" (.ref a8) (putF "rules" (.ref a7) (putF "pushers" (.ref a6) (putF "eyes" (.ref a5) (putF "rooms" (.ref a4) (putF "goals" (.ref a3) (putF "lengths" (.ref a2) (putF "known" (.ref a1) [])))))))) (o := .lst []) n8
    have hm : ∀ a ∈ (PL.lists ⟨pl, a1, a2, a3, a4, a5, a6, a7, a8⟩), H a = none := by
      intro a ha
      have : a ∈ ([(a1, HO.dK []), (a2, HO.lst []), (a3, .lst []), (a4, .lst []), (a5, .lst []), (a6, .lst []), (a7, .lst []), (a8, .lst [])] : List (Addr × HO)).map (·.1) := ha
      obtain ⟨q, hq, rfl⟩ := List.mem_map.mp this
      exact (i8.new q hq).2
    have at_ : ∀ q ∈ ([(a1, HO.dK []), (a2, HO.lst []), (a3, .lst []), (a4, .lst []), (a5, .lst []), (a6, .lst []), (a7, .lst []), (a8, .lst [])] : List (Addr × HO)), _ = some q.2 := fun q hq => (i8.new q hq).1
    refine q _ ⟨pl, a1, a2, a3, a4, a5, a6, a7, a8⟩ rfl (fun R sR nR => ⟨fun b o hb => i8.keep b o (fun e => by rw [e, nR] at hb; cases hb) (sR b o hb), fun a ha => ?_, i8.nd, ⟨dx, i8.ins⟩, ⟨?_, ?_, ?_, ?_, ?_, ?_, ?_, ?_⟩⟩) hm
    · rcases List.mem_cons.mp ha with rfl | ha
      · exact nR
      · exact sR.free (hm a ha)
    · exact ⟨[], at_ (a1, .dK []) (by simp), F2.nil⟩
    · exact at_ (a2, .lst []) (by simp)
    · exact ⟨[], at_ (a3, .lst []) (by simp), F2.nil⟩
    · exact at_ (a4, .lst []) (by simp)
    · exact ⟨[], at_ (a5, .lst []) (by simp), F2.nil⟩
    · exact ⟨[], at_ (a6, .lst []) (by simp), F2.nil⟩
    · exact ⟨[], at_ (a7, .lst []) (by simp), F2.nil⟩
    · exact ⟨[], at_ (a8, .lst []) (by simp), F2.nil⟩
end Tote
/-! # reading.py: the lines without conditions -/
namespace Tote
open PySem PySem.Spec PyProof.Rows L2 Tq
open SX (S S_inj S_len S_cat)
open Xb08 (ascii)
variable {g : GG}
/-! ## the widest frame of the words -/
theorem WordsAt.full {H R : Hp} {w : Addr} {ws : List W} (h : WordsAt g H R w ws) : WordsAt g H (del H w) w ws :=
  ⟨fun b o e => by
    by_cases eb : b = w
    · rw [eb, del_same] at e
      cases e
    · rw [del_ne eb] at e
      exact e, del_same, h.ex⟩
theorem WordsAt.sub {H R : Hp} {w : Addr} {ws : List W} (h : WordsAt g H R w ws) : Same R (del H w) := fun b o e => by
  rw [del_ne (fun z => by rw [z, h.out] at e; cases e)]
  exact h.same b o e
theorem WordsAt.less {H R R' : Hp} {w : Addr} {ws : List W} (h : WordsAt g H R w ws) (s : Same R' R) : WordsAt g H R' w ws := ⟨s.trans h.same, s.free h.out, h.ex⟩
theorem st_to : Str.ofString "to" = S (ascii "to") := by decide +kernel
theorem st_on : Str.ofString "on" = S (ascii "on") := by decide +kernel
theorem st_and : Str.ofString "and" = S (ascii "and") := by decide +kernel
theorem st_push : Str.ofString "push" = S (ascii "push") := by decide +kernel
theorem st_after : Str.ofString "after" = S (ascii "after") := by decide +kernel
theorem st_every : Str.ofString "every" = S (ascii "every") := by decide +kernel
theorem st_times : Str.ofString "times" = S (ascii "times") := by decide +kernel
theorem st_code : Str.ofString "code" = S (ascii "code") := by decide +kernel
theorem st_long : Str.ofString "long" = S (ascii "long") := by decide +kernel
theorem st_each : Str.ofString "each" = S (ascii "each") := by decide +kernel
theorem st_full : Str.ofString "full" = S (ascii "full") := by decide +kernel
theorem st_free : Str.ofString "free" = S (ascii "free") := by decide +kernel
def readGoal (ws : List W) : Except Nat (W × Option Nat) := takeName ws >>= fun a => if a.2.isEmpty = true then .ok (a.1, none) else takeNumber 0 9999 a.2 >>= fun b => takeEnd b.2 >>= fun _ => .ok (a.1, some b.1)
def sp_read_goal (g : GG) : Sp := fun vs H Q E => ∃ (R : Hp) (w : Addr) (ws : List W), vs = [.ref w] ∧ WordsAt g H R w ws ∧ Wp (readGoal ws) (LF g E R) fun o => ∀ H' t, Same R H' → H' t = some (.tup [wV o.1, posV o.2]) → Q (.ref t) H'
theorem ok_read_goal (T : Tx g) : Fn (L2N.CX g.P g.w) g 6 "read_goal" ["words"] (sp_read_goal g) := by
  refine fnC (k := 5) T.gl_read_goal T.df_read_goal sc_read_goal (fun _ _ _ _ _ _ us hl => match us, hl with | [_], _ => rfl) ?_ ?_
  · rintro vs H Q E ⟨R, w, ws, rfl, _⟩
    rfl
  · rintro cdv A outer s H vs Q E hr ⟨R, w, ws, rfl, hw, q⟩
    refine ⟨_, (pss_cons (ps_set (i := 1) sc_read_goal.nd rfl (.inl rfl) (pe_mx0 (ok_Words_take_name T) hr (by decide) pxN (pv 0))) (pss_cons (ps_if (pt_val (pe_mt0 (ok_Words_is_over T) hr (by decide) (pv 0))) (pss_one (ps_ret (pe_tup (pa_cons (pv 1) (pa_cons pe_non pa_nil))))) pss_nil) (pss_cons (ps_set (i := 2) sc_read_goal.nd rfl (.inl rfl) (pe_mx (ok_Words_take_number T) hr (by decide) pxN (pv 0) (pa_cons pe_int (pa_cons (C8.pe_gc rfl T.in_MOST_NUMBER) pa_nil)))) (pss_cons (ps_expr (pe_mx0 (ok_Words_take_end T) hr (by decide) pxN (pv 0))) (pss_one (ps_ret (pe_tup (pa_cons (pv 1) (pa_cons (pv 2) pa_nil))))))))), ?_⟩
    obtain ⟨dx, a, i, row, h1, _⟩ := hw.ex
    unfold readGoal at q
    simp only [Wp_bind] at q
    simp only [rIxD, gSub, rSetL, sDPut, tDGet, tDIn, tDNotIn, wipe, rLenS, tBM, rAppend, rExtend, rIn, cx_K, rIxS, rIxL, rIxT, tRet, tIfS, tTest, tChain, rI, rI0, rU, tC, tVar, tOp, tUn, tCB, tCons, tNil, tSeq, tNext, tB, tNot, tAnd, tOr, tAndV, tOrV, tNotV, tFc, sFc, sFcA, tMt, tCl, tNw, tLst, tTup, tDrop, tAsg, tPar, gName, gCons, gNil, tR1, rEq, rNe, rAdd, rSub, tAug, ipI, L2.start, List.map, List.length, List.replicate, List.append, List.set, exists_eq_left', exists_eq_left, exists_eq_right, exists_eq_right', exists_and_left, exists_and_right, exists_eq, exists_eq', Option.some.injEq, List.getElem?_cons_zero, List.getElem?_cons_succ, V.bl.injEq, V.int.injEq, V.str.injEq, V.ref.injEq, List.cons_append, List.nil_append, List.cons.injEq, HO.ins.injEq, HO.lst.injEq, HO.tup.injEq, true_and, and_true, decide_eq_true_eq, Bool.false_eq_true, ↓reduceIte, Bool.not_true, Bool.not_false, Bool.not_eq_true', decide_eq_false_iff_not, List.set_cons_zero, List.set_cons_succ, and_assoc, scal, dec_int, dec_str, forall_const, implies_true, h1, wdF_get]
    refine ⟨w, R, ws, rfl, hw, q.imp (fun _ z => z) fun x ex qx H1 w1 => ?_⟩
    obtain ⟨dx1, a1, i1, row1, k1, _⟩ := w1.ex
    simp only [rIxD, gSub, rSetL, sDPut, tDGet, tDIn, tDNotIn, wipe, rLenS, tBM, rAppend, rExtend, rIn, cx_K, rIxS, rIxL, rIxT, tRet, tIfS, tTest, tChain, rI, rI0, rU, tC, tVar, tOp, tUn, tCB, tCons, tNil, tSeq, tNext, tB, tNot, tAnd, tOr, tAndV, tOrV, tNotV, tFc, sFc, sFcA, tMt, tCl, tNw, tLst, tTup, tDrop, tAsg, tPar, gName, gCons, gNil, tR1, rEq, rNe, rAdd, rSub, tAug, ipI, L2.start, List.map, List.length, List.replicate, List.append, List.set, exists_eq_left', exists_eq_left, exists_eq_right, exists_eq_right', exists_and_left, exists_and_right, exists_eq, exists_eq', Option.some.injEq, List.getElem?_cons_zero, List.getElem?_cons_succ, V.bl.injEq, V.int.injEq, V.str.injEq, V.ref.injEq, List.cons_append, List.nil_append, List.cons.injEq, HO.ins.injEq, HO.lst.injEq, HO.tup.injEq, true_and, and_true, decide_eq_true_eq, Bool.false_eq_true, ↓reduceIte, Bool.not_true, Bool.not_false, Bool.not_eq_true', decide_eq_false_iff_not, List.set_cons_zero, List.set_cons_succ, and_assoc, scal, dec_int, dec_str, forall_const, implies_true, k1, wdF_get]
    refine ⟨w, R, x.2, rfl, w1, ?_⟩
    simp only [rIxD, gSub, rSetL, sDPut, tDGet, tDIn, tDNotIn, wipe, rLenS, tBM, rAppend, rExtend, rIn, cx_K, rIxS, rIxL, rIxT, tRet, tIfS, tTest, tChain, rI, rI0, rU, tC, tVar, tOp, tUn, tCB, tCons, tNil, tSeq, tNext, tB, tNot, tAnd, tOr, tAndV, tOrV, tNotV, tFc, sFc, sFcA, tMt, tCl, tNw, tLst, tTup, tDrop, tAsg, tPar, gName, gCons, gNil, tR1, rEq, rNe, rAdd, rSub, tAug, ipI, L2.start, List.map, List.length, List.replicate, List.append, List.set, exists_eq_left', exists_eq_left, exists_eq_right, exists_eq_right', exists_and_left, exists_and_right, exists_eq, exists_eq', Option.some.injEq, List.getElem?_cons_zero, List.getElem?_cons_succ, V.bl.injEq, V.int.injEq, V.str.injEq, V.ref.injEq, List.cons_append, List.nil_append, List.cons.injEq, HO.ins.injEq, HO.lst.injEq, HO.tup.injEq, true_and, and_true, decide_eq_true_eq, Bool.false_eq_true, ↓reduceIte, Bool.not_true, Bool.not_false, Bool.not_eq_true', decide_eq_false_iff_not, List.set_cons_zero, List.set_cons_succ, and_assoc, scal, dec_int, dec_str, forall_const, implies_true]
    cases hx : x.2.isEmpty with
    | true =>
      rw [hx] at qx
      refine iteT ⟨by decide, fun t ht => ?_⟩
      exact (show Wp (Except.ok (x.1, none)) _ _ from qx) _ _ (Same.upd (w1.same.free ht) w1.same) upd_same
    | false =>
      rw [hx] at qx
      rw [if_neg (by decide)] at qx
      simp only [Wp_bind] at qx
      refine iteF ⟨_, _, k1, rfl, w, R, x.2, 0, 9999, rfl, w1, qx.imp (fun _ z => z) fun y ey qy H2 w2 => ?_⟩
      obtain ⟨dx2, a2, i2, row2, k2, _⟩ := w2.ex
      simp only [rIxD, gSub, rSetL, sDPut, tDGet, tDIn, tDNotIn, wipe, rLenS, tBM, rAppend, rExtend, rIn, cx_K, rIxS, rIxL, rIxT, tRet, tIfS, tTest, tChain, rI, rI0, rU, tC, tVar, tOp, tUn, tCB, tCons, tNil, tSeq, tNext, tB, tNot, tAnd, tOr, tAndV, tOrV, tNotV, tFc, sFc, sFcA, tMt, tCl, tNw, tLst, tTup, tDrop, tAsg, tPar, gName, gCons, gNil, tR1, rEq, rNe, rAdd, rSub, tAug, ipI, L2.start, List.map, List.length, List.replicate, List.append, List.set, exists_eq_left', exists_eq_left, exists_eq_right, exists_eq_right', exists_and_left, exists_and_right, exists_eq, exists_eq', Option.some.injEq, List.getElem?_cons_zero, List.getElem?_cons_succ, V.bl.injEq, V.int.injEq, V.str.injEq, V.ref.injEq, List.cons_append, List.nil_append, List.cons.injEq, HO.ins.injEq, HO.lst.injEq, HO.tup.injEq, true_and, and_true, decide_eq_true_eq, Bool.false_eq_true, ↓reduceIte, Bool.not_true, Bool.not_false, Bool.not_eq_true', decide_eq_false_iff_not, List.set_cons_zero, List.set_cons_succ, and_assoc, scal, dec_int, dec_str, forall_const, implies_true, k2, wdF_get]
      refine ⟨w, R, y.2, rfl, w2, qy.imp (fun _ z => z) fun _ _ q3 => ⟨by decide, fun t ht => ?_⟩⟩
      exact q3 _ _ (Same.upd (w2.same.free ht) w2.same) upd_same
/-! ## lines -/
/-- a plant has room yet -/
structure Lim (p : Xb08.Plant) : Prop where
  be : p.belts.length ≤ 12
  ch : p.chutes.length ≤ 12
  se : p.sensors.length ≤ 12
  pu : p.pushers.length ≤ 12
  ru : p.rules.length ≤ 12
  pa : p.parcels.length ≤ 40
theorem four {ks : List KN} (h : ∀ e ∈ ks, e.k = 1 ∨ e.k = 2 ∨ e.k = 3 ∨ e.k = 4) : ks.length = cnt 1 ks + cnt 2 ks + cnt 3 ks + cnt 4 ks := by
  induction ks with
  | nil => rfl
  | cons e ks ih =>
    have ih := ih fun x hx => h x (List.mem_cons_of_mem _ hx)
    unfold cnt at ih ⊢
    rcases h e List.mem_cons_self with z | z | z | z <;> simp [List.filter_cons, z] <;> omega
theorem KnOk.small {ks : List KN} {p : Xb08.Plant} (h : KnOk ks p) (l : Lim p) : ks.length ≤ 48 := by
  have hk : ∀ e ∈ ks, e.k = 1 ∨ e.k = 2 ∨ e.k = 3 ∨ e.k = 4 := fun e he => by
    have a := h.at_ he
    unfold namesOf at a
    by_cases h1 : e.k = 1
    · exact .inl h1
    by_cases h2 : e.k = 2
    · exact .inr (.inl h2)
    by_cases h3 : e.k = 3
    · exact .inr (.inr (.inl h3))
    by_cases h4 : e.k = 4
    · exact .inr (.inr (.inr h4))
    rw [if_neg h1, if_neg h2, if_neg h3, if_neg h4] at a
    cases a
  rw [four hk, h.cnt, h.cnt, h.cnt, h.cnt]
  have := l.be
  have := l.ch
  have := l.se
  have := l.pu
  simp [namesOf]
  omega
theorem wantNew_ok {ks : List KN} {k : Nat} {n : W} {u : Unit} (h : wantNew ks k n = .ok u) : (∀ e ∈ ks, e.n ≠ n) ∧ cnt k ks < 12 := by
  unfold wantNew at h
  by_cases h1 : (lookN ks n).isSome = true
  · rw [if_pos h1] at h
    cases h
  · rw [if_neg h1] at h
    by_cases h2 : 12 ≤ cnt k ks
    · rw [if_pos h2] at h
      cases h
    · refine ⟨fun e he en => h1 ?_, by omega⟩
      unfold lookN
      rw [List.find?_isSome]
      exact ⟨e, he, decide_eq_true en⟩
/-- what a line's deed promises -/
def LineP (g : GG) (f : Xb08.Plant → List KN → List W → Except Nat (Xb08.Plant × List KN)) : Sp := fun vs H Q E => ∃ (M R : Hp) (L : PL) (p : Xb08.Plant) (ks : List KN) (w : Addr) (ws : List W), vs = [.ref L.pl, .ref w] ∧ PlantAt g M R L p ks ∧ KnOk ks p ∧ Lim p ∧ WordsAt g H M w ws ∧
  Wp (f p ks ws) (LF g E R) fun r => ∀ H', PlantAt g H' R L r.1 r.2 → Q .non H'
def doChute (p : Xb08.Plant) (ks : List KN) (ws : List W) : Except Nat (Xb08.Plant × List KN) := takeName ws >>= fun a => takeNumber 1 99 a.2 >>= fun b => takeEnd b.2 >>= fun _ => wantNew ks 2 a.1 >>= fun _ =>
  .ok ({ p with chutes := p.chutes ++ [⟨a.1, b.1⟩] }, ks ++ [⟨a.1, 2, cnt 2 ks⟩])
def sp_do_chute (g : GG) : Sp := fun vs H Q E => LineP g (fun p ks ws => doChute p ks ws) vs H Q E
theorem ok_do_chute (T : Tx g) : Fn (L2N.CX g.P g.w) g 6 "do_chute" ["plant", "words"] (sp_do_chute g) := by
  refine fnC (k := 5) T.gl_do_chute T.df_do_chute sc_do_chute (fun _ _ _ _ _ _ us hl => match us, hl with | [_, _], _ => rfl) ?_ ?_
  · rintro vs H Q E ⟨M, R, L, p, ks, w, ws, rfl, _⟩
    rfl
  · rintro cdv A outer s H vs Q E hr ⟨M, R, L, p, ks, w, ws, rfl, hp, ok, lim, hw, q⟩
    refine ⟨_, (pss_cons (ps_set (i := 2) sc_do_chute.nd rfl (.inl rfl) (pe_mx0 (ok_Words_take_name T) hr (by decide) pxN (pv 1))) (pss_cons (ps_set (i := 3) sc_do_chute.nd rfl (.inl rfl) (pe_mx (ok_Words_take_number T) hr (by decide) pxN (pv 1) (pa_cons pe_int (pa_cons (C8.pe_gc rfl T.in_MOST_ROOM) pa_nil)))) (pss_cons (ps_expr (pe_mx0 (ok_Words_take_end T) hr (by decide) pxN (pv 1))) (pss_cons (ps_expr (pe_fx (ok_want_new T) hr (by decide) pxN (pa_cons (pv 0) (pa_cons (C8.pe_gc rfl T.in_CHUTE) (pa_cons (pv 2) pa_nil))))) (pss_one (ps_expr (pe_mt (ok_Plant_put_chute T) hr (by decide) (pv 0) (pa_cons (pv 2) (pa_cons (pv 3) pa_nil))))))))), ?_⟩
    unfold doChute at q
    simp only [Wp_bind] at q
    obtain ⟨dx0, a0, i0, row0, k0, _⟩ := hw.ex
    simp only [rIxD, gSub, rSetL, sDPut, tDGet, tDIn, tDNotIn, wipe, rLenS, tBM, rAppend, rExtend, rIn, cx_K, rIxS, rIxL, rIxT, tRet, tIfS, tTest, tChain, rI, rI0, rU, tC, tVar, tOp, tUn, tCB, tCons, tNil, tSeq, tNext, tB, tNot, tAnd, tOr, tAndV, tOrV, tNotV, tFc, sFc, sFcA, tMt, tCl, tNw, tLst, tTup, tDrop, tAsg, tPar, gName, gCons, gNil, tR1, rEq, rNe, rAdd, rSub, tAug, ipI, L2.start, List.map, List.length, List.replicate, List.append, List.set, exists_eq_left', exists_eq_left, exists_eq_right, exists_eq_right', exists_and_left, exists_and_right, exists_eq, exists_eq', Option.some.injEq, List.getElem?_cons_zero, List.getElem?_cons_succ, V.bl.injEq, V.int.injEq, V.str.injEq, V.ref.injEq, List.cons_append, List.nil_append, List.cons.injEq, HO.ins.injEq, HO.lst.injEq, HO.tup.injEq, true_and, and_true, decide_eq_true_eq, Bool.false_eq_true, ↓reduceIte, Bool.not_true, Bool.not_false, Bool.not_eq_true', decide_eq_false_iff_not, List.set_cons_zero, List.set_cons_succ, and_assoc, scal, dec_int, dec_str, forall_const, implies_true, k0, wdF_get, st_to, st_on, st_push, st_after, st_every, st_times]
    refine ⟨w, M, ws, rfl, hw, q.imp (fun _ z => z.mono hp.same) fun x0 e0 q0 H1 w1 => ?_⟩
    obtain ⟨dx1, a1, i1, row1, k1, _⟩ := w1.ex
    simp only [rIxD, gSub, rSetL, sDPut, tDGet, tDIn, tDNotIn, wipe, rLenS, tBM, rAppend, rExtend, rIn, cx_K, rIxS, rIxL, rIxT, tRet, tIfS, tTest, tChain, rI, rI0, rU, tC, tVar, tOp, tUn, tCB, tCons, tNil, tSeq, tNext, tB, tNot, tAnd, tOr, tAndV, tOrV, tNotV, tFc, sFc, sFcA, tMt, tCl, tNw, tLst, tTup, tDrop, tAsg, tPar, gName, gCons, gNil, tR1, rEq, rNe, rAdd, rSub, tAug, ipI, L2.start, List.map, List.length, List.replicate, List.append, List.set, exists_eq_left', exists_eq_left, exists_eq_right, exists_eq_right', exists_and_left, exists_and_right, exists_eq, exists_eq', Option.some.injEq, List.getElem?_cons_zero, List.getElem?_cons_succ, V.bl.injEq, V.int.injEq, V.str.injEq, V.ref.injEq, List.cons_append, List.nil_append, List.cons.injEq, HO.ins.injEq, HO.lst.injEq, HO.tup.injEq, true_and, and_true, decide_eq_true_eq, Bool.false_eq_true, ↓reduceIte, Bool.not_true, Bool.not_false, Bool.not_eq_true', decide_eq_false_iff_not, List.set_cons_zero, List.set_cons_succ, and_assoc, scal, dec_int, dec_str, forall_const, implies_true, k1, wdF_get, st_to, st_on, st_push, st_after, st_every, st_times]
    refine ⟨w, M, x0.2, 1, 99, rfl, w1, q0.imp (fun _ z => z.mono hp.same) fun x1 e1 q1 H2 w2 => ?_⟩
    obtain ⟨dx2, a2, i2, row2, k2, _⟩ := w2.ex
    simp only [rIxD, gSub, rSetL, sDPut, tDGet, tDIn, tDNotIn, wipe, rLenS, tBM, rAppend, rExtend, rIn, cx_K, rIxS, rIxL, rIxT, tRet, tIfS, tTest, tChain, rI, rI0, rU, tC, tVar, tOp, tUn, tCB, tCons, tNil, tSeq, tNext, tB, tNot, tAnd, tOr, tAndV, tOrV, tNotV, tFc, sFc, sFcA, tMt, tCl, tNw, tLst, tTup, tDrop, tAsg, tPar, gName, gCons, gNil, tR1, rEq, rNe, rAdd, rSub, tAug, ipI, L2.start, List.map, List.length, List.replicate, List.append, List.set, exists_eq_left', exists_eq_left, exists_eq_right, exists_eq_right', exists_and_left, exists_and_right, exists_eq, exists_eq', Option.some.injEq, List.getElem?_cons_zero, List.getElem?_cons_succ, V.bl.injEq, V.int.injEq, V.str.injEq, V.ref.injEq, List.cons_append, List.nil_append, List.cons.injEq, HO.ins.injEq, HO.lst.injEq, HO.tup.injEq, true_and, and_true, decide_eq_true_eq, Bool.false_eq_true, ↓reduceIte, Bool.not_true, Bool.not_false, Bool.not_eq_true', decide_eq_false_iff_not, List.set_cons_zero, List.set_cons_succ, and_assoc, scal, dec_int, dec_str, forall_const, implies_true, k2, wdF_get]
    refine ⟨w, M, x1.2, rfl, w2, q1.imp (fun _ z => z.mono hp.same) fun x2 e2 q2 => ?_⟩
    have hp3 := hp.mono w2.same
    simp only [rIxD, gSub, rSetL, sDPut, tDGet, tDIn, tDNotIn, wipe, rLenS, tBM, rAppend, rExtend, rIn, cx_K, rIxS, rIxL, rIxT, tRet, tIfS, tTest, tChain, rI, rI0, rU, tC, tVar, tOp, tUn, tCB, tCons, tNil, tSeq, tNext, tB, tNot, tAnd, tOr, tAndV, tOrV, tNotV, tFc, sFc, sFcA, tMt, tCl, tNw, tLst, tTup, tDrop, tAsg, tPar, gName, gCons, gNil, tR1, rEq, rNe, rAdd, rSub, tAug, ipI, L2.start, List.map, List.length, List.replicate, List.append, List.set, exists_eq_left', exists_eq_left, exists_eq_right, exists_eq_right', exists_and_left, exists_and_right, exists_eq, exists_eq', Option.some.injEq, List.getElem?_cons_zero, List.getElem?_cons_succ, V.bl.injEq, V.int.injEq, V.str.injEq, V.ref.injEq, List.cons_append, List.nil_append, List.cons.injEq, HO.ins.injEq, HO.lst.injEq, HO.tup.injEq, true_and, and_true, decide_eq_true_eq, Bool.false_eq_true, ↓reduceIte, Bool.not_true, Bool.not_false, Bool.not_eq_true', decide_eq_false_iff_not, List.set_cons_zero, List.set_cons_succ, and_assoc, scal, dec_int, dec_str, forall_const, implies_true]
    refine ⟨R, L, p, ks, 2, x0.1, rfl, hp3, (by have := ok.small lim; omega), q2.imp (fun _ z => z) fun x3 e3 q3 H4 s4 => ?_⟩
    obtain ⟨new, few⟩ := wantNew_ok e3
    have hp4 := hp3.mono s4
    obtain ⟨px4, pi4⟩ := hp4.ins
    simp only [rIxD, gSub, rSetL, sDPut, tDGet, tDIn, tDNotIn, wipe, rLenS, tBM, rAppend, rExtend, rIn, cx_K, rIxS, rIxL, rIxT, tRet, tIfS, tTest, tChain, rI, rI0, rU, tC, tVar, tOp, tUn, tCB, tCons, tNil, tSeq, tNext, tB, tNot, tAnd, tOr, tAndV, tOrV, tNotV, tFc, sFc, sFcA, tMt, tCl, tNw, tLst, tTup, tDrop, tAsg, tPar, gName, gCons, gNil, tR1, rEq, rNe, rAdd, rSub, tAug, ipI, L2.start, List.map, List.length, List.replicate, List.append, List.set, exists_eq_left', exists_eq_left, exists_eq_right, exists_eq_right', exists_and_left, exists_and_right, exists_eq, exists_eq', Option.some.injEq, List.getElem?_cons_zero, List.getElem?_cons_succ, V.bl.injEq, V.int.injEq, V.str.injEq, V.ref.injEq, List.cons_append, List.nil_append, List.cons.injEq, HO.ins.injEq, HO.lst.injEq, HO.tup.injEq, true_and, and_true, decide_eq_true_eq, Bool.false_eq_true, ↓reduceIte, Bool.not_true, Bool.not_false, Bool.not_eq_true', decide_eq_false_iff_not, List.set_cons_zero, List.set_cons_succ, and_assoc, scal, dec_int, dec_str, forall_const, implies_true, pi4, PL.fs, plF_get]
    exact ⟨R, L, p, ks, x1.1, x0.1, rfl, hp4, (by have := ok.small lim; omega), new, (by have := lim.ch; omega), fun H' h' => (show Wp (Except.ok _) _ _ from q3) H' h'⟩
def doEye (p : Xb08.Plant) (ks : List KN) (ws : List W) : Except Nat (Xb08.Plant × List KN) := takeName ws >>= fun a => takeTold (ascii "on") a.2 >>= fun b => takeName b >>= fun c => takeNumber 0 9999 c.2 >>= fun d => takeEnd d.2 >>= fun _ => wantNew ks 3 a.1 >>= fun _ =>
  beltWith p ks c.1 d.1 >>= fun k => .ok ({ p with sensors := p.sensors ++ [⟨a.1, k, d.1⟩] }, ks ++ [⟨a.1, 3, cnt 3 ks⟩])
def sp_do_eye (g : GG) : Sp := fun vs H Q E => LineP g (fun p ks ws => doEye p ks ws) vs H Q E
theorem ok_do_eye (T : Tx g) : Fn (L2N.CX g.P g.w) g 6 "do_eye" ["plant", "words"] (sp_do_eye g) := by
  refine fnC (k := 5) T.gl_do_eye T.df_do_eye sc_do_eye (fun _ _ _ _ _ _ us hl => match us, hl with | [_, _], _ => rfl) ?_ ?_
  · rintro vs H Q E ⟨M, R, L, p, ks, w, ws, rfl, _⟩
    rfl
  · rintro cdv A outer s H vs Q E hr ⟨M, R, L, p, ks, w, ws, rfl, hp, ok, lim, hw, q⟩
    refine ⟨_, (pss_cons (ps_set (i := 2) sc_do_eye.nd rfl (.inl rfl) (pe_mx0 (ok_Words_take_name T) hr (by decide) pxN (pv 1))) (pss_cons (ps_expr (pe_mx (ok_Words_take_told T) hr (by decide) pxN (pv 1) (pa_cons pe_str pa_nil))) (pss_cons (ps_set (i := 3) sc_do_eye.nd rfl (.inl rfl) (pe_mx0 (ok_Words_take_name T) hr (by decide) pxN (pv 1))) (pss_cons (ps_set (i := 4) sc_do_eye.nd rfl (.inl rfl) (pe_mx (ok_Words_take_number T) hr (by decide) pxN (pv 1) (pa_cons pe_int (pa_cons (C8.pe_gc rfl T.in_MOST_NUMBER) pa_nil)))) (pss_cons (ps_expr (pe_mx0 (ok_Words_take_end T) hr (by decide) pxN (pv 1))) (pss_cons (ps_expr (pe_fx (ok_want_new T) hr (by decide) pxN (pa_cons (pv 0) (pa_cons (C8.pe_gc rfl T.in_EYE) (pa_cons (pv 2) pa_nil))))) (pss_one (ps_expr (pe_mt (ok_Plant_put_eye T) hr (by decide) (pv 0) (pa_cons (pv 2) (pa_cons (pe_fx (ok_belt_with T) hr (by decide) pxN (pa_cons (pv 0) (pa_cons (pv 3) (pa_cons (pv 4) pa_nil)))) (pa_cons (pv 4) pa_nil)))))))))))), ?_⟩
    unfold doEye at q
    simp only [Wp_bind] at q
    obtain ⟨dx0, a0, i0, row0, k0, _⟩ := hw.ex
    simp only [rIxD, gSub, rSetL, sDPut, tDGet, tDIn, tDNotIn, wipe, rLenS, tBM, rAppend, rExtend, rIn, cx_K, rIxS, rIxL, rIxT, tRet, tIfS, tTest, tChain, rI, rI0, rU, tC, tVar, tOp, tUn, tCB, tCons, tNil, tSeq, tNext, tB, tNot, tAnd, tOr, tAndV, tOrV, tNotV, tFc, sFc, sFcA, tMt, tCl, tNw, tLst, tTup, tDrop, tAsg, tPar, gName, gCons, gNil, tR1, rEq, rNe, rAdd, rSub, tAug, ipI, L2.start, List.map, List.length, List.replicate, List.append, List.set, exists_eq_left', exists_eq_left, exists_eq_right, exists_eq_right', exists_and_left, exists_and_right, exists_eq, exists_eq', Option.some.injEq, List.getElem?_cons_zero, List.getElem?_cons_succ, V.bl.injEq, V.int.injEq, V.str.injEq, V.ref.injEq, List.cons_append, List.nil_append, List.cons.injEq, HO.ins.injEq, HO.lst.injEq, HO.tup.injEq, true_and, and_true, decide_eq_true_eq, Bool.false_eq_true, ↓reduceIte, Bool.not_true, Bool.not_false, Bool.not_eq_true', decide_eq_false_iff_not, List.set_cons_zero, List.set_cons_succ, and_assoc, scal, dec_int, dec_str, forall_const, implies_true, k0, wdF_get, st_to, st_on, st_push, st_after, st_every, st_times]
    refine ⟨w, M, ws, rfl, hw, q.imp (fun _ z => z.mono hp.same) fun x0 e0 q0 H1 w1 => ?_⟩
    obtain ⟨dx1, a1, i1, row1, k1, _⟩ := w1.ex
    simp only [rIxD, gSub, rSetL, sDPut, tDGet, tDIn, tDNotIn, wipe, rLenS, tBM, rAppend, rExtend, rIn, cx_K, rIxS, rIxL, rIxT, tRet, tIfS, tTest, tChain, rI, rI0, rU, tC, tVar, tOp, tUn, tCB, tCons, tNil, tSeq, tNext, tB, tNot, tAnd, tOr, tAndV, tOrV, tNotV, tFc, sFc, sFcA, tMt, tCl, tNw, tLst, tTup, tDrop, tAsg, tPar, gName, gCons, gNil, tR1, rEq, rNe, rAdd, rSub, tAug, ipI, L2.start, List.map, List.length, List.replicate, List.append, List.set, exists_eq_left', exists_eq_left, exists_eq_right, exists_eq_right', exists_and_left, exists_and_right, exists_eq, exists_eq', Option.some.injEq, List.getElem?_cons_zero, List.getElem?_cons_succ, V.bl.injEq, V.int.injEq, V.str.injEq, V.ref.injEq, List.cons_append, List.nil_append, List.cons.injEq, HO.ins.injEq, HO.lst.injEq, HO.tup.injEq, true_and, and_true, decide_eq_true_eq, Bool.false_eq_true, ↓reduceIte, Bool.not_true, Bool.not_false, Bool.not_eq_true', decide_eq_false_iff_not, List.set_cons_zero, List.set_cons_succ, and_assoc, scal, dec_int, dec_str, forall_const, implies_true, k1, wdF_get, st_to, st_on, st_push, st_after, st_every, st_times]
    refine ⟨w, M, x0.2, ascii "on", rfl, w1, q0.imp (fun _ z => z.mono hp.same) fun x1 e1 q1 H2 w2 => ?_⟩
    obtain ⟨dx2, a2, i2, row2, k2, _⟩ := w2.ex
    simp only [rIxD, gSub, rSetL, sDPut, tDGet, tDIn, tDNotIn, wipe, rLenS, tBM, rAppend, rExtend, rIn, cx_K, rIxS, rIxL, rIxT, tRet, tIfS, tTest, tChain, rI, rI0, rU, tC, tVar, tOp, tUn, tCB, tCons, tNil, tSeq, tNext, tB, tNot, tAnd, tOr, tAndV, tOrV, tNotV, tFc, sFc, sFcA, tMt, tCl, tNw, tLst, tTup, tDrop, tAsg, tPar, gName, gCons, gNil, tR1, rEq, rNe, rAdd, rSub, tAug, ipI, L2.start, List.map, List.length, List.replicate, List.append, List.set, exists_eq_left', exists_eq_left, exists_eq_right, exists_eq_right', exists_and_left, exists_and_right, exists_eq, exists_eq', Option.some.injEq, List.getElem?_cons_zero, List.getElem?_cons_succ, V.bl.injEq, V.int.injEq, V.str.injEq, V.ref.injEq, List.cons_append, List.nil_append, List.cons.injEq, HO.ins.injEq, HO.lst.injEq, HO.tup.injEq, true_and, and_true, decide_eq_true_eq, Bool.false_eq_true, ↓reduceIte, Bool.not_true, Bool.not_false, Bool.not_eq_true', decide_eq_false_iff_not, List.set_cons_zero, List.set_cons_succ, and_assoc, scal, dec_int, dec_str, forall_const, implies_true, k2, wdF_get, st_to, st_on, st_push, st_after, st_every, st_times]
    refine ⟨w, M, x1, rfl, w2, q1.imp (fun _ z => z.mono hp.same) fun x2 e2 q2 H3 w3 => ?_⟩
    obtain ⟨dx3, a3, i3, row3, k3, _⟩ := w3.ex
    simp only [rIxD, gSub, rSetL, sDPut, tDGet, tDIn, tDNotIn, wipe, rLenS, tBM, rAppend, rExtend, rIn, cx_K, rIxS, rIxL, rIxT, tRet, tIfS, tTest, tChain, rI, rI0, rU, tC, tVar, tOp, tUn, tCB, tCons, tNil, tSeq, tNext, tB, tNot, tAnd, tOr, tAndV, tOrV, tNotV, tFc, sFc, sFcA, tMt, tCl, tNw, tLst, tTup, tDrop, tAsg, tPar, gName, gCons, gNil, tR1, rEq, rNe, rAdd, rSub, tAug, ipI, L2.start, List.map, List.length, List.replicate, List.append, List.set, exists_eq_left', exists_eq_left, exists_eq_right, exists_eq_right', exists_and_left, exists_and_right, exists_eq, exists_eq', Option.some.injEq, List.getElem?_cons_zero, List.getElem?_cons_succ, V.bl.injEq, V.int.injEq, V.str.injEq, V.ref.injEq, List.cons_append, List.nil_append, List.cons.injEq, HO.ins.injEq, HO.lst.injEq, HO.tup.injEq, true_and, and_true, decide_eq_true_eq, Bool.false_eq_true, ↓reduceIte, Bool.not_true, Bool.not_false, Bool.not_eq_true', decide_eq_false_iff_not, List.set_cons_zero, List.set_cons_succ, and_assoc, scal, dec_int, dec_str, forall_const, implies_true, k3, wdF_get, st_to, st_on, st_push, st_after, st_every, st_times]
    refine ⟨w, M, x2.2, 0, 9999, rfl, w3, q2.imp (fun _ z => z.mono hp.same) fun x3 e3 q3 H4 w4 => ?_⟩
    obtain ⟨dx4, a4, i4, row4, k4, _⟩ := w4.ex
    simp only [rIxD, gSub, rSetL, sDPut, tDGet, tDIn, tDNotIn, wipe, rLenS, tBM, rAppend, rExtend, rIn, cx_K, rIxS, rIxL, rIxT, tRet, tIfS, tTest, tChain, rI, rI0, rU, tC, tVar, tOp, tUn, tCB, tCons, tNil, tSeq, tNext, tB, tNot, tAnd, tOr, tAndV, tOrV, tNotV, tFc, sFc, sFcA, tMt, tCl, tNw, tLst, tTup, tDrop, tAsg, tPar, gName, gCons, gNil, tR1, rEq, rNe, rAdd, rSub, tAug, ipI, L2.start, List.map, List.length, List.replicate, List.append, List.set, exists_eq_left', exists_eq_left, exists_eq_right, exists_eq_right', exists_and_left, exists_and_right, exists_eq, exists_eq', Option.some.injEq, List.getElem?_cons_zero, List.getElem?_cons_succ, V.bl.injEq, V.int.injEq, V.str.injEq, V.ref.injEq, List.cons_append, List.nil_append, List.cons.injEq, HO.ins.injEq, HO.lst.injEq, HO.tup.injEq, true_and, and_true, decide_eq_true_eq, Bool.false_eq_true, ↓reduceIte, Bool.not_true, Bool.not_false, Bool.not_eq_true', decide_eq_false_iff_not, List.set_cons_zero, List.set_cons_succ, and_assoc, scal, dec_int, dec_str, forall_const, implies_true, k4, wdF_get]
    refine ⟨w, M, x3.2, rfl, w4, q3.imp (fun _ z => z.mono hp.same) fun x4 e4 q4 => ?_⟩
    have hp5 := hp.mono w4.same
    simp only [rIxD, gSub, rSetL, sDPut, tDGet, tDIn, tDNotIn, wipe, rLenS, tBM, rAppend, rExtend, rIn, cx_K, rIxS, rIxL, rIxT, tRet, tIfS, tTest, tChain, rI, rI0, rU, tC, tVar, tOp, tUn, tCB, tCons, tNil, tSeq, tNext, tB, tNot, tAnd, tOr, tAndV, tOrV, tNotV, tFc, sFc, sFcA, tMt, tCl, tNw, tLst, tTup, tDrop, tAsg, tPar, gName, gCons, gNil, tR1, rEq, rNe, rAdd, rSub, tAug, ipI, L2.start, List.map, List.length, List.replicate, List.append, List.set, exists_eq_left', exists_eq_left, exists_eq_right, exists_eq_right', exists_and_left, exists_and_right, exists_eq, exists_eq', Option.some.injEq, List.getElem?_cons_zero, List.getElem?_cons_succ, V.bl.injEq, V.int.injEq, V.str.injEq, V.ref.injEq, List.cons_append, List.nil_append, List.cons.injEq, HO.ins.injEq, HO.lst.injEq, HO.tup.injEq, true_and, and_true, decide_eq_true_eq, Bool.false_eq_true, ↓reduceIte, Bool.not_true, Bool.not_false, Bool.not_eq_true', decide_eq_false_iff_not, List.set_cons_zero, List.set_cons_succ, and_assoc, scal, dec_int, dec_str, forall_const, implies_true]
    refine ⟨R, L, p, ks, 3, x0.1, rfl, hp5, (by have := ok.small lim; omega), q4.imp (fun _ z => z) fun x5 e5 q5 H6 s6 => ?_⟩
    obtain ⟨new, few⟩ := wantNew_ok e5
    have hp6 := hp5.mono s6
    obtain ⟨px6, pi6⟩ := hp6.ins
    simp only [rIxD, gSub, rSetL, sDPut, tDGet, tDIn, tDNotIn, wipe, rLenS, tBM, rAppend, rExtend, rIn, cx_K, rIxS, rIxL, rIxT, tRet, tIfS, tTest, tChain, rI, rI0, rU, tC, tVar, tOp, tUn, tCB, tCons, tNil, tSeq, tNext, tB, tNot, tAnd, tOr, tAndV, tOrV, tNotV, tFc, sFc, sFcA, tMt, tCl, tNw, tLst, tTup, tDrop, tAsg, tPar, gName, gCons, gNil, tR1, rEq, rNe, rAdd, rSub, tAug, ipI, L2.start, List.map, List.length, List.replicate, List.append, List.set, exists_eq_left', exists_eq_left, exists_eq_right, exists_eq_right', exists_and_left, exists_and_right, exists_eq, exists_eq', Option.some.injEq, List.getElem?_cons_zero, List.getElem?_cons_succ, V.bl.injEq, V.int.injEq, V.str.injEq, V.ref.injEq, List.cons_append, List.nil_append, List.cons.injEq, HO.ins.injEq, HO.lst.injEq, HO.tup.injEq, true_and, and_true, decide_eq_true_eq, Bool.false_eq_true, ↓reduceIte, Bool.not_true, Bool.not_false, Bool.not_eq_true', decide_eq_false_iff_not, List.set_cons_zero, List.set_cons_succ, and_assoc, scal, dec_int, dec_str, forall_const, implies_true, pi6, PL.fs, plF_get]
    refine ⟨R, L, p, ks, x2.1, x3.1, rfl, hp6, ok, q5.imp (fun _ z => z) fun k ek qk => ?_⟩
    exact ⟨R, L, p, ks, x0.1, k, x3.1, rfl, hp6, (by have := ok.small lim; omega), new, (by have := lim.se; omega), fun H' h' => (show Wp (Except.ok _) _ _ from qk) H' h'⟩
def doLead (p : Xb08.Plant) (ks : List KN) (ws : List W) : Except Nat (Xb08.Plant × List KN) := takeName ws >>= fun a => takeTold (ascii "to") a.2 >>= fun b => readGoal b >>= fun o => numberE ks 1 a.1 >>= fun k => goalE p ks o >>= fun gl =>
  .ok ({ p with belts := p.belts.modify k fun x => { x with goal := some gl } }, ks)
def sp_do_lead (g : GG) : Sp := fun vs H Q E => LineP g (fun p ks ws => doLead p ks ws) vs H Q E
theorem ok_do_lead (T : Tx g) : Fn (L2N.CX g.P g.w) g 7 "do_lead" ["plant", "words"] (sp_do_lead g) := by
  refine fnC (k := 6) T.gl_do_lead T.df_do_lead sc_do_lead (fun _ _ _ _ _ _ us hl => match us, hl with | [_, _], _ => rfl) ?_ ?_
  · rintro vs H Q E ⟨M, R, L, p, ks, w, ws, rfl, _⟩
    rfl
  · rintro cdv A outer s H vs Q E hr ⟨M, R, L, p, ks, w, ws, rfl, hp, ok, lim, hw, q⟩
    refine ⟨_, (pss_cons (ps_set (i := 2) sc_do_lead.nd rfl (.inl rfl) (pe_mx0 (ok_Words_take_name T) hr (by decide) pxN (pv 1))) (pss_cons (ps_expr (pe_mx (ok_Words_take_told T) hr (by decide) pxN (pv 1) (pa_cons pe_str pa_nil))) (pss_cons (ps_set (i := 3) sc_do_lead.nd rfl (.inl rfl) (pe_fx (ok_read_goal T) hr (by decide) pxN (pa_cons (pv 1) pa_nil))) (pss_cons (ps_set (i := 4) sc_do_lead.nd rfl (.inl rfl) (pe_fx (ok_number_of T) hr (by decide) pxN (pa_cons (pv 0) (pa_cons (C8.pe_gc rfl T.in_BELT) (pa_cons (pv 2) pa_nil))))) (pss_one (ps_expr (pe_mt (ok_Plant_set_goal T) hr (by decide) (pv 0) (pa_cons (pv 4) (pa_cons (pe_fx (ok_goal_of T) hr (by decide) pxN (pa_cons (pv 0) (pa_cons (pv 3) pa_nil))) pa_nil))))))))), ?_⟩
    unfold doLead at q
    simp only [Wp_bind] at q
    obtain ⟨dx0, a0, i0, row0, k0, _⟩ := hw.ex
    simp only [rIxD, gSub, rSetL, sDPut, tDGet, tDIn, tDNotIn, wipe, rLenS, tBM, rAppend, rExtend, rIn, cx_K, rIxS, rIxL, rIxT, tRet, tIfS, tTest, tChain, rI, rI0, rU, tC, tVar, tOp, tUn, tCB, tCons, tNil, tSeq, tNext, tB, tNot, tAnd, tOr, tAndV, tOrV, tNotV, tFc, sFc, sFcA, tMt, tCl, tNw, tLst, tTup, tDrop, tAsg, tPar, gName, gCons, gNil, tR1, rEq, rNe, rAdd, rSub, tAug, ipI, L2.start, List.map, List.length, List.replicate, List.append, List.set, exists_eq_left', exists_eq_left, exists_eq_right, exists_eq_right', exists_and_left, exists_and_right, exists_eq, exists_eq', Option.some.injEq, List.getElem?_cons_zero, List.getElem?_cons_succ, V.bl.injEq, V.int.injEq, V.str.injEq, V.ref.injEq, List.cons_append, List.nil_append, List.cons.injEq, HO.ins.injEq, HO.lst.injEq, HO.tup.injEq, true_and, and_true, decide_eq_true_eq, Bool.false_eq_true, ↓reduceIte, Bool.not_true, Bool.not_false, Bool.not_eq_true', decide_eq_false_iff_not, List.set_cons_zero, List.set_cons_succ, and_assoc, scal, dec_int, dec_str, forall_const, implies_true, k0, wdF_get, st_to, st_on, st_push, st_after, st_every, st_times]
    refine ⟨w, M, ws, rfl, hw, q.imp (fun _ z => z.mono hp.same) fun x0 e0 q0 H1 w1 => ?_⟩
    obtain ⟨dx1, a1, i1, row1, k1, _⟩ := w1.ex
    simp only [rIxD, gSub, rSetL, sDPut, tDGet, tDIn, tDNotIn, wipe, rLenS, tBM, rAppend, rExtend, rIn, cx_K, rIxS, rIxL, rIxT, tRet, tIfS, tTest, tChain, rI, rI0, rU, tC, tVar, tOp, tUn, tCB, tCons, tNil, tSeq, tNext, tB, tNot, tAnd, tOr, tAndV, tOrV, tNotV, tFc, sFc, sFcA, tMt, tCl, tNw, tLst, tTup, tDrop, tAsg, tPar, gName, gCons, gNil, tR1, rEq, rNe, rAdd, rSub, tAug, ipI, L2.start, List.map, List.length, List.replicate, List.append, List.set, exists_eq_left', exists_eq_left, exists_eq_right, exists_eq_right', exists_and_left, exists_and_right, exists_eq, exists_eq', Option.some.injEq, List.getElem?_cons_zero, List.getElem?_cons_succ, V.bl.injEq, V.int.injEq, V.str.injEq, V.ref.injEq, List.cons_append, List.nil_append, List.cons.injEq, HO.ins.injEq, HO.lst.injEq, HO.tup.injEq, true_and, and_true, decide_eq_true_eq, Bool.false_eq_true, ↓reduceIte, Bool.not_true, Bool.not_false, Bool.not_eq_true', decide_eq_false_iff_not, List.set_cons_zero, List.set_cons_succ, and_assoc, scal, dec_int, dec_str, forall_const, implies_true, k1, wdF_get, st_to, st_on, st_push, st_after, st_every, st_times]
    refine ⟨w, M, x0.2, ascii "to", rfl, w1, q0.imp (fun _ z => z.mono hp.same) fun x1 e1 q1 H2 w2 => ?_⟩
    simp only [rIxD, gSub, rSetL, sDPut, tDGet, tDIn, tDNotIn, wipe, rLenS, tBM, rAppend, rExtend, rIn, cx_K, rIxS, rIxL, rIxT, tRet, tIfS, tTest, tChain, rI, rI0, rU, tC, tVar, tOp, tUn, tCB, tCons, tNil, tSeq, tNext, tB, tNot, tAnd, tOr, tAndV, tOrV, tNotV, tFc, sFc, sFcA, tMt, tCl, tNw, tLst, tTup, tDrop, tAsg, tPar, gName, gCons, gNil, tR1, rEq, rNe, rAdd, rSub, tAug, ipI, L2.start, List.map, List.length, List.replicate, List.append, List.set, exists_eq_left', exists_eq_left, exists_eq_right, exists_eq_right', exists_and_left, exists_and_right, exists_eq, exists_eq', Option.some.injEq, List.getElem?_cons_zero, List.getElem?_cons_succ, V.bl.injEq, V.int.injEq, V.str.injEq, V.ref.injEq, List.cons_append, List.nil_append, List.cons.injEq, HO.ins.injEq, HO.lst.injEq, HO.tup.injEq, true_and, and_true, decide_eq_true_eq, Bool.false_eq_true, ↓reduceIte, Bool.not_true, Bool.not_false, Bool.not_eq_true', decide_eq_false_iff_not, List.set_cons_zero, List.set_cons_succ, and_assoc, scal, dec_int, dec_str, forall_const, implies_true]
    refine ⟨M, w, x1, rfl, w2, q1.imp (fun _ z => z.mono hp.same) fun o eo qo H3 t s3 ht => ?_⟩
    have hp3 := hp.mono s3
    simp only [rIxD, gSub, rSetL, sDPut, tDGet, tDIn, tDNotIn, wipe, rLenS, tBM, rAppend, rExtend, rIn, cx_K, rIxS, rIxL, rIxT, tRet, tIfS, tTest, tChain, rI, rI0, rU, tC, tVar, tOp, tUn, tCB, tCons, tNil, tSeq, tNext, tB, tNot, tAnd, tOr, tAndV, tOrV, tNotV, tFc, sFc, sFcA, tMt, tCl, tNw, tLst, tTup, tDrop, tAsg, tPar, gName, gCons, gNil, tR1, rEq, rNe, rAdd, rSub, tAug, ipI, L2.start, List.map, List.length, List.replicate, List.append, List.set, exists_eq_left', exists_eq_left, exists_eq_right, exists_eq_right', exists_and_left, exists_and_right, exists_eq, exists_eq', Option.some.injEq, List.getElem?_cons_zero, List.getElem?_cons_succ, V.bl.injEq, V.int.injEq, V.str.injEq, V.ref.injEq, List.cons_append, List.nil_append, List.cons.injEq, HO.ins.injEq, HO.lst.injEq, HO.tup.injEq, true_and, and_true, decide_eq_true_eq, Bool.false_eq_true, ↓reduceIte, Bool.not_true, Bool.not_false, Bool.not_eq_true', decide_eq_false_iff_not, List.set_cons_zero, List.set_cons_succ, and_assoc, scal, dec_int, dec_str, forall_const, implies_true]
    refine ⟨R, L, p, ks, 1, x0.1, rfl, hp3, qo.imp (fun _ z => z) fun k ek qk => ?_⟩
    obtain ⟨px3, pi3⟩ := hp3.ins
    simp only [rIxD, gSub, rSetL, sDPut, tDGet, tDIn, tDNotIn, wipe, rLenS, tBM, rAppend, rExtend, rIn, cx_K, rIxS, rIxL, rIxT, tRet, tIfS, tTest, tChain, rI, rI0, rU, tC, tVar, tOp, tUn, tCB, tCons, tNil, tSeq, tNext, tB, tNot, tAnd, tOr, tAndV, tOrV, tNotV, tFc, sFc, sFcA, tMt, tCl, tNw, tLst, tTup, tDrop, tAsg, tPar, gName, gCons, gNil, tR1, rEq, rNe, rAdd, rSub, tAug, ipI, L2.start, List.map, List.length, List.replicate, List.append, List.set, exists_eq_left', exists_eq_left, exists_eq_right, exists_eq_right', exists_and_left, exists_and_right, exists_eq, exists_eq', Option.some.injEq, List.getElem?_cons_zero, List.getElem?_cons_succ, V.bl.injEq, V.int.injEq, V.str.injEq, V.ref.injEq, List.cons_append, List.nil_append, List.cons.injEq, HO.ins.injEq, HO.lst.injEq, HO.tup.injEq, true_and, and_true, decide_eq_true_eq, Bool.false_eq_true, ↓reduceIte, Bool.not_true, Bool.not_false, Bool.not_eq_true', decide_eq_false_iff_not, List.set_cons_zero, List.set_cons_succ, and_assoc, scal, dec_int, dec_str, forall_const, implies_true, pi3, PL.fs, plF_get]
    refine ⟨R, L, p, ks, t, o.1, o.2, rfl, ht, hp3, ok, qk.imp (fun _ z => z) fun gl eg qg H4 t4 s4 ht4 => ?_⟩
    obtain ⟨px4, pi4⟩ := (hp3.mono s4).ins
    exact ⟨R, L, p, ks, k, gl, _, rfl, hp3.mono s4, ⟨t4, rfl, ht4⟩, ok.belt_lt ek, fun H' h' => (show Wp (Except.ok _) _ _ from qg) H' h'⟩
def doPusher (p : Xb08.Plant) (ks : List KN) (ws : List W) : Except Nat (Xb08.Plant × List KN) := takeName ws >>= fun a => takeTold (ascii "on") a.2 >>= fun b => takeName b >>= fun c => takeNumber 0 9999 c.2 >>= fun d => takeTold (ascii "to") d.2 >>= fun f => readGoal f >>= fun o => wantNew ks 4 a.1 >>= fun _ =>
  beltWith p ks c.1 d.1 >>= fun k => goalE p ks o >>= fun gl => .ok ({ p with pushers := p.pushers ++ [⟨a.1, k, d.1, gl⟩] }, ks ++ [⟨a.1, 4, cnt 4 ks⟩])
def sp_do_pusher (g : GG) : Sp := fun vs H Q E => LineP g (fun p ks ws => doPusher p ks ws) vs H Q E
theorem ok_do_pusher (T : Tx g) : Fn (L2N.CX g.P g.w) g 7 "do_pusher" ["plant", "words"] (sp_do_pusher g) := by
  refine fnC (k := 6) T.gl_do_pusher T.df_do_pusher sc_do_pusher (fun _ _ _ _ _ _ us hl => match us, hl with | [_, _], _ => rfl) ?_ ?_
  · rintro vs H Q E ⟨M, R, L, p, ks, w, ws, rfl, _⟩
    rfl
  · rintro cdv A outer s H vs Q E hr ⟨M, R, L, p, ks, w, ws, rfl, hp, ok, lim, hw, q⟩
    refine ⟨_, (pss_cons (ps_set (i := 2) sc_do_pusher.nd rfl (.inl rfl) (pe_mx0 (ok_Words_take_name T) hr (by decide) pxN (pv 1))) (pss_cons (ps_expr (pe_mx (ok_Words_take_told T) hr (by decide) pxN (pv 1) (pa_cons pe_str pa_nil))) (pss_cons (ps_set (i := 3) sc_do_pusher.nd rfl (.inl rfl) (pe_mx0 (ok_Words_take_name T) hr (by decide) pxN (pv 1))) (pss_cons (ps_set (i := 4) sc_do_pusher.nd rfl (.inl rfl) (pe_mx (ok_Words_take_number T) hr (by decide) pxN (pv 1) (pa_cons pe_int (pa_cons (C8.pe_gc rfl T.in_MOST_NUMBER) pa_nil)))) (pss_cons (ps_expr (pe_mx (ok_Words_take_told T) hr (by decide) pxN (pv 1) (pa_cons pe_str pa_nil))) (pss_cons (ps_set (i := 5) sc_do_pusher.nd rfl (.inl rfl) (pe_fx (ok_read_goal T) hr (by decide) pxN (pa_cons (pv 1) pa_nil))) (pss_cons (ps_expr (pe_fx (ok_want_new T) hr (by decide) pxN (pa_cons (pv 0) (pa_cons (C8.pe_gc rfl T.in_PUSHER) (pa_cons (pv 2) pa_nil))))) (pss_cons (ps_set (i := 6) sc_do_pusher.nd rfl (.inl rfl) (pe_fx (ok_belt_with T) hr (by decide) pxN (pa_cons (pv 0) (pa_cons (pv 3) (pa_cons (pv 4) pa_nil))))) (pss_one (ps_expr (pe_mt (ok_Plant_put_pusher T) hr (by decide) (pv 0) (pa_cons (pv 2) (pa_cons (pv 6) (pa_cons (pv 4) (pa_cons (pe_fx (ok_goal_of T) hr (by decide) pxN (pa_cons (pv 0) (pa_cons (pv 5) pa_nil))) pa_nil))))))))))))))), ?_⟩
    unfold doPusher at q
    simp only [Wp_bind] at q
    obtain ⟨dx0, a0, i0, row0, k0, _⟩ := hw.ex
    simp only [rIxD, gSub, rSetL, sDPut, tDGet, tDIn, tDNotIn, wipe, rLenS, tBM, rAppend, rExtend, rIn, cx_K, rIxS, rIxL, rIxT, tRet, tIfS, tTest, tChain, rI, rI0, rU, tC, tVar, tOp, tUn, tCB, tCons, tNil, tSeq, tNext, tB, tNot, tAnd, tOr, tAndV, tOrV, tNotV, tFc, sFc, sFcA, tMt, tCl, tNw, tLst, tTup, tDrop, tAsg, tPar, gName, gCons, gNil, tR1, rEq, rNe, rAdd, rSub, tAug, ipI, L2.start, List.map, List.length, List.replicate, List.append, List.set, exists_eq_left', exists_eq_left, exists_eq_right, exists_eq_right', exists_and_left, exists_and_right, exists_eq, exists_eq', Option.some.injEq, List.getElem?_cons_zero, List.getElem?_cons_succ, V.bl.injEq, V.int.injEq, V.str.injEq, V.ref.injEq, List.cons_append, List.nil_append, List.cons.injEq, HO.ins.injEq, HO.lst.injEq, HO.tup.injEq, true_and, and_true, decide_eq_true_eq, Bool.false_eq_true, ↓reduceIte, Bool.not_true, Bool.not_false, Bool.not_eq_true', decide_eq_false_iff_not, List.set_cons_zero, List.set_cons_succ, and_assoc, scal, dec_int, dec_str, forall_const, implies_true, k0, wdF_get, st_to, st_on, st_push, st_after, st_every, st_times]
    refine ⟨w, M, ws, rfl, hw, q.imp (fun _ z => z.mono hp.same) fun x0 e0 q0 H1 w1 => ?_⟩
    obtain ⟨dx1, a1, i1, row1, k1, _⟩ := w1.ex
    simp only [rIxD, gSub, rSetL, sDPut, tDGet, tDIn, tDNotIn, wipe, rLenS, tBM, rAppend, rExtend, rIn, cx_K, rIxS, rIxL, rIxT, tRet, tIfS, tTest, tChain, rI, rI0, rU, tC, tVar, tOp, tUn, tCB, tCons, tNil, tSeq, tNext, tB, tNot, tAnd, tOr, tAndV, tOrV, tNotV, tFc, sFc, sFcA, tMt, tCl, tNw, tLst, tTup, tDrop, tAsg, tPar, gName, gCons, gNil, tR1, rEq, rNe, rAdd, rSub, tAug, ipI, L2.start, List.map, List.length, List.replicate, List.append, List.set, exists_eq_left', exists_eq_left, exists_eq_right, exists_eq_right', exists_and_left, exists_and_right, exists_eq, exists_eq', Option.some.injEq, List.getElem?_cons_zero, List.getElem?_cons_succ, V.bl.injEq, V.int.injEq, V.str.injEq, V.ref.injEq, List.cons_append, List.nil_append, List.cons.injEq, HO.ins.injEq, HO.lst.injEq, HO.tup.injEq, true_and, and_true, decide_eq_true_eq, Bool.false_eq_true, ↓reduceIte, Bool.not_true, Bool.not_false, Bool.not_eq_true', decide_eq_false_iff_not, List.set_cons_zero, List.set_cons_succ, and_assoc, scal, dec_int, dec_str, forall_const, implies_true, k1, wdF_get, st_to, st_on, st_push, st_after, st_every, st_times]
    refine ⟨w, M, x0.2, ascii "on", rfl, w1, q0.imp (fun _ z => z.mono hp.same) fun x1 e1 q1 H2 w2 => ?_⟩
    obtain ⟨dx2, a2, i2, row2, k2, _⟩ := w2.ex
    simp only [rIxD, gSub, rSetL, sDPut, tDGet, tDIn, tDNotIn, wipe, rLenS, tBM, rAppend, rExtend, rIn, cx_K, rIxS, rIxL, rIxT, tRet, tIfS, tTest, tChain, rI, rI0, rU, tC, tVar, tOp, tUn, tCB, tCons, tNil, tSeq, tNext, tB, tNot, tAnd, tOr, tAndV, tOrV, tNotV, tFc, sFc, sFcA, tMt, tCl, tNw, tLst, tTup, tDrop, tAsg, tPar, gName, gCons, gNil, tR1, rEq, rNe, rAdd, rSub, tAug, ipI, L2.start, List.map, List.length, List.replicate, List.append, List.set, exists_eq_left', exists_eq_left, exists_eq_right, exists_eq_right', exists_and_left, exists_and_right, exists_eq, exists_eq', Option.some.injEq, List.getElem?_cons_zero, List.getElem?_cons_succ, V.bl.injEq, V.int.injEq, V.str.injEq, V.ref.injEq, List.cons_append, List.nil_append, List.cons.injEq, HO.ins.injEq, HO.lst.injEq, HO.tup.injEq, true_and, and_true, decide_eq_true_eq, Bool.false_eq_true, ↓reduceIte, Bool.not_true, Bool.not_false, Bool.not_eq_true', decide_eq_false_iff_not, List.set_cons_zero, List.set_cons_succ, and_assoc, scal, dec_int, dec_str, forall_const, implies_true, k2, wdF_get, st_to, st_on, st_push, st_after, st_every, st_times]
    refine ⟨w, M, x1, rfl, w2, q1.imp (fun _ z => z.mono hp.same) fun x2 e2 q2 H3 w3 => ?_⟩
    obtain ⟨dx3, a3, i3, row3, k3, _⟩ := w3.ex
    simp only [rIxD, gSub, rSetL, sDPut, tDGet, tDIn, tDNotIn, wipe, rLenS, tBM, rAppend, rExtend, rIn, cx_K, rIxS, rIxL, rIxT, tRet, tIfS, tTest, tChain, rI, rI0, rU, tC, tVar, tOp, tUn, tCB, tCons, tNil, tSeq, tNext, tB, tNot, tAnd, tOr, tAndV, tOrV, tNotV, tFc, sFc, sFcA, tMt, tCl, tNw, tLst, tTup, tDrop, tAsg, tPar, gName, gCons, gNil, tR1, rEq, rNe, rAdd, rSub, tAug, ipI, L2.start, List.map, List.length, List.replicate, List.append, List.set, exists_eq_left', exists_eq_left, exists_eq_right, exists_eq_right', exists_and_left, exists_and_right, exists_eq, exists_eq', Option.some.injEq, List.getElem?_cons_zero, List.getElem?_cons_succ, V.bl.injEq, V.int.injEq, V.str.injEq, V.ref.injEq, List.cons_append, List.nil_append, List.cons.injEq, HO.ins.injEq, HO.lst.injEq, HO.tup.injEq, true_and, and_true, decide_eq_true_eq, Bool.false_eq_true, ↓reduceIte, Bool.not_true, Bool.not_false, Bool.not_eq_true', decide_eq_false_iff_not, List.set_cons_zero, List.set_cons_succ, and_assoc, scal, dec_int, dec_str, forall_const, implies_true, k3, wdF_get, st_to, st_on, st_push, st_after, st_every, st_times]
    refine ⟨w, M, x2.2, 0, 9999, rfl, w3, q2.imp (fun _ z => z.mono hp.same) fun x3 e3 q3 H4 w4 => ?_⟩
    obtain ⟨dx4, a4, i4, row4, k4, _⟩ := w4.ex
    simp only [rIxD, gSub, rSetL, sDPut, tDGet, tDIn, tDNotIn, wipe, rLenS, tBM, rAppend, rExtend, rIn, cx_K, rIxS, rIxL, rIxT, tRet, tIfS, tTest, tChain, rI, rI0, rU, tC, tVar, tOp, tUn, tCB, tCons, tNil, tSeq, tNext, tB, tNot, tAnd, tOr, tAndV, tOrV, tNotV, tFc, sFc, sFcA, tMt, tCl, tNw, tLst, tTup, tDrop, tAsg, tPar, gName, gCons, gNil, tR1, rEq, rNe, rAdd, rSub, tAug, ipI, L2.start, List.map, List.length, List.replicate, List.append, List.set, exists_eq_left', exists_eq_left, exists_eq_right, exists_eq_right', exists_and_left, exists_and_right, exists_eq, exists_eq', Option.some.injEq, List.getElem?_cons_zero, List.getElem?_cons_succ, V.bl.injEq, V.int.injEq, V.str.injEq, V.ref.injEq, List.cons_append, List.nil_append, List.cons.injEq, HO.ins.injEq, HO.lst.injEq, HO.tup.injEq, true_and, and_true, decide_eq_true_eq, Bool.false_eq_true, ↓reduceIte, Bool.not_true, Bool.not_false, Bool.not_eq_true', decide_eq_false_iff_not, List.set_cons_zero, List.set_cons_succ, and_assoc, scal, dec_int, dec_str, forall_const, implies_true, k4, wdF_get, st_to, st_on, st_push, st_after, st_every, st_times]
    refine ⟨w, M, x3.2, ascii "to", rfl, w4, q3.imp (fun _ z => z.mono hp.same) fun x4 e4 q4 H5 w5 => ?_⟩
    simp only [rIxD, gSub, rSetL, sDPut, tDGet, tDIn, tDNotIn, wipe, rLenS, tBM, rAppend, rExtend, rIn, cx_K, rIxS, rIxL, rIxT, tRet, tIfS, tTest, tChain, rI, rI0, rU, tC, tVar, tOp, tUn, tCB, tCons, tNil, tSeq, tNext, tB, tNot, tAnd, tOr, tAndV, tOrV, tNotV, tFc, sFc, sFcA, tMt, tCl, tNw, tLst, tTup, tDrop, tAsg, tPar, gName, gCons, gNil, tR1, rEq, rNe, rAdd, rSub, tAug, ipI, L2.start, List.map, List.length, List.replicate, List.append, List.set, exists_eq_left', exists_eq_left, exists_eq_right, exists_eq_right', exists_and_left, exists_and_right, exists_eq, exists_eq', Option.some.injEq, List.getElem?_cons_zero, List.getElem?_cons_succ, V.bl.injEq, V.int.injEq, V.str.injEq, V.ref.injEq, List.cons_append, List.nil_append, List.cons.injEq, HO.ins.injEq, HO.lst.injEq, HO.tup.injEq, true_and, and_true, decide_eq_true_eq, Bool.false_eq_true, ↓reduceIte, Bool.not_true, Bool.not_false, Bool.not_eq_true', decide_eq_false_iff_not, List.set_cons_zero, List.set_cons_succ, and_assoc, scal, dec_int, dec_str, forall_const, implies_true]
    refine ⟨M, w, x4, rfl, w5, q4.imp (fun _ z => z.mono hp.same) fun o eo qo H6 t s6 ht => ?_⟩
    have hp6 := hp.mono s6
    simp only [rIxD, gSub, rSetL, sDPut, tDGet, tDIn, tDNotIn, wipe, rLenS, tBM, rAppend, rExtend, rIn, cx_K, rIxS, rIxL, rIxT, tRet, tIfS, tTest, tChain, rI, rI0, rU, tC, tVar, tOp, tUn, tCB, tCons, tNil, tSeq, tNext, tB, tNot, tAnd, tOr, tAndV, tOrV, tNotV, tFc, sFc, sFcA, tMt, tCl, tNw, tLst, tTup, tDrop, tAsg, tPar, gName, gCons, gNil, tR1, rEq, rNe, rAdd, rSub, tAug, ipI, L2.start, List.map, List.length, List.replicate, List.append, List.set, exists_eq_left', exists_eq_left, exists_eq_right, exists_eq_right', exists_and_left, exists_and_right, exists_eq, exists_eq', Option.some.injEq, List.getElem?_cons_zero, List.getElem?_cons_succ, V.bl.injEq, V.int.injEq, V.str.injEq, V.ref.injEq, List.cons_append, List.nil_append, List.cons.injEq, HO.ins.injEq, HO.lst.injEq, HO.tup.injEq, true_and, and_true, decide_eq_true_eq, Bool.false_eq_true, ↓reduceIte, Bool.not_true, Bool.not_false, Bool.not_eq_true', decide_eq_false_iff_not, List.set_cons_zero, List.set_cons_succ, and_assoc, scal, dec_int, dec_str, forall_const, implies_true]
    refine ⟨R, L, p, ks, 4, x0.1, rfl, hp6, (by have := ok.small lim; omega), qo.imp (fun _ z => z) fun _ en qn H7 s7 => ?_⟩
    obtain ⟨new, few⟩ := wantNew_ok en
    have hp7 := hp6.mono s7
    refine ⟨R, L, p, ks, x2.1, x3.1, rfl, hp7, ok, qn.imp (fun _ z => z) fun k ek qk => ?_⟩
    obtain ⟨px7, pi7⟩ := hp7.ins
    simp only [rIxD, gSub, rSetL, sDPut, tDGet, tDIn, tDNotIn, wipe, rLenS, tBM, rAppend, rExtend, rIn, cx_K, rIxS, rIxL, rIxT, tRet, tIfS, tTest, tChain, rI, rI0, rU, tC, tVar, tOp, tUn, tCB, tCons, tNil, tSeq, tNext, tB, tNot, tAnd, tOr, tAndV, tOrV, tNotV, tFc, sFc, sFcA, tMt, tCl, tNw, tLst, tTup, tDrop, tAsg, tPar, gName, gCons, gNil, tR1, rEq, rNe, rAdd, rSub, tAug, ipI, L2.start, List.map, List.length, List.replicate, List.append, List.set, exists_eq_left', exists_eq_left, exists_eq_right, exists_eq_right', exists_and_left, exists_and_right, exists_eq, exists_eq', Option.some.injEq, List.getElem?_cons_zero, List.getElem?_cons_succ, V.bl.injEq, V.int.injEq, V.str.injEq, V.ref.injEq, List.cons_append, List.nil_append, List.cons.injEq, HO.ins.injEq, HO.lst.injEq, HO.tup.injEq, true_and, and_true, decide_eq_true_eq, Bool.false_eq_true, ↓reduceIte, Bool.not_true, Bool.not_false, Bool.not_eq_true', decide_eq_false_iff_not, List.set_cons_zero, List.set_cons_succ, and_assoc, scal, dec_int, dec_str, forall_const, implies_true, pi7, PL.fs, plF_get]
    refine ⟨R, L, p, ks, t, o.1, o.2, rfl, s7 _ _ ht, hp7, ok, qk.imp (fun _ z => z) fun gl eg qg H8 t8 s8 ht8 => ?_⟩
    exact ⟨R, L, p, ks, x0.1, k, x3.1, gl, _, rfl, hp7.mono s8, ⟨t8, rfl, ht8⟩, (by have := ok.small lim; omega), new, (by have := lim.pu; omega), fun H' h' => (show Wp (Except.ok _) _ _ from qg) H' h'⟩
end Tote
/-! # reading.py: belt, feed -/
namespace Tote
open PySem PySem.Spec PyProof.Rows L2 Tq
open SX (S S_inj S_len S_cat)
open Xb08 (ascii)
variable {g : GG}
def toldE (ws : List W) : Except Nat (Option (W × Option Nat)) := if ws.isEmpty = true then .ok none else takeTold (ascii "to") ws >>= fun r => readGoal r >>= fun o => .ok (some o)
def goalO (p : Xb08.Plant) (ks : List KN) : Option (W × Option Nat) → Except Nat (Option Xb08.Goal)
  | none => .ok none
  | some o => goalE p ks o >>= fun gl => .ok (some gl)
def doBelt (p : Xb08.Plant) (ks : List KN) (ws : List W) : Except Nat (Xb08.Plant × List KN) := takeName ws >>= fun a => takeNumber 1 40 a.2 >>= fun b => toldE b.2 >>= fun o => wantNew ks 1 a.1 >>= fun _ => goalO p ks o >>= fun gl =>
  .ok ({ p with belts := p.belts ++ [⟨a.1, b.1, gl⟩] }, ks ++ [⟨a.1, 1, cnt 1 ks⟩])
/-- what a line has told of a goal -/
def ToV (H : Hp) (v : V) : Option (W × Option Nat) → Prop
  | none => v = .non
  | some o => ∃ t, v = .ref t ∧ H t = some (.tup [wV o.1, posV o.2])
theorem ToV.same {H H' : Hp} {v : V} {o : Option (W × Option Nat)} (h : ToV H v o) (s : Same H H') : ToV H' v o := by
  cases o with
  | none => exact h
  | some o =>
    obtain ⟨t, e, ht⟩ := h
    exact ⟨t, e, s _ _ ht⟩
def sp_do_belt (g : GG) : Sp := fun vs H Q E => LineP g doBelt vs H Q E
theorem ok_do_belt (T : Tx g) : Fn (L2N.CX g.P g.w) g 7 "do_belt" ["plant", "words"] (sp_do_belt g) := by
  refine fnC (k := 6) T.gl_do_belt T.df_do_belt sc_do_belt (fun _ _ _ _ _ _ us hl => match us, hl with | [_, _], _ => rfl) ?_ ?_
  · rintro vs H Q E ⟨M, R, L, p, ks, w, ws, rfl, _⟩
    rfl
  · rintro cdv A outer s H vs Q E hr ⟨M, R, L, p, ks, w, ws, rfl, hp, ok, lim, hw, q⟩
    refine ⟨_, (pss_cons (ps_set (i := 2) sc_do_belt.nd rfl (.inl rfl) (pe_mx0 (ok_Words_take_name T) hr (by decide) pxN (pv 1))) (pss_cons (ps_set (i := 3) sc_do_belt.nd rfl (.inl rfl) (pe_mx (ok_Words_take_number T) hr (by decide) pxN (pv 1) (pa_cons pe_int (pa_cons (C8.pe_gc rfl T.in_LONGEST_BELT) pa_nil)))) (pss_cons (ps_set (i := 4) sc_do_belt.nd rfl (.inl rfl) pe_non) (pss_cons (ps_if (pt_not (pt_val (pe_mt0 (ok_Words_is_over T) hr (by decide) (pv 1)))) (pss_cons (ps_expr (pe_mx (ok_Words_take_told T) hr (by decide) pxN (pv 1) (pa_cons pe_str pa_nil))) (pss_one (ps_set (i := 4) sc_do_belt.nd rfl (.inl rfl) (pe_fx (ok_read_goal T) hr (by decide) pxN (pa_cons (pv 1) pa_nil))))) pss_nil) (pss_cons (ps_expr (pe_fx (ok_want_new T) hr (by decide) pxN (pa_cons (pv 0) (pa_cons (C8.pe_gc rfl T.in_BELT) (pa_cons (pv 2) pa_nil))))) (pss_cons (ps_set (i := 5) sc_do_belt.nd rfl (.inl rfl) pe_non) (pss_cons (ps_if (pt_cmpR op_notN (pv 4) pe_non (nomark _)) (pss_one (ps_set (i := 5) sc_do_belt.nd rfl (.inl rfl) (pe_fx (ok_goal_of T) hr (by decide) pxN (pa_cons (pv 0) (pa_cons (pv 4) pa_nil))))) pss_nil) (pss_one (ps_expr (pe_mt (ok_Plant_put_belt T) hr (by decide) (pv 0) (pa_cons (pv 2) (pa_cons (pv 3) (pa_cons (pv 5) pa_nil))))))))))))), ?_⟩
    unfold doBelt at q
    simp only [Wp_bind] at q
    obtain ⟨dx0, a0, i0, row0, k0, _⟩ := hw.ex
    simp only [rIxD, gSub, rSetL, sDPut, tDGet, tDIn, tDNotIn, wipe, rLenS, tBM, rAppend, rExtend, rIn, cx_K, rIxS, rIxL, rIxT, tRet, tIfS, tTest, tChain, rI, rI0, rU, tC, tVar, tOp, tUn, tCB, tCons, tNil, tSeq, tNext, tB, tNot, tAnd, tOr, tAndV, tOrV, tNotV, tFc, sFc, sFcA, tMt, tCl, tNw, tLst, tTup, tDrop, tAsg, tPar, gName, gCons, gNil, tR1, rEq, rNe, rAdd, rSub, tAug, ipI, L2.start, List.map, List.length, List.replicate, List.append, List.set, exists_eq_left', exists_eq_left, exists_eq_right, exists_eq_right', exists_and_left, exists_and_right, exists_eq, exists_eq', Option.some.injEq, List.getElem?_cons_zero, List.getElem?_cons_succ, V.bl.injEq, V.int.injEq, V.str.injEq, V.ref.injEq, List.cons_append, List.nil_append, List.cons.injEq, HO.ins.injEq, HO.lst.injEq, HO.tup.injEq, true_and, and_true, decide_eq_true_eq, Bool.false_eq_true, ↓reduceIte, Bool.not_true, Bool.not_false, Bool.not_eq_true', decide_eq_false_iff_not, List.set_cons_zero, List.set_cons_succ, and_assoc, scal, dec_int, dec_str, forall_const, implies_true, k0, wdF_get]
    refine ⟨w, M, ws, rfl, hw, q.imp (fun _ z => z.mono hp.same) fun x0 e0 q0 H1 w1 => ?_⟩
    obtain ⟨dx1, a1, i1, row1, k1, _⟩ := w1.ex
    simp only [rIxD, gSub, rSetL, sDPut, tDGet, tDIn, tDNotIn, wipe, rLenS, tBM, rAppend, rExtend, rIn, cx_K, rIxS, rIxL, rIxT, tRet, tIfS, tTest, tChain, rI, rI0, rU, tC, tVar, tOp, tUn, tCB, tCons, tNil, tSeq, tNext, tB, tNot, tAnd, tOr, tAndV, tOrV, tNotV, tFc, sFc, sFcA, tMt, tCl, tNw, tLst, tTup, tDrop, tAsg, tPar, gName, gCons, gNil, tR1, rEq, rNe, rAdd, rSub, tAug, ipI, L2.start, List.map, List.length, List.replicate, List.append, List.set, exists_eq_left', exists_eq_left, exists_eq_right, exists_eq_right', exists_and_left, exists_and_right, exists_eq, exists_eq', Option.some.injEq, List.getElem?_cons_zero, List.getElem?_cons_succ, V.bl.injEq, V.int.injEq, V.str.injEq, V.ref.injEq, List.cons_append, List.nil_append, List.cons.injEq, HO.ins.injEq, HO.lst.injEq, HO.tup.injEq, true_and, and_true, decide_eq_true_eq, Bool.false_eq_true, ↓reduceIte, Bool.not_true, Bool.not_false, Bool.not_eq_true', decide_eq_false_iff_not, List.set_cons_zero, List.set_cons_succ, and_assoc, scal, dec_int, dec_str, forall_const, implies_true, k1, wdF_get]
    refine ⟨w, M, x0.2, 1, 40, rfl, w1, q0.imp (fun _ z => z.mono hp.same) fun x1 e1 q1 H2 w2 => ?_⟩
    obtain ⟨dx2, a2, i2, row2, k2, _⟩ := w2.ex
    simp only [rIxD, gSub, rSetL, sDPut, tDGet, tDIn, tDNotIn, wipe, rLenS, tBM, rAppend, rExtend, rIn, cx_K, rIxS, rIxL, rIxT, tRet, tIfS, tTest, tChain, rI, rI0, rU, tC, tVar, tOp, tUn, tCB, tCons, tNil, tSeq, tNext, tB, tNot, tAnd, tOr, tAndV, tOrV, tNotV, tFc, sFc, sFcA, tMt, tCl, tNw, tLst, tTup, tDrop, tAsg, tPar, gName, gCons, gNil, tR1, rEq, rNe, rAdd, rSub, tAug, ipI, L2.start, List.map, List.length, List.replicate, List.append, List.set, exists_eq_left', exists_eq_left, exists_eq_right, exists_eq_right', exists_and_left, exists_and_right, exists_eq, exists_eq', Option.some.injEq, List.getElem?_cons_zero, List.getElem?_cons_succ, V.bl.injEq, V.int.injEq, V.str.injEq, V.ref.injEq, List.cons_append, List.nil_append, List.cons.injEq, HO.ins.injEq, HO.lst.injEq, HO.tup.injEq, true_and, and_true, decide_eq_true_eq, Bool.false_eq_true, ↓reduceIte, Bool.not_true, Bool.not_false, Bool.not_eq_true', decide_eq_false_iff_not, List.set_cons_zero, List.set_cons_succ, and_assoc, scal, dec_int, dec_str, forall_const, implies_true, k2, wdF_get]
    refine ⟨w, M, x1.2, rfl, w2, ?_⟩
    simp only [rIxD, gSub, rSetL, sDPut, tDGet, tDIn, tDNotIn, wipe, rLenS, tBM, rAppend, rExtend, rIn, cx_K, rIxS, rIxL, rIxT, tRet, tIfS, tTest, tChain, rI, rI0, rU, tC, tVar, tOp, tUn, tCB, tCons, tNil, tSeq, tNext, tB, tNot, tAnd, tOr, tAndV, tOrV, tNotV, tFc, sFc, sFcA, tMt, tCl, tNw, tLst, tTup, tDrop, tAsg, tPar, gName, gCons, gNil, tR1, rEq, rNe, rAdd, rSub, tAug, ipI, L2.start, List.map, List.length, List.replicate, List.append, List.set, exists_eq_left', exists_eq_left, exists_eq_right, exists_eq_right', exists_and_left, exists_and_right, exists_eq, exists_eq', Option.some.injEq, List.getElem?_cons_zero, List.getElem?_cons_succ, V.bl.injEq, V.int.injEq, V.str.injEq, V.ref.injEq, List.cons_append, List.nil_append, List.cons.injEq, HO.ins.injEq, HO.lst.injEq, HO.tup.injEq, true_and, and_true, decide_eq_true_eq, Bool.false_eq_true, ↓reduceIte, Bool.not_true, Bool.not_false, Bool.not_eq_true', decide_eq_false_iff_not, List.set_cons_zero, List.set_cons_succ, and_assoc, scal, dec_int, dec_str, forall_const, implies_true, k2, wdF_get]
    -- the rest, whatever was told
    have rest : ∀ (o : Option (W × Option Nat)) (H3 : Hp) (v : V), Same M H3 → ToV H3 v o → Wp (wantNew ks 1 x0.1) (LF g E R) (fun _ => Wp (goalO p ks o) (LF g E R) fun gl => Wp (Except.ok ({ p with belts := p.belts ++ [⟨x0.1, x1.1, gl⟩] }, ks ++ [⟨x0.1, 1, cnt 1 ks⟩])) (LF g E R) fun r => ∀ H', PlantAt g H' R L r.1 r.2 → Q .non H') → sp_want_new g [V.ref L.pl, V.int 1, wV x0.1] H3 (fun x H4 => if ¬v = V.non then sp_goal_of g [V.ref L.pl, v] H4 (fun x_1 H5 => ∃ x_2 x_3, H5 L.pl = some (HO.ins (He.ga g.K (Str.ofString "Plant")) x_2 x_3) ∧ List.lookup (Str.ofString "put_belt") x_3 = none ∧ sp_Plant_put_belt g [V.ref L.pl, wV x0.1, V.int ↑x1.1, x_1] H5 (fun x H' => Q V.non H') E0) E else ∃ x_1 x_2, H4 L.pl = some (HO.ins (He.ga g.K (Str.ofString "Plant")) x_1 x_2) ∧ List.lookup (Str.ofString "put_belt") x_2 = none ∧ sp_Plant_put_belt g [V.ref L.pl, wV x0.1, V.int ↑x1.1, V.non] H4 (fun x H' => Q V.non H') E0) E := by
      intro o H3 v s3 hv hq
      have hp3 := hp.mono s3
      refine ⟨R, L, p, ks, 1, x0.1, rfl, hp3, (by have := ok.small lim; omega), hq.imp (fun _ z => z) fun _ en qn H4 s4 => ?_⟩
      obtain ⟨new, few⟩ := wantNew_ok en
      have hp4 := hp3.mono s4
      have fin : ∀ (gl : Option Xb08.Goal) (H5 : Hp) (v : V), PlantAt g H5 R L p ks → GoV H5 v gl → Wp (Except.ok ({ p with belts := p.belts ++ [⟨x0.1, x1.1, gl⟩] }, ks ++ [⟨x0.1, 1, cnt 1 ks⟩])) (LF g E R) (fun r => ∀ H', PlantAt g H' R L r.1 r.2 → Q .non H') → ∃ x_1 x_2, H5 L.pl = some (HO.ins (He.ga g.K (Str.ofString "Plant")) x_1 x_2) ∧ List.lookup (Str.ofString "put_belt") x_2 = none ∧ sp_Plant_put_belt g [V.ref L.pl, wV x0.1, V.int ↑x1.1, v] H5 (fun x H' => Q V.non H') E0 := by
        intro gl H5 v h5 g5 q5
        obtain ⟨px5, pi5⟩ := h5.ins
        exact ⟨_, _, pi5, rfl, R, L, p, ks, x1.1, x0.1, gl, v, rfl, h5, g5, (by have := ok.small lim; omega), new, (by have := lim.be; omega), fun H' h' => q5 H' h'⟩
      cases o with
      | none =>
        cases hv
        rw [if_neg fun z => z rfl]
        exact fin none H4 _ hp4 rfl qn
      | some o =>
        obtain ⟨t, rfl, ht⟩ := hv
        rw [if_pos (by intro z; cases z)]
        change Wp (goalE p ks o >>= fun gl => Except.ok (some gl)) _ _ at qn
        rw [Wp_bind] at qn
        refine ⟨R, L, p, ks, t, o.1, o.2, rfl, s4 _ _ ht, hp4, ok, qn.imp (fun _ z => z) fun gl eg qg H5 t5 s5 ht5 => ?_⟩
        exact fin (some gl) H5 _ (hp4.mono s5) ⟨t5, rfl, ht5⟩ qg
    unfold toldE at q1
    cases hx : x1.2.isEmpty with
    | true =>
      rw [hx, if_pos rfl] at q1
      rw [if_neg (by decide)]
      exact rest none H2 .non w2.same rfl q1
    | false =>
      rw [hx, if_neg (by decide)] at q1
      simp only [Wp_bind] at q1
      rw [if_pos rfl]
      simp only [rIxD, gSub, rSetL, sDPut, tDGet, tDIn, tDNotIn, wipe, rLenS, tBM, rAppend, rExtend, rIn, cx_K, rIxS, rIxL, rIxT, tRet, tIfS, tTest, tChain, rI, rI0, rU, tC, tVar, tOp, tUn, tCB, tCons, tNil, tSeq, tNext, tB, tNot, tAnd, tOr, tAndV, tOrV, tNotV, tFc, sFc, sFcA, tMt, tCl, tNw, tLst, tTup, tDrop, tAsg, tPar, gName, gCons, gNil, tR1, rEq, rNe, rAdd, rSub, tAug, ipI, L2.start, List.map, List.length, List.replicate, List.append, List.set, exists_eq_left', exists_eq_left, exists_eq_right, exists_eq_right', exists_and_left, exists_and_right, exists_eq, exists_eq', Option.some.injEq, List.getElem?_cons_zero, List.getElem?_cons_succ, V.bl.injEq, V.int.injEq, V.str.injEq, V.ref.injEq, List.cons_append, List.nil_append, List.cons.injEq, HO.ins.injEq, HO.lst.injEq, HO.tup.injEq, true_and, and_true, decide_eq_true_eq, Bool.false_eq_true, ↓reduceIte, Bool.not_true, Bool.not_false, Bool.not_eq_true', decide_eq_false_iff_not, List.set_cons_zero, List.set_cons_succ, and_assoc, scal, dec_int, dec_str, forall_const, implies_true, st_to]
      refine ⟨w, M, x1.2, ascii "to", rfl, w2, q1.imp (fun _ z => z.mono hp.same) fun x3 e3 q3 H3 w3 => ?_⟩
      simp only [rIxD, gSub, rSetL, sDPut, tDGet, tDIn, tDNotIn, wipe, rLenS, tBM, rAppend, rExtend, rIn, cx_K, rIxS, rIxL, rIxT, tRet, tIfS, tTest, tChain, rI, rI0, rU, tC, tVar, tOp, tUn, tCB, tCons, tNil, tSeq, tNext, tB, tNot, tAnd, tOr, tAndV, tOrV, tNotV, tFc, sFc, sFcA, tMt, tCl, tNw, tLst, tTup, tDrop, tAsg, tPar, gName, gCons, gNil, tR1, rEq, rNe, rAdd, rSub, tAug, ipI, L2.start, List.map, List.length, List.replicate, List.append, List.set, exists_eq_left', exists_eq_left, exists_eq_right, exists_eq_right', exists_and_left, exists_and_right, exists_eq, exists_eq', Option.some.injEq, List.getElem?_cons_zero, List.getElem?_cons_succ, V.bl.injEq, V.int.injEq, V.str.injEq, V.ref.injEq, List.cons_append, List.nil_append, List.cons.injEq, HO.ins.injEq, HO.lst.injEq, HO.tup.injEq, true_and, and_true, decide_eq_true_eq, Bool.false_eq_true, ↓reduceIte, Bool.not_true, Bool.not_false, Bool.not_eq_true', decide_eq_false_iff_not, List.set_cons_zero, List.set_cons_succ, and_assoc, scal, dec_int, dec_str, forall_const, implies_true]
      exact ⟨M, w, x3, rfl, w3, q3.imp (fun _ z => z.mono hp.same) fun o eo qo H4 t s4 ht => rest (some o) H4 (.ref t) s4 ⟨t, rfl, ht⟩ qo⟩
theorem number_in_range {a b : Nat} {ws : List W} {x : Nat × List W} (h : takeNumber a b ws = .ok x) : a ≤ x.1 ∧ x.1 ≤ b := by
  unfold takeNumber at h
  cases ws with
  | nil => cases h
  | cons z r =>
    change (match Xb08.parseInRange? a b z with | some n => Except.ok (n, r) | none => Except.error 1) = _ at h
    unfold Xb08.parseInRange? at h
    cases e : Xb08.parseNat? z with
    | none => rw [e] at h; cases h
    | some n =>
      rw [e, Option.bind_some] at h
      by_cases c : a ≤ n ∧ n ≤ b
      · rw [if_pos c] at h
        cases h
        exact c
      · rw [if_neg c] at h
        cases h
def everyE (ws : List W) : Except Nat (Nat × Nat) := if ws.isEmpty = true then .ok (0, 1) else takeTold (ascii "every") ws >>= fun a => takeNumber 1 99 a >>= fun b => takeTold (ascii "times") b.2 >>= fun c => takeNumber 1 40 c >>= fun d => takeEnd d.2 >>= fun _ => .ok (b.1, d.1)
def fed (k c x t d n : Nat) : List Xb08.Parcel := (List.range n).map fun i => ⟨c, x, k, t + i * d⟩
def doFeed (p : Xb08.Plant) (ks : List KN) (ws : List W) : Except Nat (Xb08.Plant × List KN) := takeName ws >>= fun a => takeNumber 0 9999 a.2 >>= fun b => takeNumber 1 5 b.2 >>= fun c => takeNumber 0 9999 c.2 >>= fun d => everyE d.2 >>= fun e => numberE ks 1 a.1 >>= fun k =>
  if p.parcels.length + e.2 ≤ 40 then .ok ({ p with parcels := p.parcels ++ fed k b.1 c.1 d.1 e.1 e.2 }, ks) else .error 4
def sp_do_feed (g : GG) : Sp := fun vs H Q E => LineP g doFeed vs H Q E
theorem ok_do_feed (T : Tx g) : Fn (L2N.CX g.P g.w) g 6 "do_feed" ["plant", "words"] (sp_do_feed g) := by
  refine fnC (k := 5) T.gl_do_feed T.df_do_feed sc_do_feed (fun _ _ _ _ _ _ us hl => match us, hl with | [_, _], _ => rfl) ?_ ?_
  · rintro vs H Q E ⟨M, R, L, p, ks, w, ws, rfl, _⟩
    rfl
  · rintro cdv A outer s H vs Q E hr ⟨M, R, L, p, ks, w, ws, rfl, hp, ok, lim, hw, q⟩
    refine ⟨_, (pss_cons (ps_set (i := 2) sc_do_feed.nd rfl (.inl rfl) (pe_mx0 (ok_Words_take_name T) hr (by decide) pxN (pv 1))) (pss_cons (ps_set (i := 3) sc_do_feed.nd rfl (.inl rfl) (pe_mx (ok_Words_take_number T) hr (by decide) pxN (pv 1) (pa_cons pe_int (pa_cons (C8.pe_gc rfl T.in_MOST_NUMBER) pa_nil)))) (pss_cons (ps_set (i := 4) sc_do_feed.nd rfl (.inl rfl) (pe_mx (ok_Words_take_number T) hr (by decide) pxN (pv 1) (pa_cons pe_int (pa_cons (C8.pe_gc rfl T.in_LONGEST_PARCEL) pa_nil)))) (pss_cons (ps_set (i := 5) sc_do_feed.nd rfl (.inl rfl) (pe_mx (ok_Words_take_number T) hr (by decide) pxN (pv 1) (pa_cons pe_int (pa_cons (C8.pe_gc rfl T.in_MOST_NUMBER) pa_nil)))) (pss_cons (ps_asg (pe_tup (pa_cons pe_int (pa_cons pe_int pa_nil))) (pg_tup rfl (pgs_cons (pg_name (i := 6) sc_do_feed.nd rfl (.inl rfl)) (pgs_cons (pg_name (i := 7) sc_do_feed.nd rfl (.inl rfl)) pgs_nil)))) (C8.pss_cut (ps_if (pt_not (pt_val (pe_mt0 (ok_Words_is_over T) hr (by decide) (pv 1)))) (pss_cons (ps_expr (pe_mx (ok_Words_take_told T) hr (by decide) pxN (pv 1) (pa_cons pe_str pa_nil))) (pss_cons (ps_set (i := 6) sc_do_feed.nd rfl (.inl rfl) (pe_mx (ok_Words_take_number T) hr (by decide) pxN (pv 1) (pa_cons pe_int (pa_cons (C8.pe_gc rfl T.in_MOST_DELAY) pa_nil)))) (pss_cons (ps_expr (pe_mx (ok_Words_take_told T) hr (by decide) pxN (pv 1) (pa_cons pe_str pa_nil))) (pss_cons (ps_set (i := 7) sc_do_feed.nd rfl (.inl rfl) (pe_mx (ok_Words_take_number T) hr (by decide) pxN (pv 1) (pa_cons pe_int (pa_cons (C8.pe_gc rfl T.in_MOST_TIMES) pa_nil)))) (pss_one (ps_expr (pe_mx0 (ok_Words_take_end T) hr (by decide) pxN (pv 1)))))))) pss_nil) (pss_cons (ps_set (i := 8) sc_do_feed.nd rfl (.inl rfl) (pe_fx (ok_number_of T) hr (by decide) pxN (pa_cons (pv 0) (pa_cons (C8.pe_gc rfl T.in_BELT) (pa_cons (pv 2) pa_nil))))) (pss_cons (ps_expr (pe_fx (ok_want T) hr (by decide) pxN (pa_cons (pe_cmpR op_le (pe_op op_add (pe_callB call_lenS (by rfl) T.fr_len bt_len (pa_cons (pe_fc T.cl_Plant T.na_Plant_parcels (pv 0)) pa_nil)) (pv 7)) (C8.pe_gc rfl T.in_MOST_PARCELS) (nomark _)) (pa_cons (C8.pe_gc rfl T.in_TOO_MANY) pa_nil)))) (pss_one (ps_for (passes_of rfl) rfl (pi_range1 rfl T.fr_range (pa_cons (pv 7) pa_nil)) (pg_name (i := 9) sc_do_feed.nd rfl (.inl rfl)) (pss_one (ps_expr (pe_mt (ok_Plant_put_parcel T) hr (by decide) (pv 0) (pa_cons (pe_tup (pa_cons (pv 8) (pa_cons (pv 3) (pa_cons (pv 4) (pa_cons (pe_op op_add (pv 5) (pe_op op_mul (pv 9) (pv 6))) pa_nil))))) pa_nil)))))))))))))), ?_⟩
    unfold doFeed at q
    simp only [Wp_bind] at q
    obtain ⟨dx0, a0, i0, row0, k0, _⟩ := hw.ex
    simp only [rIxD, gSub, rSetL, sDPut, tDGet, tDIn, tDNotIn, wipe, rLenS, tBM, rAppend, rExtend, rIn, cx_K, rIxS, rIxL, rIxT, tRet, tIfS, tTest, tChain, rI, rI0, rU, tC, tVar, tOp, tUn, tCB, tCons, tNil, tSeq, tNext, tB, tNot, tAnd, tOr, tAndV, tOrV, tNotV, tFc, sFc, sFcA, tMt, tCl, tNw, tLst, tTup, tDrop, tAsg, tPar, gName, gCons, gNil, tR1, rEq, rNe, rAdd, rSub, tAug, ipI, L2.start, List.map, List.length, List.replicate, List.append, List.set, exists_eq_left', exists_eq_left, exists_eq_right, exists_eq_right', exists_and_left, exists_and_right, exists_eq, exists_eq', Option.some.injEq, List.getElem?_cons_zero, List.getElem?_cons_succ, V.bl.injEq, V.int.injEq, V.str.injEq, V.ref.injEq, List.cons_append, List.nil_append, List.cons.injEq, HO.ins.injEq, HO.lst.injEq, HO.tup.injEq, true_and, and_true, decide_eq_true_eq, Bool.false_eq_true, ↓reduceIte, Bool.not_true, Bool.not_false, Bool.not_eq_true', decide_eq_false_iff_not, List.set_cons_zero, List.set_cons_succ, and_assoc, scal, dec_int, dec_str, forall_const, implies_true, k0, wdF_get]
    refine ⟨w, M, ws, rfl, hw, q.imp (fun _ z => z.mono hp.same) fun x0 e0 q0 H1 w1 => ?_⟩
    obtain ⟨dx1, a1, i1, row1, k1, _⟩ := w1.ex
    simp only [rIxD, gSub, rSetL, sDPut, tDGet, tDIn, tDNotIn, wipe, rLenS, tBM, rAppend, rExtend, rIn, cx_K, rIxS, rIxL, rIxT, tRet, tIfS, tTest, tChain, rI, rI0, rU, tC, tVar, tOp, tUn, tCB, tCons, tNil, tSeq, tNext, tB, tNot, tAnd, tOr, tAndV, tOrV, tNotV, tFc, sFc, sFcA, tMt, tCl, tNw, tLst, tTup, tDrop, tAsg, tPar, gName, gCons, gNil, tR1, rEq, rNe, rAdd, rSub, tAug, ipI, L2.start, List.map, List.length, List.replicate, List.append, List.set, exists_eq_left', exists_eq_left, exists_eq_right, exists_eq_right', exists_and_left, exists_and_right, exists_eq, exists_eq', Option.some.injEq, List.getElem?_cons_zero, List.getElem?_cons_succ, V.bl.injEq, V.int.injEq, V.str.injEq, V.ref.injEq, List.cons_append, List.nil_append, List.cons.injEq, HO.ins.injEq, HO.lst.injEq, HO.tup.injEq, true_and, and_true, decide_eq_true_eq, Bool.false_eq_true, ↓reduceIte, Bool.not_true, Bool.not_false, Bool.not_eq_true', decide_eq_false_iff_not, List.set_cons_zero, List.set_cons_succ, and_assoc, scal, dec_int, dec_str, forall_const, implies_true, k1, wdF_get]
    refine ⟨w, M, x0.2, 0, 9999, rfl, w1, q0.imp (fun _ z => z.mono hp.same) fun x1 e1 q1 H2 w2 => ?_⟩
    obtain ⟨dx2, a2, i2, row2, k2, _⟩ := w2.ex
    simp only [rIxD, gSub, rSetL, sDPut, tDGet, tDIn, tDNotIn, wipe, rLenS, tBM, rAppend, rExtend, rIn, cx_K, rIxS, rIxL, rIxT, tRet, tIfS, tTest, tChain, rI, rI0, rU, tC, tVar, tOp, tUn, tCB, tCons, tNil, tSeq, tNext, tB, tNot, tAnd, tOr, tAndV, tOrV, tNotV, tFc, sFc, sFcA, tMt, tCl, tNw, tLst, tTup, tDrop, tAsg, tPar, gName, gCons, gNil, tR1, rEq, rNe, rAdd, rSub, tAug, ipI, L2.start, List.map, List.length, List.replicate, List.append, List.set, exists_eq_left', exists_eq_left, exists_eq_right, exists_eq_right', exists_and_left, exists_and_right, exists_eq, exists_eq', Option.some.injEq, List.getElem?_cons_zero, List.getElem?_cons_succ, V.bl.injEq, V.int.injEq, V.str.injEq, V.ref.injEq, List.cons_append, List.nil_append, List.cons.injEq, HO.ins.injEq, HO.lst.injEq, HO.tup.injEq, true_and, and_true, decide_eq_true_eq, Bool.false_eq_true, ↓reduceIte, Bool.not_true, Bool.not_false, Bool.not_eq_true', decide_eq_false_iff_not, List.set_cons_zero, List.set_cons_succ, and_assoc, scal, dec_int, dec_str, forall_const, implies_true, k2, wdF_get]
    refine ⟨w, M, x1.2, 1, 5, rfl, w2, q1.imp (fun _ z => z.mono hp.same) fun x2 e2 q2 H3 w3 => ?_⟩
    obtain ⟨dx3, a3, i3, row3, k3, _⟩ := w3.ex
    simp only [rIxD, gSub, rSetL, sDPut, tDGet, tDIn, tDNotIn, wipe, rLenS, tBM, rAppend, rExtend, rIn, cx_K, rIxS, rIxL, rIxT, tRet, tIfS, tTest, tChain, rI, rI0, rU, tC, tVar, tOp, tUn, tCB, tCons, tNil, tSeq, tNext, tB, tNot, tAnd, tOr, tAndV, tOrV, tNotV, tFc, sFc, sFcA, tMt, tCl, tNw, tLst, tTup, tDrop, tAsg, tPar, gName, gCons, gNil, tR1, rEq, rNe, rAdd, rSub, tAug, ipI, L2.start, List.map, List.length, List.replicate, List.append, List.set, exists_eq_left', exists_eq_left, exists_eq_right, exists_eq_right', exists_and_left, exists_and_right, exists_eq, exists_eq', Option.some.injEq, List.getElem?_cons_zero, List.getElem?_cons_succ, V.bl.injEq, V.int.injEq, V.str.injEq, V.ref.injEq, List.cons_append, List.nil_append, List.cons.injEq, HO.ins.injEq, HO.lst.injEq, HO.tup.injEq, true_and, and_true, decide_eq_true_eq, Bool.false_eq_true, ↓reduceIte, Bool.not_true, Bool.not_false, Bool.not_eq_true', decide_eq_false_iff_not, List.set_cons_zero, List.set_cons_succ, and_assoc, scal, dec_int, dec_str, forall_const, implies_true, k3, wdF_get]
    refine ⟨w, M, x2.2, 0, 9999, rfl, w3, q2.imp (fun _ z => z.mono hp.same) fun x3 e3 q3 H4 w4 => ?_⟩
    refine ⟨by decide, fun t ht => ⟨t, _, rfl, .inl (.inl upd_same), rfl, _, _, rfl, _, _, rfl, rfl, ?_⟩⟩
    have w5 := w4.mono (Same.new (o := .tup [.int 0, .int 1]) ht)
    generalize upd H4 t (.tup [.int 0, .int 1]) = H5 at w5 ⊢
    obtain ⟨Mid, hMid⟩ : ∃ Mid : L2.St → Hp → Prop, Mid = fun σ' H' => ∃ (d n : Nat), σ' = [some (.ref L.pl), some (.ref w), some (wV x0.1), some (.int x1.1), some (.int x2.1), some (.int x3.1), some (.int d), some (.int n), none, none] ∧ Same M H' ∧ n ≤ 40 ∧ d ≤ 99 ∧
      Wp (numberE ks 1 x0.1) (LF g E R) (fun k => Wp (if p.parcels.length + n ≤ 40 then Except.ok ({ p with parcels := p.parcels ++ fed k x1.1 x2.1 x3.1 d n }, ks) else Except.error 4) (LF g E R) fun r => ∀ H', PlantAt g H' R L r.1 r.2 → Q .non H') := ⟨_, rfl⟩
    refine ⟨Mid, ?_, ?_⟩
    · obtain ⟨dx5, a5, i5, row5, k5, _⟩ := w5.ex
      simp only [rIxD, gSub, rSetL, sDPut, tDGet, tDIn, tDNotIn, wipe, rLenS, tBM, rAppend, rExtend, rIn, cx_K, rIxS, rIxL, rIxT, tRet, tIfS, tTest, tChain, rI, rI0, rU, tC, tVar, tOp, tUn, tCB, tCons, tNil, tSeq, tNext, tB, tNot, tAnd, tOr, tAndV, tOrV, tNotV, tFc, sFc, sFcA, tMt, tCl, tNw, tLst, tTup, tDrop, tAsg, tPar, gName, gCons, gNil, tR1, rEq, rNe, rAdd, rSub, tAug, ipI, L2.start, List.map, List.length, List.replicate, List.append, List.set, exists_eq_left', exists_eq_left, exists_eq_right, exists_eq_right', exists_and_left, exists_and_right, exists_eq, exists_eq', Option.some.injEq, List.getElem?_cons_zero, List.getElem?_cons_succ, V.bl.injEq, V.int.injEq, V.str.injEq, V.ref.injEq, List.cons_append, List.nil_append, List.cons.injEq, HO.ins.injEq, HO.lst.injEq, HO.tup.injEq, true_and, and_true, decide_eq_true_eq, Bool.false_eq_true, ↓reduceIte, Bool.not_true, Bool.not_false, Bool.not_eq_true', decide_eq_false_iff_not, List.set_cons_zero, List.set_cons_succ, and_assoc, scal, dec_int, dec_str, forall_const, implies_true, k5, wdF_get]
      refine ⟨w, M, x3.2, rfl, w5, ?_⟩
      unfold everyE at q3
      cases hx : x3.2.isEmpty with
      | true =>
        rw [hx, if_pos rfl] at q3
        simp only [rIxD, gSub, rSetL, sDPut, tDGet, tDIn, tDNotIn, wipe, rLenS, tBM, rAppend, rExtend, rIn, cx_K, rIxS, rIxL, rIxT, tRet, tIfS, tTest, tChain, rI, rI0, rU, tC, tVar, tOp, tUn, tCB, tCons, tNil, tSeq, tNext, tB, tNot, tAnd, tOr, tAndV, tOrV, tNotV, tFc, sFc, sFcA, tMt, tCl, tNw, tLst, tTup, tDrop, tAsg, tPar, gName, gCons, gNil, tR1, rEq, rNe, rAdd, rSub, tAug, ipI, L2.start, List.map, List.length, List.replicate, List.append, List.set, exists_eq_left', exists_eq_left, exists_eq_right, exists_eq_right', exists_and_left, exists_and_right, exists_eq, exists_eq', Option.some.injEq, List.getElem?_cons_zero, List.getElem?_cons_succ, V.bl.injEq, V.int.injEq, V.str.injEq, V.ref.injEq, List.cons_append, List.nil_append, List.cons.injEq, HO.ins.injEq, HO.lst.injEq, HO.tup.injEq, true_and, and_true, decide_eq_true_eq, Bool.false_eq_true, ↓reduceIte, Bool.not_true, Bool.not_false, Bool.not_eq_true', decide_eq_false_iff_not, List.set_cons_zero, List.set_cons_succ, and_assoc, scal, dec_int, dec_str, forall_const, implies_true]
        rw [hMid]
        exact ⟨0, 1, rfl, w5.same, by omega, by omega, q3⟩
      | false =>
        rw [hx, if_neg (by decide)] at q3
        simp only [Wp_bind] at q3
        simp only [rIxD, gSub, rSetL, sDPut, tDGet, tDIn, tDNotIn, wipe, rLenS, tBM, rAppend, rExtend, rIn, cx_K, rIxS, rIxL, rIxT, tRet, tIfS, tTest, tChain, rI, rI0, rU, tC, tVar, tOp, tUn, tCB, tCons, tNil, tSeq, tNext, tB, tNot, tAnd, tOr, tAndV, tOrV, tNotV, tFc, sFc, sFcA, tMt, tCl, tNw, tLst, tTup, tDrop, tAsg, tPar, gName, gCons, gNil, tR1, rEq, rNe, rAdd, rSub, tAug, ipI, L2.start, List.map, List.length, List.replicate, List.append, List.set, exists_eq_left', exists_eq_left, exists_eq_right, exists_eq_right', exists_and_left, exists_and_right, exists_eq, exists_eq', Option.some.injEq, List.getElem?_cons_zero, List.getElem?_cons_succ, V.bl.injEq, V.int.injEq, V.str.injEq, V.ref.injEq, List.cons_append, List.nil_append, List.cons.injEq, HO.ins.injEq, HO.lst.injEq, HO.tup.injEq, true_and, and_true, decide_eq_true_eq, Bool.false_eq_true, ↓reduceIte, Bool.not_true, Bool.not_false, Bool.not_eq_true', decide_eq_false_iff_not, List.set_cons_zero, List.set_cons_succ, and_assoc, scal, dec_int, dec_str, forall_const, implies_true, k5, wdF_get, st_every]
        refine ⟨w, M, x3.2, ascii "every", rfl, w5, q3.imp (fun _ z => z.mono hp.same) fun x5 e5 q5 H6 w6 => ?_⟩
        obtain ⟨dx6, a6, i6, row6, k6, _⟩ := w6.ex
        simp only [rIxD, gSub, rSetL, sDPut, tDGet, tDIn, tDNotIn, wipe, rLenS, tBM, rAppend, rExtend, rIn, cx_K, rIxS, rIxL, rIxT, tRet, tIfS, tTest, tChain, rI, rI0, rU, tC, tVar, tOp, tUn, tCB, tCons, tNil, tSeq, tNext, tB, tNot, tAnd, tOr, tAndV, tOrV, tNotV, tFc, sFc, sFcA, tMt, tCl, tNw, tLst, tTup, tDrop, tAsg, tPar, gName, gCons, gNil, tR1, rEq, rNe, rAdd, rSub, tAug, ipI, L2.start, List.map, List.length, List.replicate, List.append, List.set, exists_eq_left', exists_eq_left, exists_eq_right, exists_eq_right', exists_and_left, exists_and_right, exists_eq, exists_eq', Option.some.injEq, List.getElem?_cons_zero, List.getElem?_cons_succ, V.bl.injEq, V.int.injEq, V.str.injEq, V.ref.injEq, List.cons_append, List.nil_append, List.cons.injEq, HO.ins.injEq, HO.lst.injEq, HO.tup.injEq, true_and, and_true, decide_eq_true_eq, Bool.false_eq_true, ↓reduceIte, Bool.not_true, Bool.not_false, Bool.not_eq_true', decide_eq_false_iff_not, List.set_cons_zero, List.set_cons_succ, and_assoc, scal, dec_int, dec_str, forall_const, implies_true, k6, wdF_get]
        refine ⟨w, M, x5, 1, 99, rfl, w6, q5.imp (fun _ z => z.mono hp.same) fun x6 e6 q6 H7 w7 => ?_⟩
        obtain ⟨dx7, a7, i7, row7, k7, _⟩ := w7.ex
        simp only [rIxD, gSub, rSetL, sDPut, tDGet, tDIn, tDNotIn, wipe, rLenS, tBM, rAppend, rExtend, rIn, cx_K, rIxS, rIxL, rIxT, tRet, tIfS, tTest, tChain, rI, rI0, rU, tC, tVar, tOp, tUn, tCB, tCons, tNil, tSeq, tNext, tB, tNot, tAnd, tOr, tAndV, tOrV, tNotV, tFc, sFc, sFcA, tMt, tCl, tNw, tLst, tTup, tDrop, tAsg, tPar, gName, gCons, gNil, tR1, rEq, rNe, rAdd, rSub, tAug, ipI, L2.start, List.map, List.length, List.replicate, List.append, List.set, exists_eq_left', exists_eq_left, exists_eq_right, exists_eq_right', exists_and_left, exists_and_right, exists_eq, exists_eq', Option.some.injEq, List.getElem?_cons_zero, List.getElem?_cons_succ, V.bl.injEq, V.int.injEq, V.str.injEq, V.ref.injEq, List.cons_append, List.nil_append, List.cons.injEq, HO.ins.injEq, HO.lst.injEq, HO.tup.injEq, true_and, and_true, decide_eq_true_eq, Bool.false_eq_true, ↓reduceIte, Bool.not_true, Bool.not_false, Bool.not_eq_true', decide_eq_false_iff_not, List.set_cons_zero, List.set_cons_succ, and_assoc, scal, dec_int, dec_str, forall_const, implies_true, k7, wdF_get, st_times]
        refine ⟨w, M, x6.2, ascii "times", rfl, w7, q6.imp (fun _ z => z.mono hp.same) fun x7 e7 q7 H8 w8 => ?_⟩
        obtain ⟨dx8, a8, i8, row8, k8, _⟩ := w8.ex
        simp only [rIxD, gSub, rSetL, sDPut, tDGet, tDIn, tDNotIn, wipe, rLenS, tBM, rAppend, rExtend, rIn, cx_K, rIxS, rIxL, rIxT, tRet, tIfS, tTest, tChain, rI, rI0, rU, tC, tVar, tOp, tUn, tCB, tCons, tNil, tSeq, tNext, tB, tNot, tAnd, tOr, tAndV, tOrV, tNotV, tFc, sFc, sFcA, tMt, tCl, tNw, tLst, tTup, tDrop, tAsg, tPar, gName, gCons, gNil, tR1, rEq, rNe, rAdd, rSub, tAug, ipI, L2.start, List.map, List.length, List.replicate, List.append, List.set, exists_eq_left', exists_eq_left, exists_eq_right, exists_eq_right', exists_and_left, exists_and_right, exists_eq, exists_eq', Option.some.injEq, List.getElem?_cons_zero, List.getElem?_cons_succ, V.bl.injEq, V.int.injEq, V.str.injEq, V.ref.injEq, List.cons_append, List.nil_append, List.cons.injEq, HO.ins.injEq, HO.lst.injEq, HO.tup.injEq, true_and, and_true, decide_eq_true_eq, Bool.false_eq_true, ↓reduceIte, Bool.not_true, Bool.not_false, Bool.not_eq_true', decide_eq_false_iff_not, List.set_cons_zero, List.set_cons_succ, and_assoc, scal, dec_int, dec_str, forall_const, implies_true, k8, wdF_get]
        refine ⟨w, M, x7, 1, 40, rfl, w8, q7.imp (fun _ z => z.mono hp.same) fun x8 e8 q8 H9 w9 => ?_⟩
        obtain ⟨dx9, a9, i9, row9, k9, _⟩ := w9.ex
        simp only [rIxD, gSub, rSetL, sDPut, tDGet, tDIn, tDNotIn, wipe, rLenS, tBM, rAppend, rExtend, rIn, cx_K, rIxS, rIxL, rIxT, tRet, tIfS, tTest, tChain, rI, rI0, rU, tC, tVar, tOp, tUn, tCB, tCons, tNil, tSeq, tNext, tB, tNot, tAnd, tOr, tAndV, tOrV, tNotV, tFc, sFc, sFcA, tMt, tCl, tNw, tLst, tTup, tDrop, tAsg, tPar, gName, gCons, gNil, tR1, rEq, rNe, rAdd, rSub, tAug, ipI, L2.start, List.map, List.length, List.replicate, List.append, List.set, exists_eq_left', exists_eq_left, exists_eq_right, exists_eq_right', exists_and_left, exists_and_right, exists_eq, exists_eq', Option.some.injEq, List.getElem?_cons_zero, List.getElem?_cons_succ, V.bl.injEq, V.int.injEq, V.str.injEq, V.ref.injEq, List.cons_append, List.nil_append, List.cons.injEq, HO.ins.injEq, HO.lst.injEq, HO.tup.injEq, true_and, and_true, decide_eq_true_eq, Bool.false_eq_true, ↓reduceIte, Bool.not_true, Bool.not_false, Bool.not_eq_true', decide_eq_false_iff_not, List.set_cons_zero, List.set_cons_succ, and_assoc, scal, dec_int, dec_str, forall_const, implies_true, k9, wdF_get]
        refine ⟨w, M, x8.2, rfl, w9, q8.imp (fun _ z => z.mono hp.same) fun x9 e9 q9 => ?_⟩
        simp only [rIxD, gSub, rSetL, sDPut, tDGet, tDIn, tDNotIn, wipe, rLenS, tBM, rAppend, rExtend, rIn, cx_K, rIxS, rIxL, rIxT, tRet, tIfS, tTest, tChain, rI, rI0, rU, tC, tVar, tOp, tUn, tCB, tCons, tNil, tSeq, tNext, tB, tNot, tAnd, tOr, tAndV, tOrV, tNotV, tFc, sFc, sFcA, tMt, tCl, tNw, tLst, tTup, tDrop, tAsg, tPar, gName, gCons, gNil, tR1, rEq, rNe, rAdd, rSub, tAug, ipI, L2.start, List.map, List.length, List.replicate, List.append, List.set, exists_eq_left', exists_eq_left, exists_eq_right, exists_eq_right', exists_and_left, exists_and_right, exists_eq, exists_eq', Option.some.injEq, List.getElem?_cons_zero, List.getElem?_cons_succ, V.bl.injEq, V.int.injEq, V.str.injEq, V.ref.injEq, List.cons_append, List.nil_append, List.cons.injEq, HO.ins.injEq, HO.lst.injEq, HO.tup.injEq, true_and, and_true, decide_eq_true_eq, Bool.false_eq_true, ↓reduceIte, Bool.not_true, Bool.not_false, Bool.not_eq_true', decide_eq_false_iff_not, List.set_cons_zero, List.set_cons_succ, and_assoc, scal, dec_int, dec_str, forall_const, implies_true]
        rw [hMid]
        exact ⟨x6.1, x8.1, rfl, w9.same, (number_in_range e8).2, (number_in_range e6).2, q9⟩
    · intro σ' H' hm
      rw [hMid] at hm
      obtain ⟨d, n, rfl, s6, hn, hd, q4⟩ := hm
      have hp6 := hp.mono s6
      simp only [rIxD, gSub, rSetL, sDPut, tDGet, tDIn, tDNotIn, wipe, rLenS, tBM, rAppend, rExtend, rIn, cx_K, rIxS, rIxL, rIxT, tRet, tIfS, tTest, tChain, rI, rI0, rU, tC, tVar, tOp, tUn, tCB, tCons, tNil, tSeq, tNext, tB, tNot, tAnd, tOr, tAndV, tOrV, tNotV, tFc, sFc, sFcA, tMt, tCl, tNw, tLst, tTup, tDrop, tAsg, tPar, gName, gCons, gNil, tR1, rEq, rNe, rAdd, rSub, tAug, ipI, L2.start, List.map, List.length, List.replicate, List.append, List.set, exists_eq_left', exists_eq_left, exists_eq_right, exists_eq_right', exists_and_left, exists_and_right, exists_eq, exists_eq', Option.some.injEq, List.getElem?_cons_zero, List.getElem?_cons_succ, V.bl.injEq, V.int.injEq, V.str.injEq, V.ref.injEq, List.cons_append, List.nil_append, List.cons.injEq, HO.ins.injEq, HO.lst.injEq, HO.tup.injEq, true_and, and_true, decide_eq_true_eq, Bool.false_eq_true, ↓reduceIte, Bool.not_true, Bool.not_false, Bool.not_eq_true', decide_eq_false_iff_not, List.set_cons_zero, List.set_cons_succ, and_assoc, scal, dec_int, dec_str, forall_const, implies_true]
      refine ⟨R, L, p, ks, 1, x0.1, rfl, hp6, q4.imp (fun _ z => z) fun k ek qk => ?_⟩
      obtain ⟨px6, pi6⟩ := hp6.ins
      obtain ⟨ts, hpa, hpb⟩ := hp6.parts.pa
      simp only [rIxD, gSub, rSetL, sDPut, tDGet, tDIn, tDNotIn, wipe, rLenS, tBM, rAppend, rExtend, rIn, cx_K, rIxS, rIxL, rIxT, tRet, tIfS, tTest, tChain, rI, rI0, rU, tC, tVar, tOp, tUn, tCB, tCons, tNil, tSeq, tNext, tB, tNot, tAnd, tOr, tAndV, tOrV, tNotV, tFc, sFc, sFcA, tMt, tCl, tNw, tLst, tTup, tDrop, tAsg, tPar, gName, gCons, gNil, tR1, rEq, rNe, rAdd, rSub, tAug, ipI, L2.start, List.map, List.length, List.replicate, List.append, List.set, exists_eq_left', exists_eq_left, exists_eq_right, exists_eq_right', exists_and_left, exists_and_right, exists_eq, exists_eq', Option.some.injEq, List.getElem?_cons_zero, List.getElem?_cons_succ, V.bl.injEq, V.int.injEq, V.str.injEq, V.ref.injEq, List.cons_append, List.nil_append, List.cons.injEq, HO.ins.injEq, HO.lst.injEq, HO.tup.injEq, true_and, and_true, decide_eq_true_eq, Bool.false_eq_true, ↓reduceIte, Bool.not_true, Bool.not_false, Bool.not_eq_true', decide_eq_false_iff_not, List.set_cons_zero, List.set_cons_succ, and_assoc, scal, dec_int, dec_str, forall_const, implies_true, pi6, PL.fs, plF_get, sp_want]
      refine ⟨_, .inl (.inl (.inl hpa)), ?_⟩
      rw [List.length_map, hpb.len]
      by_cases hc : p.parcels.length + n ≤ 40
      · rw [if_pos hc] at qk
        rw [decide_eq_true (by omega : (p.parcels.length : Int) + (n : Int) ≤ 40)]
        refine iteT ⟨_, rfl, n, rfl, by omega, by omega, ?_⟩
        rw [Int.toNat_natCast]
        refine for_it walk_range (fun i σ H' => ∃ y, σ = [some (.ref L.pl), some (.ref w), some (wV x0.1), some (.int x1.1), some (.int x2.1), some (.int x3.1), some (.int d), some (.int n), some (.int k), y] ∧ PlantAt g H' R L { p with parcels := p.parcels ++ fed k x1.1 x2.1 x3.1 d i } ks) ?_ (fun _ _ _ _ _ => trivial) ?_ ?_
        · exact ⟨none, rfl, by simpa [fed] using hp6⟩
        · rintro i x σ H7 H8 hi ⟨y, rfl, h7⟩ ⟨rfl, rfl⟩
          obtain ⟨px7, pi7⟩ := h7.ins
          simp only [rIxD, gSub, rSetL, sDPut, tDGet, tDIn, tDNotIn, wipe, rLenS, tBM, rAppend, rExtend, rIn, cx_K, rIxS, rIxL, rIxT, tRet, tIfS, tTest, tChain, rI, rI0, rU, tC, tVar, tOp, tUn, tCB, tCons, tNil, tSeq, tNext, tB, tNot, tAnd, tOr, tAndV, tOrV, tNotV, tFc, sFc, sFcA, tMt, tCl, tNw, tLst, tTup, tDrop, tAsg, tPar, gName, gCons, gNil, tR1, rEq, rNe, rAdd, rSub, tAug, ipI, L2.start, List.map, List.length, List.replicate, List.append, List.set, exists_eq_left', exists_eq_left, exists_eq_right, exists_eq_right', exists_and_left, exists_and_right, exists_eq, exists_eq', Option.some.injEq, List.getElem?_cons_zero, List.getElem?_cons_succ, V.bl.injEq, V.int.injEq, V.str.injEq, V.ref.injEq, List.cons_append, List.nil_append, List.cons.injEq, HO.ins.injEq, HO.lst.injEq, HO.tup.injEq, true_and, and_true, decide_eq_true_eq, Bool.false_eq_true, ↓reduceIte, Bool.not_true, Bool.not_false, Bool.not_eq_true', decide_eq_false_iff_not, List.set_cons_zero, List.set_cons_succ, and_assoc, scal, dec_int, dec_str, forall_const, implies_true, pi7, PL.fs, plF_get]
          refine ⟨.inl ⟨by omega, by omega⟩, by decide, fun t7 ht7 => ?_⟩
          have e : (x3.1 : Int) + (0 + (i : Int)) * (d : Int) = ((x3.1 + i * d : Nat) : Int) := by rw [Int.natCast_add, Int.natCast_mul, Int.zero_add]
          rw [e]
          have h9 := h7.mono (Same.new (o := .tup [.int k, .int x1.1, .int x2.1, .int ((x3.1 + i * d : Nat) : Int)]) ht7)
          refine ⟨R, L, _, ks, t7, ⟨x1.1, x2.1, k, x3.1 + i * d⟩, rfl, h9, upd_same, ?_, fun H9 h10 => ?_⟩
          · show (p.parcels ++ fed k x1.1 x2.1 x3.1 d i).length ≤ 1000
            rw [List.length_append]
            have := lim.pa
            simp [fed]
            omega
          · have e2 : fed k x1.1 x2.1 x3.1 d (i + 1) = fed k x1.1 x2.1 x3.1 d i ++ [⟨x1.1, x2.1, k, x3.1 + i * d⟩] := by
              unfold fed
              rw [List.range_succ, List.map_append]
              rfl
            rw [e2, ← List.append_assoc]
            exact h10
        · rintro σ H7 ⟨y, rfl, h7⟩
          exact qk _ h7
      · rw [if_neg hc] at qk
        rw [decide_eq_false (by omega : ¬ (p.parcels.length : Int) + (n : Int) ≤ 40)]
        exact iteF (LF.mono qk hp6.same)
end Tote
/-! # reading.py: conditions -/
namespace Tote
open PySem PySem.Spec PyProof.Rows L2 Tq
open SX (S S_inj S_len S_cat)
open Xb08 (ascii TermForm)
variable {g : GG}
def tfT : TermForm → List V
  | .code a b => [.str "code", .int a, .int b]
  | .length n => [.str "long", .int n]
  | .each n => [.str "each", .int n]
  | .full c => [.str "full", wV c]
  | .free b => [.str "free", wV b]
def readTerm (ws : List W) : Except Nat (TermForm × List W) := takeE ws >>= fun a =>
  if a.1 = ascii "code" then takeNumber 0 9999 a.2 >>= fun b => takeNumber 0 9999 b.2 >>= fun c => .ok (.code b.1 c.1, c.2)
  else if a.1 = ascii "long" then takeNumber 1 5 a.2 >>= fun b => .ok (.length b.1, b.2)
  else if a.1 = ascii "each" then takeNumber 1 99 a.2 >>= fun b => .ok (.each b.1, b.2)
  else if a.1 = ascii "full" then takeName a.2 >>= fun b => .ok (.full b.1, b.2)
  else if a.1 = ascii "free" then takeName a.2 >>= fun b => .ok (.free b.1, b.2)
  else .error 1
theorem S_eq {a b : W} : (S a = S b) = (a = b) := propext ⟨fun h => S_inj h, fun h => by rw [h]⟩
/-- the words are given by hand: all stand in the heap -/
theorem takeE_wd {H R : Hp} {w : Addr} {ws r : List W} {z : W} (h : WordsAt g H R w ws) (e : takeE ws = .ok (z, r)) : Wd z := by
  obtain ⟨dx, a, i, row, h1, h2, h3, h4, h5, h6⟩ := h.ex
  cases ws with
  | nil => cases e
  | cons x y =>
    cases e
    have : z ∈ row.drop i := by rw [h3]; exact List.mem_cons_self
    exact h6 z (List.mem_of_mem_drop this)
def sp_read_term (g : GG) : Sp := fun vs H Q E => ∃ (R : Hp) (w : Addr) (ws : List W), vs = [.ref w] ∧ WordsAt g H R w ws ∧ Wp (readTerm ws) (LF g E R) fun o => ∀ H' t, WordsAt g H' R w o.2 → H' t = some (.tup (tfT o.1)) → Q (.ref t) H'
theorem ok_read_term (T : Tx g) : Fn (L2N.CX g.P g.w) g 6 "read_term" ["words"] (sp_read_term g) := by
  refine fnC (k := 5) T.gl_read_term T.df_read_term sc_read_term (fun _ _ _ _ _ _ us hl => match us, hl with | [_], _ => rfl) ?_ ?_
  · rintro vs H Q E ⟨R, w, ws, rfl, _⟩
    rfl
  · rintro cdv A outer s H vs Q E hr ⟨R, w, ws, rfl, hw, q⟩
    refine ⟨_, (pss_cons (ps_set (i := 1) sc_read_term.nd rfl (.inl rfl) (pe_mx0 (ok_Words_take T) hr (by decide) pxN (pv 0))) (pss_cons (ps_if (pt_cmpR op_eq (pv 1) pe_str (nomark _)) (pss_cons (ps_set (i := 2) sc_read_term.nd rfl (.inl rfl) (pe_mx (ok_Words_take_number T) hr (by decide) pxN (pv 0) (pa_cons pe_int (pa_cons (C8.pe_gc rfl T.in_MOST_NUMBER) pa_nil)))) (pss_one (ps_ret (pe_tup (pa_cons (pv 1) (pa_cons (pv 2) (pa_cons (pe_mx (ok_Words_take_number T) hr (by decide) pxN (pv 0) (pa_cons pe_int (pa_cons (C8.pe_gc rfl T.in_MOST_NUMBER) pa_nil))) pa_nil))))))) pss_nil) (pss_cons (ps_if (pt_cmpR op_eq (pv 1) pe_str (nomark _)) (pss_one (ps_ret (pe_tup (pa_cons (pv 1) (pa_cons (pe_mx (ok_Words_take_number T) hr (by decide) pxN (pv 0) (pa_cons pe_int (pa_cons (C8.pe_gc rfl T.in_LONGEST_PARCEL) pa_nil))) pa_nil))))) pss_nil) (pss_cons (ps_if (pt_cmpR op_eq (pv 1) pe_str (nomark _)) (pss_one (ps_ret (pe_tup (pa_cons (pv 1) (pa_cons (pe_mx (ok_Words_take_number T) hr (by decide) pxN (pv 0) (pa_cons pe_int (pa_cons (C8.pe_gc rfl T.in_MOST_EACH) pa_nil))) pa_nil))))) pss_nil) (pss_cons (ps_expr (pe_fx (ok_want T) hr (by decide) pxN (pa_cons (pe_cmpR op_in_seq (pv 1) (pe_tup (pa_cons pe_str (pa_cons pe_str pa_nil))) (by rfl)) (pa_cons (C8.pe_gc rfl T.in_NOT_FORMED) pa_nil)))) (pss_one (ps_ret (pe_tup (pa_cons (pv 1) (pa_cons (pe_mx0 (ok_Words_take_name T) hr (by decide) pxN (pv 0)) pa_nil)))))))))), ?_⟩
    unfold readTerm at q
    rw [Wp_bind] at q
    obtain ⟨dx0, a0, i0, row0, k0, _⟩ := hw.ex
    simp only [rIxD, gSub, rSetL, sDPut, tDGet, tDIn, tDNotIn, wipe, rLenS, tBM, rAppend, rExtend, rIn, cx_K, rIxS, rIxL, rIxT, tRet, tIfS, tTest, tChain, rI, rI0, rU, tC, tVar, tOp, tUn, tCB, tCons, tNil, tSeq, tNext, tB, tNot, tAnd, tOr, tAndV, tOrV, tNotV, tFc, sFc, sFcA, tMt, tCl, tNw, tLst, tTup, tDrop, tAsg, tPar, gName, gCons, gNil, tR1, rEq, rNe, rAdd, rSub, tAug, ipI, L2.start, List.map, List.length, List.replicate, List.append, List.set, exists_eq_left', exists_eq_left, exists_eq_right, exists_eq_right', exists_and_left, exists_and_right, exists_eq, exists_eq', Option.some.injEq, List.getElem?_cons_zero, List.getElem?_cons_succ, V.bl.injEq, V.int.injEq, V.str.injEq, V.ref.injEq, List.cons_append, List.nil_append, List.cons.injEq, HO.ins.injEq, HO.lst.injEq, HO.tup.injEq, true_and, and_true, decide_eq_true_eq, Bool.false_eq_true, ↓reduceIte, Bool.not_true, Bool.not_false, Bool.not_eq_true', decide_eq_false_iff_not, List.set_cons_zero, List.set_cons_succ, and_assoc, scal, dec_int, dec_str, forall_const, implies_true, k0, wdF_get]
    refine ⟨w, R, ws, rfl, hw, q.imp (fun _ z => z) fun x0 e0 q0 wd H1 w1 => ?_⟩
    obtain ⟨dx1, a1, i1, row1, k1, _⟩ := w1.ex
    simp only [rIxD, gSub, rSetL, sDPut, tDGet, tDIn, tDNotIn, wipe, rLenS, tBM, rAppend, rExtend, rIn, cx_K, rIxS, rIxL, rIxT, tRet, tIfS, tTest, tChain, rI, rI0, rU, tC, tVar, tOp, tUn, tCB, tCons, tNil, tSeq, tNext, tB, tNot, tAnd, tOr, tAndV, tOrV, tNotV, tFc, sFc, sFcA, tMt, tCl, tNw, tLst, tTup, tDrop, tAsg, tPar, gName, gCons, gNil, tR1, rEq, rNe, rAdd, rSub, tAug, ipI, L2.start, List.map, List.length, List.replicate, List.append, List.set, exists_eq_left', exists_eq_left, exists_eq_right, exists_eq_right', exists_and_left, exists_and_right, exists_eq, exists_eq', Option.some.injEq, List.getElem?_cons_zero, List.getElem?_cons_succ, V.bl.injEq, V.int.injEq, V.str.injEq, V.ref.injEq, List.cons_append, List.nil_append, List.cons.injEq, HO.ins.injEq, HO.lst.injEq, HO.tup.injEq, true_and, and_true, decide_eq_true_eq, Bool.false_eq_true, ↓reduceIte, Bool.not_true, Bool.not_false, Bool.not_eq_true', decide_eq_false_iff_not, List.set_cons_zero, List.set_cons_succ, and_assoc, scal, dec_int, dec_str, forall_const, implies_true, k1, wdF_get, wV, st_code, st_long, st_each, st_full, st_free, S_eq]
    by_cases c1 : x0.1 = ascii "code"
    · rw [if_pos c1] at q0 ⊢
      simp only [Wp_bind] at q0
      refine ⟨w, R, x0.2, 0, 9999, rfl, w1, q0.imp (fun _ z => z) fun x1 e1 q1 H2 w2 => ?_⟩
      obtain ⟨dx2, a2, i2, row2, k2, _⟩ := w2.ex
      refine ⟨_, _, k2, rfl, w, R, x1.2, 0, 9999, rfl, w2, q1.imp (fun _ z => z) fun x2 e2 q2 H3 w3 => ⟨by decide, fun t ht => ?_⟩⟩
      refine q2 _ _ (w3.mono (Same.new ht)) ?_
      rw [upd_same, c1, ← st_code]
      rfl
    rw [if_neg c1] at q0 ⊢
    by_cases c2 : x0.1 = ascii "long"
    · rw [if_pos c2] at q0 ⊢
      simp only [Wp_bind] at q0
      refine ⟨w, R, x0.2, 1, 5, rfl, w1, q0.imp (fun _ z => z) fun x1 e1 q1 H2 w2 => ⟨by decide, fun t ht => ?_⟩⟩
      refine q1 _ _ (w2.mono (Same.new ht)) ?_
      rw [upd_same, c2, ← st_long]
      rfl
    rw [if_neg c2] at q0 ⊢
    by_cases c3 : x0.1 = ascii "each"
    · rw [if_pos c3] at q0 ⊢
      simp only [Wp_bind] at q0
      refine ⟨w, R, x0.2, 1, 99, rfl, w1, q0.imp (fun _ z => z) fun x1 e1 q1 H2 w2 => ⟨by decide, fun t ht => ?_⟩⟩
      refine q1 _ _ (w2.mono (Same.new ht)) ?_
      rw [upd_same, c3, ← st_each]
      rfl
    rw [if_neg c3] at q0 ⊢
    refine ⟨by decide, fun t0 ht0 => ⟨_, .inr (.inl (.inl upd_same)), rfl, rfl, ?_⟩⟩
    have w2 := w1.mono (Same.new (o := .tup [.str (S (ascii "full")), .str (S (ascii "free"))]) ht0)
    generalize upd H1 t0 (.tup [.str (S (ascii "full")), .str (S (ascii "free"))]) = H2 at w2 ⊢
    have ei : inV (.str (S x0.1)) [.str (S (ascii "full")), .str (S (ascii "free"))] = (decide (x0.1 = ascii "full") || decide (x0.1 = ascii "free")) := by
      show ((S (ascii "full") == S x0.1) || ((S (ascii "free") == S x0.1) || false)) = _
      rw [Bool.or_false, SX.S_beq_eq, SX.S_beq_eq]
      congr 1
      · by_cases z : x0.1 = ascii "full"
        · rw [z]
        · rw [decide_eq_false z, decide_eq_false fun y => z y.symm]
      · by_cases z : x0.1 = ascii "free"
        · rw [z]
        · rw [decide_eq_false z, decide_eq_false fun y => z y.symm]
    rw [ei]
    refine ⟨_, 1, rfl, ?_⟩
    obtain ⟨dx2, a2, i2, row2, k2, _⟩ := w2.ex
    by_cases c4 : x0.1 = ascii "full"
    · rw [if_pos c4] at q0
      simp only [Wp_bind] at q0
      rw [decide_eq_true c4]
      refine iteT ⟨_, _, k2, rfl, w, R, x0.2, rfl, w2, q0.imp (fun _ z => z) fun x1 e1 q1 H3 w3 => ⟨by decide, fun t ht => ?_⟩⟩
      refine q1 _ _ (w3.mono (Same.new ht)) ?_
      rw [upd_same, c4, ← st_full]
      rfl
    rw [if_neg c4] at q0
    rw [decide_eq_false c4, Bool.false_or]
    by_cases c5 : x0.1 = ascii "free"
    · rw [if_pos c5] at q0
      simp only [Wp_bind] at q0
      rw [decide_eq_true c5]
      refine iteT ⟨_, _, k2, rfl, w, R, x0.2, rfl, w2, q0.imp (fun _ z => z) fun x1 e1 q1 H3 w3 => ⟨by decide, fun t ht => ?_⟩⟩
      refine q1 _ _ (w3.mono (Same.new ht)) ?_
      rw [upd_same, c5, ← st_free]
      rfl
    rw [if_neg c5] at q0
    rw [decide_eq_false c5]
    exact iteF (LF.mono q0 w2.same)
/-- terms as written, in a list -/
def TfAt (H : Hp) (l : Addr) (fs : List TermForm) : Prop := ∃ ts : List Addr, H l = some (.lst (ts.map .ref)) ∧ F2 (fun t f => H t = some (.tup (tfT f))) ts fs
theorem TfAt.same {H H' : Hp} {l : Addr} {fs : List TermForm} (h : TfAt H l fs) (s : Same H H') : TfAt H' l fs := by
  obtain ⟨ts, h1, h2⟩ := h
  exact ⟨ts, s _ _ h1, h2.imp fun _ _ _ _ r => s _ _ r⟩
def condRest : Nat → List TermForm → List W → Except Nat (List TermForm × List W)
  | 0, _, _ => .error 1
  | f + 1, acc, r => if r.head? = some (ascii "and") then readTerm r.tail >>= fun x => condRest f (acc ++ [x.1]) x.2 else .ok (acc, r)
def readCond (ws : List W) : Except Nat (List TermForm × List W) := readTerm ws >>= fun x => condRest (x.2.length + 1) [x.1] x.2 >>= fun y => if y.1.length ≤ 4 then .ok y else .error 1
theorem TfAt.del {H : Hp} {l w dx C : Addr} {fs : List TermForm} {xs : List (Str × V)} (h : TfAt H l fs) (nl : l ≠ w) (hw : H w = some (.ins C dx xs)) : TfAt (L2.del H w) l fs := by
  obtain ⟨ts, h1, h2⟩ := h
  refine ⟨ts, by rw [del_ne nl]; exact h1, h2.imp fun t f _ _ r => ?_⟩
  rw [del_ne (ne_of r hw (by intro z; cases z))]
  exact r
theorem readTerm_len {ws : List W} {x : TermForm × List W} (h : readTerm ws = .ok x) : x.2.length < ws.length := by
  have hN : ∀ {a b : Nat} {l : List W} {y : Nat × List W}, takeNumber a b l = .ok y → y.2.length < l.length := by
    intro a b l y h
    cases l with
    | nil => cases h
    | cons z r =>
      change (match Xb08.parseInRange? a b z with | some n => Except.ok (n, r) | none => Except.error 1) = _ at h
      cases e : Xb08.parseInRange? a b z with
      | none => rw [e] at h; cases h
      | some n =>
        rw [e] at h
        cases h
        exact Nat.lt_succ_self _
  have hM : ∀ {l : List W} {y : W × List W}, takeName l = .ok y → y.2.length < l.length := by
    intro l y h
    cases l with
    | nil => cases h
    | cons z r =>
      change (if Xb08.isName z = true then Except.ok (z, r) else Except.error 1) = _ at h
      by_cases e : Xb08.isName z = true
      · rw [if_pos e] at h
        cases h
        exact Nat.lt_succ_self _
      · rw [if_neg e] at h
        cases h
  have bnd : ∀ {α β : Type} {r : Except Nat α} {f : α → Except Nat β} {y : β}, (r >>= f) = .ok y → ∃ a, r = .ok a ∧ f a = .ok y := by
    intro α β r f y h
    cases r with
    | error c => cases h
    | ok a => exact ⟨a, rfl, h⟩
  cases ws with
  | nil => cases h
  | cons z r =>
    change (if z = ascii "code" then takeNumber 0 9999 r >>= fun b => takeNumber 0 9999 b.2 >>= fun c => .ok (TermForm.code b.1 c.1, c.2)
      else if z = ascii "long" then takeNumber 1 5 r >>= fun b => .ok (.length b.1, b.2)
      else if z = ascii "each" then takeNumber 1 99 r >>= fun b => .ok (.each b.1, b.2)
      else if z = ascii "full" then takeName r >>= fun b => .ok (.full b.1, b.2)
      else if z = ascii "free" then takeName r >>= fun b => .ok (.free b.1, b.2)
      else .error 1) = _ at h
    show x.2.length < r.length + 1
    split at h
    · obtain ⟨b, hb, h⟩ := bnd h
      obtain ⟨c, hc, h⟩ := bnd h
      cases h
      have := hN hb
      have := hN hc
      dsimp only
      omega
    split at h
    · obtain ⟨b, hb, h⟩ := bnd h
      cases h
      have := hN hb
      dsimp only
      omega
    split at h
    · obtain ⟨b, hb, h⟩ := bnd h
      cases h
      have := hN hb
      dsimp only
      omega
    split at h
    · obtain ⟨b, hb, h⟩ := bnd h
      cases h
      have := hM hb
      dsimp only
      omega
    split at h
    · obtain ⟨b, hb, h⟩ := bnd h
      cases h
      have := hM hb
      dsimp only
      omega
    · cases h
theorem mix_ne {ts : List Addr} {row : List W} {n : Nat} (h : ts.map V.ref = row.map wV) (hl : ts.length = n) (hr : 0 < n) : False := by
  subst hl
  cases row with
  | nil =>
    cases ts with
    | nil => cases hr
    | cons t ts => cases h
  | cons z r =>
    cases ts with
    | nil => cases h
    | cons t ts =>
      have := (List.cons.inj h).1
      cases this
def CondI (g : GG) (E : XK) (R : Hp) (w l : Addr) (Q : VK) (m : Nat) (σ : L2.St) (H' : Hp) : Prop := ∃ acc r, σ = [some (V.ref w), some (V.ref l)] ∧ WordsAt g H' R w r ∧ TfAt H' l acc ∧ acc.length + r.length ≤ 5000 ∧ 0 < acc.length ∧ r.length < m ∧
  Wp (condRest m acc r) (LF g E R) (fun a => Wp (if a.1.length ≤ 4 then Except.ok a else Except.error 1) (LF g E R) fun o => ∀ (H' : Hp) (l : Addr), WordsAt g H' R w o.2 → TfAt H' l o.1 → R l = none → l ≠ w → Q (V.ref l) H')
def sp_read_condition (g : GG) : Sp := fun vs H Q E => ∃ (R : Hp) (w : Addr) (ws : List W), vs = [.ref w] ∧ WordsAt g H R w ws ∧ Wp (readCond ws) (LF g E R) fun o => ∀ H' l, WordsAt g H' R w o.2 → TfAt H' l o.1 → R l = none → l ≠ w → Q (.ref l) H'
theorem ok_read_condition (T : Tx g) : Fn (L2N.CX g.P g.w) g 7 "read_condition" ["words"] (sp_read_condition g) := by
  refine fnC (k := 6) T.gl_read_condition T.df_read_condition sc_read_condition (fun _ _ _ _ _ _ us hl => match us, hl with | [_], _ => rfl) ?_ ?_
  · rintro vs H Q E ⟨R, w, ws, rfl, _⟩
    rfl
  · rintro cdv A outer s H vs Q E hr ⟨R, w, ws, rfl, hw, q⟩
    refine ⟨_, (pss_cons (ps_set (i := 1) sc_read_condition.nd rfl (.inl rfl) (pe_lst (pa_cons (pe_fx (ok_read_term T) hr (by decide) pxN (pa_cons (pv 0) pa_nil)) pa_nil))) (pss_cons (ps_while (passes_of rfl) (pt_val (pe_mt (ok_Words_sees T) hr (by decide) (pv 0) (pa_cons pe_str pa_nil))) (pss_cons (ps_expr (pe_mx (ok_Words_take_told T) hr (by decide) pxN (pv 0) (pa_cons pe_str pa_nil))) (pss_one (ps_expr (pe_bm PySem.F.plainAttrs_list PySem.F.slot_list_append PySem.F.type_list_append mt_append (pv 1) (pa_cons (pe_fx (ok_read_term T) hr (by decide) pxN (pa_cons (pv 0) pa_nil)) pa_nil)))))) (pss_cons (ps_expr (pe_fx (ok_want T) hr (by decide) pxN (pa_cons (pe_cmpR op_le (pe_callB call_lenS (by rfl) T.fr_len bt_len (pa_cons (pv 1) pa_nil)) (C8.pe_gc rfl T.in_MOST_TERMS) (nomark _)) (pa_cons (C8.pe_gc rfl T.in_NOT_FORMED) pa_nil)))) (pss_one (ps_ret (pv 1)))))), ?_⟩
    unfold readCond at q
    simp only [Wp_bind] at q
    simp only [rIxD, gSub, rSetL, sDPut, tDGet, tDIn, tDNotIn, wipe, rLenS, tBM, rAppend, rExtend, rIn, cx_K, rIxS, rIxL, rIxT, tRet, tIfS, tTest, tChain, rI, rI0, rU, tC, tVar, tOp, tUn, tCB, tCons, tNil, tSeq, tNext, tB, tNot, tAnd, tOr, tAndV, tOrV, tNotV, tFc, sFc, sFcA, tMt, tCl, tNw, tLst, tTup, tDrop, tAsg, tPar, gName, gCons, gNil, tR1, rEq, rNe, rAdd, rSub, tAug, ipI, L2.start, List.map, List.length, List.replicate, List.append, List.set, exists_eq_left', exists_eq_left, exists_eq_right, exists_eq_right', exists_and_left, exists_and_right, exists_eq, exists_eq', Option.some.injEq, List.getElem?_cons_zero, List.getElem?_cons_succ, V.bl.injEq, V.int.injEq, V.str.injEq, V.ref.injEq, List.cons_append, List.nil_append, List.cons.injEq, HO.ins.injEq, HO.lst.injEq, HO.tup.injEq, true_and, and_true, decide_eq_true_eq, Bool.false_eq_true, ↓reduceIte, Bool.not_true, Bool.not_false, Bool.not_eq_true', decide_eq_false_iff_not, List.set_cons_zero, List.set_cons_succ, and_assoc, scal, dec_int, dec_str, forall_const, implies_true]
    refine ⟨R, w, ws, rfl, hw, q.imp (fun _ z => z) fun x0 e0 q0 H1 t1 w1 ht1 => ⟨by decide, fun l hl => ?_⟩⟩
    have w2 := w1.mono (Same.new (o := .lst [.ref t1]) hl)
    have f2 : TfAt (upd H1 l (.lst [.ref t1])) l [x0.1] := ⟨[t1], upd_same, ⟨rfl, fun i t f ht hf => by
      cases i with
      | zero =>
        cases ht
        cases hf
        rw [upd_ne (ne_of_none ht1 hl)]
        exact ht1
      | succ i => simp at ht⟩⟩
    have nl : l ≠ w := by
      obtain ⟨dx, a, i, row, k1, _⟩ := w1.ex
      exact (ne_of_none k1 hl).symm
    have rl : R l = none := w1.same.free hl
    generalize upd H1 l (.lst [.ref t1]) = H2 at w2 f2 ⊢
    have hlen0 : 1 + x0.2.length ≤ 5000 := by
      obtain ⟨dx, a, i, row, k1, k2, k3, k4, k5, k6⟩ := w2.ex
      rw [← k3]
      simp
      omega
    refine ⟨CondI g E R w l Q, ⟨_, [x0.1], x0.2, rfl, w2, f2, hlen0, Nat.zero_lt_one, Nat.lt_succ_self _, q0⟩, ?_⟩
    · rintro m σ H3 ⟨acc, r, rfl, w3, f3, hlen, h0, hm, q3⟩
      obtain ⟨dx3, a3, i3, row3, k3, _⟩ := w3.ex
      simp only [rIxD, gSub, rSetL, sDPut, tDGet, tDIn, tDNotIn, wipe, rLenS, tBM, rAppend, rExtend, rIn, cx_K, rIxS, rIxL, rIxT, tRet, tIfS, tTest, tChain, rI, rI0, rU, tC, tVar, tOp, tUn, tCB, tCons, tNil, tSeq, tNext, tB, tNot, tAnd, tOr, tAndV, tOrV, tNotV, tFc, sFc, sFcA, tMt, tCl, tNw, tLst, tTup, tDrop, tAsg, tPar, gName, gCons, gNil, tR1, rEq, rNe, rAdd, rSub, tAug, ipI, L2.start, List.map, List.length, List.replicate, List.append, List.set, exists_eq_left', exists_eq_left, exists_eq_right, exists_eq_right', exists_and_left, exists_and_right, exists_eq, exists_eq', Option.some.injEq, List.getElem?_cons_zero, List.getElem?_cons_succ, V.bl.injEq, V.int.injEq, V.str.injEq, V.ref.injEq, List.cons_append, List.nil_append, List.cons.injEq, HO.ins.injEq, HO.lst.injEq, HO.tup.injEq, true_and, and_true, decide_eq_true_eq, Bool.false_eq_true, ↓reduceIte, Bool.not_true, Bool.not_false, Bool.not_eq_true', decide_eq_false_iff_not, List.set_cons_zero, List.set_cons_succ, and_assoc, scal, dec_int, dec_str, forall_const, implies_true, k3, wdF_get, st_and]
      refine ⟨w, R, r, ascii "and", rfl, w3, ?_⟩
      cases m with
      | zero => exact absurd hm (Nat.not_lt_zero _)
      | succ m =>
        change Wp (if r.head? = some (ascii "and") then readTerm r.tail >>= fun x => condRest m (acc ++ [x.1]) x.2 else .ok (acc, r)) _ _ at q3
        by_cases c : r.head? = some (ascii "and")
        · rw [if_pos c] at q3
          rw [decide_eq_true c]
          rw [Wp_bind] at q3
          obtain ⟨r', rfl⟩ : ∃ r', r = ascii "and" :: r' := by
            cases r with
            | nil => cases c
            | cons z r' => exact ⟨r', by cases c; rfl⟩
          refine ⟨true, rfl, iteT ⟨CondI g E R w l Q m, fun σ' H' h => ⟨m, Nat.lt_succ_self _, h⟩, ?_⟩⟩
          simp only [rIxD, gSub, rSetL, sDPut, tDGet, tDIn, tDNotIn, wipe, rLenS, tBM, rAppend, rExtend, rIn, cx_K, rIxS, rIxL, rIxT, tRet, tIfS, tTest, tChain, rI, rI0, rU, tC, tVar, tOp, tUn, tCB, tCons, tNil, tSeq, tNext, tB, tNot, tAnd, tOr, tAndV, tOrV, tNotV, tFc, sFc, sFcA, tMt, tCl, tNw, tLst, tTup, tDrop, tAsg, tPar, gName, gCons, gNil, tR1, rEq, rNe, rAdd, rSub, tAug, ipI, L2.start, List.map, List.length, List.replicate, List.append, List.set, exists_eq_left', exists_eq_left, exists_eq_right, exists_eq_right', exists_and_left, exists_and_right, exists_eq, exists_eq', Option.some.injEq, List.getElem?_cons_zero, List.getElem?_cons_succ, V.bl.injEq, V.int.injEq, V.str.injEq, V.ref.injEq, List.cons_append, List.nil_append, List.cons.injEq, HO.ins.injEq, HO.lst.injEq, HO.tup.injEq, true_and, and_true, decide_eq_true_eq, Bool.false_eq_true, ↓reduceIte, Bool.not_true, Bool.not_false, Bool.not_eq_true', decide_eq_false_iff_not, List.set_cons_zero, List.set_cons_succ, and_assoc, scal, dec_int, dec_str, forall_const, implies_true, k3, wdF_get, st_and]
          refine ⟨w, del H3 w, _, ascii "and", rfl, w3.full, ?_⟩
          change Wp (if ascii "and" = ascii "and" then Except.ok r' else Except.error 1) _ _
          rw [if_pos rfl]
          intro H4 w4
          have f4 := (f3.del nl k3).same w4.same
          obtain ⟨ts4, g1, g2⟩ := f4
          refine ⟨.inl ⟨rfl, _, .inl (.inl g1)⟩, del H4 w, w, r', rfl, w4.full, q3.imp (fun _ z => z.mono (w3.sub.trans w4.sub)) fun x5 e5 q5 H5 t5 w5 ht5 => ?_⟩
          obtain ⟨dx4, a4, i4, row4, k4, _⟩ := w4.ex
          obtain ⟨ts5, g3, g4⟩ := ((TfAt.del ⟨ts4, g1, g2⟩ nl k4).same w5.same : TfAt H5 l acc)
          have hl5 : x5.2.length < r'.length := readTerm_len e5
          have hr' : (ascii "and" :: r').length = r'.length + 1 := rfl
          have nt : NoT (fun b => b = l) H5 := NoT.lst g3
          have st := Sta.of_upd (H := H5) (a := l) (o := .lst ((ts5.map V.ref) ++ [.ref t5]))
          refine ⟨_, g3, by rw [List.length_map, g4.len]; exact line_of' (by omega), acc ++ [x5.1], x5.2, rfl, ?_, ⟨ts5 ++ [t5], by rw [upd_same, List.map_append]; rfl, (g4.imp fun _ _ _ _ r => st.tup nt r).snoc (st.tup nt ht5)⟩, by rw [List.length_append, List.length_singleton]; omega, by rw [List.length_append]; omega, by omega, q5⟩
          have w6 := w5.less (w3.sub.trans w4.sub)
          obtain ⟨dx5, a5, i5, row5, k5, k6, k7⟩ := w6.ex
          refine ⟨Same.upd rl w6.same, w6.out, dx5, a5, i5, row5, ?_, ?_, k7⟩
          · rw [upd_ne nl.symm]
            exact k5
          · rw [upd_ne]
            · exact k6
            · intro e
              rw [e, g3] at k6
              exact mix_ne (HO.lst.inj (Option.some.inj k6)) g4.len h0
        · rw [if_neg c] at q3
          rw [decide_eq_false c]
          refine ⟨false, rfl, iteF ?_⟩
          simp only [rIxD, gSub, rSetL, sDPut, tDGet, tDIn, tDNotIn, wipe, rLenS, tBM, rAppend, rExtend, rIn, cx_K, rIxS, rIxL, rIxT, tRet, tIfS, tTest, tChain, rI, rI0, rU, tC, tVar, tOp, tUn, tCB, tCons, tNil, tSeq, tNext, tB, tNot, tAnd, tOr, tAndV, tOrV, tNotV, tFc, sFc, sFcA, tMt, tCl, tNw, tLst, tTup, tDrop, tAsg, tPar, gName, gCons, gNil, tR1, rEq, rNe, rAdd, rSub, tAug, ipI, L2.start, List.map, List.length, List.replicate, List.append, List.set, exists_eq_left', exists_eq_left, exists_eq_right, exists_eq_right', exists_and_left, exists_and_right, exists_eq, exists_eq', Option.some.injEq, List.getElem?_cons_zero, List.getElem?_cons_succ, V.bl.injEq, V.int.injEq, V.str.injEq, V.ref.injEq, List.cons_append, List.nil_append, List.cons.injEq, HO.ins.injEq, HO.lst.injEq, HO.tup.injEq, true_and, and_true, decide_eq_true_eq, Bool.false_eq_true, ↓reduceIte, Bool.not_true, Bool.not_false, Bool.not_eq_true', decide_eq_false_iff_not, List.set_cons_zero, List.set_cons_succ, and_assoc, scal, dec_int, dec_str, forall_const, implies_true, sp_want]
          obtain ⟨ts3, g1, g2⟩ := f3
          refine ⟨_, .inl (.inl (.inl g1)), ?_⟩
          rw [List.length_map, g2.len]
          change Wp (if acc.length ≤ 4 then Except.ok (acc, r) else Except.error 1) _ _ at q3
          by_cases h4 : acc.length ≤ 4
          · rw [if_pos h4] at q3
            rw [decide_eq_true (by omega : (acc.length : Int) ≤ 4)]
            exact iteT (q3 H3 l w3 ⟨ts3, g1, g2⟩ rl nl)
          · rw [if_neg h4] at q3
            rw [decide_eq_false (by omega : ¬ (acc.length : Int) ≤ 4)]
            exact iteF (LF.mono q3 w3.same)
/-! ## a rule -/
def knownE (ks : List KN) : TermForm → Except Nat Xb08.Cond
  | .code a b => .ok (.code a b)
  | .length n => .ok (.length n)
  | .each n => .ok (.each n)
  | .full c => numberE ks 2 c >>= fun k => .ok (.full k)
  | .free b => numberE ks 1 b >>= fun k => .ok (.free k)
def sp_known_term (g : GG) : Sp := fun vs H Q E => ∃ (R : Hp) (L : PL) (p : Xb08.Plant) (ks : List KN) (t : Addr) (f : TermForm), vs = [.ref L.pl, .ref t] ∧ H t = some (.tup (tfT f)) ∧ PlantAt g H R L p ks ∧
  Wp (knownE ks f) (LF g E R) fun c => ∀ H' t, Same H H' → H' t = some (.tup (termT c)) → Q (.ref t) H'
theorem tf_word (f : TermForm) : ∃ k : W, (tfT f)[0]? = some (wV k) ∧ (k = ascii "full" ↔ ∃ c, f = .full c) ∧ (k = ascii "free" ↔ ∃ b, f = .free b) := by
  cases f with
  | code a b => exact ⟨ascii "code", by rw [show wV (ascii "code") = .str "code" by show V.str _ = _; rw [← st_code]]; rfl, ⟨fun h => absurd h (by decide), fun ⟨c, h⟩ => by cases h⟩, ⟨fun h => absurd h (by decide), fun ⟨c, h⟩ => by cases h⟩⟩
  | length n => exact ⟨ascii "long", by rw [show wV (ascii "long") = .str "long" by show V.str _ = _; rw [← st_long]]; rfl, ⟨fun h => absurd h (by decide), fun ⟨c, h⟩ => by cases h⟩, ⟨fun h => absurd h (by decide), fun ⟨c, h⟩ => by cases h⟩⟩
  | each n => exact ⟨ascii "each", by rw [show wV (ascii "each") = .str "each" by show V.str _ = _; rw [← st_each]]; rfl, ⟨fun h => absurd h (by decide), fun ⟨c, h⟩ => by cases h⟩, ⟨fun h => absurd h (by decide), fun ⟨c, h⟩ => by cases h⟩⟩
  | full c => exact ⟨ascii "full", by rw [show wV (ascii "full") = .str "full" by show V.str _ = _; rw [← st_full]]; rfl, ⟨fun _ => ⟨c, rfl⟩, fun _ => rfl⟩, ⟨fun h => absurd h (by decide), fun ⟨c, h⟩ => by cases h⟩⟩
  | free b => exact ⟨ascii "free", by rw [show wV (ascii "free") = .str "free" by show V.str _ = _; rw [← st_free]]; rfl, ⟨fun h => absurd h (by decide), fun ⟨c, h⟩ => by cases h⟩, ⟨fun _ => ⟨b, rfl⟩, fun _ => rfl⟩⟩
theorem ok_known_term (T : Tx g) : Fn (L2N.CX g.P g.w) g 5 "known_term" ["plant", "term"] (sp_known_term g) := by
  refine fnC (k := 4) T.gl_known_term T.df_known_term sc_known_term (fun _ _ _ _ _ _ us hl => match us, hl with | [_, _], _ => rfl) ?_ ?_
  · rintro vs H Q E ⟨R, L, p, ks, t, f, rfl, _⟩
    rfl
  · rintro cdv A outer s H vs Q E hr ⟨R, L, p, ks, t, f, rfl, ht, hp, q⟩
    refine ⟨_, (pss_cons (ps_if (pt_cmpR op_eq (pe_ix ix_tup (pv 1) pe_int (fun _ _ => rfl)) pe_str (nomark _)) (pss_one (ps_ret (pe_tup (pa_cons pe_str (pa_cons (pe_fx (ok_number_of T) hr (by decide) pxN (pa_cons (pv 0) (pa_cons (C8.pe_gc rfl T.in_CHUTE) (pa_cons (pe_ix ix_tup (pv 1) pe_int (fun _ _ => rfl)) pa_nil)))) pa_nil))))) pss_nil) (pss_cons (ps_if (pt_cmpR op_eq (pe_ix ix_tup (pv 1) pe_int (fun _ _ => rfl)) pe_str (nomark _)) (pss_one (ps_ret (pe_tup (pa_cons pe_str (pa_cons (pe_fx (ok_number_of T) hr (by decide) pxN (pa_cons (pv 0) (pa_cons (C8.pe_gc rfl T.in_BELT) (pa_cons (pe_ix ix_tup (pv 1) pe_int (fun _ _ => rfl)) pa_nil)))) pa_nil))))) pss_nil) (pss_one (ps_ret (pv 1))))), ?_⟩
    obtain ⟨k, e0, k1, k2⟩ := tf_word f
    have hT : SqT g.K H t (tfT f) := .inl (.inl ht)
    simp only [rIxD, gSub, rSetL, sDPut, tDGet, tDIn, tDNotIn, wipe, rLenS, tBM, rAppend, rExtend, rIn, cx_K, rIxS, rIxL, rIxT, tRet, tIfS, tTest, tChain, rI, rI0, rU, tC, tVar, tOp, tUn, tCB, tCons, tNil, tSeq, tNext, tB, tNot, tAnd, tOr, tAndV, tOrV, tNotV, tFc, sFc, sFcA, tMt, tCl, tNw, tLst, tTup, tDrop, tAsg, tPar, gName, gCons, gNil, tR1, rEq, rNe, rAdd, rSub, tAug, ipI, L2.start, List.map, List.length, List.replicate, List.append, List.set, exists_eq_left', exists_eq_left, exists_eq_right, exists_eq_right', exists_and_left, exists_and_right, exists_eq, exists_eq', Option.some.injEq, List.getElem?_cons_zero, List.getElem?_cons_succ, V.bl.injEq, V.int.injEq, V.str.injEq, V.ref.injEq, List.cons_append, List.nil_append, List.cons.injEq, HO.ins.injEq, HO.lst.injEq, HO.tup.injEq, true_and, and_true, decide_eq_true_eq, Bool.false_eq_true, ↓reduceIte, Bool.not_true, Bool.not_false, Bool.not_eq_true', decide_eq_false_iff_not, List.set_cons_zero, List.set_cons_succ, and_assoc, scal, dec_int, dec_str, forall_const, implies_true, st_full, st_free, wV, S_eq]
    refine ⟨_, hT, _, atI_nat (j := 0) e0, rfl, ?_⟩
    by_cases c1 : k = ascii "full"
    · rw [if_pos (by rw [c1]; rfl)]
      obtain ⟨c, rfl⟩ := k1.mp c1
      unfold knownE at q
      rw [Wp_bind] at q
      refine ⟨_, hT, _, atI_nat (j := 1) rfl, R, L, p, ks, 2, c, rfl, hp, q.imp (fun _ z => z) fun i ei qi => ⟨by decide, fun t2 ht2 => qi _ _ (Same.new ht2) ?_⟩⟩
      rw [upd_same, ← st_full]
      rfl
    · rw [if_neg (show ¬ wV k = V.str (S (ascii "full")) from fun z => c1 (S_inj (V.str.inj z)))]
      refine ⟨_, hT, _, atI_nat (j := 0) e0, rfl, ?_⟩
      by_cases c2 : k = ascii "free"
      · rw [if_pos (by rw [c2]; rfl)]
        obtain ⟨c, rfl⟩ := k2.mp c2
        unfold knownE at q
        rw [Wp_bind] at q
        refine ⟨_, hT, _, atI_nat (j := 1) rfl, R, L, p, ks, 1, c, rfl, hp, q.imp (fun _ z => z) fun i ei qi => ⟨by decide, fun t2 ht2 => qi _ _ (Same.new ht2) ?_⟩⟩
        rw [upd_same, ← st_free]
        rfl
      · rw [if_neg (show ¬ wV k = V.str (S (ascii "free")) from fun z => c2 (S_inj (V.str.inj z)))]
        cases f with
        | code a b => exact (show Wp (Except.ok _) _ _ from q) H t (.refl _) ht
        | length n => exact (show Wp (Except.ok _) _ _ from q) H t (.refl _) ht
        | each n => exact (show Wp (Except.ok _) _ _ from q) H t (.refl _) ht
        | full c => exact absurd (k1.mpr ⟨c, rfl⟩) c1
        | free b => exact absurd (k2.mpr ⟨b, rfl⟩) c2
end Tote
/-! # reading.py: rules -/
namespace Tote
open PySem PySem.Spec PyProof.Rows L2 Tq
open SX (S S_inj S_len S_cat)
open Xb08 (ascii TermForm)
variable {g : GG}
def knownAll (ks : List KN) : List TermForm → Except Nat (List Xb08.Cond)
  | [] => .ok []
  | f :: r => knownE ks f >>= fun c => knownAll ks r >>= fun cs => .ok (c :: cs)
def doRule (p : Xb08.Plant) (ks : List KN) (ws : List W) : Except Nat (Xb08.Plant × List KN) := takeName ws >>= fun a => readCond a.2 >>= fun b => takeTold (ascii "push") b.2 >>= fun c => takeName c >>= fun d => takeTold (ascii "after") d.2 >>= fun e => takeNumber 1 99 e >>= fun f => takeEnd f.2 >>= fun _ =>
  numberE ks 3 a.1 >>= fun y => knownAll ks b.1 >>= fun cs => numberE ks 4 d.1 >>= fun u => if p.rules.length < 12 then .ok ({ p with rules := p.rules ++ [⟨y, cs, u, f.1⟩] }, ks) else .error 4
def RuleK (g : GG) (E : XK) (R : Hp) (L : PL) (p : Xb08.Plant) (ks : List KN) (pushed : W) (y d : Nat) (Q : VK) (cs : List Xb08.Cond) : Prop :=
  Wp (numberE ks 4 pushed) (LF g E R) fun u => Wp (if p.rules.length < 12 then Except.ok ({ p with rules := p.rules ++ [⟨y, cs, u, d⟩] }, ks) else Except.error 4) (LF g E R) fun r => ∀ H', PlantAt g H' R L r.1 r.2 → Q .non H'
theorem readCond_len {ws : List W} {x : List TermForm × List W} (h : readCond ws = .ok x) : x.1.length ≤ 4 := by
  unfold readCond at h
  cases e : readTerm ws with
  | error c => rw [e] at h; cases h
  | ok a =>
    rw [e] at h
    change (condRest (a.2.length + 1) [a.1] a.2 >>= fun y => if y.1.length ≤ 4 then Except.ok y else Except.error 1) = _ at h
    cases e2 : condRest (a.2.length + 1) [a.1] a.2 with
    | error c => rw [e2] at h; cases h
    | ok b =>
      rw [e2] at h
      change (if b.1.length ≤ 4 then Except.ok b else Except.error 1) = _ at h
      by_cases c : b.1.length ≤ 4
      · rw [if_pos c] at h
        cases h
        exact c
      · rw [if_neg c] at h
        cases h
def sp_do_rule (g : GG) : Sp := fun vs H Q E => LineP g doRule vs H Q E
theorem ok_do_rule (T : Tx g) : Fn (L2N.CX g.P g.w) g 8 "do_rule" ["plant", "words"] (sp_do_rule g) := by
  refine fnC (k := 7) T.gl_do_rule T.df_do_rule sc_do_rule (fun _ _ _ _ _ _ us hl => match us, hl with | [_, _], _ => rfl) ?_ ?_
  · rintro vs H Q E ⟨M, R, L, p, ks, w, ws, rfl, _⟩
    rfl
  · rintro cdv A outer s H vs Q E hr ⟨M, R, L, p, ks, w, ws, rfl, hp, ok, lim, hw, q⟩
    refine ⟨_, (pss_cons (ps_set (i := 2) sc_do_rule.nd rfl (.inl rfl) (pe_mx0 (ok_Words_take_name T) hr (by decide) pxN (pv 1))) (pss_cons (ps_set (i := 3) sc_do_rule.nd rfl (.inl rfl) (pe_fx (ok_read_condition T) hr (by decide) pxN (pa_cons (pv 1) pa_nil))) (pss_cons (ps_expr (pe_mx (ok_Words_take_told T) hr (by decide) pxN (pv 1) (pa_cons pe_str pa_nil))) (pss_cons (ps_set (i := 4) sc_do_rule.nd rfl (.inl rfl) (pe_mx0 (ok_Words_take_name T) hr (by decide) pxN (pv 1))) (pss_cons (ps_expr (pe_mx (ok_Words_take_told T) hr (by decide) pxN (pv 1) (pa_cons pe_str pa_nil))) (pss_cons (ps_set (i := 5) sc_do_rule.nd rfl (.inl rfl) (pe_mx (ok_Words_take_number T) hr (by decide) pxN (pv 1) (pa_cons pe_int (pa_cons (C8.pe_gc rfl T.in_MOST_DELAY) pa_nil)))) (pss_cons (ps_expr (pe_mx0 (ok_Words_take_end T) hr (by decide) pxN (pv 1))) (pss_cons (ps_set (i := 6) sc_do_rule.nd rfl (.inl rfl) (pe_fx (ok_number_of T) hr (by decide) pxN (pa_cons (pv 0) (pa_cons (C8.pe_gc rfl T.in_EYE) (pa_cons (pv 2) pa_nil))))) (pss_cons (ps_setLcR (E := E) (i := 7) (own := [("term", 9)]) (g := (gName 9)) rfl rfl rfl rfl rfl sc_do_rule.nd rfl rfl (sw_true rfl rfl rfl (by decide +kernel)) (pi_list (pv 3)) (blkOk_by (N := ["plant", "words", "name", "terms", "pushed", "delay", "eye", "known", "pusher", "term"]) (sc := defScope s_do_rule) (by decide +kernel)) (fun _ _ _ _ _ => (pg_name (i := 9) sc_do_rule.nd rfl (.inl rfl))) (fun _ _ _ _ _ => pts_nil) (fun _ _ _ _ _ _ hpx => (pe_fx (ok_known_term T) hr (by decide) hpx (pa_cons (pv 0) (pa_cons (pv 9) pa_nil))))) (pss_cons (ps_set (i := 8) sc_do_rule.nd rfl (.inl rfl) (pe_fx (ok_number_of T) hr (by decide) pxN (pa_cons (pv 0) (pa_cons (C8.pe_gc rfl T.in_PUSHER) (pa_cons (pv 4) pa_nil))))) (pss_cons (ps_expr (pe_fx (ok_want T) hr (by decide) pxN (pa_cons (pe_cmpR op_lt (pe_callB call_lenS (by rfl) T.fr_len bt_len (pa_cons (pe_fc T.cl_Plant T.na_Plant_rules (pv 0)) pa_nil)) (C8.pe_gc rfl T.in_MOST_RULES) (nomark _)) (pa_cons (C8.pe_gc rfl T.in_TOO_MANY) pa_nil)))) (pss_one (ps_expr (pe_mt (ok_Plant_put_rule T) hr (by decide) (pv 0) (pa_cons (pe_tup (pa_cons (pv 6) (pa_cons (pv 7) (pa_cons (pv 8) (pa_cons (pv 5) pa_nil))))) pa_nil))))))))))))))), ?_⟩
    unfold doRule at q
    simp only [Wp_bind] at q
    obtain ⟨dx0, a0, i0, row0, k0, _⟩ := hw.ex
    simp only [rIxD, gSub, rSetL, sDPut, tDGet, tDIn, tDNotIn, wipe, rLenS, tBM, rAppend, rExtend, rIn, cx_K, rIxS, rIxL, rIxT, tRet, tIfS, tTest, tChain, rI, rI0, rU, tC, tVar, tOp, tUn, tCB, tCons, tNil, tSeq, tNext, tB, tNot, tAnd, tOr, tAndV, tOrV, tNotV, tFc, sFc, sFcA, tMt, tCl, tNw, tLst, tTup, tDrop, tAsg, tPar, gName, gCons, gNil, tR1, rEq, rNe, rAdd, rSub, tAug, ipI, L2.start, List.map, List.length, List.replicate, List.append, List.set, exists_eq_left', exists_eq_left, exists_eq_right, exists_eq_right', exists_and_left, exists_and_right, exists_eq, exists_eq', Option.some.injEq, List.getElem?_cons_zero, List.getElem?_cons_succ, V.bl.injEq, V.int.injEq, V.str.injEq, V.ref.injEq, List.cons_append, List.nil_append, List.cons.injEq, HO.ins.injEq, HO.lst.injEq, HO.tup.injEq, true_and, and_true, decide_eq_true_eq, Bool.false_eq_true, ↓reduceIte, Bool.not_true, Bool.not_false, Bool.not_eq_true', decide_eq_false_iff_not, List.set_cons_zero, List.set_cons_succ, and_assoc, scal, dec_int, dec_str, forall_const, implies_true, k0, wdF_get, st_push, st_after]
    refine ⟨w, M, ws, rfl, hw, q.imp (fun _ z => z.mono hp.same) fun x0 e0 q0 H1 w1 => ?_⟩
    simp only [rIxD, gSub, rSetL, sDPut, tDGet, tDIn, tDNotIn, wipe, rLenS, tBM, rAppend, rExtend, rIn, cx_K, rIxS, rIxL, rIxT, tRet, tIfS, tTest, tChain, rI, rI0, rU, tC, tVar, tOp, tUn, tCB, tCons, tNil, tSeq, tNext, tB, tNot, tAnd, tOr, tAndV, tOrV, tNotV, tFc, sFc, sFcA, tMt, tCl, tNw, tLst, tTup, tDrop, tAsg, tPar, gName, gCons, gNil, tR1, rEq, rNe, rAdd, rSub, tAug, ipI, L2.start, List.map, List.length, List.replicate, List.append, List.set, exists_eq_left', exists_eq_left, exists_eq_right, exists_eq_right', exists_and_left, exists_and_right, exists_eq, exists_eq', Option.some.injEq, List.getElem?_cons_zero, List.getElem?_cons_succ, V.bl.injEq, V.int.injEq, V.str.injEq, V.ref.injEq, List.cons_append, List.nil_append, List.cons.injEq, HO.ins.injEq, HO.lst.injEq, HO.tup.injEq, true_and, and_true, decide_eq_true_eq, Bool.false_eq_true, ↓reduceIte, Bool.not_true, Bool.not_false, Bool.not_eq_true', decide_eq_false_iff_not, List.set_cons_zero, List.set_cons_succ, and_assoc, scal, dec_int, dec_str, forall_const, implies_true]
    refine ⟨M, w, x0.2, rfl, w1, q0.imp (fun _ z => z.mono hp.same) fun x1 e1 q1 H2 l w2 f2 ml nl => ?_⟩
    obtain ⟨dx2, a2, i2, row2, k2, _⟩ := w2.ex
    simp only [rIxD, gSub, rSetL, sDPut, tDGet, tDIn, tDNotIn, wipe, rLenS, tBM, rAppend, rExtend, rIn, cx_K, rIxS, rIxL, rIxT, tRet, tIfS, tTest, tChain, rI, rI0, rU, tC, tVar, tOp, tUn, tCB, tCons, tNil, tSeq, tNext, tB, tNot, tAnd, tOr, tAndV, tOrV, tNotV, tFc, sFc, sFcA, tMt, tCl, tNw, tLst, tTup, tDrop, tAsg, tPar, gName, gCons, gNil, tR1, rEq, rNe, rAdd, rSub, tAug, ipI, L2.start, List.map, List.length, List.replicate, List.append, List.set, exists_eq_left', exists_eq_left, exists_eq_right, exists_eq_right', exists_and_left, exists_and_right, exists_eq, exists_eq', Option.some.injEq, List.getElem?_cons_zero, List.getElem?_cons_succ, V.bl.injEq, V.int.injEq, V.str.injEq, V.ref.injEq, List.cons_append, List.nil_append, List.cons.injEq, HO.ins.injEq, HO.lst.injEq, HO.tup.injEq, true_and, and_true, decide_eq_true_eq, Bool.false_eq_true, ↓reduceIte, Bool.not_true, Bool.not_false, Bool.not_eq_true', decide_eq_false_iff_not, List.set_cons_zero, List.set_cons_succ, and_assoc, scal, dec_int, dec_str, forall_const, implies_true, k2, wdF_get]
    refine ⟨w, del H2 w, x1.2, ascii "push", rfl, w2.full, q1.imp (fun _ z => z.mono (hp.same.trans w2.sub)) fun x2 e2 q2 H3 w3 => ?_⟩
    obtain ⟨dx3, a3, i3, row3, k3, _⟩ := w3.ex
    simp only [rIxD, gSub, rSetL, sDPut, tDGet, tDIn, tDNotIn, wipe, rLenS, tBM, rAppend, rExtend, rIn, cx_K, rIxS, rIxL, rIxT, tRet, tIfS, tTest, tChain, rI, rI0, rU, tC, tVar, tOp, tUn, tCB, tCons, tNil, tSeq, tNext, tB, tNot, tAnd, tOr, tAndV, tOrV, tNotV, tFc, sFc, sFcA, tMt, tCl, tNw, tLst, tTup, tDrop, tAsg, tPar, gName, gCons, gNil, tR1, rEq, rNe, rAdd, rSub, tAug, ipI, L2.start, List.map, List.length, List.replicate, List.append, List.set, exists_eq_left', exists_eq_left, exists_eq_right, exists_eq_right', exists_and_left, exists_and_right, exists_eq, exists_eq', Option.some.injEq, List.getElem?_cons_zero, List.getElem?_cons_succ, V.bl.injEq, V.int.injEq, V.str.injEq, V.ref.injEq, List.cons_append, List.nil_append, List.cons.injEq, HO.ins.injEq, HO.lst.injEq, HO.tup.injEq, true_and, and_true, decide_eq_true_eq, Bool.false_eq_true, ↓reduceIte, Bool.not_true, Bool.not_false, Bool.not_eq_true', decide_eq_false_iff_not, List.set_cons_zero, List.set_cons_succ, and_assoc, scal, dec_int, dec_str, forall_const, implies_true, k3, wdF_get]
    refine ⟨w, del H2 w, x2, rfl, w3, q2.imp (fun _ z => z.mono (hp.same.trans w2.sub)) fun x3 e3 q3 H4 w4 => ?_⟩
    obtain ⟨dx4, a4, i4, row4, k4, _⟩ := w4.ex
    simp only [rIxD, gSub, rSetL, sDPut, tDGet, tDIn, tDNotIn, wipe, rLenS, tBM, rAppend, rExtend, rIn, cx_K, rIxS, rIxL, rIxT, tRet, tIfS, tTest, tChain, rI, rI0, rU, tC, tVar, tOp, tUn, tCB, tCons, tNil, tSeq, tNext, tB, tNot, tAnd, tOr, tAndV, tOrV, tNotV, tFc, sFc, sFcA, tMt, tCl, tNw, tLst, tTup, tDrop, tAsg, tPar, gName, gCons, gNil, tR1, rEq, rNe, rAdd, rSub, tAug, ipI, L2.start, List.map, List.length, List.replicate, List.append, List.set, exists_eq_left', exists_eq_left, exists_eq_right, exists_eq_right', exists_and_left, exists_and_right, exists_eq, exists_eq', Option.some.injEq, List.getElem?_cons_zero, List.getElem?_cons_succ, V.bl.injEq, V.int.injEq, V.str.injEq, V.ref.injEq, List.cons_append, List.nil_append, List.cons.injEq, HO.ins.injEq, HO.lst.injEq, HO.tup.injEq, true_and, and_true, decide_eq_true_eq, Bool.false_eq_true, ↓reduceIte, Bool.not_true, Bool.not_false, Bool.not_eq_true', decide_eq_false_iff_not, List.set_cons_zero, List.set_cons_succ, and_assoc, scal, dec_int, dec_str, forall_const, implies_true, k4, wdF_get]
    refine ⟨w, del H2 w, x3.2, ascii "after", rfl, w4, q3.imp (fun _ z => z.mono (hp.same.trans w2.sub)) fun x4 e4 q4 H5 w5 => ?_⟩
    obtain ⟨dx5, a5, i5, row5, k5, _⟩ := w5.ex
    simp only [rIxD, gSub, rSetL, sDPut, tDGet, tDIn, tDNotIn, wipe, rLenS, tBM, rAppend, rExtend, rIn, cx_K, rIxS, rIxL, rIxT, tRet, tIfS, tTest, tChain, rI, rI0, rU, tC, tVar, tOp, tUn, tCB, tCons, tNil, tSeq, tNext, tB, tNot, tAnd, tOr, tAndV, tOrV, tNotV, tFc, sFc, sFcA, tMt, tCl, tNw, tLst, tTup, tDrop, tAsg, tPar, gName, gCons, gNil, tR1, rEq, rNe, rAdd, rSub, tAug, ipI, L2.start, List.map, List.length, List.replicate, List.append, List.set, exists_eq_left', exists_eq_left, exists_eq_right, exists_eq_right', exists_and_left, exists_and_right, exists_eq, exists_eq', Option.some.injEq, List.getElem?_cons_zero, List.getElem?_cons_succ, V.bl.injEq, V.int.injEq, V.str.injEq, V.ref.injEq, List.cons_append, List.nil_append, List.cons.injEq, HO.ins.injEq, HO.lst.injEq, HO.tup.injEq, true_and, and_true, decide_eq_true_eq, Bool.false_eq_true, ↓reduceIte, Bool.not_true, Bool.not_false, Bool.not_eq_true', decide_eq_false_iff_not, List.set_cons_zero, List.set_cons_succ, and_assoc, scal, dec_int, dec_str, forall_const, implies_true, k5, wdF_get]
    refine ⟨w, del H2 w, x4, 1, 99, rfl, w5, q4.imp (fun _ z => z.mono (hp.same.trans w2.sub)) fun x5 e5 q5 H6 w6 => ?_⟩
    obtain ⟨dx6, a6, i6, row6, k6, _⟩ := w6.ex
    simp only [rIxD, gSub, rSetL, sDPut, tDGet, tDIn, tDNotIn, wipe, rLenS, tBM, rAppend, rExtend, rIn, cx_K, rIxS, rIxL, rIxT, tRet, tIfS, tTest, tChain, rI, rI0, rU, tC, tVar, tOp, tUn, tCB, tCons, tNil, tSeq, tNext, tB, tNot, tAnd, tOr, tAndV, tOrV, tNotV, tFc, sFc, sFcA, tMt, tCl, tNw, tLst, tTup, tDrop, tAsg, tPar, gName, gCons, gNil, tR1, rEq, rNe, rAdd, rSub, tAug, ipI, L2.start, List.map, List.length, List.replicate, List.append, List.set, exists_eq_left', exists_eq_left, exists_eq_right, exists_eq_right', exists_and_left, exists_and_right, exists_eq, exists_eq', Option.some.injEq, List.getElem?_cons_zero, List.getElem?_cons_succ, V.bl.injEq, V.int.injEq, V.str.injEq, V.ref.injEq, List.cons_append, List.nil_append, List.cons.injEq, HO.ins.injEq, HO.lst.injEq, HO.tup.injEq, true_and, and_true, decide_eq_true_eq, Bool.false_eq_true, ↓reduceIte, Bool.not_true, Bool.not_false, Bool.not_eq_true', decide_eq_false_iff_not, List.set_cons_zero, List.set_cons_succ, and_assoc, scal, dec_int, dec_str, forall_const, implies_true, k6, wdF_get]
    refine ⟨w, del H2 w, x5.2, rfl, w6, q5.imp (fun _ z => z.mono (hp.same.trans w2.sub)) fun x6 e6 q6 => ?_⟩
    have f6 : TfAt H6 l x1.1 := (f2.del nl k2).same w6.same
    have hp6 : PlantAt g H6 R L p ks := hp.mono (w2.sub.trans w6.same)
    have lL : l ∉ L.lists := fun hm => by
      have : M l ≠ none := by
        intro z
        exact hp.lists_some l hm z
      exact this ml
    simp only [rIxD, gSub, rSetL, sDPut, tDGet, tDIn, tDNotIn, wipe, rLenS, tBM, rAppend, rExtend, rIn, cx_K, rIxS, rIxL, rIxT, tRet, tIfS, tTest, tChain, rI, rI0, rU, tC, tVar, tOp, tUn, tCB, tCons, tNil, tSeq, tNext, tB, tNot, tAnd, tOr, tAndV, tOrV, tNotV, tFc, sFc, sFcA, tMt, tCl, tNw, tLst, tTup, tDrop, tAsg, tPar, gName, gCons, gNil, tR1, rEq, rNe, rAdd, rSub, tAug, ipI, L2.start, List.map, List.length, List.replicate, List.append, List.set, exists_eq_left', exists_eq_left, exists_eq_right, exists_eq_right', exists_and_left, exists_and_right, exists_eq, exists_eq', Option.some.injEq, List.getElem?_cons_zero, List.getElem?_cons_succ, V.bl.injEq, V.int.injEq, V.str.injEq, V.ref.injEq, List.cons_append, List.nil_append, List.cons.injEq, HO.ins.injEq, HO.lst.injEq, HO.tup.injEq, true_and, and_true, decide_eq_true_eq, Bool.false_eq_true, ↓reduceIte, Bool.not_true, Bool.not_false, Bool.not_eq_true', decide_eq_false_iff_not, List.set_cons_zero, List.set_cons_succ, and_assoc, scal, dec_int, dec_str, forall_const, implies_true]
    refine ⟨R, L, p, ks, 3, x0.1, rfl, hp6, q6.imp (fun _ z => z) fun y ey qy => ?_⟩
    simp only [rIxD, gSub, rSetL, sDPut, tDGet, tDIn, tDNotIn, wipe, rLenS, tBM, rAppend, rExtend, rIn, cx_K, rIxS, rIxL, rIxT, tRet, tIfS, tTest, tChain, rI, rI0, rU, tC, tVar, tOp, tUn, tCB, tCons, tNil, tSeq, tNext, tB, tNot, tAnd, tOr, tAndV, tOrV, tNotV, tFc, sFc, sFcA, tMt, tCl, tNw, tLst, tTup, tDrop, tAsg, tPar, gName, gCons, gNil, tR1, rEq, rNe, rAdd, rSub, tAug, ipI, L2.start, List.map, List.length, List.replicate, List.append, List.set, exists_eq_left', exists_eq_left, exists_eq_right, exists_eq_right', exists_and_left, exists_and_right, exists_eq, exists_eq', Option.some.injEq, List.getElem?_cons_zero, List.getElem?_cons_succ, V.bl.injEq, V.int.injEq, V.str.injEq, V.ref.injEq, List.cons_append, List.nil_append, List.cons.injEq, HO.ins.injEq, HO.lst.injEq, HO.tup.injEq, true_and, and_true, decide_eq_true_eq, Bool.false_eq_true, ↓reduceIte, Bool.not_true, Bool.not_false, Bool.not_eq_true', decide_eq_false_iff_not, List.set_cons_zero, List.set_cons_succ, and_assoc, scal, dec_int, dec_str, forall_const, implies_true]
    obtain ⟨ts, hl1, hl2⟩ := f6
    have h4 := readCond_len e1
    refine ⟨_, rfl, l, rfl, ⟨_, .inl (.inl hl1)⟩, fun D hD => ?_⟩
    have DL : D ∉ L.lists := fun hm => hp6.lists_some D hm hD
    refine lc_it (walk_list (xs := ts.map .ref)) (fun i H' => ∃ (us : List Addr) (cs : List Xb08.Cond), Same H6 H' ∧ H' D = some (.lst (us.map .ref)) ∧ F2 (fun t c => H' t = some (.tup (termT c))) us cs ∧ cs.length = i ∧
      Wp (knownAll ks (x1.1.drop i)) (LF g E R) (fun rest => RuleK g E R L p ks x3.1 y x5.1 Q (cs ++ rest))) ⟨[], [], Same.new hD, upd_same, F2.nil, rfl, qy⟩ ?_ ?_ ?_
    · rintro i H' hi ⟨us, cs, s1, _⟩
      exact .inl (.inl (s1 _ _ hl1))
    · rintro i x H1 H' hi ⟨us, cs, s1, hd, hf, hc, hq⟩ ⟨rfl, hx⟩
      rw [List.length_map] at hi
      rw [List.getElem?_map] at hx
      obtain ⟨f, hfx, hft⟩ := hl2.get' (List.getElem?_eq_getElem hi)
      rw [List.getElem?_eq_getElem hi] at hx
      cases hx
      have hdrop : x1.1.drop i = f :: x1.1.drop (i + 1) := by
        obtain ⟨hlt, he⟩ := List.getElem?_eq_some_iff.mp hfx
        rw [← he]
        exact List.drop_eq_getElem_cons hlt
      rw [hdrop] at hq
      change Wp (knownE ks f >>= fun c => knownAll ks (x1.1.drop (i + 1)) >>= fun cs => .ok (c :: cs)) _ _ at hq
      simp only [Wp_bind] at hq
      refine ⟨rfl, yesI ?_⟩
      refine ⟨_, rfl, _, rfl, R, L, p, ks, _, f, rfl, s1 _ _ hft, hp6.mono s1, hq.imp (fun _ z => z) fun c ec qc H3 t3 s3 ht3 => ⟨_, s3 _ _ hd, by rw [List.length_map, hf.len]; exact line_of' (by have := hl2.len; omega), us ++ [t3], cs ++ [c], ?_, by rw [upd_same, List.map_append]; rfl, ?_, by rw [List.length_append, hc]; rfl, ?_⟩⟩
      · exact Same.upd hD (s1.trans s3)
      · have nt : NoT (fun b => b = D) H3 := NoT.lst (s3 _ _ hd)
        have st := Sta.of_upd (H := H3) (a := D) (o := .lst ((us.map V.ref) ++ [.ref t3]))
        exact (hf.imp fun _ _ _ _ r => st.tup nt (s3 _ _ r)).snoc (st.tup nt ht3)
      · refine qc.imp (fun _ z => z) fun rest er qr => ?_
        rw [List.append_assoc]
        exact qr
    · rintro H' ⟨us, cs, s1, hd, hf, hc, hq⟩
      rw [List.length_map, hl2.len, List.drop_length] at hq
      have hk : RuleK g E R L p ks x3.1 y x5.1 Q (cs ++ []) := hq
      rw [List.append_nil] at hk
      have hp7 := hp6.mono s1
      obtain ⟨px7, pi7⟩ := hp7.ins
      obtain ⟨rs, hr1, hr2⟩ := hp7.parts.ru
      refine ⟨R, L, p, ks, 4, x3.1, rfl, hp7, hk.imp (fun _ z => z) fun u eu qu => ?_⟩
      simp only [rIxD, gSub, rSetL, sDPut, tDGet, tDIn, tDNotIn, wipe, rLenS, tBM, rAppend, rExtend, rIn, cx_K, rIxS, rIxL, rIxT, tRet, tIfS, tTest, tChain, rI, rI0, rU, tC, tVar, tOp, tUn, tCB, tCons, tNil, tSeq, tNext, tB, tNot, tAnd, tOr, tAndV, tOrV, tNotV, tFc, sFc, sFcA, tMt, tCl, tNw, tLst, tTup, tDrop, tAsg, tPar, gName, gCons, gNil, tR1, rEq, rNe, rAdd, rSub, tAug, ipI, L2.start, List.map, List.length, List.replicate, List.append, List.set, exists_eq_left', exists_eq_left, exists_eq_right, exists_eq_right', exists_and_left, exists_and_right, exists_eq, exists_eq', Option.some.injEq, List.getElem?_cons_zero, List.getElem?_cons_succ, V.bl.injEq, V.int.injEq, V.str.injEq, V.ref.injEq, List.cons_append, List.nil_append, List.cons.injEq, HO.ins.injEq, HO.lst.injEq, HO.tup.injEq, true_and, and_true, decide_eq_true_eq, Bool.false_eq_true, ↓reduceIte, Bool.not_true, Bool.not_false, Bool.not_eq_true', decide_eq_false_iff_not, List.set_cons_zero, List.set_cons_succ, and_assoc, scal, dec_int, dec_str, forall_const, implies_true, pi7, PL.fs, plF_get, sp_want]
      refine ⟨_, .inl (.inl (.inl hr1)), ?_⟩
      rw [List.length_map, hr2.len]
      by_cases hlt : p.rules.length < 12
      · rw [if_pos hlt] at qu
        rw [decide_eq_true (by omega : (p.rules.length : Int) < 12)]
        refine iteT ⟨by decide, fun t7 ht7 => ?_⟩
        have s7 := Same.new (o := .tup [.int y, .ref D, .int u, .int x5.1]) ht7
        exact ⟨R, L, p, ks, t7, D, y, u, x5.1, cs, rfl, hp7.mono s7, upd_same, DL, ⟨us, s7 _ _ hd, hf.imp fun _ _ _ _ r => s7 _ _ r⟩, by omega, fun H8 h8 => (show Wp (Except.ok _) _ _ from qu) H8 h8⟩
      · rw [if_neg hlt] at qu
        rw [decide_eq_false (by omega : ¬ (p.rules.length : Int) < 12)]
        exact iteF (LF.mono qu hp7.same)
end Tote
/-! # reading.py: a line -/
namespace Tote
open PySem PySem.Spec PyProof.Rows L2 Tq
open SX (S S_inj S_len S_cat)
open Xb08 (ascii TermForm)
variable {g : GG}
/-! ## a def that stands in a slot -/
def CalX (g : GG) (CX : CXT) (k : Nat) (f : Addr) (sp : Sp) : Prop := ∃ fd ps, PySem.W.keepIn g.K (.ref f) = true ∧ Binds g.K fd ps [] ∧ FnOk g.P g.w g.K g.mg g.base CX k f fd ps sp
theorem Fn.cal {CX : CXT} {k : Nat} {x : Str} {ps : List Str} {sp : Sp} {a : Addr} (F : Fn CX g k x ps sp) (h : g.mg x = some (.ref a)) : CalX g CX k a sp := by
  obtain ⟨f, fd, hm, kp, b, ok⟩ := F.ex
  rw [hm] at h
  cases h
  exact ⟨fd, ps, kp, b, ok⟩
def tAny (g : GG) (CX : CXT) (i j : Nat) (E : XK) (t : TA) : TE := fun σ H Q => ∃ k f sp, σ[i]? = some (some (.ref f)) ∧ k ≤ j ∧ CalX g CX k f sp ∧ t σ H fun vs H1 => sp vs H1 Q E
theorem pe_any {X : Cx} {CX : CXT} {i j : Nat} {E : XK} {x : Str} {p pos : Pos} {e : Expr} {es : List Expr} {t : TA} (hr : Room j X.A) (hN : X.N[i]? = some x) (hv : Vis X.env.scope x) (hx : Passes CX X E) (ha : PA X (e :: es) t)
    (hd : (x == ("__debug__" : Str)) = false := by decide) (hcd : (x == ("__classdict__" : Str)) = false := by decide)
    (he : starEach (e :: es) X.env = (false, eval e X.env) :: starEach es X.env := by rfl) (hpl : (backTo pos (starEach es X.env)).any (·.1) = false := by rfl) (eg : gg X = g := by rfl) : PE X (.Call (.Name x p) (e :: es) [] pos) (tAny g CX i j E t) := by
  subst eg
  constructor
  rintro pins s σ H Q I ⟨k, f, sp, hs, hk, ⟨fd, ps, kp, b, F⟩, h⟩
  refine wpAny_Call_Name_kw (thn ((pe_var (pos := p) hN hv hd hcd).run pins s σ H (fun v H1 => v = .ref f ∧ H1 = H) I ⟨.ref f, hs, rfl, rfl⟩) ?_)
  rintro u s1 ⟨v, H1, I1, r1, rfl, rfl⟩
  cases r1
  refine PySem.W.callWith_K (h₀ := X.base) I.ok.mod.kin kp (thn (ha.run pos pins s1 σ _ _ I1 h) ?_) he hpl
  rintro us s2 ⟨vs, H2, I2, r, q⟩
  refine ⟨I2.kIn, run_fn F (hr.mono hk) b .nil hx I2 r ?_⟩
  rw [List.append_nil]
  exact q
/-! ## the deeds' names -/
theorem find_keys {P : Params} {z : Str} : ∀ {l : List DictEntry} {ks : List Str}, l.map He.keyOf = He.keysIn P ks → z ∉ ks → l.find? (·.key.isStr z) = none ∧ l.any (·.refKey) = false
  | [], _, _, _ => ⟨rfl, rfl⟩
  | e :: r, [], h, _ => by cases h
  | e :: r, k :: ks, h, hz => by
    have h1 : He.keyOf e :: r.map He.keyOf = some (k, PyData.keyHash P k) :: He.keysIn P ks := h
    injection h1 with h2 h3
    obtain ⟨i1, i2⟩ := find_keys h3 (fun m => hz (List.mem_cons_of_mem _ m))
    unfold He.keyOf at h2
    split at h2
    · rename_i x t q
      have h5 := (Prod.mk.inj (Option.some.inj h2)).1
      have hn : (Value.str x t).isStr z = false := by
        cases w : (Value.str x t).isStr z with
        | false => rfl
        | true =>
          have : x = z := by
            simpa [Value.isStr] using w
          exact absurd (this ▸ h5 ▸ List.mem_cons_self) hz
      refine ⟨?_, ?_⟩
      · rw [List.find?_cons, q, hn]
        exact i1
      · rw [List.any_cons, i2]
        have : e.refKey = false := by
          obtain ⟨eh, ek, ev⟩ := e
          cases q
          rfl
        rw [this]
        rfl
    · cases h2
theorem ns_none {K : PySem.W.Frag} {P : Params} {a : Addr} {ks : List Str} {z : Str} (h : He.dicW K a = some (He.keysIn P ks)) (hz : z ∉ ks) : PySem.W.nsIn K a z = some none := by
  unfold He.dicW at h
  split at h
  · rename_i c es n sl hl
    split at h
    · obtain ⟨h1, h2⟩ := find_keys (Option.some.inj h) hz
      unfold PySem.W.nsIn
      rw [hl]
      dsimp only
      rw [h1, h2]
      rfl
    · cases h
  · cases h
def doLine (p : Xb08.Plant) (ks : List KN) (ws : List W) : Except Nat (Xb08.Plant × List KN) := takeE ws >>= fun a =>
  if a.1 = ascii "chute" then doChute p ks a.2 else if a.1 = ascii "belt" then doBelt p ks a.2 else if a.1 = ascii "lead" then doLead p ks a.2 else if a.1 = ascii "eye" then doEye p ks a.2
  else if a.1 = ascii "push" then doPusher p ks a.2 else if a.1 = ascii "when" then doRule p ks a.2 else if a.1 = ascii "feed" then doFeed p ks a.2 else .error 1
theorem st_chute : Str.ofString "chute" = S (ascii "chute") := by decide +kernel
theorem st_belt : Str.ofString "belt" = S (ascii "belt") := by decide +kernel
theorem st_lead : Str.ofString "lead" = S (ascii "lead") := by decide +kernel
theorem st_eye : Str.ofString "eye" = S (ascii "eye") := by decide +kernel
theorem st_when : Str.ofString "when" = S (ascii "when") := by decide +kernel
theorem st_feed : Str.ofString "feed" = S (ascii "feed") := by decide +kernel
def sp_do_line (g : GG) : Sp := fun vs H Q E => LineP g doLine vs H Q E
theorem ok_do_line (T : Tx g) : Fn (L2N.CX g.P g.w) g 9 "do_line" ["plant", "words"] (sp_do_line g) := by
  refine fnC (k := 8) T.gl_do_line T.df_do_line sc_do_line (fun _ _ _ _ _ _ us hl => match us, hl with | [_, _], _ => rfl) ?_ ?_
  · rintro vs H Q E ⟨M, R, L, p, ks, w, ws, rfl, _⟩
    rfl
  · rintro cdv A outer s H vs Q E hr ⟨M, R, L, p, ks, w, ws, rfl, hp, ok, lim, hw, q⟩
    obtain ⟨es, nn, hD⟩ := He.dicW_ok T.deedTab
    refine ⟨_, (pss_cons (ps_set (i := 2) sc_do_line.nd rfl (.inl rfl) (pe_mx0 (ok_Words_take T) hr (by decide) pxN (pv 1))) (pss_cons (ps_expr (pe_fx (ok_want T) hr (by decide) pxN (pa_cons (pe_cmpR (op_in_kd hD) (pv 2) (pe_glob (v := .ref (cF g "DEEDS")) rfl T.gl_DEEDS rfl) (by rfl)) (pa_cons (C8.pe_gc rfl T.in_NOT_FORMED) pa_nil)))) (pss_cons (ps_set (i := 3) sc_do_line.nd rfl (.inl rfl) (pe_ix ix_kdict (pe_glob (v := .ref (cF g "DEEDS")) rfl T.gl_DEEDS rfl) (pv 2) (fun _ _ => rfl))) (pss_one (ps_expr (pe_any (g := g) (i := 3) hr rfl (.inl rfl) pxN (pa_cons (pv 0) (pa_cons (pv 1) pa_nil)))))))), ?_⟩
    unfold doLine at q
    simp only [Wp_bind] at q
    obtain ⟨dx0, a0, i0, row0, k0, _⟩ := hw.ex
    simp only [rIxD, gSub, rSetL, sDPut, tDGet, tDIn, tDNotIn, wipe, rLenS, tBM, rAppend, rExtend, rIn, cx_K, rIxS, rIxL, rIxT, tRet, tIfS, tTest, tChain, rI, rI0, rU, tC, tVar, tOp, tUn, tCB, tCons, tNil, tSeq, tNext, tB, tNot, tAnd, tOr, tAndV, tOrV, tNotV, tFc, sFc, sFcA, tMt, tCl, tNw, tLst, tTup, tDrop, tAsg, tPar, gName, gCons, gNil, tR1, rEq, rNe, rAdd, rSub, tAug, ipI, L2.start, List.map, List.length, List.replicate, List.append, List.set, exists_eq_left', exists_eq_left, exists_eq_right, exists_eq_right', exists_and_left, exists_and_right, exists_eq, exists_eq', Option.some.injEq, List.getElem?_cons_zero, List.getElem?_cons_succ, V.bl.injEq, V.int.injEq, V.str.injEq, V.ref.injEq, List.cons_append, List.nil_append, List.cons.injEq, HO.ins.injEq, HO.lst.injEq, HO.tup.injEq, true_and, and_true, decide_eq_true_eq, Bool.false_eq_true, ↓reduceIte, Bool.not_true, Bool.not_false, Bool.not_eq_true', decide_eq_false_iff_not, List.set_cons_zero, List.set_cons_succ, and_assoc, scal, dec_int, dec_str, forall_const, implies_true, k0, wdF_get, sp_want]
    refine ⟨w, M, ws, rfl, hw, q.imp (fun _ z => z.mono hp.same) fun x0 e0 q0 wd H1 w1 => ⟨S x0.1, rfl, ?_⟩⟩
    by_cases c0 : x0.1 = ascii "chute"
    · rw [if_pos c0] at q0
      obtain ⟨u, hu, ru⟩ := T.deeds (q := ("chute", .glo "do_chute")) (by simp [deedVals])
      have hz : Str.ofString "chute" = S x0.1 := by rw [c0, st_chute]
      rw [show (("chute", He.Dv.glo "do_chute") : Str × He.Dv).1 = S x0.1 from hz] at hu
      exact ⟨some u, hu, iteT ⟨_, rfl, .ref (cF g "do_chute"), ⟨es, nn, u, hD.at_, hD.lit, hu, ru⟩, _, _, _, rfl, (by decide), (ok_do_chute T).cal T.gl_do_chute, _, rfl, _, rfl, M, R, L, p, ks, w, x0.2, rfl, hp, ok, lim, w1, q0⟩⟩
    rw [if_neg c0] at q0
    by_cases c1 : x0.1 = ascii "belt"
    · rw [if_pos c1] at q0
      obtain ⟨u, hu, ru⟩ := T.deeds (q := ("belt", .glo "do_belt")) (by simp [deedVals])
      have hz : Str.ofString "belt" = S x0.1 := by rw [c1, st_belt]
      rw [show (("belt", He.Dv.glo "do_belt") : Str × He.Dv).1 = S x0.1 from hz] at hu
      exact ⟨some u, hu, iteT ⟨_, rfl, .ref (cF g "do_belt"), ⟨es, nn, u, hD.at_, hD.lit, hu, ru⟩, _, _, _, rfl, (by decide), (ok_do_belt T).cal T.gl_do_belt, _, rfl, _, rfl, M, R, L, p, ks, w, x0.2, rfl, hp, ok, lim, w1, q0⟩⟩
    rw [if_neg c1] at q0
    by_cases c2 : x0.1 = ascii "lead"
    · rw [if_pos c2] at q0
      obtain ⟨u, hu, ru⟩ := T.deeds (q := ("lead", .glo "do_lead")) (by simp [deedVals])
      have hz : Str.ofString "lead" = S x0.1 := by rw [c2, st_lead]
      rw [show (("lead", He.Dv.glo "do_lead") : Str × He.Dv).1 = S x0.1 from hz] at hu
      exact ⟨some u, hu, iteT ⟨_, rfl, .ref (cF g "do_lead"), ⟨es, nn, u, hD.at_, hD.lit, hu, ru⟩, _, _, _, rfl, (by decide), (ok_do_lead T).cal T.gl_do_lead, _, rfl, _, rfl, M, R, L, p, ks, w, x0.2, rfl, hp, ok, lim, w1, q0⟩⟩
    rw [if_neg c2] at q0
    by_cases c3 : x0.1 = ascii "eye"
    · rw [if_pos c3] at q0
      obtain ⟨u, hu, ru⟩ := T.deeds (q := ("eye", .glo "do_eye")) (by simp [deedVals])
      have hz : Str.ofString "eye" = S x0.1 := by rw [c3, st_eye]
      rw [show (("eye", He.Dv.glo "do_eye") : Str × He.Dv).1 = S x0.1 from hz] at hu
      exact ⟨some u, hu, iteT ⟨_, rfl, .ref (cF g "do_eye"), ⟨es, nn, u, hD.at_, hD.lit, hu, ru⟩, _, _, _, rfl, (by decide), (ok_do_eye T).cal T.gl_do_eye, _, rfl, _, rfl, M, R, L, p, ks, w, x0.2, rfl, hp, ok, lim, w1, q0⟩⟩
    rw [if_neg c3] at q0
    by_cases c4 : x0.1 = ascii "push"
    · rw [if_pos c4] at q0
      obtain ⟨u, hu, ru⟩ := T.deeds (q := ("push", .glo "do_pusher")) (by simp [deedVals])
      have hz : Str.ofString "push" = S x0.1 := by rw [c4, st_push]
      rw [show (("push", He.Dv.glo "do_pusher") : Str × He.Dv).1 = S x0.1 from hz] at hu
      exact ⟨some u, hu, iteT ⟨_, rfl, .ref (cF g "do_pusher"), ⟨es, nn, u, hD.at_, hD.lit, hu, ru⟩, _, _, _, rfl, (by decide), (ok_do_pusher T).cal T.gl_do_pusher, _, rfl, _, rfl, M, R, L, p, ks, w, x0.2, rfl, hp, ok, lim, w1, q0⟩⟩
    rw [if_neg c4] at q0
    by_cases c5 : x0.1 = ascii "when"
    · rw [if_pos c5] at q0
      obtain ⟨u, hu, ru⟩ := T.deeds (q := ("when", .glo "do_rule")) (by simp [deedVals])
      have hz : Str.ofString "when" = S x0.1 := by rw [c5, st_when]
      rw [show (("when", He.Dv.glo "do_rule") : Str × He.Dv).1 = S x0.1 from hz] at hu
      exact ⟨some u, hu, iteT ⟨_, rfl, .ref (cF g "do_rule"), ⟨es, nn, u, hD.at_, hD.lit, hu, ru⟩, _, _, _, rfl, (by decide), (ok_do_rule T).cal T.gl_do_rule, _, rfl, _, rfl, M, R, L, p, ks, w, x0.2, rfl, hp, ok, lim, w1, q0⟩⟩
    rw [if_neg c5] at q0
    by_cases c6 : x0.1 = ascii "feed"
    · rw [if_pos c6] at q0
      obtain ⟨u, hu, ru⟩ := T.deeds (q := ("feed", .glo "do_feed")) (by simp [deedVals])
      have hz : Str.ofString "feed" = S x0.1 := by rw [c6, st_feed]
      rw [show (("feed", He.Dv.glo "do_feed") : Str × He.Dv).1 = S x0.1 from hz] at hu
      exact ⟨some u, hu, iteT ⟨_, rfl, .ref (cF g "do_feed"), ⟨es, nn, u, hD.at_, hD.lit, hu, ru⟩, _, _, _, rfl, (by decide), (ok_do_feed T).cal T.gl_do_feed, _, rfl, _, rfl, M, R, L, p, ks, w, x0.2, rfl, hp, ok, lim, w1, q0⟩⟩
    rw [if_neg c6] at q0
    refine ⟨none, ns_none T.deedTab ?_, iteF (LF.mono q0 (hp.same.trans w1.same))⟩
    intro hm
    simp only [deedKeys, List.mem_cons, List.not_mem_nil, or_false, st_chute, st_belt, st_lead, st_eye, st_push, st_when, st_feed, S_eq] at hm
    rcases hm with h | h | h | h | h | h | h
    · exact c0 h
    · exact c1 h
    · exact c2 h
    · exact c3 h
    · exact c4 h
    · exact c5 h
    · exact c6 h
end Tote
/-! # reading.py: a line with its number, a text -/
namespace Tote
open PySem PySem.Spec PyProof.Rows L2 Tq
open SX (S S_inj S_len S_cat)
open Xb08 (ascii TermForm)
variable {g : GG}
/-! ## a call whose exceptions a try takes -/
def tClS (sp : Sp) (E : L2.St → XK) (t : TA) : TE := fun σ H Q => t σ H fun vs H1 => sp vs H1 Q (E σ)
theorem pe_fxS {X : Cx} {CX : CXT} {j k : Nat} {ps : List Str} {sp : Sp} {E : L2.St → XK} {x : Str} {p pos : Pos} {e : Expr} {es : List Expr} {t : TA} (F : Fn CX g k x ps sp) (hr : Room j X.A) (hk : k ≤ j) (hx : ∀ σ, PassesAt CX X σ (E σ)) (ha : PA X (e :: es) t) (hg : Gl X x := by rfl) (hdb : (x == ("__debug__" : Str)) = false := by decide)
    (he : starEach (e :: es) X.env = (false, eval e X.env) :: starEach es X.env := by rfl) (hpl : (backTo pos (starEach es X.env)).any (·.1) = false := by rfl) (eg : gg X = g := by rfl) : PE X (.Call (.Name x p) (e :: es) [] pos) (tClS sp E t) := by
  subst eg
  obtain ⟨f, fd, hm, kp, b, ok⟩ := F.ex
  exact pe_callS ok (hr.mono hk) hg hm kp b hx ha hdb he hpl
/-- a fault of a text -/
def TF (g : GG) (E : XK) (R : Hp) (l c : Nat) : Prop := ∀ d H', Same R H' → H' d = some (.xd [("code", .int c), ("line", .int l)]) → E (.ref (cF g "TextFault")) (some d) H'
theorem TF.mono {E : XK} {R R' : Hp} {l c : Nat} (h : TF g E R l c) (s : Same R R') : TF g E R' l c := fun d H' s' e => h d H' (s.trans s') e
theorem mk_read2 {K : PySem.W.Frag} {C : Addr} {f1 f2 : Str} {H : Hp} {Q : XK} {v1 v2 : V} (q : ∀ d H', Same H H' → H' d = some (.xd [(f2, v2), (f1, v1)]) → Q (.ref C) (some d) H') :
    [v1, v2].length ≤ 1000 ∧ ∀ a, H a = none → spV2 K C f1 f2 (.ref a :: ([v1, v2] ++ [])) (upd H a (exo a C none)) (fun v H2 => v = .non ∧ ∃ (d : Addr) (fs : List (Str × V)), H2 a = some (exo a C (some d)) ∧ H2 d = some (exd d fs) ∧ H d = none ∧ Q (.ref C) (some d) (upd (del H2 a) d (.xd fs))) (fun _ _ _ => False) := by
  refine ⟨by show 2 ≤ 1000; decide, fun a ha => ⟨a, v1, v2, rfl, upd_same, fun dx h1 h2 => ⟨rfl, dx, _, ?_, upd_same, ?_, q dx _ ?_ upd_same⟩⟩⟩
  · rw [upd_ne h2.symm, upd_same]
  · rw [upd_ne h2] at h1
    exact h1
  · rw [upd_ne h2] at h1
    intro b o e
    have n1 : b ≠ dx := ne_of_none e h1
    have n2 : b ≠ a := ne_of_none e ha
    rw [upd_ne n1, del_ne n2, upd_ne n1, upd_ne n2, upd_ne n1, upd_ne n2]
    exact e
def sp_read_line (g : GG) : Sp := fun vs H Q E => ∃ (R : Hp) (L : PL) (p : Xb08.Plant) (ks : List KN) (n : Nat) (r : Addr) (row : List W), vs = [.ref L.pl, .int n, .ref r] ∧ PlantAt g H R L p ks ∧ KnOk ks p ∧ Lim p ∧ H r = some (.lst (row.map wV)) ∧ row.length ≤ 4000 ∧ (∀ z ∈ row, Wd z) ∧
  Wp (doLine p ks row) (fun c => TF g E R n c) fun r => ∀ H', PlantAt g H' R L r.1 r.2 → Q .non H'
theorem ok_read_line (T : Tx g) : Fn (CXr RCh g.P g.w) g 10 "read_line" ["plant", "number", "row"] (sp_read_line g) := by
  refine fnC (k := 9) T.gl_read_line T.df_read_line sc_read_line (fun _ _ _ _ _ _ us hl => match us, hl with | [_, _, _], _ => rfl) ?_ ?_
  · rintro vs H Q E ⟨R, L, p, ks, n, r, row, rfl, _⟩
    rfl
  · rintro cdv A outer s H vs Q E hr ⟨R, L, p, ks, n, r, row, rfl, hp, ok, lim, hrow, hlen, hwd, q⟩
    obtain ⟨fd, fb, FA⟩ := ih_TextFault T
    refine ⟨_, pss_one (ps_tryR (i := 3) (R := RN) (P := fun ws : Array Value => ws[2]? = some Value.none) (C := cF g "LineFault") RN.ok (fun _ _ _ h => .inl h) (fun _ _ _ h => h) rfl rfl rfl sc_read_line.nd rfl rfl ⟨rfl, by decide, .inl T.gl_LineFault⟩ T.xm_LineFault (raises_own T.x_LineFault.o.exC T.x_LineFault.o.tyC)
      (L2H.passesAt_of rfl) (out_chain (takes_ofR RCh.ok rfl rfl rfl rfl))
      (fun W pn xe tk hpo => pss_one (ps_expr (pe_fxS (ok_do_line T) hr (by decide) (passAtR tk) (pa_cons (pv 0) (pa_cons (pe_nw (ok_Words_init T) hr (by decide) (pa_cons (pv 2) pa_nil)) pa_nil)))))
      (fun a oe d pn h1 h2 h3 => pmk_hot T.x_TextFault.o T.x_TextFault.i T.x_TextFault.t FA (L2H.roomH_mark (hr.mono (by decide)) _) fb List.mem_cons_self C8.pass0 rfl T.gl_TextFault (pa_cons (pv 1) (pa_cons (pe_xf T.x_LineFault.x T.na_LineFault_code ⟨h1, h2⟩ h3 (pv 3)) pa_nil)))), ?_⟩
    refine ⟨_, rfl, _, rfl, fun w dx hw hdx ne => ?_⟩
    have sH : Same H (upd (upd H dx (.own w)) w (.ins (cF g "Words") dx [])) := Same.upd hw (Same.new hdx)
    refine ⟨w, r, dx, row, rfl, upd_same, sH _ _ hrow, hlen, hwd, fun H' hW => ⟨rfl, ?_⟩⟩
    have hw' := hW H sH hw
    refine ⟨H, R, L, p, ks, w, row, rfl, hp, ok, lim, hw', q.imp (fun c hc => ?_) fun x ex hx H2 h2 => hx H2 h2⟩
    intro d H2 s2 hd
    refine ⟨rfl, fun a ha => ⟨_, rfl, _, rfl, rfl, rfl, d, _, _, rfl, hd, rfl, mk_read2 fun d2 H3 s3 hd2 => ?_⟩⟩
    exact hc d2 H3 (s2.trans s3) hd2
end Tote
/-! # What a line's deed keeps; the lines' words -/
namespace Tote
open PySem PySem.Spec PyProof.Rows L2 Tq
open SX (S S_inj S_len S_cat)
open Xb08 (ascii TermForm)
theorem ok_bind {α β : Type} {r : Except Nat α} {f : α → Except Nat β} {y : β} (h : (r >>= f) = .ok y) : ∃ a, r = .ok a ∧ f a = .ok y := by
  cases r with
  | error c => cases h
  | ok a => exact ⟨a, rfl, h⟩
theorem KnOk.add {ks : List KN} {p p' : Xb08.Plant} {k : Nat} {n : W} (ok : KnOk ks p) (new : ∀ e ∈ ks, e.n ≠ n) (h1 : namesOf p' k = namesOf p k ++ [n]) (h2 : ∀ j, j ≠ k → namesOf p' j = namesOf p j) : KnOk (ks ++ [⟨n, k, Tote.cnt k ks⟩]) p' := by
  refine ⟨?_, fun j => ?_⟩
  · rw [List.map_append]
    refine List.nodup_append.mpr ⟨ok.nodup, List.nodup_cons.mpr ⟨List.not_mem_nil, List.nodup_nil⟩, fun a ha b hb => ?_⟩
    obtain ⟨e, he, rfl⟩ := List.mem_map.mp ha
    rw [List.mem_singleton.mp hb]
    exact new e he
  · rw [List.filter_append, ok.each]
    by_cases e : j = k
    · subst e
      rw [h1, List.zipIdx_append, List.map_append, ok.cnt]
      simp
    · rw [h2 j e]
      simp [Ne.symm e]
theorem KnOk.same {ks : List KN} {p p' : Xb08.Plant} (ok : KnOk ks p) (h : ∀ j, namesOf p' j = namesOf p j) : KnOk ks p' := ⟨ok.nodup, fun j => by rw [h, ok.each]⟩
theorem doLine_ok {p : Xb08.Plant} {ks : List KN} {ws : List W} {r : Xb08.Plant × List KN} (h : doLine p ks ws = .ok r) (ok : KnOk ks p) (lim : Lim p) : KnOk r.2 r.1 ∧ Lim r.1 := by
  have c1 : cnt 1 ks = p.belts.length := by rw [ok.cnt]; simp [namesOf]
  have c2 : cnt 2 ks = p.chutes.length := by rw [ok.cnt]; simp [namesOf]
  have c3 : cnt 3 ks = p.sensors.length := by rw [ok.cnt]; simp [namesOf]
  have c4 : cnt 4 ks = p.pushers.length := by rw [ok.cnt]; simp [namesOf]
  unfold doLine at h
  obtain ⟨a, ea, h⟩ := ok_bind h
  split at h
  · unfold doChute at h
    obtain ⟨x, ex, h⟩ := ok_bind h
    obtain ⟨y, ey, h⟩ := ok_bind h
    obtain ⟨_, _, h⟩ := ok_bind h
    obtain ⟨_, en, h⟩ := ok_bind h
    cases h
    obtain ⟨new, few⟩ := wantNew_ok en
    refine ⟨ok.add new (by simp [namesOf]) (fun j hj => ?_), ⟨lim.be, ?_, lim.se, lim.pu, lim.ru, lim.pa⟩⟩
    · unfold namesOf
      rw [if_neg hj]
      by_cases j1 : j = 1
      · rw [if_pos j1, if_pos j1]
      · rw [if_neg j1, if_neg j1, if_neg hj]
    · simp
      omega
  split at h
  · unfold doBelt at h
    obtain ⟨x, ex, h⟩ := ok_bind h
    obtain ⟨y, ey, h⟩ := ok_bind h
    obtain ⟨_, _, h⟩ := ok_bind h
    obtain ⟨_, en, h⟩ := ok_bind h
    obtain ⟨_, _, h⟩ := ok_bind h
    cases h
    obtain ⟨new, few⟩ := wantNew_ok en
    refine ⟨ok.add new (by simp [namesOf]) (fun j hj => ?_), ⟨?_, lim.ch, lim.se, lim.pu, lim.ru, lim.pa⟩⟩
    · unfold namesOf
      rw [if_neg hj, if_neg hj]
    · simp
      omega
  split at h
  · unfold doLead at h
    obtain ⟨x, ex, h⟩ := ok_bind h
    obtain ⟨y, ey, h⟩ := ok_bind h
    obtain ⟨_, _, h⟩ := ok_bind h
    obtain ⟨k, _, h⟩ := ok_bind h
    obtain ⟨gl, _, h⟩ := ok_bind h
    cases h
    refine ⟨ok.same fun j => ?_, ⟨by simpa using lim.be, lim.ch, lim.se, lim.pu, lim.ru, lim.pa⟩⟩
    have e : ((p.belts.modify k fun x => { x with goal := some gl }).map (·.name)) = p.belts.map (·.name) := by
      refine List.ext_getElem? fun i => ?_
      rw [List.getElem?_map, List.getElem?_map, List.getElem?_modify]
      cases p.belts[i]? with
      | none => rfl
      | some b =>
        by_cases e : k = i
        · simp [e]
        · simp [e]
    unfold namesOf
    rw [e]
  split at h
  · unfold doEye at h
    obtain ⟨x, ex, h⟩ := ok_bind h
    obtain ⟨y, ey, h⟩ := ok_bind h
    obtain ⟨_, _, h⟩ := ok_bind h
    obtain ⟨_, _, h⟩ := ok_bind h
    obtain ⟨_, _, h⟩ := ok_bind h
    obtain ⟨_, en, h⟩ := ok_bind h
    obtain ⟨_, _, h⟩ := ok_bind h
    cases h
    obtain ⟨new, few⟩ := wantNew_ok en
    refine ⟨ok.add new (by simp [namesOf]) (fun j hj => ?_), ⟨lim.be, lim.ch, ?_, lim.pu, lim.ru, lim.pa⟩⟩
    · unfold namesOf
      by_cases j1 : j = 1
      · rw [if_pos j1, if_pos j1]
      by_cases j2 : j = 2
      · rw [if_neg j1, if_neg j1, if_pos j2, if_pos j2]
      rw [if_neg j1, if_neg j2, if_neg hj, if_neg j1, if_neg j2, if_neg hj]
    · simp
      omega
  split at h
  · unfold doPusher at h
    obtain ⟨x, ex, h⟩ := ok_bind h
    obtain ⟨y, ey, h⟩ := ok_bind h
    obtain ⟨_, _, h⟩ := ok_bind h
    obtain ⟨_, _, h⟩ := ok_bind h
    obtain ⟨_, _, h⟩ := ok_bind h
    obtain ⟨_, _, h⟩ := ok_bind h
    obtain ⟨_, en, h⟩ := ok_bind h
    obtain ⟨_, _, h⟩ := ok_bind h
    obtain ⟨_, _, h⟩ := ok_bind h
    cases h
    obtain ⟨new, few⟩ := wantNew_ok en
    refine ⟨ok.add new (by simp [namesOf]) (fun j hj => ?_), ⟨lim.be, lim.ch, lim.se, ?_, lim.ru, lim.pa⟩⟩
    · unfold namesOf
      by_cases j1 : j = 1
      · rw [if_pos j1, if_pos j1]
      by_cases j2 : j = 2
      · rw [if_neg j1, if_neg j1, if_pos j2, if_pos j2]
      by_cases j3 : j = 3
      · rw [if_neg j1, if_neg j2, if_pos j3, if_neg j1, if_neg j2, if_pos j3]
      rw [if_neg j1, if_neg j2, if_neg j3, if_neg hj, if_neg j1, if_neg j2, if_neg j3, if_neg hj]
    · simp
      omega
  split at h
  · unfold doRule at h
    obtain ⟨x, ex, h⟩ := ok_bind h
    obtain ⟨y, ey, h⟩ := ok_bind h
    obtain ⟨_, _, h⟩ := ok_bind h
    obtain ⟨_, _, h⟩ := ok_bind h
    obtain ⟨_, _, h⟩ := ok_bind h
    obtain ⟨_, _, h⟩ := ok_bind h
    obtain ⟨_, _, h⟩ := ok_bind h
    obtain ⟨_, _, h⟩ := ok_bind h
    obtain ⟨_, _, h⟩ := ok_bind h
    obtain ⟨_, _, h⟩ := ok_bind h
    split at h
    · cases h
      exact ⟨ok.same fun j => rfl, ⟨lim.be, lim.ch, lim.se, lim.pu, by simp; omega, lim.pa⟩⟩
    · cases h
  split at h
  · unfold doFeed at h
    obtain ⟨x, ex, h⟩ := ok_bind h
    obtain ⟨y, ey, h⟩ := ok_bind h
    obtain ⟨_, _, h⟩ := ok_bind h
    obtain ⟨_, _, h⟩ := ok_bind h
    obtain ⟨_, _, h⟩ := ok_bind h
    obtain ⟨_, _, h⟩ := ok_bind h
    split at h
    · cases h
      exact ⟨ok.same fun j => rfl, ⟨lim.be, lim.ch, lim.se, lim.pu, lim.ru, by simp [fed]; omega⟩⟩
    · cases h
  · cases h
theorem endW_len2 (cu : List W) (w : W) : (endW cu w).length ≤ cu.length + w.length := by
  unfold endW
  split
  · omega
  · rename_i h
    cases w with
    | nil => exact absurd rfl h
    | cons a r => simp
theorem lnAt_len2 (t : List Nat) : ∀ i, (lnAt t i).2.1.length + (lnAt t i).2.2.length ≤ i
  | 0 => Nat.le_refl _
  | i + 1 => by
    have ih := lnAt_len2 t i
    cases h : t[i]? with
    | none =>
      have e : lnAt t (i + 1) = lnAt t i := by
        unfold lnAt
        rw [List.take_add_one, h]
        simp
      rw [e]
      omega
    | some n =>
      rw [lnAt_succ h]
      have el := endW_len2 (lnAt t i).2.1 (lnAt t i).2.2
      unfold lnStep
      split
      · exact Nat.zero_le _
      · split
        · dsimp only
          simp
          omega
        · dsimp only
          rw [List.length_append]
          simp
          omega
/-! ## the lines' words -/
theorem sgn_lt (n : Nat) : sgn n < 128 := by
  unfold sgn
  split
  · omega
  · split
    · omega
    · omega
def WOk (m : Nat) (z : W) : Prop := z ≠ [] ∧ z.length ≤ m ∧ ∀ c ∈ z, c < 128
theorem WOk.mono {m k : Nat} {z : W} (h : WOk m z) (hk : m ≤ k) : WOk k z := ⟨h.1, Nat.le_trans h.2.1 hk, h.2.2⟩
theorem endW_ok {m : Nat} {cu : List W} {w : W} (h : ∀ z ∈ cu, WOk m z) (hw : w.length ≤ m) (hc : ∀ c ∈ w, c < 128) : ∀ z ∈ endW cu w, WOk m z := by
  intro z hz
  unfold endW at hz
  split at hz
  · exact h z hz
  · rename_i hn
    rcases List.mem_append.mp hz with hz | hz
    · exact h z hz
    · rw [List.mem_singleton.mp hz]
      exact ⟨hn, hw, hc⟩
theorem lnAt_ok (t : List Nat) : ∀ i, (∀ row ∈ (lnAt t i).1, row.length ≤ i ∧ ∀ z ∈ row, WOk i z) ∧ (∀ z ∈ (lnAt t i).2.1, WOk i z) ∧ ∀ c ∈ (lnAt t i).2.2, c < 128
  | 0 => ⟨fun _ h => absurd h List.not_mem_nil, fun _ h => absurd h List.not_mem_nil, fun _ h => absurd h List.not_mem_nil⟩
  | i + 1 => by
    obtain ⟨h1, h2, h3⟩ := lnAt_ok t i
    have hl := lnAt_len t i
    have hl2 := lnAt_len2 t i
    cases h : t[i]? with
    | none =>
      have e : lnAt t (i + 1) = lnAt t i := by
        unfold lnAt
        rw [List.take_add_one, h]
        simp
      rw [e]
      exact ⟨fun row hr => ⟨by have := (h1 row hr).1; omega, fun z hz => ((h1 row hr).2 z hz).mono (Nat.le_succ _)⟩, fun z hz => (h2 z hz).mono (Nat.le_succ _), h3⟩
    | some n =>
      rw [lnAt_succ h]
      generalize lnAt t i = st at h1 h2 h3 hl hl2
      obtain ⟨dn, cu, w⟩ := st
      dsimp only at h1 h2 h3 hl hl2
      have he := endW_ok h2 hl.2.2 h3
      have hel := endW_len2 cu w
      unfold lnStep
      split
      · refine ⟨fun row hr => ?_, fun _ h => absurd h List.not_mem_nil, fun _ h => absurd h List.not_mem_nil⟩
        rcases List.mem_append.mp hr with hr | hr
        · exact ⟨by have := (h1 row hr).1; omega, fun z hz => ((h1 row hr).2 z hz).mono (Nat.le_succ _)⟩
        · rw [List.mem_singleton.mp hr]
          exact ⟨by dsimp only; omega, fun z hz => (he z hz).mono (Nat.le_succ _)⟩
      · split
        · exact ⟨fun row hr => ⟨by have := (h1 row hr).1; omega, fun z hz => ((h1 row hr).2 z hz).mono (Nat.le_succ _)⟩, fun z hz => (he z hz).mono (Nat.le_succ _), fun _ h => absurd h List.not_mem_nil⟩
        · refine ⟨fun row hr => ⟨by have := (h1 row hr).1; omega, fun z hz => ((h1 row hr).2 z hz).mono (Nat.le_succ _)⟩, fun z hz => (h2 z hz).mono (Nat.le_succ _), fun c hc => ?_⟩
          rcases List.mem_append.mp hc with hc | hc
          · exact h3 c hc
          · rw [List.mem_singleton.mp hc]
            exact sgn_lt n
theorem linesW_ok {t : List Nat} {row : List W} (h : row ∈ linesW t) : row.length ≤ t.length ∧ ∀ z ∈ row, WOk t.length z := by
  have hq : linesW t = (lnAt t t.length).1 ++ [endW (lnAt t t.length).2.1 (lnAt t t.length).2.2] := by
    unfold linesW lnAt
    rw [List.take_length]
  rw [hq] at h
  obtain ⟨h1, h2, h3⟩ := lnAt_ok t t.length
  have hl := lnAt_len t t.length
  rcases List.mem_append.mp h with hr | hr
  · exact ⟨by have := (h1 row hr).1; omega, (h1 row hr).2⟩
  · rw [List.mem_singleton.mp hr]
    have hel := endW_len2 (lnAt t t.length).2.1 (lnAt t t.length).2.2
    have hl2 := lnAt_len2 t t.length
    exact ⟨by omega, endW_ok h2 hl.2.2 h3⟩
end Tote
/-! # reading.py: a text -/
namespace Tote
open PySem PySem.Spec PyProof.Rows L2 Tq
open SX (S S_inj S_len S_cat)
open Xb08 (ascii TermForm)
variable {g : GG}
theorem walk_enumS {K : PySem.W.Frag} {a : Addr} {xs : List V} {k : Int} : Walk (IteS K a k) xs.length (fun H => SqL K H a xs) (YPair (fun i => some (.int (k + (i : Nat)))) (fun i => xs[i]?)) := by
  refine ⟨fun i _ hi q => ⟨xs, xs[i], q, by simp [hi]⟩, fun _ q => ⟨xs, q, Nat.le_refl _⟩, fun i H v H' _ q y => ?_⟩
  obtain ⟨T, x, h1, h2, h3, h4⟩ := y
  exact ⟨T, _, x, h1, h2, h3, rfl, h4 xs q⟩
/-! ## a row against an empty one -/
theorem dp_all {K : PySem.W.Frag} {H : Hp} : ∀ row : List W, DpAll K H (row.map wV) (row.map fun z => PyData.str (S z))
  | [] => .nil
  | z :: r => .cons (.str _) (dp_all r)
theorem lay_all : ∀ row : List W, (∀ z ∈ row, ∀ c ∈ z, c < 128) → PyData.canLayAll0 (row.map fun z => PyData.str (S z)) = true ∧ PyData.depthAll (row.map fun z => PyData.str (S z)) = 0
  | [], _ => ⟨rfl, rfl⟩
  | z :: r, h => by
    obtain ⟨h1, h2⟩ := lay_all r fun y hy => h y (List.mem_cons_of_mem _ hy)
    refine ⟨?_, ?_⟩
    · show (PyData.strOk (S z) && PyData.canLayAll0 (r.map fun z => PyData.str (S z))) = true
      rw [h1, Bool.and_true]
      unfold PyData.strOk
      rw [Array.all_eq_true']
      intro c hc
      have := h z List.mem_cons_self c (by simpa using hc)
      exact decide_eq_true (by omega)
    · show max 0 (PyData.depthAll (r.map fun z => PyData.str (S z))) = 0
      rw [h2]
      rfl
theorem row_shaped {row : List W} (h : ∀ z ∈ row, ∀ c ∈ z, c < 128) : SeqAt.shaped (.list (row.map fun z => PyData.str (S z))) = true := by
  obtain ⟨h1, h2⟩ := lay_all row h
  unfold SeqAt.shaped
  show (PyData.canLayAll0 _ && decide (PyData.depthAll _ + 1 ≤ 64)) = true
  rw [h1, h2]
  rfl
theorem row_eqv (row : List W) : PyData.eqv (.list (row.map fun z => PyData.str (S z))) (.list []) = row.isEmpty := by
  cases row <;> rfl
/-- what is wanted of a text's answer or its fault -/
def Wq {α : Type} (r : Except (Nat × Nat) α) (ef : Nat × Nat → Prop) (k : α → Prop) : Prop := match r with | .ok a => k a | .error c => ef c
def readAll : Nat → Xb08.Plant → List KN → List (List W) → Except (Nat × Nat) (Xb08.Plant × List KN)
  | _, p, ks, [] => .ok (p, ks)
  | n, p, ks, row :: rest => if row.isEmpty = true then readAll (n + 1) p ks rest else match doLine p ks row with
    | .ok r => readAll (n + 1) r.1 r.2 rest
    | .error c => .error (c, n)
def sp_read_plant (g : GG) : Sp := fun vs H Q E => ∃ (a : Addr) (ns : List Nat), vs = [.ref a] ∧ SqL g.K H a (ns.map iV) ∧ ns.length ≤ 4000 ∧
  Wq (readAll 1 noPlant [] (linesW ns)) (fun e => TF g E H e.2 e.1) fun r => KnOk r.2 r.1 → Lim r.1 → ∀ H' L, PlantAt g H' H L r.1 r.2 → Q (.ref L.pl) H'
theorem PlantAt.full {H R : Hp} {L : PL} {p : Xb08.Plant} {ks : List KN} (h : PlantAt g H R L p ks) : PlantAt g H (fun b => if b ∈ L.pl :: L.lists then none else H b) L p ks :=
  ⟨fun b o e => by
    split at e
    · cases e
    · exact e, fun a ha => if_pos ha, h.nodup, h.ins, h.parts⟩
theorem PlantAt.sub {H R : Hp} {L : PL} {p : Xb08.Plant} {ks : List KN} (h : PlantAt g H R L p ks) : Same R (fun b => if b ∈ L.pl :: L.lists then none else H b) := fun b o e => by
  have : b ∉ L.pl :: L.lists := fun hm => by
    rw [h.out b hm] at e
    cases e
  dsimp only
  rw [if_neg this]
  exact h.same b o e
theorem ok_read_plant (T : Tx g) : Fn (CXr RCh g.P g.w) g 11 "read_plant" ["text"] (sp_read_plant g) := by
  refine fnC (k := 10) T.gl_read_plant T.df_read_plant sc_read_plant (fun _ _ _ _ _ _ us hl => match us, hl with | [_], _ => rfl) ?_ ?_
  · rintro vs H Q E ⟨a, ns, rfl, _⟩
    rfl
  · rintro cdv A outer s H vs Q E hr ⟨a, ns, rfl, hS, hn, q⟩
    refine ⟨_, (pss_cons (ps_set (i := 1) sc_read_plant.nd rfl (.inl rfl) (pe_nw0 (ok_Plant_init T) hr (by decide))) (pss_cons (ps_for (passes_of rfl) rfl (pi_enumS (by rfl) T.fr_enumerate (pa_cons (pe_fn (ok_lines_of T) hr (by decide) (pa_cons (pv 0) pa_nil)) pa_nil) (by decide) (by decide)) (pg_tup rfl (pgs_cons (pg_name (i := 2) sc_read_plant.nd rfl (.inl rfl)) (pgs_cons (pg_name (i := 3) sc_read_plant.nd rfl (.inl rfl)) pgs_nil))) (pss_one (ps_if (pt_cmpR (op_neD (by exact hr.units)) (pv 3) (pe_lst pa_nil) (nomark _)) (pss_one (ps_expr (pe_fx (ok_read_line T) hr (by decide) pxR (pa_cons (pv 1) (pa_cons (pv 2) (pa_cons (pv 3) pa_nil)))))) pss_nil))) (pss_one (ps_ret (pv 1))))), ?_⟩
    intro pl dx hpl hdx ne
    refine ⟨pl, dx, rfl, upd_same, fun H1 L eL hL hnew => ⟨rfl, ?_⟩⟩
    subst eL
    have h1 := hL H (Same.upd hpl (Same.new hdx)) hpl
    refine ⟨_, rfl, a, ns, rfl, h1.same.seq hS, hn, fun H2 ln rs s2 hln hrows nln nrs => ⟨ln, rs.map .ref, rfl, .inl (.inl hln), ?_⟩⟩
    have h2 := h1.mono s2
    have hsub := h2.sub
    have h3 := h2.full
    generalize hF : (fun b => if b ∈ L.pl :: L.lists then none else H2 b) = FF at hsub h3
    have out : ∀ b, H1 b = none → FF b = H2 b := fun b hb => by
      rw [← hF]
      refine if_neg fun hm => ?_
      rcases List.mem_cons.mp hm with e | hm
      · obtain ⟨dx, hi⟩ := h1.ins
        rw [e, hi] at hb
        cases hb
      · exact h1.lists_some b hm hb
    have fln : FF ln = some (.lst (rs.map .ref)) := by rw [out ln nln]; exact hln
    have frow : ∀ (i : Nat) (r : Addr) (l : List W), rs[i]? = some r → (linesW ns)[i]? = some l → FF r = some (.lst (l.map wV)) := fun i r l hr hl => by
      rw [out r (nrs r (List.mem_of_getElem? hr))]
      exact hrows.2 i r l hr hl
    refine for_it (walk_enumS (xs := rs.map .ref)) (fun i σ H' => ∃ p ks y2 y3, σ = [some (.ref a), some (.ref L.pl), y2, y3] ∧ PlantAt g H' FF L p ks ∧ KnOk ks p ∧ Lim p ∧
      Wq (readAll (i + 1) p ks ((linesW ns).drop i)) (fun e => TF g E H e.2 e.1) (fun r => KnOk r.2 r.1 → Lim r.1 → ∀ H' L, PlantAt g H' H L r.1 r.2 → Q (.ref L.pl) H')) ⟨noPlant, [], none, none, rfl, h3, ?_, ?_, q⟩ ?_ ?_ ?_
    · refine ⟨List.nodup_nil, fun k => ?_⟩
      unfold namesOf
      split
      · rfl
      split
      · rfl
      split
      · rfl
      split
      · rfl
      · rfl
    · exact ⟨Nat.zero_le _, Nat.zero_le _, Nat.zero_le _, Nat.zero_le _, Nat.zero_le _, Nat.zero_le _⟩
    · rintro i σ H' hi ⟨p, ks, y2, y3, rfl, hp, _⟩
      exact .inl (.inl (hp.same _ _ fln))
    · rintro i x σ H' H'' hi ⟨p, ks, y2, y3, rfl, hp, ok, lim, hq⟩ ⟨t, v1, v2, rfl, ht, rfl, e1, e2⟩
      cases e1
      rw [List.length_map] at hi
      change (rs.map V.ref)[i]? = some v2 at e2
      rw [List.getElem?_map, List.getElem?_eq_getElem hi] at e2
      cases e2
      have hi' : i < (linesW ns).length := by rw [← hrows.1]; exact hi
      have hrow := frow i rs[i] (linesW ns)[i] (List.getElem?_eq_getElem hi) (List.getElem?_eq_getElem hi')
      have hin : (linesW ns)[i] ∈ linesW ns := List.getElem_mem hi'
      obtain ⟨hl1, hl2⟩ := linesW_ok hin
      have hdrop : (linesW ns).drop i = (linesW ns)[i] :: (linesW ns).drop (i + 1) := List.drop_eq_getElem_cons hi'
      rw [hdrop] at hq
      generalize (linesW ns)[i] = row at hrow hin hl1 hl2 hq
      have hp1 := hp.mono (Same.new (o := .tup [.int (1 + (i : Int)), .ref rs[i]]) ht)
      refine ⟨t, _, rfl, .inl (.inl upd_same), rfl, _, _, rfl, _, _, rfl, rfl, ?_⟩
      generalize upd H' t (.tup [.int (1 + (i : Int)), .ref rs[i]]) = H3 at hp1 ⊢
      refine ⟨_, rfl, Nat.zero_le _, fun l hl => ⟨_, .list [], .lst (.inl (.inl ((Same.new hl) _ _ (hp1.same _ _ hrow)))) (dp_all row), .lst (.inl (.inl upd_same)) .nil, row_shaped fun z hz => (hl2 z hz).2.2, rfl, _, rfl, ?_⟩⟩
      rw [row_eqv]
      have hp2 := hp1.mono (Same.new (o := .lst []) hl)
      generalize upd H3 l (.lst []) = H4 at hp2 ⊢
      change Wq (if row.isEmpty = true then readAll (i + 1 + 1) p ks ((linesW ns).drop (i + 1)) else match doLine p ks row with | .ok r => readAll (i + 1 + 1) r.1 r.2 ((linesW ns).drop (i + 1)) | .error c => .error (c, i + 1)) _ _ at hq
      cases he : row.isEmpty with
      | true =>
        rw [he, if_pos rfl] at hq
        exact iteF ⟨p, ks, _, _, rfl, hp2, ok, lim, hq⟩
      | false =>
        rw [he, if_neg (by decide)] at hq
        refine iteT ⟨_, rfl, _, rfl, _, rfl, FF, L, p, ks, i + 1, rs[i], row, ?_, hp2, ok, lim, hp2.same _ _ hrow, by omega, fun z hz => ⟨(hl2 z hz).1, by have := (hl2 z hz).2.1; omega⟩, ?_⟩
        · rw [show (1 : Int) + (i : Int) = ((i + 1 : Nat) : Int) by omega]
        · cases hd : doLine p ks row with
          | error c =>
            rw [hd] at hq
            exact TF.mono hq hsub
          | ok r =>
            rw [hd] at hq
            obtain ⟨ok', lim'⟩ := doLine_ok hd ok lim
            exact fun H5 h5 => ⟨r.1, r.2, _, _, rfl, h5, ok', lim', hq⟩
    · rintro σ H' ⟨p, ks, y2, y3, rfl, hp, ok, lim, hq⟩
      rw [List.length_map, hrows.1, List.drop_length] at hq
      exact ⟨_, rfl, (show Wq (Except.ok (p, ks)) _ _ from hq) ok lim H' L (hp.less hsub)⟩
end Tote
/-! # The floor in the heap -/
namespace Tote
open PySem PySem.Spec PyProof.Rows L2 Tq
open SX (S S_inj S_len S_cat)
open Xb08 (Simulation Goal placeOfParcel parcelOf contentsOf roomOf isFree canGo)
variable {g : GG}
/-- as lc_fm, longer -/
theorem lc_fmB {J : It} {n : Nat} {G : Hp → Prop} {Y : Nat → Hp → V → Hp → Prop} (w : Walk J n G Y) {g : TG} {tt : TT} {te : TE} {vs : List Nat} {σ : L2.St} {H1 : Hp} {D : Addr} {Qd : Hp → Prop} (f : Nat → Option V)
    (hD : H1 D = none) (hn : n < sizeLine) (hG : ∀ H, Same H1 H → G H)
    (turn : ∀ i x H H' (Qk : VK) (Qn : Hp → Prop), i < n → Same H1 H → Y i H x H' → (∀ y H4, Same H H4 → f i = some y → Qk y H4) → (∀ H3, Same H H3 → f i = none → Qn H3) →
      g x (wipe σ vs) H' fun σ2 H2 => wipe σ2 vs = wipe σ vs ∧ tt σ2 H2 fun b H3 => if b = true then te σ2 H3 Qk else Qn H3)
    (done : ∀ H, Same H1 H → H D = some (.lst ((List.range n).filterMap f)) → Qd H) :
    ∃ W : Nat → Nat → Hp → Prop, (∃ m, W 0 m (upd H1 D (.lst []))) ∧ ∀ i m H, W i m H →
      (J.stop i H ∧ Qd H) ∨ (J.go i H ∧ ∃ Nx : Hp → Prop, (∀ H', Nx H' → ∃ m', m' < m ∧ W (i + 1) m' H') ∧ ∀ x H', J.yld i H x H' → g x (wipe σ vs) H' fun σ2 H2 => wipe σ2 vs = wipe σ vs ∧ tt σ2 H2 fun b H3 =>
        if b = true then te σ2 H3 fun y H4 => ∃ acc, H4 D = some (.lst acc) ∧ acc.length < sizeLine ∧ Nx (upd H4 D (.lst (acc ++ [y]))) else Nx H3) := by
  refine lc_it w (fun i H => Same H1 H ∧ H D = some (.lst ((List.range i).filterMap f))) ⟨Same.new hD, upd_same⟩ (fun i H _ p => hG H p.1) ?_ (fun H p => done H p.1 p.2)
  intro i x H H' hi p y
  have hl : ((List.range i).filterMap f).length < sizeLine := by
    have a := List.length_filterMap_le f (List.range i)
    rw [List.length_range] at a
    omega
  refine turn i x H H' _ _ hi p.1 y (fun y H4 s e => ⟨_, s _ _ p.2, hl, Same.upd hD (p.1.trans s), ?_⟩) (fun H3 s e => ⟨p.1.trans s, ?_⟩)
  · rw [upd_same, range_fm, e]
    rfl
  · rw [range_fm, e, s _ _ p.2]
    simp
/-! ## what a plant must be -/
def GoalOk (p : Xb08.Plant) : Goal → Prop
  | .belt k x => k < p.belts.length ∧ x < Xb08.beltLength p k
  | .chute k => k < p.chutes.length
def CondOk (p : Xb08.Plant) : Xb08.Cond → Prop
  | .code _ _ => True
  | .length _ => True
  | .each n => 1 ≤ n
  | .full c => c < p.chutes.length
  | .free b => b < p.belts.length
structure PlOk (p : Xb08.Plant) : Prop where
  lim : Lim p
  pos : ∀ b ∈ p.belts, 1 ≤ b.length ∧ b.length ≤ 40
  go : ∀ b ∈ p.belts, ∀ gl, b.goal = some gl → GoalOk p gl
  pu : ∀ u ∈ p.pushers, GoalOk p u.goal
  ru : ∀ r ∈ p.rules, r.push < p.pushers.length ∧ r.conds.length ≤ 4 ∧ ∀ c ∈ r.conds, CondOk p c
  pa : ∀ q ∈ p.parcels, q.belt < p.belts.length ∧ 1 ≤ q.length ∧ q.length ≤ 5
structure SimOk (h : Simulation) : Prop where
  pl : PlOk h.plant
  len : h.plant.parcels.length = h.positions_.length
  se : h.seen.length = h.plant.sensors.length
  fi : h.fired.length = h.plant.rules.length
  dn : h.pushesDone.length = h.plant.pushers.length
  mi : h.pushesMissed.length = h.plant.pushers.length
  on : ∀ (i b x : Nat), h.positions_[i]? = some (.on b x) → b < h.plant.belts.length ∧ x < Xb08.beltLength h.plant b
  one : ∀ (i j b x : Nat), h.positions_[i]? = some (.on b x) → h.positions_[j]? = some (.on b x) → i = j
  sc : ∀ q ∈ h.scheduled, q.2 < h.plant.pushers.length
  few : h.scheduled.length ≤ 12 * h.tick
/-! ## the parts -/
def flF (f_plant f_parcels f_tick f_seen f_fired f_done f_missed f_scheduled : V) : List (Str × V) := [("plant", f_plant), ("parcels", f_parcels), ("tick", f_tick), ("seen", f_seen), ("fired", f_fired), ("done", f_done), ("missed", f_missed), ("scheduled", f_scheduled)]
theorem flF_get (f_plant f_parcels f_tick f_seen f_fired f_done f_missed f_scheduled : V) : List.lookup ("plant" : Str) (flF f_plant f_parcels f_tick f_seen f_fired f_done f_missed f_scheduled) = some f_plant ∧ List.lookup ("parcels" : Str) (flF f_plant f_parcels f_tick f_seen f_fired f_done f_missed f_scheduled) = some f_parcels ∧ List.lookup ("tick" : Str) (flF f_plant f_parcels f_tick f_seen f_fired f_done f_missed f_scheduled) = some f_tick ∧ List.lookup ("seen" : Str) (flF f_plant f_parcels f_tick f_seen f_fired f_done f_missed f_scheduled) = some f_seen ∧ List.lookup ("fired" : Str) (flF f_plant f_parcels f_tick f_seen f_fired f_done f_missed f_scheduled) = some f_fired ∧ List.lookup ("done" : Str) (flF f_plant f_parcels f_tick f_seen f_fired f_done f_missed f_scheduled) = some f_done ∧ List.lookup ("missed" : Str) (flF f_plant f_parcels f_tick f_seen f_fired f_done f_missed f_scheduled) = some f_missed ∧ List.lookup ("scheduled" : Str) (flF f_plant f_parcels f_tick f_seen f_fired f_done f_missed f_scheduled) = some f_scheduled ∧ List.lookup ("put_parcel" : Str) (flF f_plant f_parcels f_tick f_seen f_fired f_done f_missed f_scheduled) = none ∧ List.lookup ("begin_tick" : Str) (flF f_plant f_parcels f_tick f_seen f_fired f_done f_missed f_scheduled) = none ∧ List.lookup ("go" : Str) (flF f_plant f_parcels f_tick f_seen f_fired f_done f_missed f_scheduled) = none ∧ List.lookup ("at_place" : Str) (flF f_plant f_parcels f_tick f_seen f_fired f_done f_missed f_scheduled) = none ∧ List.lookup ("of_kind" : Str) (flF f_plant f_parcels f_tick f_seen f_fired f_done f_missed f_scheduled) = none ∧ List.lookup ("on_belt" : Str) (flF f_plant f_parcels f_tick f_seen f_fired f_done f_missed f_scheduled) = none ∧ List.lookup ("has_room" : Str) (flF f_plant f_parcels f_tick f_seen f_fired f_done f_missed f_scheduled) = none ∧ List.lookup ("is_free" : Str) (flF f_plant f_parcels f_tick f_seen f_fired f_done f_missed f_scheduled) = none ∧ List.lookup ("can_go" : Str) (flF f_plant f_parcels f_tick f_seen f_fired f_done f_missed f_scheduled) = none ∧ List.lookup ("do_push" : Str) (flF f_plant f_parcels f_tick f_seen f_fired f_done f_missed f_scheduled) = none ∧ List.lookup ("do_pushes" : Str) (flF f_plant f_parcels f_tick f_seen f_fired f_done f_missed f_scheduled) = none ∧ List.lookup ("advance" : Str) (flF f_plant f_parcels f_tick f_seen f_fired f_done f_missed f_scheduled) = none ∧ List.lookup ("do_belts" : Str) (flF f_plant f_parcels f_tick f_seen f_fired f_done f_missed f_scheduled) = none ∧ List.lookup ("do_feeds" : Str) (flF f_plant f_parcels f_tick f_seen f_fired f_done f_missed f_scheduled) = none ∧ List.lookup ("holds" : Str) (flF f_plant f_parcels f_tick f_seen f_fired f_done f_missed f_scheduled) = none ∧ List.lookup ("first_rule" : Str) (flF f_plant f_parcels f_tick f_seen f_fired f_done f_missed f_scheduled) = none ∧ List.lookup ("see" : Str) (flF f_plant f_parcels f_tick f_seen f_fired f_done f_missed f_scheduled) = none ∧ List.lookup ("do_eyes" : Str) (flF f_plant f_parcels f_tick f_seen f_fired f_done f_missed f_scheduled) = none ∧ List.lookup ("do_tick" : Str) (flF f_plant f_parcels f_tick f_seen f_fired f_done f_missed f_scheduled) = none ∧ List.lookup ("is_done" : Str) (flF f_plant f_parcels f_tick f_seen f_fired f_done f_missed f_scheduled) = none ∧ (flF f_plant f_parcels f_tick f_seen f_fired f_done f_missed f_scheduled).length < 1000 := ⟨rfl, rfl, rfl, rfl, rfl, rfl, rfl, rfl, rfl, rfl, rfl, rfl, rfl, rfl, rfl, rfl, rfl, rfl, rfl, rfl, rfl, rfl, rfl, rfl, rfl, rfl, rfl, rfl, (show 8 < 1000 by decide)⟩
theorem flF_put (v f_plant f_parcels f_tick f_seen f_fired f_done f_missed f_scheduled : V) : putF "plant" v (flF f_plant f_parcels f_tick f_seen f_fired f_done f_missed f_scheduled) = flF v f_parcels f_tick f_seen f_fired f_done f_missed f_scheduled ∧ putF "parcels" v (flF f_plant f_parcels f_tick f_seen f_fired f_done f_missed f_scheduled) = flF f_plant v f_tick f_seen f_fired f_done f_missed f_scheduled ∧ putF "tick" v (flF f_plant f_parcels f_tick f_seen f_fired f_done f_missed f_scheduled) = flF f_plant f_parcels v f_seen f_fired f_done f_missed f_scheduled ∧ putF "seen" v (flF f_plant f_parcels f_tick f_seen f_fired f_done f_missed f_scheduled) = flF f_plant f_parcels f_tick v f_fired f_done f_missed f_scheduled ∧ putF "fired" v (flF f_plant f_parcels f_tick f_seen f_fired f_done f_missed f_scheduled) = flF f_plant f_parcels f_tick f_seen v f_done f_missed f_scheduled ∧ putF "done" v (flF f_plant f_parcels f_tick f_seen f_fired f_done f_missed f_scheduled) = flF f_plant f_parcels f_tick f_seen f_fired v f_missed f_scheduled ∧ putF "missed" v (flF f_plant f_parcels f_tick f_seen f_fired f_done f_missed f_scheduled) = flF f_plant f_parcels f_tick f_seen f_fired f_done v f_scheduled ∧ putF "scheduled" v (flF f_plant f_parcels f_tick f_seen f_fired f_done f_missed f_scheduled) = flF f_plant f_parcels f_tick f_seen f_fired f_done f_missed v := ⟨rfl, rfl, rfl, rfl, rfl, rfl, rfl, rfl⟩
def pcF (f_belt f_code f_length f_since f_place f_has_moved : V) : List (Str × V) := [("belt", f_belt), ("code", f_code), ("length", f_length), ("since", f_since), ("place", f_place), ("has_moved", f_has_moved)]
theorem pcF_get (f_belt f_code f_length f_since f_place f_has_moved : V) : List.lookup ("belt" : Str) (pcF f_belt f_code f_length f_since f_place f_has_moved) = some f_belt ∧ List.lookup ("code" : Str) (pcF f_belt f_code f_length f_since f_place f_has_moved) = some f_code ∧ List.lookup ("length" : Str) (pcF f_belt f_code f_length f_since f_place f_has_moved) = some f_length ∧ List.lookup ("since" : Str) (pcF f_belt f_code f_length f_since f_place f_has_moved) = some f_since ∧ List.lookup ("place" : Str) (pcF f_belt f_code f_length f_since f_place f_has_moved) = some f_place ∧ List.lookup ("has_moved" : Str) (pcF f_belt f_code f_length f_since f_place f_has_moved) = some f_has_moved ∧ List.lookup ("told" : Str) (pcF f_belt f_code f_length f_since f_place f_has_moved) = none ∧ List.lookup ("covers" : Str) (pcF f_belt f_code f_length f_since f_place f_has_moved) = none ∧ (pcF f_belt f_code f_length f_since f_place f_has_moved).length < 1000 := ⟨rfl, rfl, rfl, rfl, rfl, rfl, rfl, rfl, (show 6 < 1000 by decide)⟩
theorem pcF_put (v f_belt f_code f_length f_since f_place f_has_moved : V) : putF "belt" v (pcF f_belt f_code f_length f_since f_place f_has_moved) = pcF v f_code f_length f_since f_place f_has_moved ∧ putF "code" v (pcF f_belt f_code f_length f_since f_place f_has_moved) = pcF f_belt v f_length f_since f_place f_has_moved ∧ putF "length" v (pcF f_belt f_code f_length f_since f_place f_has_moved) = pcF f_belt f_code v f_since f_place f_has_moved ∧ putF "since" v (pcF f_belt f_code f_length f_since f_place f_has_moved) = pcF f_belt f_code f_length v f_place f_has_moved ∧ putF "place" v (pcF f_belt f_code f_length f_since f_place f_has_moved) = pcF f_belt f_code f_length f_since v f_has_moved ∧ putF "has_moved" v (pcF f_belt f_code f_length f_since f_place f_has_moved) = pcF f_belt f_code f_length f_since f_place v := ⟨rfl, rfl, rfl, rfl, rfl, rfl⟩
def plaV : Xb08.Place → List V
  | .notFed => [.int 0, .int 0, .int 0]
  | .on b x => [.int 1, .int b, .int x]
  | .chute k => [.int 2, .int k, .int 0]
/-- a tuple that stands, in the heap or written -/
def PlT (g : GG) (H : Hp) (t : Addr) (xs : List V) : Prop := H t = some (.tup xs) ∨ ∀ H', SqT g.K H' t xs
theorem PlT.sq {H : Hp} {t : Addr} {xs : List V} (h : PlT g H t xs) : SqT g.K H t xs := by
  rcases h with h | h
  · exact .inl (.inl h)
  · exact h H
theorem PlT.st {A : Addr → Prop} {H H' : Hp} (s : Sta A H H') (n : NoT A H) {t : Addr} {xs : List V} (h : PlT g H t xs) : PlT g H' t xs := by
  rcases h with h | h
  · exact .inl (s.tup n h)
  · exact .inr h
def PcAt (g : GG) (H : Hp) (a : Addr) (q : Xb08.Parcel) (pl : Xb08.Place) (mv : Bool) : Prop := ∃ dx t, H a = some (.ins (cF g "Parcel") dx (pcF (.int q.belt) (.int q.code) (.int q.length) (.int q.t) (.ref t) (.bl mv))) ∧ PlT g H t (plaV pl)
def ScAt (H : Hp) (a : Addr) (l : List (Nat × Nat)) : Prop := ∃ ts : List Addr, H a = some (.lst (ts.map .ref)) ∧ F2 (fun t (q : Nat × Nat) => H t = some (.tup [.int q.1, .int q.2])) ts l
def CoAt (H : Hp) (a : Addr) (l : List Nat) : Prop := H a = some (.lst (l.map iV))
structure FL where
  fl : Addr
  sc : Addr
  pc : Addr
  se : Addr
  fi : Addr
  dn : Addr
  mi : Addr
  L : PL
  ps : List Addr
def FL.lists (F : FL) : List Addr := [F.sc, F.pc, F.se, F.fi, F.dn, F.mi]
def FL.inss (F : FL) : List Addr := F.fl :: F.ps
def FL.foot (F : FL) : List Addr := F.lists ++ F.inss
structure PlantF (g : GG) (H : Hp) (L : PL) (p : Xb08.Plant) : Prop where
  ins : ∃ dx, H L.pl = some (.ins (cF g "Plant") dx L.fs)
  le : LeAt H L.le p.belts
  go : GoAt H L.go p.belts
  ro : RoAt H L.ro p.chutes
  ey : EyAt H L.ey p.sensors
  pu : PuAt H L.pu p.pushers
  ru : RuAt L.lists H L.ru p.rules
def ParAt (g : GG) (H : Hp) (ps : List Addr) (h : Simulation) : Prop := F2 (fun a i => PcAt g H a (parcelOf h i) (placeOfParcel h i) (h.moved.contains i)) ps (List.range h.positions_.length)
def FloI (g : GG) (H : Hp) (F : FL) (tick : Nat) : Prop := ∃ dx, H F.fl = some (.ins (cF g "Floor") dx (flF (.ref F.L.pl) (.ref F.pc) (.int tick) (.ref F.se) (.ref F.fi) (.ref F.dn) (.ref F.mi) (.ref F.sc)))
structure FloorAt (g : GG) (H R : Hp) (F : FL) (h : Simulation) : Prop where
  same : Same R H
  pla : PlantF g R F.L h.plant
  out : ∀ a ∈ F.foot, R a = none
  ndl : F.lists.Nodup
  ndi : F.inss.Nodup
  flo : FloI g H F h.tick
  sc : ScAt H F.sc h.scheduled
  pcs : H F.pc = some (.lst (F.ps.map .ref))
  par : ParAt g H F.ps h
  se : CoAt H F.se h.seen
  fi : CoAt H F.fi h.fired
  dn : CoAt H F.dn h.pushesDone
  mi : CoAt H F.mi h.pushesMissed
  ok : SimOk h
section
variable {A : Addr → Prop} {H H' : Hp} {a : Addr} (s : Sta A H H') (n : NoT A H)
include s n
theorem PcAt.st {q : Xb08.Parcel} {pl : Xb08.Place} {mv : Bool} (h : PcAt g H a q pl mv) (na : ¬ A a) : PcAt g H' a q pl mv := by
  obtain ⟨dx, t, h1, h2⟩ := h
  exact ⟨dx, t, s _ _ na h1, h2.st s n⟩
theorem ScAt.st {l : List (Nat × Nat)} (h : ScAt H a l) (na : ¬ A a) : ScAt H' a l := by
  obtain ⟨ts, h1, h2⟩ := h
  exact ⟨ts, s _ _ na h1, h2.imp fun _ _ _ _ r => s.tup n r⟩
theorem CoAt.st {l : List Nat} (h : CoAt H a l) (na : ¬ A a) : CoAt H' a l := s _ _ na h
theorem ParAt.st {ps : List Addr} {h : Simulation} (hp : ParAt g H ps h) (na : ∀ a ∈ ps, ¬ A a) : ParAt g H' ps h := F2.imp hp fun a i ha _ r => r.st s n (na a ha)
theorem FloI.st {F : FL} {tick : Nat} (h : FloI g H F tick) (na : ¬ A F.fl) : FloI g H' F tick := by
  obtain ⟨dx, h⟩ := h
  exact ⟨dx, s _ _ na h⟩
end
theorem PlantF.same {H H' : Hp} {L : PL} {p : Xb08.Plant} (h : PlantF g H L p) (s : Same H H') : PlantF g H' L p := by
  have s' := Sta.of_same s
  obtain ⟨dx, hi⟩ := h.ins
  exact ⟨⟨dx, s _ _ hi⟩, h.le.st s' NoT.none id, h.go.st s' NoT.none id, h.ro.st s' NoT.none id, h.ey.st s' NoT.none id, h.pu.st s' NoT.none id, h.ru.st s' NoT.none id fun _ z => z.elim⟩
section
variable {H H' R R' : Hp} {F : FL} {h : Simulation}
theorem FloorAt.mono (f : FloorAt g H R F h) (s : Same H H') : FloorAt g H' R F h := by
  have s' := Sta.of_same s
  exact ⟨f.same.trans s, f.pla, f.out, f.ndl, f.ndi, f.flo.st s' NoT.none id, f.sc.st s' NoT.none id, s _ _ f.pcs, f.par.st s' NoT.none fun _ _ => id, f.se.st s' NoT.none id, f.fi.st s' NoT.none id, f.dn.st s' NoT.none id, f.mi.st s' NoT.none id, f.ok⟩
theorem FloorAt.there (f : FloorAt g H R F h) : ∀ a ∈ F.foot, (a ∈ F.lists ∧ ∃ xs, H a = some (.lst xs)) ∨ (a ∈ F.inss ∧ ∃ C dx fs, H a = some (.ins C dx fs)) := by
  intro a ha
  rcases List.mem_append.mp ha with hl | hi
  · left
    refine ⟨hl, ?_⟩
    obtain ⟨ts, hs, _⟩ := f.sc
    simp only [FL.lists, List.mem_cons, List.not_mem_nil, or_false] at hl
    rcases hl with rfl | rfl | rfl | rfl | rfl | rfl
    · exact ⟨_, hs⟩
    · exact ⟨_, f.pcs⟩
    · exact ⟨_, f.se⟩
    · exact ⟨_, f.fi⟩
    · exact ⟨_, f.dn⟩
    · exact ⟨_, f.mi⟩
  · right
    refine ⟨hi, ?_⟩
    rcases List.mem_cons.mp hi with rfl | hp
    · obtain ⟨dx, e⟩ := f.flo
      exact ⟨_, _, _, e⟩
    · obtain ⟨i, hi⟩ := List.getElem?_of_mem hp
      obtain ⟨j, hj, dx, t, e, _⟩ := f.par.get' hi
      exact ⟨_, _, _, e⟩
theorem FloorAt.stands (f : FloorAt g H R F h) : ∀ a ∈ F.foot, H a ≠ none := by
  intro a ha e
  rcases f.there a ha with ⟨_, xs, h1⟩ | ⟨_, C, dx, fs, h1⟩ <;> rw [e] at h1 <;> cases h1
theorem FloorAt.noT (f : FloorAt g H R F h) : NoT (fun b => b ∈ F.foot) H := by
  intro a xs ha e
  rcases f.there a ha with ⟨_, ys, h1⟩ | ⟨_, C, dx, fs, h1⟩ <;> rw [e] at h1 <;> cases h1
theorem FloorAt.less (f : FloorAt g H R F h) (s : Same R' R) (p : PlantF g R' F.L h.plant) : FloorAt g H R' F h :=
  ⟨s.trans f.same, p, fun a ha => s.free (f.out a ha), f.ndl, f.ndi, f.flo, f.sc, f.pcs, f.par, f.se, f.fi, f.dn, f.mi, f.ok⟩
/-- the widest frame -/
def FL.wide (F : FL) (H : Hp) : Hp := fun b => if b ∈ F.foot then none else H b
theorem FloorAt.sub (f : FloorAt g H R F h) : Same R (F.wide H) := fun b o e => by
  unfold FL.wide
  rw [if_neg fun hm => by rw [f.out b hm] at e; cases e]
  exact f.same b o e
theorem FloorAt.full (f : FloorAt g H R F h) : FloorAt g H (F.wide H) F h :=
  ⟨fun b o e => by
    unfold FL.wide at e
    split at e
    · cases e
    · exact e, f.pla.same f.sub, fun a ha => if_pos ha, f.ndl, f.ndi, f.flo, f.sc, f.pcs, f.par, f.se, f.fi, f.dn, f.mi, f.ok⟩
/-- a list and an instance stand apart -/
theorem FloorAt.li (f : FloorAt g H R F h) {a b : Addr} (ha : a ∈ F.lists) (hb : b ∈ F.inss) : a ≠ b := by
  rcases f.there a (List.mem_append_left _ ha) with ⟨_, xs, h1⟩ | ⟨hi, _⟩
  · rcases f.there b (List.mem_append_right _ hb) with ⟨hl, ys, h2⟩ | ⟨_, C, dx, fs, h2⟩
    · intro e
      subst e
      rcases List.mem_cons.mp hb with e | hp
      · obtain ⟨dx, z⟩ := f.flo
        rw [← e, h1] at z
        cases z
      · obtain ⟨i, hi⟩ := List.getElem?_of_mem hp
        obtain ⟨j, hj, dx, t, z, _⟩ := f.par.get' hi
        rw [h1] at z
        cases z
    · exact ne_of h1 h2 (by intro z; cases z)
  · rename_i hx
    obtain ⟨C, dx, fs, h1⟩ := hx
    exfalso
    obtain ⟨ts, hs, _⟩ := f.sc
    simp only [FL.lists, List.mem_cons, List.not_mem_nil, or_false] at ha
    rcases ha with rfl | rfl | rfl | rfl | rfl | rfl
    · rw [hs] at h1; cases h1
    · rw [f.pcs] at h1; cases h1
    · rw [f.se] at h1; cases h1
    · rw [f.fi] at h1; cases h1
    · rw [f.dn] at h1; cases h1
    · rw [f.mi] at h1; cases h1
end
end Tote
/-! # floors.py: what is read -/
namespace Tote
open PySem PySem.Spec PyProof.Rows L2 Tq
open SX (S S_inj S_len S_cat)
open Xb08 (Simulation Goal placeOfParcel parcelOf contentsOf roomOf isFree canGo)
variable {g : GG}
/-! ## a parcel -/
def sp_Parcel_told (g : GG) : Sp := fun vs H Q _ => ∃ (a : Addr) (q : Xb08.Parcel) (pl : Xb08.Place) (mv : Bool), vs = [.ref a] ∧ PcAt g H a q pl mv ∧ ∀ H' t, Same H H' → H' t = some (.tup (parT q)) → Q (.ref t) H'
theorem ok_Parcel_told (T : Tx g) : Mt CX0 g 1 "Parcel" "told" ["self"] (sp_Parcel_told g) := by
  refine mt0 (k := 0) T.cl_Parcel T.me_Parcel_told T.df_Parcel_told sc_Parcel_told (fun _ _ _ _ _ _ us hl => match us, hl with | [_], _ => rfl) ?_ ?_
  · rintro vs H Q E ⟨a, q, pl, mv, rfl, _⟩
    rfl
  · rintro cdv A outer s H vs Q E hr ⟨a, q, pl, mv, rfl, ⟨dx, t, h1, h2⟩, qq⟩
    refine ⟨_, (pss_one (ps_ret (pe_tup (pa_cons (pe_fc T.cl_Parcel T.na_Parcel_belt (pv 0)) (pa_cons (pe_fc T.cl_Parcel T.na_Parcel_code (pv 0)) (pa_cons (pe_fc T.cl_Parcel T.na_Parcel_length (pv 0)) (pa_cons (pe_fc T.cl_Parcel T.na_Parcel_since (pv 0)) pa_nil))))))), ?_⟩
    simp only [rIxD, gSub, rSetL, sDPut, tDGet, tDIn, tDNotIn, wipe, rLenS, tBM, rAppend, rExtend, rIn, cx_K, rIxS, rIxL, rIxT, tRet, tIfS, tTest, tChain, rI, rI0, rU, tC, tVar, tOp, tUn, tCB, tCons, tNil, tSeq, tNext, tB, tNot, tAnd, tOr, tAndV, tOrV, tNotV, tFc, sFc, sFcA, tMt, tCl, tNw, tLst, tTup, tDrop, tAsg, tPar, gName, gCons, gNil, tR1, rEq, rNe, rAdd, rSub, tAug, ipI, L2.start, List.map, List.length, List.replicate, List.append, List.set, exists_eq_left', exists_eq_left, exists_eq_right, exists_eq_right', exists_and_left, exists_and_right, exists_eq, exists_eq', Option.some.injEq, List.getElem?_cons_zero, List.getElem?_cons_succ, V.bl.injEq, V.int.injEq, V.str.injEq, V.ref.injEq, List.cons_append, List.nil_append, List.cons.injEq, HO.ins.injEq, HO.lst.injEq, HO.tup.injEq, true_and, and_true, decide_eq_true_eq, Bool.false_eq_true, ↓reduceIte, Bool.not_true, Bool.not_false, Bool.not_eq_true', decide_eq_false_iff_not, List.set_cons_zero, List.set_cons_succ, and_assoc, scal, dec_int, dec_str, forall_const, implies_true, h1, pcF_get]
    exact ⟨by decide, fun p hp => qq _ _ (Same.new hp) upd_same⟩
def coversP (q : Xb08.Parcel) (pl : Xb08.Place) (b x : Nat) : Bool := match pl with
  | .on c f => c == b && (decide (x ≤ f) && decide (f < x + q.length))
  | _ => false
def sp_Parcel_covers (g : GG) : Sp := fun vs H Q _ => ∃ (a : Addr) (q : Xb08.Parcel) (pl : Xb08.Place) (mv : Bool) (b x : Nat), vs = [.ref a, .int b, .int x] ∧ PcAt g H a q pl mv ∧ Q (.bl (coversP q pl b x)) H
theorem ok_Parcel_covers (T : Tx g) : Mt CX0 g 1 "Parcel" "covers" ["self", "belt", "position"] (sp_Parcel_covers g) := by
  refine mt0 (k := 0) T.cl_Parcel T.me_Parcel_covers T.df_Parcel_covers sc_Parcel_covers (fun _ _ _ _ _ _ us hl => match us, hl with | [_, _, _], _ => rfl) ?_ ?_
  · rintro vs H Q E ⟨a, q, pl, mv, b, x, rfl, _⟩
    rfl
  · rintro cdv A outer s H vs Q E hr ⟨a, q, pl, mv, b, x, rfl, ⟨dx, t, h1, h2⟩, qq⟩
    refine ⟨_, (pss_cons (ps_asg (pe_fc T.cl_Parcel T.na_Parcel_place (pv 0)) (pg_tup rfl (pgs_cons (pg_name (i := 3) sc_Parcel_covers.nd rfl (.inl rfl)) (pgs_cons (pg_name (i := 4) sc_Parcel_covers.nd rfl (.inl rfl)) (pgs_cons (pg_name (i := 5) sc_Parcel_covers.nd rfl (.inl rfl)) pgs_nil))))) (pss_one (ps_ret (pe_and (pe_cmpR op_eq (pv 3) (C8.pe_gc rfl T.in_BELT) (nomark _)) (pe_and (pe_cmpR op_eq (pv 4) (pv 1) (nomark _)) (pe_one (pe_chain op_lt op_le (pe_op op_sub (pv 5) (pe_fc T.cl_Parcel T.na_Parcel_length (pv 0))) (pv 2) (pv 5)))))))), ?_⟩
    have hT := h2.sq
    cases pl with
    | notFed =>
      refine ⟨_, rfl, a, dx, _, _, rfl, h1, rfl, t, _, rfl, hT, rfl, _, _, rfl, _, _, rfl, _, _, rfl, rfl, ?_⟩
      simp only [rIxD, gSub, rSetL, sDPut, tDGet, tDIn, tDNotIn, wipe, rLenS, tBM, rAppend, rExtend, rIn, cx_K, rIxS, rIxL, rIxT, tRet, tIfS, tTest, tChain, rI, rI0, rU, tC, tVar, tOp, tUn, tCB, tCons, tNil, tSeq, tNext, tB, tNot, tAnd, tOr, tAndV, tOrV, tNotV, tFc, sFc, sFcA, tMt, tCl, tNw, tLst, tTup, tDrop, tAsg, tPar, gName, gCons, gNil, tR1, rEq, rNe, rAdd, rSub, tAug, ipI, L2.start, List.map, List.length, List.replicate, List.append, List.set, exists_eq_left', exists_eq_left, exists_eq_right, exists_eq_right', exists_and_left, exists_and_right, exists_eq, exists_eq', Option.some.injEq, List.getElem?_cons_zero, List.getElem?_cons_succ, V.bl.injEq, V.int.injEq, V.str.injEq, V.ref.injEq, List.cons_append, List.nil_append, List.cons.injEq, HO.ins.injEq, HO.lst.injEq, HO.tup.injEq, true_and, and_true, decide_eq_true_eq, Bool.false_eq_true, ↓reduceIte, Bool.not_true, Bool.not_false, Bool.not_eq_true', decide_eq_false_iff_not, List.set_cons_zero, List.set_cons_succ, and_assoc, scal, dec_int, dec_str, forall_const, implies_true, h1, pcF_get]
      rw [if_neg (by decide)]
      exact qq
    | chute k =>
      refine ⟨_, rfl, a, dx, _, _, rfl, h1, rfl, t, _, rfl, hT, rfl, _, _, rfl, _, _, rfl, _, _, rfl, rfl, ?_⟩
      simp only [rIxD, gSub, rSetL, sDPut, tDGet, tDIn, tDNotIn, wipe, rLenS, tBM, rAppend, rExtend, rIn, cx_K, rIxS, rIxL, rIxT, tRet, tIfS, tTest, tChain, rI, rI0, rU, tC, tVar, tOp, tUn, tCB, tCons, tNil, tSeq, tNext, tB, tNot, tAnd, tOr, tAndV, tOrV, tNotV, tFc, sFc, sFcA, tMt, tCl, tNw, tLst, tTup, tDrop, tAsg, tPar, gName, gCons, gNil, tR1, rEq, rNe, rAdd, rSub, tAug, ipI, L2.start, List.map, List.length, List.replicate, List.append, List.set, exists_eq_left', exists_eq_left, exists_eq_right, exists_eq_right', exists_and_left, exists_and_right, exists_eq, exists_eq', Option.some.injEq, List.getElem?_cons_zero, List.getElem?_cons_succ, V.bl.injEq, V.int.injEq, V.str.injEq, V.ref.injEq, List.cons_append, List.nil_append, List.cons.injEq, HO.ins.injEq, HO.lst.injEq, HO.tup.injEq, true_and, and_true, decide_eq_true_eq, Bool.false_eq_true, ↓reduceIte, Bool.not_true, Bool.not_false, Bool.not_eq_true', decide_eq_false_iff_not, List.set_cons_zero, List.set_cons_succ, and_assoc, scal, dec_int, dec_str, forall_const, implies_true, h1, pcF_get]
      rw [if_neg (by decide)]
      exact qq
    | on c f =>
      refine ⟨_, rfl, a, dx, _, _, rfl, h1, rfl, t, _, rfl, hT, rfl, _, _, rfl, _, _, rfl, _, _, rfl, rfl, ?_⟩
      simp only [rIxD, gSub, rSetL, sDPut, tDGet, tDIn, tDNotIn, wipe, rLenS, tBM, rAppend, rExtend, rIn, cx_K, rIxS, rIxL, rIxT, tRet, tIfS, tTest, tChain, rI, rI0, rU, tC, tVar, tOp, tUn, tCB, tCons, tNil, tSeq, tNext, tB, tNot, tAnd, tOr, tAndV, tOrV, tNotV, tFc, sFc, sFcA, tMt, tCl, tNw, tLst, tTup, tDrop, tAsg, tPar, gName, gCons, gNil, tR1, rEq, rNe, rAdd, rSub, tAug, ipI, L2.start, List.map, List.length, List.replicate, List.append, List.set, exists_eq_left', exists_eq_left, exists_eq_right, exists_eq_right', exists_and_left, exists_and_right, exists_eq, exists_eq', Option.some.injEq, List.getElem?_cons_zero, List.getElem?_cons_succ, V.bl.injEq, V.int.injEq, V.str.injEq, V.ref.injEq, List.cons_append, List.nil_append, List.cons.injEq, HO.ins.injEq, HO.lst.injEq, HO.tup.injEq, true_and, and_true, decide_eq_true_eq, Bool.false_eq_true, ↓reduceIte, Bool.not_true, Bool.not_false, Bool.not_eq_true', decide_eq_false_iff_not, List.set_cons_zero, List.set_cons_succ, and_assoc, scal, dec_int, dec_str, forall_const, implies_true, h1, pcF_get]
      unfold coversP at qq
      dsimp only at qq
      by_cases e : c = b
      · subst e
        simp only [BEq.rfl, Bool.true_and] at qq
        rw [if_pos rfl]
        by_cases e1 : f < x + q.length
        · rw [if_pos (by omega)]
          refine qb qq ?_
          rw [decide_eq_true e1, Bool.and_true]
          by_cases e2 : x ≤ f
          · rw [decide_eq_true e2]
            exact decide_eq_true (by omega)
          · rw [decide_eq_false e2]
            exact decide_eq_false (by omega)
        · rw [if_neg (by omega)]
          refine qb qq ?_
          rw [decide_eq_false e1, Bool.and_false]
      · rw [if_neg (by omega)]
        refine qb qq ?_
        rw [show (c == b) = false from beq_eq_false_iff_ne.mpr e, Bool.false_and]
theorem covers_eq (h : Simulation) (m b x : Nat) : coversP (parcelOf h m) (placeOfParcel h m) b x = Xb08.covers h m b x := rfl
/-! ## places as data -/
def plaD : Xb08.Place → List PyData
  | .notFed => [.int 0, .int 0, .int 0]
  | .on b x => [.int 1, .int b, .int x]
  | .chute k => [.int 2, .int k, .int 0]
theorem dp_pla {K : PySem.W.Frag} {H : Hp} (pl : Xb08.Place) : DpAll K H (plaV pl) (plaD pl) := by
  cases pl <;> exact .cons (.int _) (.cons (.int _) (.cons (.int _) .nil))
theorem pla_shaped (pl : Xb08.Place) : SeqAt.shaped (.tuple (plaD pl)) = true := by cases pl <;> rfl
theorem pla_eqv (a b : Xb08.Place) : PyData.eqv (.tuple (plaD a)) (.tuple (plaD b)) = decide (a = b) := by
  have z : ∀ i j : Nat, ((i : Int) == (j : Int)) = decide (i = j) := fun i j => by
    by_cases e : i = j
    · subst e; simp
    · rw [decide_eq_false e]
      exact beq_eq_false_iff_ne.mpr (by omega)
  cases a with
  | notFed => cases b <;> rfl
  | on c f =>
    cases b with
    | notFed => rfl
    | on d k =>
      show ((1 : Int) == 1 && ((c : Int) == (d : Int) && ((f : Int) == (k : Int) && true))) = _
      rw [z, z]
      by_cases e1 : c = d <;> by_cases e2 : f = k <;> simp [e1, e2]
    | chute k => rfl
  | chute k =>
    cases b with
    | notFed => rfl
    | on d k => rfl
    | chute j =>
      show ((2 : Int) == 2 && ((k : Int) == (j : Int) && ((0 : Int) == 0 && true))) = _
      rw [z]
      by_cases e : k = j <;> simp [e]
/-! ## the parcels at a place, of a kind -/
theorem FloorAt.parGet {H R : Hp} {F : FL} {h : Simulation} (f : FloorAt g H R F h) {i : Nat} {a : Addr} (ha : F.ps[i]? = some a) : i < h.positions_.length ∧ PcAt g H a (parcelOf h i) (placeOfParcel h i) (h.moved.contains i) := by
  have hl := (List.getElem?_eq_some_iff.mp ha).1
  have hn : i < h.positions_.length := by
    have := f.par.len
    rw [List.length_range] at this
    omega
  exact ⟨hn, f.par.at_ i a i ha (List.getElem?_range hn)⟩
theorem FloorAt.psLen {H R : Hp} {F : FL} {h : Simulation} (f : FloorAt g H R F h) : F.ps.length = h.positions_.length := by
  have := f.par.len
  rwa [List.length_range] at this
theorem FloorAt.nLe {H R : Hp} {F : FL} {h : Simulation} (f : FloorAt g H R F h) : h.positions_.length ≤ 40 := by
  rw [← f.ok.len]
  exact f.ok.pl.lim.pa
theorem fm_filter (n : Nat) (p : Nat → Bool) : (List.range n).filterMap (fun i => if p i = true then some (V.int i) else none) = ((List.range n).filter p).map iV := by
  induction n with
  | zero => rfl
  | succ n ih =>
    rw [range_fm, ih, List.range_succ, List.filter_append, List.map_append]
    congr 1
    cases e : p n <;> simp [e, iV]
def sp_Floor_at_place (g : GG) : Sp := fun vs H Q _ => ∃ (R : Hp) (F : FL) (h : Simulation) (t : Addr) (pl : Xb08.Place), vs = [.ref F.fl, .ref t] ∧ FloorAt g H R F h ∧ PlT g H t (plaV pl) ∧
  ∀ H' p, Same H H' → H p = none → H' p = some (.lst (((List.range h.positions_.length).filter fun i => decide (placeOfParcel h i = pl)).map iV)) → Q (.ref p) H'
theorem ok_Floor_at_place (T : Tx g) : Mt CX0 g 1 "Floor" "at_place" ["self", "place"] (sp_Floor_at_place g) := by
  refine mt0 (k := 0) T.cl_Floor T.me_Floor_at_place T.df_Floor_at_place sc_Floor_at_place (fun _ _ _ _ _ _ us hl => match us, hl with | [_, _], _ => rfl) ?_ ?_
  · rintro vs H Q E ⟨R, F, h, t, pl, rfl, _⟩
    rfl
  · rintro cdv A outer s H vs Q E hr ⟨R, F, h, t, pl, rfl, f, ht, q⟩
    refine ⟨_, (pss_one (ps_ret (pe_lc (own := [("number", 2), ("parcel", 3)]) (g := (gTup g.K 2 (gCons (gName 2) (gCons (gName 3) gNil)))) (tt := (tTest (tOp (rEqD g.K) (tFc (cF g "Parcel") "place" (tVar 3)) (tVar 1)))) (te := (tVar 2)) rfl sc_Floor_at_place.nd (pi_enum (by rfl) T.fr_enumerate (pa_cons (pe_fc T.cl_Floor T.na_Floor_parcels (pv 0)) pa_nil)) (blkOk_by (N := ["self", "place", "number", "parcel"]) (sc := defScope s_Floor_at_place) (by decide +kernel)) (fun _ _ _ _ _ => by exact (pg_tup rfl (pgs_cons (pg_name (i := 2) sc_Floor_at_place.nd rfl (.inl rfl)) (pgs_cons (pg_name (i := 3) sc_Floor_at_place.nd rfl (.inl rfl)) pgs_nil)))) (fun _ _ _ _ _ => by exact pts_one (pt_cmpR (op_eqD (by exact hr.units)) (pe_fc T.cl_Parcel T.na_Parcel_place (pv 3)) (pv 1) (nomark _))) (fun _ _ _ _ _ => by exact (pv 2))))), ?_⟩
    obtain ⟨dx, hf⟩ := f.flo
    refine ⟨_, rfl, _, dx, _, _, rfl, hf, rfl, F.pc, F.ps.map .ref, rfl, .inl (.inl f.pcs), fun D hD => ?_⟩
    refine lc_fm (walk_enum (xs := F.ps.map .ref)) (fun i => if decide (placeOfParcel h i = pl) = true then some (V.int i) else none) hD (by rw [List.length_map, f.psLen]; have := f.nLe; omega) (fun H' s => .inl (.inl (s _ _ f.pcs))) ?_ ?_
    · rintro i x H1 H' Qk Qn hi s1 ⟨T1, v1, v2, rfl, hT1, rfl, e1, e2⟩ hk hn
      cases e1
      rw [List.length_map] at hi
      change (F.ps.map V.ref)[i]? = some v2 at e2
      rw [List.getElem?_map, List.getElem?_eq_getElem hi] at e2
      cases e2
      have s2 : Same H1 (upd H1 T1 (.tup [.int (i : Nat), .ref F.ps[i]])) := Same.new hT1
      obtain ⟨hlt, dx1, t1, k1, k2⟩ := ((f.mono s1).mono s2).parGet (List.getElem?_eq_getElem hi)
      have k3 := (ht.st (Sta.of_same (s1.trans s2)) NoT.none).sq
      refine ⟨T1, _, rfl, .inl (.inl upd_same), rfl, _, _, rfl, _, _, rfl, rfl, rfl, ?_⟩
      refine ⟨_, rfl, _, dx1, _, _, rfl, k1, rfl, _, rfl, _, _, .tup k2.sq (dp_pla _), .tup k3 (dp_pla _), pla_shaped _, pla_shaped _, _, rfl, ?_⟩
      rw [pla_eqv]
      by_cases e : placeOfParcel h i = pl
      · rw [decide_eq_true e]
        exact iteT ⟨_, rfl, hk _ _ s2 (by rw [decide_eq_true e]; rfl)⟩
      · rw [decide_eq_false e]
        exact iteF (hn _ s2 (by rw [decide_eq_false e]; rfl))
    · intro H' s1 hD'
      rw [List.length_map, f.psLen, fm_filter] at hD'
      exact q H' D s1 hD hD'
def kindN : Xb08.Place → Nat
  | .notFed => 0
  | .on _ _ => 1
  | .chute _ => 2
theorem kind_at (pl : Xb08.Place) : (plaV pl)[0]? = some (.int (kindN pl)) := by cases pl <;> rfl
def sp_Floor_of_kind (g : GG) : Sp := fun vs H Q _ => ∃ (R : Hp) (F : FL) (h : Simulation) (k : Nat), vs = [.ref F.fl, .int k] ∧ FloorAt g H R F h ∧
  ∀ H' p, Same H H' → H p = none → H' p = some (.lst (((List.range h.positions_.length).filter fun i => decide (kindN (placeOfParcel h i) = k)).map iV)) → Q (.ref p) H'
theorem ok_Floor_of_kind (T : Tx g) : Mt CX0 g 1 "Floor" "of_kind" ["self", "kind"] (sp_Floor_of_kind g) := by
  refine mt0 (k := 0) T.cl_Floor T.me_Floor_of_kind T.df_Floor_of_kind sc_Floor_of_kind (fun _ _ _ _ _ _ us hl => match us, hl with | [_, _], _ => rfl) ?_ ?_
  · rintro vs H Q E ⟨R, F, h, k, rfl, _⟩
    rfl
  · rintro cdv A outer s H vs Q E hr ⟨R, F, h, k, rfl, f, q⟩
    refine ⟨_, (pss_one (ps_ret (pe_lc (own := [("number", 2), ("parcel", 3)]) (g := (gTup g.K 2 (gCons (gName 2) (gCons (gName 3) gNil)))) (tt := (tTest (tOp rEq (tOp (rIxT g.K) (tFc (cF g "Parcel") "place" (tVar 3)) (tC (.int 0))) (tVar 1)))) (te := (tVar 2)) rfl sc_Floor_of_kind.nd (pi_enum (by rfl) T.fr_enumerate (pa_cons (pe_fc T.cl_Floor T.na_Floor_parcels (pv 0)) pa_nil)) (blkOk_by (N := ["self", "kind", "number", "parcel"]) (sc := defScope s_Floor_of_kind) (by decide +kernel)) (fun _ _ _ _ _ => by exact (pg_tup rfl (pgs_cons (pg_name (i := 2) sc_Floor_of_kind.nd rfl (.inl rfl)) (pgs_cons (pg_name (i := 3) sc_Floor_of_kind.nd rfl (.inl rfl)) pgs_nil)))) (fun _ _ _ _ _ => by exact pts_one (pt_cmpR op_eq (pe_ix ix_tup (pe_fc T.cl_Parcel T.na_Parcel_place (pv 3)) pe_int (fun _ _ => rfl)) (pv 1) (nomark _))) (fun _ _ _ _ _ => by exact (pv 2))))), ?_⟩
    obtain ⟨dx, hf⟩ := f.flo
    refine ⟨_, rfl, _, dx, _, _, rfl, hf, rfl, F.pc, F.ps.map .ref, rfl, .inl (.inl f.pcs), fun D hD => ?_⟩
    refine lc_fm (walk_enum (xs := F.ps.map .ref)) (fun i => if decide (kindN (placeOfParcel h i) = k) = true then some (V.int i) else none) hD (by rw [List.length_map, f.psLen]; have := f.nLe; omega) (fun H' s => .inl (.inl (s _ _ f.pcs))) ?_ ?_
    · rintro i x H1 H' Qk Qn hi s1 ⟨T1, v1, v2, rfl, hT1, rfl, e1, e2⟩ hk hn
      cases e1
      rw [List.length_map] at hi
      change (F.ps.map V.ref)[i]? = some v2 at e2
      rw [List.getElem?_map, List.getElem?_eq_getElem hi] at e2
      cases e2
      have s2 : Same H1 (upd H1 T1 (.tup [.int (i : Nat), .ref F.ps[i]])) := Same.new hT1
      obtain ⟨hlt, dx1, t1, k1, k2⟩ := ((f.mono s1).mono s2).parGet (List.getElem?_eq_getElem hi)
      refine ⟨T1, _, rfl, .inl (.inl upd_same), rfl, _, _, rfl, _, _, rfl, rfl, rfl, ?_⟩
      refine ⟨_, rfl, _, dx1, _, _, rfl, k1, rfl, t1, _, 0, _, rfl, rfl, k2.sq, atI_nat (j := 0) (kind_at _), _, rfl, rfl, _, rfl, ?_⟩
      by_cases e : kindN (placeOfParcel h i) = k
      · rw [decide_eq_true (show V.int (kindN (placeOfParcel h i)) = V.int k by rw [e])]
        exact iteT ⟨_, rfl, hk _ _ s2 (by rw [decide_eq_true e]; rfl)⟩
      · rw [decide_eq_false (show ¬ V.int (kindN (placeOfParcel h i)) = V.int k from fun z => e (by have := V.int.inj z; omega))]
        exact iteF (hn _ s2 (by rw [decide_eq_false e]; rfl))
    · intro H' s1 hD'
      rw [List.length_map, f.psLen, fm_filter] at hD'
      exact q H' D s1 hD hD'
end Tote
/-! # floors.py: room, freedom, goals -/
namespace Tote
open PySem PySem.Spec PyProof.Rows L2 Tq
open SX (S S_inj S_len S_cat)
open Xb08 (Simulation Goal placeOfParcel parcelOf contentsOf roomOf isFree canGo)
variable {g : GG}
theorem range_getD {α : Type} (l : List α) (d : α) : (List.range l.length).map (fun i => l.getD i d) = l := by
  refine List.ext_getElem? fun i => ?_
  rw [List.getElem?_map]
  by_cases hi : i < l.length
  · rw [List.getElem?_range hi, List.getElem?_eq_getElem hi]
    simp [List.getD, List.getElem?_eq_getElem hi]
  · rw [List.getElem?_eq_none (by simpa using hi), List.getElem?_eq_none (by simpa using hi)]
    rfl
theorem filter_range {α : Type} (l : List α) (d : α) (p : α → Bool) : ((List.range l.length).filter fun i => p (l.getD i d)).length = (l.filter p).length := by
  have e : l.filter p = ((List.range l.length).map (fun i => l.getD i d)).filter p := by rw [range_getD]
  rw [e, List.filter_map, List.length_map]
  rfl
theorem contents_eq (h : Simulation) (k : Nat) : ((List.range h.positions_.length).filter fun i => decide (placeOfParcel h i = .chute k)).length = contentsOf h k := by
  have := filter_range h.positions_ .notFed (fun p => decide (p = .chute k))
  unfold contentsOf
  rw [show (fun p : Xb08.Place => p == .chute k) = fun p => decide (p = .chute k) from funext fun p => by rfl]
  exact this
def sp_Floor_has_room (g : GG) : Sp := fun vs H Q _ => ∃ (R : Hp) (F : FL) (h : Simulation) (k : Nat), vs = [.ref F.fl, .int k] ∧ FloorAt g H R F h ∧ k < h.plant.chutes.length ∧ ∀ H', Same H H' → Q (.bl (decide (contentsOf h k < roomOf h k))) H'
theorem ok_Floor_has_room (T : Tx g) : Mt CX0 g 2 "Floor" "has_room" ["self", "chute"] (sp_Floor_has_room g) := by
  refine mt0 (k := 1) T.cl_Floor T.me_Floor_has_room T.df_Floor_has_room sc_Floor_has_room (fun _ _ _ _ _ _ us hl => match us, hl with | [_, _], _ => rfl) ?_ ?_
  · rintro vs H Q E ⟨R, F, h, k, rfl, _⟩
    rfl
  · rintro cdv A outer s H vs Q E hr ⟨R, F, h, k, rfl, f, hk, q⟩
    refine ⟨_, (pss_one (ps_ret (pe_cmpR op_lt (pe_callB call_lenS (by rfl) T.fr_len bt_len (pa_cons (pe_mt (ok_Floor_at_place T) hr (by decide) (pv 0) (pa_cons (pe_tup (pa_cons (C8.pe_gc rfl T.in_CHUTE) (pa_cons (pv 1) (pa_cons pe_int pa_nil)))) pa_nil)) pa_nil)) (pe_ix ix_list (pe_fc T.cl_Plant T.na_Plant_rooms (pe_fc T.cl_Floor T.na_Floor_plant (pv 0))) (pv 1) (fun _ _ => rfl)) (nomark _)))), ?_⟩
    obtain ⟨dx, hf⟩ := f.flo
    simp only [rIxD, gSub, rSetL, sDPut, tDGet, tDIn, tDNotIn, wipe, rLenS, tBM, rAppend, rExtend, rIn, cx_K, rIxS, rIxL, rIxT, tRet, tIfS, tTest, tChain, rI, rI0, rU, tC, tVar, tOp, tUn, tCB, tCons, tNil, tSeq, tNext, tB, tNot, tAnd, tOr, tAndV, tOrV, tNotV, tFc, sFc, sFcA, tMt, tCl, tNw, tLst, tTup, tDrop, tAsg, tPar, gName, gCons, gNil, tR1, rEq, rNe, rAdd, rSub, tAug, ipI, L2.start, List.map, List.length, List.replicate, List.append, List.set, exists_eq_left', exists_eq_left, exists_eq_right, exists_eq_right', exists_and_left, exists_and_right, exists_eq, exists_eq', Option.some.injEq, List.getElem?_cons_zero, List.getElem?_cons_succ, V.bl.injEq, V.int.injEq, V.str.injEq, V.ref.injEq, List.cons_append, List.nil_append, List.cons.injEq, HO.ins.injEq, HO.lst.injEq, HO.tup.injEq, true_and, and_true, decide_eq_true_eq, Bool.false_eq_true, ↓reduceIte, Bool.not_true, Bool.not_false, Bool.not_eq_true', decide_eq_false_iff_not, List.set_cons_zero, List.set_cons_succ, and_assoc, scal, dec_int, dec_str, forall_const, implies_true, hf, flF_get]
    refine ⟨by decide, fun t ht => ?_⟩
    have s1 := Same.new (o := .tup [.int 2, .int k, .int 0]) ht
    refine ⟨R, F, h, t, .chute k, rfl, f.mono s1, .inl upd_same, fun H2 p s2 hp0 hp => ?_⟩
    have f2 := (f.mono s1).mono s2
    obtain ⟨dx2, hf2⟩ := f2.flo
    obtain ⟨px, pi⟩ := (f2.pla.same f2.same).ins
    have hro : RoAt H2 F.L.ro h.plant.chutes := (f2.pla.same f2.same).ro
    simp only [rIxD, gSub, rSetL, sDPut, tDGet, tDIn, tDNotIn, wipe, rLenS, tBM, rAppend, rExtend, rIn, cx_K, rIxS, rIxL, rIxT, tRet, tIfS, tTest, tChain, rI, rI0, rU, tC, tVar, tOp, tUn, tCB, tCons, tNil, tSeq, tNext, tB, tNot, tAnd, tOr, tAndV, tOrV, tNotV, tFc, sFc, sFcA, tMt, tCl, tNw, tLst, tTup, tDrop, tAsg, tPar, gName, gCons, gNil, tR1, rEq, rNe, rAdd, rSub, tAug, ipI, L2.start, List.map, List.length, List.replicate, List.append, List.set, exists_eq_left', exists_eq_left, exists_eq_right, exists_eq_right', exists_and_left, exists_and_right, exists_eq, exists_eq', Option.some.injEq, List.getElem?_cons_zero, List.getElem?_cons_succ, V.bl.injEq, V.int.injEq, V.str.injEq, V.ref.injEq, List.cons_append, List.nil_append, List.cons.injEq, HO.ins.injEq, HO.lst.injEq, HO.tup.injEq, true_and, and_true, decide_eq_true_eq, Bool.false_eq_true, ↓reduceIte, Bool.not_true, Bool.not_false, Bool.not_eq_true', decide_eq_false_iff_not, List.set_cons_zero, List.set_cons_succ, and_assoc, scal, dec_int, dec_str, forall_const, implies_true, hf2, flF_get, pi, PL.fs, plF_get]
    refine ⟨_, .inl (.inl (.inl hp)), _, .inl (.inl hro), .int (roomOf h k), atI_nat ?_, _, rfl, ?_⟩
    · unfold roomOf
      rw [List.getElem?_map, List.getElem?_eq_getElem hk]
      rfl
    · refine qb (q H2 (s1.trans s2)) ?_
      rw [List.length_map, contents_eq]
      by_cases e : contentsOf h k < roomOf h k
      · rw [decide_eq_true e]
        exact decide_eq_true (by omega)
      · rw [decide_eq_false e]
        exact decide_eq_false (by omega)
theorem fm_some {α : Type} (n : Nat) (f : Nat → α) : (List.range n).filterMap (fun i => some (f i)) = (List.range n).map f := by
  induction n with
  | zero => rfl
  | succ n ih =>
    rw [range_fm, ih, List.range_succ, List.map_append]
    rfl
def sp_Floor_is_free (g : GG) : Sp := fun vs H Q _ => ∃ (R : Hp) (F : FL) (h : Simulation) (m b x : Nat), vs = [.ref F.fl, .int m, .int b, .int x] ∧ FloorAt g H R F h ∧ ∀ H', Same H H' → Q (.bl (isFree h m b x)) H'
theorem ok_Floor_is_free (T : Tx g) : Mt CX0 g 2 "Floor" "is_free" ["self", "number", "belt", "position"] (sp_Floor_is_free g) := by
  refine mt0 (k := 1) T.cl_Floor T.me_Floor_is_free T.df_Floor_is_free sc_Floor_is_free (fun _ _ _ _ _ _ us hl => match us, hl with | [_, _, _, _], _ => rfl) ?_ ?_
  · rintro vs H Q E ⟨R, F, h, m, b, x, rfl, _⟩
    rfl
  · rintro cdv A outer s H vs Q E hr ⟨R, F, h, m, b, x, rfl, f, q⟩
    refine ⟨_, (pss_one (ps_ret (pe_not (pe_callB (cr_any rfl) (by rfl) T.fr_any bt_any (pa_cons (pe_lc (own := [("other", 4), ("parcel", 5)]) (g := (gTup g.K 2 (gCons (gName 4) (gCons (gName 5) gNil)))) rfl sc_Floor_is_free.nd (pi_enum (by rfl) T.fr_enumerate (pa_cons (pe_fc T.cl_Floor T.na_Floor_parcels (pv 0)) pa_nil)) (blkOk_by (N := ["self", "number", "belt", "position", "other", "parcel"]) (sc := defScope s_Floor_is_free) (by decide +kernel)) (fun _ _ _ _ _ => by exact (pg_tup rfl (pgs_cons (pg_name (i := 4) sc_Floor_is_free.nd rfl (.inl rfl)) (pgs_cons (pg_name (i := 5) sc_Floor_is_free.nd rfl (.inl rfl)) pgs_nil)))) (fun _ _ _ _ _ => by exact pts_nil) (fun _ _ _ _ _ => by exact (pe_and (pe_mt (ok_Parcel_covers T) hr (by decide) (pv 5) (pa_cons (pv 2) (pa_cons (pv 3) pa_nil))) (pe_one (pe_cmpR op_ne (pv 4) (pv 1) (nomark _)))))) pa_nil))))), ?_⟩
    obtain ⟨dx, hf⟩ := f.flo
    refine ⟨_, rfl, _, dx, _, _, rfl, hf, rfl, F.pc, F.ps.map .ref, rfl, .inl (.inl f.pcs), fun D hD => ?_⟩
    refine lc_fm (walk_enum (xs := F.ps.map .ref)) (fun i => some (V.bl (Xb08.covers h i b x && !decide (i = m)))) hD (by rw [List.length_map, f.psLen]; have := f.nLe; omega) (fun H' s => .inl (.inl (s _ _ f.pcs))) ?_ ?_
    · rintro i y H1 H' Qk Qn hi s1 ⟨T1, v1, v2, rfl, hT1, rfl, e1, e2⟩ hk hn
      cases e1
      rw [List.length_map] at hi
      change (F.ps.map V.ref)[i]? = some v2 at e2
      rw [List.getElem?_map, List.getElem?_eq_getElem hi] at e2
      cases e2
      have s2 : Same H1 (upd H1 T1 (.tup [.int (i : Nat), .ref F.ps[i]])) := Same.new hT1
      obtain ⟨hlt, hpc⟩ := ((f.mono s1).mono s2).parGet (List.getElem?_eq_getElem hi)
      obtain ⟨dx1, t1, k1, k2⟩ := hpc
      refine ⟨T1, _, rfl, .inl (.inl upd_same), rfl, _, _, rfl, _, _, rfl, rfl, rfl, yesI ?_⟩
      refine ⟨_, rfl, _, dx1, _, rfl, k1, rfl, _, rfl, _, rfl, F.ps[i], _, _, _, b, x, rfl, ⟨dx1, t1, k1, k2⟩, _, rfl, ?_⟩
      rw [covers_eq]
      cases hc : Xb08.covers h i b x with
      | false => exact iteF (hk _ _ s2 (by rw [hc]; rfl))
      | true =>
        refine iteT ⟨_, rfl, _, rfl, rfl, ?_⟩
        rw [dec_int]
        refine hk _ _ s2 ?_
        rw [hc]
        by_cases e : i = m
        · subst e
          simp
        · rw [decide_eq_false e, show ((i : Int) == (m : Int)) = false from beq_eq_false_iff_ne.mpr (by omega)]
          rfl
    · intro H' s1 hD'
      rw [List.length_map, f.psLen, fm_some] at hD'
      refine ⟨D, (List.range h.positions_.length).map fun i => Xb08.covers h i b x && !decide (i = m), rfl, .inl (.inl ?_), _, rfl, qb (q H' s1) ?_⟩
      · rw [hD', List.map_map]
        rfl
      · unfold isFree
        rw [List.any_map]
        induction (List.range h.positions_.length) with
        | nil => rfl
        | cons n l ih =>
          rw [List.any_cons, List.all_cons, ← ih, Bool.not_or]
          congr 1
          show (!(Xb08.covers h n b x && !decide (n = m))) = _
          cases Xb08.covers h n b x <;> by_cases e : n = m <;> simp [e]
theorem goalT_pla (gl : Goal) : goalT gl = plaV (Xb08.putAt gl) := by cases gl <;> rfl
theorem canGo_belt (h : Simulation) (m b x : Nat) (hl : (parcelOf h m).length ≤ x + 1) : ((List.range (parcelOf h m).length).map fun j => isFree h m b (x + 1 - (parcelOf h m).length + j)).all id = (List.range (parcelOf h m).length).all fun i => isFree h m b (x - i) := by
  rw [Bool.eq_iff_iff, List.all_eq_true, List.all_eq_true]
  constructor
  · intro H i hi
    have hi := List.mem_range.mp hi
    have := H (isFree h m b (x - i)) (List.mem_map.mpr ⟨(parcelOf h m).length - 1 - i, List.mem_range.mpr (by omega), by congr 1; omega⟩)
    exact this
  · intro H y hy
    obtain ⟨j, hj, rfl⟩ := List.mem_map.mp hy
    have hj := List.mem_range.mp hj
    have := H ((parcelOf h m).length - 1 - j) (List.mem_range.mpr (by omega))
    rw [show x - ((parcelOf h m).length - 1 - j) = x + 1 - (parcelOf h m).length + j by omega] at this
    exact this
def sp_Floor_can_go (g : GG) : Sp := fun vs H Q _ => ∃ (R : Hp) (F : FL) (h : Simulation) (m : Nat) (t : Addr) (gl : Goal), vs = [.ref F.fl, .int m, .ref t] ∧ FloorAt g H R F h ∧ PlT g H t (goalT gl) ∧ GoalOk h.plant gl ∧ m < h.positions_.length ∧ ∀ H', Same H H' → Q (.bl (canGo h m gl)) H'
theorem ok_Floor_can_go (T : Tx g) : Mt CX0 g 3 "Floor" "can_go" ["self", "number", "goal"] (sp_Floor_can_go g) := by
  refine mt0 (k := 2) T.cl_Floor T.me_Floor_can_go T.df_Floor_can_go sc_Floor_can_go (fun _ _ _ _ _ _ us hl => match us, hl with | [_, _, _], _ => rfl) ?_ ?_
  · rintro vs H Q E ⟨R, F, h, m, t, gl, rfl, _⟩
    rfl
  · rintro cdv A outer s H vs Q E hr ⟨R, F, h, m, t, gl, rfl, f, ht, hg, hm, q⟩
    refine ⟨_, (pss_cons (ps_asg (pv 2) (pg_tup rfl (pgs_cons (pg_name (i := 3) sc_Floor_can_go.nd rfl (.inl rfl)) (pgs_cons (pg_name (i := 4) sc_Floor_can_go.nd rfl (.inr rfl)) (pgs_cons (pg_name (i := 5) sc_Floor_can_go.nd rfl (.inl rfl)) pgs_nil))))) (pss_cons (ps_if (pt_cmpR op_eq (pv 3) (C8.pe_gc rfl T.in_CHUTE) (nomark _)) (pss_one (ps_ret (pe_mt (ok_Floor_has_room T) hr (by decide) (pv 0) (pa_cons (pv 4) pa_nil)))) pss_nil) (pss_cons (ps_set (i := 6) sc_Floor_can_go.nd rfl (.inl rfl) (pe_op op_sub (pe_op op_add (pv 5) pe_int) (pe_fc T.cl_Parcel T.na_Parcel_length (pe_ix ix_list (pe_fc T.cl_Floor T.na_Floor_parcels (pv 0)) (pv 1) (fun _ _ => rfl))))) (pss_one (ps_ret (pe_and (pe_cmpR op_ge (pv 6) pe_int (nomark _)) (pe_one (pe_callB (cr_all rfl) (by rfl) T.fr_all bt_all (pa_cons (pe_lc (own := [("at", 7)]) (g := (gName 7)) (te := (tMt (cF g "Floor") "is_free" (sp_Floor_is_free g) E0 (tVar 0) (tCons (tVar 1) (tCons (tVar 4) (tCons (tVar 7) tNil))))) rfl sc_Floor_can_go.nd (pi_range2 rfl T.fr_range (pa_cons (pv 6) (pa_cons (pe_op op_add (pv 5) pe_int) pa_nil))) (blkOk_by (N := ["self", "number", "goal", "kind", "target", "position", "first", "at"]) (sc := defScope s_Floor_can_go) (by decide +kernel)) (fun _ _ _ _ _ => (pg_name (i := 7) sc_Floor_can_go.nd rfl (.inl rfl))) (fun _ _ _ _ _ => pts_nil) (fun _ _ _ _ _ => (pe_mt (ok_Floor_is_free T) hr (by decide) (pv 0) (pa_cons (pv 1) (pa_cons (pv 4) (pa_cons (pv 7) pa_nil)))))) pa_nil))))))))), ?_⟩
    obtain ⟨dx, hf⟩ := f.flo
    have hT := ht.sq
    cases gl with
    | chute k =>
      refine ⟨_, rfl, t, _, rfl, hT, rfl, _, _, rfl, _, _, rfl, _, _, rfl, rfl, ?_⟩
      simp only [rIxD, gSub, rSetL, sDPut, tDGet, tDIn, tDNotIn, wipe, rLenS, tBM, rAppend, rExtend, rIn, cx_K, rIxS, rIxL, rIxT, tRet, tIfS, tTest, tChain, rI, rI0, rU, tC, tVar, tOp, tUn, tCB, tCons, tNil, tSeq, tNext, tB, tNot, tAnd, tOr, tAndV, tOrV, tNotV, tFc, sFc, sFcA, tMt, tCl, tNw, tLst, tTup, tDrop, tAsg, tPar, gName, gCons, gNil, tR1, rEq, rNe, rAdd, rSub, tAug, ipI, L2.start, List.map, List.length, List.replicate, List.append, List.set, exists_eq_left', exists_eq_left, exists_eq_right, exists_eq_right', exists_and_left, exists_and_right, exists_eq, exists_eq', Option.some.injEq, List.getElem?_cons_zero, List.getElem?_cons_succ, V.bl.injEq, V.int.injEq, V.str.injEq, V.ref.injEq, List.cons_append, List.nil_append, List.cons.injEq, HO.ins.injEq, HO.lst.injEq, HO.tup.injEq, true_and, and_true, decide_eq_true_eq, Bool.false_eq_true, ↓reduceIte, Bool.not_true, Bool.not_false, Bool.not_eq_true', decide_eq_false_iff_not, List.set_cons_zero, List.set_cons_succ, and_assoc, scal, dec_int, dec_str, forall_const, implies_true, hf, flF_get]
      exact ⟨R, F, h, k, rfl, f, hg, q⟩
    | belt b x =>
      refine ⟨_, rfl, t, _, rfl, hT, rfl, _, _, rfl, _, _, rfl, _, _, rfl, rfl, ?_⟩
      have hps : m < F.ps.length := by rw [f.psLen]; exact hm
      obtain ⟨hlt, dx1, t1, k1, k2⟩ := f.parGet (List.getElem?_eq_getElem hps)
      simp only [rIxD, gSub, rSetL, sDPut, tDGet, tDIn, tDNotIn, wipe, rLenS, tBM, rAppend, rExtend, rIn, cx_K, rIxS, rIxL, rIxT, tRet, tIfS, tTest, tChain, rI, rI0, rU, tC, tVar, tOp, tUn, tCB, tCons, tNil, tSeq, tNext, tB, tNot, tAnd, tOr, tAndV, tOrV, tNotV, tFc, sFc, sFcA, tMt, tCl, tNw, tLst, tTup, tDrop, tAsg, tPar, gName, gCons, gNil, tR1, rEq, rNe, rAdd, rSub, tAug, ipI, L2.start, List.map, List.length, List.replicate, List.append, List.set, exists_eq_left', exists_eq_left, exists_eq_right, exists_eq_right', exists_and_left, exists_and_right, exists_eq, exists_eq', Option.some.injEq, List.getElem?_cons_zero, List.getElem?_cons_succ, V.bl.injEq, V.int.injEq, V.str.injEq, V.ref.injEq, List.cons_append, List.nil_append, List.cons.injEq, HO.ins.injEq, HO.lst.injEq, HO.tup.injEq, true_and, and_true, decide_eq_true_eq, Bool.false_eq_true, ↓reduceIte, Bool.not_true, Bool.not_false, Bool.not_eq_true', decide_eq_false_iff_not, List.set_cons_zero, List.set_cons_succ, and_assoc, scal, dec_int, dec_str, forall_const, implies_true, hf, flF_get]
      rw [if_neg (by decide)]
      refine ⟨_, .inl (.inl f.pcs), .ref F.ps[m], atI_nat (by rw [List.getElem?_map, List.getElem?_eq_getElem hps]; rfl), _, rfl, _, _, k1, _, rfl, _, rfl, ?_⟩
      have hcan : canGo h m (.belt b x) = (decide ((parcelOf h m).length ≤ x + 1) && (List.range (parcelOf h m).length).all fun i => isFree h m b (x - i)) := rfl
      rw [hcan] at q
      by_cases hl : (parcelOf h m).length ≤ x + 1
      · rw [if_pos (by omega)]
        rw [decide_eq_true hl, Bool.true_and] at q
        have hx40 : x < 100 := by
          have h2 := hg.2
          have h1 := hg.1
          unfold Xb08.beltLength at h2
          rw [List.getElem?_eq_getElem h1] at h2
          have := (f.ok.pl.pos _ (List.getElem_mem h1)).2
          simp at h2
          omega
        have en : ((x : Int) + 1 - ((x : Int) + 1 - ((parcelOf h m).length : Nat))).toNat = (parcelOf h m).length := by omega
        refine ⟨_, rfl, _, rfl, _, _, rfl, rfl, _, _, rfl, ⟨by omega, by omega, by omega, by omega⟩, fun D hD => ?_⟩
        refine lc_fm walk_range (fun i => some (V.bl (isFree h m b (x + 1 - (parcelOf h m).length + i)))) hD (by omega) (fun _ _ => trivial) ?_ ?_
        · rintro i y H1 H' Qk Qn hi s1 ⟨rfl, rfl⟩ hk hn
          rw [en] at hi
          obtain ⟨dx2, hf2⟩ := (f.mono s1).flo
          refine ⟨rfl, yesI ?_⟩
          refine ⟨_, rfl, _, dx2, _, rfl, hf2, rfl, _, rfl, _, rfl, _, rfl, R, F, h, m, b, x + 1 - (parcelOf h m).length + i, ?_, f.mono s1, fun H2 s2 => hk _ _ s2 rfl⟩
          dsimp only
          rw [show (x : Int) + 1 - ((parcelOf h m).length : Nat) + (i : Nat) = ((x + 1 - (parcelOf h m).length + i : Nat) : Int) by omega]
        · intro H' s1 hD'
          rw [en, fm_some] at hD'
          refine ⟨D, (List.range (parcelOf h m).length).map fun j => isFree h m b (x + 1 - (parcelOf h m).length + j), rfl, .inl (.inl ?_), qb (q H' s1) (canGo_belt h m b x hl)⟩
          rw [hD', List.map_map]
          rfl
      · rw [if_neg (by omega)]
        rw [decide_eq_false hl, Bool.false_and] at q
        exact q H (.refl H)
end Tote
/-! # floors.py: the parcels on a belt, from its end on -/
namespace Tote
open PySem PySem.Spec PyProof.Rows L2 Tq
open SX (S S_inj S_len S_cat)
open Xb08 (Simulation Goal placeOfParcel parcelOf contentsOf roomOf isFree canGo parcelsOnBelt)
variable {g : GG}
/-- where a parcel's front is, on a belt -/
def frontOn (h : Simulation) (b i : Nat) : Option Nat := match placeOfParcel h i with
  | .on c x => if c = b then some x else none
  | _ => none
/-- two lists that fall by their first numbers and hold the same are one -/
theorem falls_uniq : ∀ {l m : List (Int × Int)}, l.Pairwise (fun a b => a.1 < b.1) → m.Pairwise (fun a b => a.1 < b.1) → l.Perm m → l = m
  | [], m, _, _, h => (List.Perm.eq_nil h.symm).symm
  | x :: l, [], _, _, h => absurd h.length_eq (by simp)
  | x :: l, y :: m, hl, hm, h => by
    obtain ⟨hl1, hl2⟩ := List.pairwise_cons.mp hl
    obtain ⟨hm1, hm2⟩ := List.pairwise_cons.mp hm
    have e : x = y := by
      rcases List.mem_cons.mp (h.mem_iff.mp List.mem_cons_self) with e | hx
      · exact e
      · rcases List.mem_cons.mp (h.mem_iff.mpr (List.mem_cons_self (a := y) (l := m))) with e | hy
        · exact e.symm
        · have h1 := hm1 x hx
          have h2 := hl1 y hy
          omega
    subst e
    rw [falls_uniq hl2 hm2 h.cons_inv]
theorem SimOk.front_one {h : Simulation} (ok : SimOk h) {b i j x : Nat} (hi : frontOn h b i = some x) (hj : frontOn h b j = some x) : i = j := by
  have z : ∀ i, frontOn h b i = some x → h.positions_[i]? = some (.on b x) := by
    intro i hi
    unfold frontOn at hi
    cases e : placeOfParcel h i with
    | notFed => rw [e] at hi; cases hi
    | chute k => rw [e] at hi; cases hi
    | on c y =>
      rw [e] at hi
      dsimp only at hi
      split at hi
      · rename_i hc
        cases hi
        subst hc
        unfold placeOfParcel List.getD at e
        cases q : h.positions_[i]? with
        | none => rw [q] at e; cases e
        | some p => rw [q] at e; exact congrArg some e
      · cases hi
  exact ok.one i j b x (z i hi) (z j hj)
theorem front_pos {h : Simulation} {b i x : Nat} : frontOn h b i = some x ↔ h.positions_[i]? = some (.on b x) := by
  unfold frontOn placeOfParcel List.getD
  cases q : h.positions_[i]? with
  | none => simp
  | some p =>
    cases p with
    | notFed => simp
    | chute k => simp
    | on c y =>
      simp only [Option.getD_some, Option.some.injEq, Xb08.Place.on.injEq]
      by_cases e : c = b
      · simp [e]
      · simp [e]
def beltLen (h : Simulation) (b : Nat) : Nat := (h.plant.belts[b]?.map fun x => x.length).getD 0
theorem find_on {h : Simulation} (ok : SimOk h) {b x i : Nat} : (h.positions_.findIdx? fun p => p == .on b x) = some i ↔ frontOn h b i = some x := by
  rw [front_pos, List.findIdx?_eq_some_iff_getElem]
  constructor
  · rintro ⟨hi, he, _⟩
    rw [List.getElem?_eq_getElem hi]
    exact congrArg some (by simpa using he)
  · intro e
    obtain ⟨hi, he⟩ := List.getElem?_eq_some_iff.mp e
    refine ⟨hi, by rw [he]; simp, fun j hj => ?_⟩
    intro hb
    have hjl : j < h.positions_.length := by omega
    have : h.positions_[j]? = some (.on b x) := by
      rw [List.getElem?_eq_getElem hjl]
      exact congrArg some (by simpa using hb)
    have := ok.one j i b x this e
    omega
def keyOn (h : Simulation) (b : Nat) (i : Nat) : Int × Int := (-(((frontOn h b i).getD 0 : Nat) : Int), i)
theorem mem_onBelt {h : Simulation} (ok : SimOk h) {b i : Nat} : i ∈ parcelsOnBelt h b ↔ ∃ x, frontOn h b i = some x := by
  unfold parcelsOnBelt
  rw [List.mem_filterMap]
  constructor
  · rintro ⟨x, hx, he⟩
    exact ⟨x, (find_on ok).mp he⟩
  · rintro ⟨x, hx⟩
    obtain ⟨h1, h2⟩ := ok.on i b x (front_pos.mp hx)
    exact ⟨x, List.mem_reverse.mpr (List.mem_range.mpr h2), (find_on ok).mpr hx⟩
theorem onBelt_falls {h : Simulation} (ok : SimOk h) (b : Nat) : ((parcelsOnBelt h b).map (keyOn h b)).Pairwise (fun a c => a.1 < c.1) := by
  unfold parcelsOnBelt
  generalize ((h.plant.belts[b]?.map fun x => x.length).getD 0) = n
  rw [List.pairwise_map, List.pairwise_filterMap]
  have hr : (List.range n).reverse.Pairwise (fun a c => c < a) := by
    rw [List.pairwise_reverse]
    exact List.pairwise_lt_range
  refine hr.imp fun {x y} hxy i hi j hj => ?_
  have h1 := (find_on ok).mp hi
  have h2 := (find_on ok).mp hj
  unfold keyOn
  rw [h1, h2]
  simp
  omega
def onIdx (h : Simulation) (b : Nat) : List Nat := (List.range h.positions_.length).filter fun i => (frontOn h b i).isSome
theorem mem_onIdx {h : Simulation} {b i : Nat} : i ∈ onIdx h b ↔ ∃ x, frontOn h b i = some x := by
  unfold onIdx
  rw [List.mem_filter, List.mem_range]
  constructor
  · rintro ⟨_, h2⟩
    exact Option.isSome_iff_exists.mp h2
  · rintro ⟨x, hx⟩
    refine ⟨?_, by rw [hx]; rfl⟩
    exact (List.getElem?_eq_some_iff.mp (front_pos.mp hx)).1
theorem onBelt_perm {h : Simulation} (ok : SimOk h) (b : Nat) : (parcelsOnBelt h b).Perm (onIdx h b) := by
  refine (List.perm_ext_iff_of_nodup ?_ ?_).mpr fun i => (mem_onBelt ok).trans mem_onIdx.symm
  · have := onBelt_falls ok b
    rw [List.pairwise_map] at this
    exact this.imp fun {x y} hxy e => by
      rw [e] at hxy
      omega
  · exact List.nodup_range.sublist List.filter_sublist
/-- any list sorted by lexB that holds the keys of the parcels on the belt -/
theorem sorted_onBelt {h : Simulation} (ok : SimOk h) (b : Nat) {Z : List (Int × Int)} (hp : Z.Perm ((onIdx h b).map (keyOn h b))) (hs : Z.Pairwise fun x y => SrtO.lexB y x = false) : Z = (parcelsOnBelt h b).map (keyOn h b) := by
  refine falls_uniq ?_ (onBelt_falls ok b) (hp.trans ((onBelt_perm ok b).symm.map _))
  have nd : Z.Pairwise (fun x y => x.1 ≠ y.1) := by
    have : ((onIdx h b).map (keyOn h b)).Pairwise (fun x y => x.1 ≠ y.1) := by
      rw [List.pairwise_map]
      have : (onIdx h b).Nodup := List.nodup_range.sublist List.filter_sublist
      refine List.Pairwise.imp_of_mem (fun {i j} hi hj hne e => hne ?_) this
      obtain ⟨x, hx⟩ := mem_onIdx.mp hi
      obtain ⟨y, hy⟩ := mem_onIdx.mp hj
      unfold keyOn at e
      rw [hx, hy] at e
      simp at e
      have : x = y := by omega
      subst this
      exact ok.front_one hx hy
    exact (hp.symm.pairwise_iff (fun {x y} h e => h e.symm)).mp this
  refine (hs.and nd).imp fun {x y} ⟨h1, h2⟩ => ?_
  by_cases e : x.1 < y.1
  · exact e
  · have : SrtO.lexB y x = true := SrtO.lexB_iff.mpr (.inl (by omega))
    rw [h1] at this
    cases this
/-- a pair's numbers, as the heap has them -/
def keyH (H : Hp) : V → Int × Int
  | .ref t => match H t with
    | some (.tup [.int a, .int b]) => (a, b)
    | _ => (0, 0)
  | _ => (0, 0)
theorem keyH_tup {H : Hp} {t : Addr} {a b : Int} (h : H t = some (.tup [.int a, .int b])) : keyH H (.ref t) = (a, b) := by
  unfold keyH
  dsimp only
  rw [h]
def upIdx (h : Simulation) (b i : Nat) : List Nat := (List.range i).filter fun i => (frontOn h b i).isSome
theorem upIdx_succ (h : Simulation) (b i : Nat) : upIdx h b (i + 1) = upIdx h b i ++ (if (frontOn h b i).isSome = true then [i] else []) := by
  unfold upIdx
  rw [List.range_succ, List.filter_append]
  congr 1
  rw [List.filter_cons]
  rfl
def sp_Floor_on_belt (g : GG) : Sp := fun vs H Q _ => ∃ (R : Hp) (F : FL) (h : Simulation) (b : Nat), vs = [.ref F.fl, .int b] ∧ FloorAt g H R F h ∧
  ∀ H' p, Same H H' → H p = none → H' p = some (.lst ((parcelsOnBelt h b).map iV)) → Q (.ref p) H'
theorem ok_Floor_on_belt (T : Tx g) : Mt CX0 g 1 "Floor" "on_belt" ["self", "belt"] (sp_Floor_on_belt g) := by
  refine mt0 (k := 0) T.cl_Floor T.me_Floor_on_belt T.df_Floor_on_belt sc_Floor_on_belt (fun _ _ _ _ _ _ us hl => match us, hl with | [_, _], _ => rfl) ?_ ?_
  · rintro vs H Q E ⟨R, F, h, b, rfl, _⟩
    rfl
  · rintro cdv A outer s H vs Q E hr ⟨R, F, h, b, rfl, f, q⟩
    refine ⟨_, (pss_cons (ps_set (i := 2) sc_Floor_on_belt.nd rfl (.inl rfl) (pe_lst pa_nil)) (pss_cons (ps_for PassesOwn.never rfl (pi_enum (by rfl) T.fr_enumerate (pa_cons (pe_fc T.cl_Floor T.na_Floor_parcels (pv 0)) pa_nil)) (pg_tup rfl (pgs_cons (pg_name (i := 3) sc_Floor_on_belt.nd rfl (.inl rfl)) (pgs_cons (pg_name (i := 4) sc_Floor_on_belt.nd rfl (.inl rfl)) pgs_nil))) (pss_cons (ps_asg (pe_fc T.cl_Parcel T.na_Parcel_place (pv 4)) (pg_tup rfl (pgs_cons (pg_name (i := 5) sc_Floor_on_belt.nd rfl (.inl rfl)) (pgs_cons (pg_name (i := 6) sc_Floor_on_belt.nd rfl (.inl rfl)) (pgs_cons (pg_name (i := 7) sc_Floor_on_belt.nd rfl (.inl rfl)) pgs_nil))))) (pss_one (ps_if (PW.pt (pw_and (pt_cmpR op_eq (pv 5) (C8.pe_gc rfl T.in_BELT) (nomark _)) (pw_and1 (pt_cmpR op_eq (pv 6) (pv 1) (nomark _))))) (pss_one (ps_expr (pe_bm PySem.F.plainAttrs_list PySem.F.slot_list_append PySem.F.type_list_append mt_append (pv 2) (pa_cons (pe_tup (pa_cons (pe_un un_neg (pv 7)) (pa_cons (pv 3) pa_nil))) pa_nil)))) pss_nil)))) (pss_one (ps_ret (pe_lc (own := [("back", 8), ("number", 3)]) (g := (gTup g.K 2 (gCons (gName 8) (gCons (gName 3) gNil)))) (te := (tVar 3)) rfl sc_Floor_on_belt.nd (pi_list (pe_callB cr_sortedPO (by rfl) T.fr_sorted bt_sorted (pa_cons (pv 2) pa_nil))) (blkOk_by (N := ["self", "belt", "rows", "number", "parcel", "kind", "own", "front", "back"]) (sc := defScope s_Floor_on_belt) (by decide +kernel)) (fun _ _ _ _ _ => by exact (pg_tup rfl (pgs_cons (pg_name (i := 8) sc_Floor_on_belt.nd rfl (.inl rfl)) (pgs_cons (pg_name (i := 3) sc_Floor_on_belt.nd rfl (.inl rfl)) pgs_nil)))) (fun _ _ _ _ _ => by exact pts_nil) (fun _ _ _ _ _ => by exact (pv 3))))))), ?_⟩
    refine ⟨Nat.zero_le _, fun D hD => ?_⟩
    have f0 := f.mono (Same.new (o := .lst []) hD)
    obtain ⟨dx, hf⟩ := f0.flo
    refine ⟨_, rfl, _, dx, _, _, rfl, hf, rfl, F.pc, F.ps.map .ref, rfl, .inl (.inl f0.pcs), ?_⟩
    refine for_it (walk_enum (xs := F.ps.map .ref)) (fun i σ H' => ∃ ts y3 y4 y5 y6 y7 y8, σ = [some (.ref F.fl), some (.int b), some (.ref D), y3, y4, y5, y6, y7, y8] ∧ Same H H' ∧ H' D = some (.lst (ts.map .ref)) ∧
      F2 (fun (t : Addr) j => H' t = some (.tup [.int (keyOn h b j).1, .int (keyOn h b j).2])) ts (upIdx h b i)) ⟨[], none, none, none, none, none, none, rfl, Same.new hD, upd_same, F2.nil⟩ ?_ ?_ ?_
    · rintro i σ H' hi ⟨ts, y3, y4, y5, y6, y7, y8, rfl, s1, _⟩
      exact .inl (.inl (s1 _ _ f.pcs))
    · rintro i x σ H1 H' hi ⟨ts, y3, y4, y5, y6, y7, y8, rfl, s1, hl, hF⟩ ⟨T1, v1, v2, rfl, hT1, rfl, e1, e2⟩
      cases e1
      rw [List.length_map] at hi
      change (F.ps.map V.ref)[i]? = some v2 at e2
      rw [List.getElem?_map, List.getElem?_eq_getElem hi] at e2
      cases e2
      have s2 : Same H1 (upd H1 T1 (.tup [.int (i : Nat), .ref F.ps[i]])) := Same.new hT1
      obtain ⟨hlt, dx1, t1, k1, k2⟩ := ((f.mono s1).mono s2).parGet (List.getElem?_eq_getElem hi)
      refine ⟨T1, _, rfl, .inl (.inl upd_same), rfl, _, _, rfl, _, _, rfl, rfl, ?_⟩
      have hl2 := s2 _ _ hl
      have hF2 : F2 (fun (t : Addr) j => (upd H1 T1 (.tup [.int (i : Nat), .ref F.ps[i]])) t = some (.tup [.int (keyOn h b j).1, .int (keyOn h b j).2])) ts (upIdx h b i) := hF.imp fun _ _ _ _ r => s2 _ _ r
      have s3 := s1.trans s2
      generalize upd H1 T1 (.tup [.int (i : Nat), .ref F.ps[i]]) = H2 at s3 k1 k2 hl2 hF2 ⊢
      refine ⟨_, rfl, _, dx1, _, _, rfl, k1, rfl, t1, _, rfl, k2.sq, ?_⟩
      have no : frontOn h b i = none → Same H H2 ∧ H2 D = some (.lst (ts.map .ref)) ∧ F2 (fun (t : Addr) j => H2 t = some (.tup [.int (keyOn h b j).1, .int (keyOn h b j).2])) ts (upIdx h b (i + 1)) := fun e => by
        refine ⟨s3, hl2, ?_⟩
        rw [upIdx_succ, e]
        simpa using hF2
      cases ep : placeOfParcel h i with
      | notFed =>
        have e : frontOn h b i = none := by unfold frontOn; rw [ep]
        refine ⟨rfl, _, _, rfl, _, _, rfl, _, _, rfl, rfl, ?_⟩
        refine ⟨_, rfl, rfl, _, rfl, ?_⟩
        exact iteF ⟨ts, _, _, _, _, _, _, rfl, no e⟩
      | chute k =>
        have e : frontOn h b i = none := by unfold frontOn; rw [ep]
        refine ⟨rfl, _, _, rfl, _, _, rfl, _, _, rfl, rfl, ?_⟩
        refine ⟨_, rfl, rfl, _, rfl, ?_⟩
        exact iteF ⟨ts, _, _, _, _, _, _, rfl, no e⟩
      | on c x =>
        refine ⟨rfl, _, _, rfl, _, _, rfl, _, _, rfl, rfl, ?_⟩
        refine ⟨_, rfl, rfl, _, rfl, iteT ⟨_, rfl, _, rfl, rfl, _, rfl, ?_⟩⟩
        by_cases e : c = b
        · subst e
          have ef : frontOn h c i = some x := by unfold frontOn; rw [ep]; exact if_pos rfl
          rw [decide_eq_true rfl]
          refine iteT ⟨_, rfl, .inl ⟨rfl, _, .inl (.inl hl2)⟩, _, rfl, _, rfl, _, rfl, by show 2 ≤ sizeLine; decide, fun t4 ht4 => ?_⟩
          have s4 := Same.new (o := .tup [.int (-(x : Nat)), .int (i : Nat)]) ht4
          have hlen : ts.length ≤ i := by
            rw [hF2.len]
            unfold upIdx
            have := List.length_filter_le (fun i => (frontOn h c i).isSome) (List.range i)
            rwa [List.length_range] at this
          refine ⟨D, _, _, rfl, rfl, s4 _ _ hl2, by rw [List.length_map]; exact line_of' (by have := f.nLe; have := f.psLen; omega), ts ++ [t4], _, _, _, _, _, _, rfl, Same.upd hD (s3.trans s4), by rw [upd_same, List.map_append]; rfl, ?_⟩
          rw [upIdx_succ, ef]
          have nt : NoT (fun b => b = D) (upd H2 t4 (.tup [.int (-(x : Nat)), .int (i : Nat)])) := NoT.lst (s4 _ _ hl2)
          have st := Sta.of_upd (H := upd H2 t4 (.tup [.int (-(x : Nat)), .int (i : Nat)])) (a := D) (o := .lst ((ts.map V.ref) ++ [.ref t4]))
          refine (hF2.imp fun _ _ _ _ r => st.tup nt (s4 _ _ r)).snoc (st.tup nt ?_)
          rw [upd_same]
          unfold keyOn
          rw [ef]
          rfl
        · have en : frontOn h b i = none := by unfold frontOn; rw [ep]; exact if_neg e
          rw [decide_eq_false (show ¬ V.int (c : Nat) = V.int (b : Nat) from fun z => e (by have := V.int.inj z; omega))]
          exact iteF ⟨ts, _, _, _, _, _, _, rfl, no en⟩
    · rintro σ H' ⟨ts, y3, y4, y5, y6, y7, y8, rfl, s1, hl, hF⟩
      rw [List.length_map, f.psLen] at hF
      have hkey : ∀ t ∈ ts, ∃ a b, H' t = some (.tup [.int a, .int b]) := fun t ht => by
        obtain ⟨i, hi⟩ := List.getElem?_of_mem ht
        obtain ⟨j, _, r⟩ := hF.get' hi
        exact ⟨_, _, r⟩
      have hmap : (ts.map V.ref).map (keyH H') = (onIdx h b).map (keyOn h b) := by
        rw [List.map_map]
        refine List.ext_getElem? fun i => ?_
        rw [List.getElem?_map, List.getElem?_map]
        cases ht : ts[i]? with
        | none =>
          have : (upIdx h b h.positions_.length)[i]? = none := List.getElem?_eq_none_iff.mpr (by rw [← hF.len]; exact List.getElem?_eq_none_iff.mp ht)
          rw [show onIdx h b = upIdx h b h.positions_.length from rfl, this]
          rfl
        | some t =>
          obtain ⟨j, hj, r⟩ := hF.get' ht
          rw [show onIdx h b = upIdx h b h.positions_.length from rfl, hj]
          exact congrArg some (keyH_tup r)
      refine ⟨_, rfl, D, ts.map .ref, keyH H', rfl, .inl (.inl hl), fun x hx => ?_, fun ys p hs hst hp => ⟨p, rfl, ⟨ys, .inl (.inl upd_same)⟩, fun D2 hD2 => ?_⟩⟩
      · obtain ⟨t, ht, rfl⟩ := List.mem_map.mp hx
        obtain ⟨a, c, e⟩ := hkey t ht
        exact ⟨t, rfl, by rw [keyH_tup e]; exact e⟩
      · have hZ : ys.map (keyH H') = (parcelsOnBelt h b).map (keyOn h b) := by
          refine sorted_onBelt f.ok b ?_ ?_
          · rw [← hmap]
            exact hst.perm.map _
          · rw [List.pairwise_map]
            exact hs
        have hys : ∀ y ∈ ys, ∃ t a c, y = .ref t ∧ H' t = some (.tup [.int a, .int c]) := fun y hy => by
          obtain ⟨t, ht, rfl⟩ := List.mem_map.mp (hst.perm.mem_iff.mp hy)
          obtain ⟨a, c, e⟩ := hkey t ht
          exact ⟨t, a, c, rfl, e⟩
        have hlen : ys.length ≤ 40 := by
          rw [hst.perm.length_eq, List.length_map, hF.len]
          unfold upIdx
          have := List.length_filter_le (fun i => (frontOn h b i).isSome) (List.range h.positions_.length)
          rw [List.length_range] at this
          have := f.nLe
          omega
        have s5 := Same.new (o := .lst ys) hp
        refine lc_fm (walk_list (xs := ys)) (fun i => (ys[i]?).map fun y => V.int (keyH H' y).2) hD2 (by omega) (fun H3 s3 => .inl (.inl (s3 _ _ upd_same))) ?_ ?_
        · rintro i y H3 H4 Qk Qn hi s3 ⟨rfl, ey⟩ hk hn
          obtain ⟨t, a, c, rfl, et⟩ := hys y (List.mem_of_getElem? ey)
          refine ⟨t, _, rfl, .inl (.inl ((s5.trans s3) _ _ et)), rfl, _, _, rfl, _, _, rfl, rfl, rfl, yesI ⟨_, rfl, hk _ _ (.refl _) ?_⟩⟩
          rw [ey]
          exact congrArg (fun z : Int × Int => some (V.int z.2)) (keyH_tup et)
        · intro H3 s3 hD3
          rw [fm_map] at hD3
          have e : ys.map (fun y => V.int (keyH H' y).2) = (parcelsOnBelt h b).map iV := by
            have : (ys.map (keyH H')).map (fun z => V.int z.2) = ((parcelsOnBelt h b).map (keyOn h b)).map (fun z => V.int z.2) := by rw [hZ]
            rw [List.map_map, List.map_map] at this
            exact this
          rw [e] at hD3
          exact q H3 D2 (s1.trans (s5.trans s3)) (s1.free (s5.free hD2)) hD3
end Tote
/-! # floors.py: terms, rules -/
namespace Tote
open PySem PySem.Spec PyProof.Rows L2 Tq
open SX (S S_inj S_len S_cat)
open Xb08 (Simulation Goal placeOfParcel parcelOf contentsOf roomOf isFree canGo parcelsOnBelt termHolds ascii)
variable {g : GG}
def iD (n : Nat) : PyData := .int n
theorem dp_ints {K : PySem.W.Frag} {H : Hp} : ∀ l : List Nat, DpAll K H (l.map iV) (l.map iD)
  | [] => .nil
  | z :: r => .cons (.int _) (dp_ints r)
theorem lay_ints : ∀ l : List Nat, PyData.canLayAll0 (l.map iD) = true ∧ PyData.depthAll (l.map iD) = 0
  | [] => ⟨rfl, rfl⟩
  | z :: r => by
    obtain ⟨h1, h2⟩ := lay_ints r
    refine ⟨?_, ?_⟩
    · show (true && PyData.canLayAll0 (r.map iD)) = true
      rw [h1]
      rfl
    · show max 0 (PyData.depthAll (r.map iD)) = 0
      rw [h2]
      rfl
theorem ints_shaped (l : List Nat) : SeqAt.shaped (.list (l.map iD)) = true := by
  obtain ⟨h1, h2⟩ := lay_ints l
  unfold SeqAt.shaped
  show (PyData.canLayAll0 _ && decide (PyData.depthAll _ + 1 ≤ 64)) = true
  rw [h1, h2]
  rfl
theorem ints_eqv (l : List Nat) : PyData.eqv (.list (l.map iD)) (.list []) = l.isEmpty := by
  cases l <;> rfl
theorem onBelt_empty {h : Simulation} (ok : SimOk h) (b : Nat) : (parcelsOnBelt h b).isEmpty = h.positions_.all fun p => match p with
    | .on c _ => c != b
    | _ => true := by
  rw [Bool.eq_iff_iff, List.isEmpty_iff, List.all_eq_true]
  constructor
  · intro e p hp
    obtain ⟨i, hi⟩ := List.getElem?_of_mem hp
    cases p with
    | notFed => rfl
    | chute k => rfl
    | on c x =>
      by_cases ec : c = b
      · subst ec
        have : i ∈ parcelsOnBelt h c := (mem_onBelt ok).mpr ⟨x, front_pos.mpr hi⟩
        rw [e] at this
        cases this
      · simpa using ec
  · intro e
    rw [List.eq_nil_iff_forall_not_mem]
    intro i hi
    obtain ⟨x, hx⟩ := (mem_onBelt ok).mp hi
    have := e _ (List.mem_of_getElem? (front_pos.mp hx))
    simp at this
theorem pcF_code (a b c d e f : V) : List.lookup (S (ascii "code")) (pcF a b c d e f) = some b := by
  rw [← st_code]
  rfl
def sp_Floor_holds (g : GG) : Sp := fun vs H Q _ => ∃ (R : Hp) (F : FL) (h : Simulation) (e m : Nat) (a t : Addr) (c : Xb08.Cond), vs = [.ref F.fl, .int e, .ref a, .ref t] ∧ FloorAt g H R F h ∧ e < h.plant.sensors.length ∧ F.ps[m]? = some a ∧ H t = some (.tup (termT c)) ∧ CondOk h.plant c ∧
  ∀ H', Same H H' → Q (.bl (termHolds h e m c)) H'
theorem ok_Floor_holds (T : Tx g) : Mt CX0 g 3 "Floor" "holds" ["self", "eye", "parcel", "term"] (sp_Floor_holds g) := by
  refine mt0 (k := 2) T.cl_Floor T.me_Floor_holds T.df_Floor_holds sc_Floor_holds (fun _ _ _ _ _ _ us hl => match us, hl with | [_, _, _, _], _ => rfl) ?_ ?_
  · rintro vs H Q E ⟨R, F, h, e, m, a, t, c, rfl, _⟩
    rfl
  · rintro cdv A outer s H vs Q E hr ⟨R, F, h, e, m, a, t, c, rfl, f, he, ha, ht, hc, q⟩
    refine ⟨_, (pss_cons (ps_set (i := 4) sc_Floor_holds.nd rfl (.inl rfl) (pe_ix ix_tup (pv 3) pe_int (fun _ _ => rfl))) (pss_cons (ps_if (pt_cmpR op_eq (pv 4) pe_str (nomark _)) (pss_one (ps_ret (pe_chain op_le op_le (pe_ix ix_tup (pv 3) pe_int (fun _ _ => rfl)) (pe_fc T.cl_Parcel T.na_Parcel_code (pv 2)) (pe_ix ix_tup (pv 3) pe_int (fun _ _ => rfl))))) pss_nil) (pss_cons (ps_if (pt_cmpR op_eq (pv 4) pe_str (nomark _)) (pss_one (ps_ret (pe_cmpR op_ge (pe_fc T.cl_Parcel T.na_Parcel_length (pv 2)) (pe_ix ix_tup (pv 3) pe_int (fun _ _ => rfl)) (nomark _)))) pss_nil) (pss_cons (ps_if (pt_cmpR op_eq (pv 4) pe_str (nomark _)) (pss_one (ps_ret (pe_cmpR op_eq (pe_op op_modN (pe_ix ix_list (pe_fc T.cl_Floor T.na_Floor_seen (pv 0)) (pv 1) (fun _ _ => rfl)) (pe_ix ix_tup (pv 3) pe_int (fun _ _ => rfl))) pe_int (nomark _)))) pss_nil) (pss_cons (ps_if (pt_cmpR op_eq (pv 4) pe_str (nomark _)) (pss_one (ps_ret (pe_not (pe_mt (ok_Floor_has_room T) hr (by decide) (pv 0) (pa_cons (pe_ix ix_tup (pv 3) pe_int (fun _ _ => rfl)) pa_nil))))) pss_nil) (pss_one (ps_ret (pe_cmpR (op_eqD (by exact hr.units)) (pe_mt (ok_Floor_on_belt T) hr (by decide) (pv 0) (pa_cons (pe_ix ix_tup (pv 3) pe_int (fun _ _ => rfl)) pa_nil)) (pe_lst pa_nil) (nomark _))))))))), ?_⟩
    obtain ⟨dx, hf⟩ := f.flo
    obtain ⟨hm, dx1, t1, k1, k2⟩ := f.parGet ha
    have hT : SqT g.K H t (termT c) := .inl (.inl ht)
    cases c with
    | code x y =>
      refine ⟨_, rfl, t, _, 0, _, rfl, rfl, hT, atI_nat (j := 0) rfl, ?_⟩
      simp only [rIxD, gSub, rSetL, sDPut, tDGet, tDIn, tDNotIn, wipe, rLenS, tBM, rAppend, rExtend, rIn, cx_K, rIxS, rIxL, rIxT, tRet, tIfS, tTest, tChain, rI, rI0, rU, tC, tVar, tOp, tUn, tCB, tCons, tNil, tSeq, tNext, tB, tNot, tAnd, tOr, tAndV, tOrV, tNotV, tFc, sFc, sFcA, tMt, tCl, tNw, tLst, tTup, tDrop, tAsg, tPar, gName, gCons, gNil, tR1, rEq, rNe, rAdd, rSub, tAug, ipI, L2.start, List.map, List.length, List.replicate, List.append, List.set, exists_eq_left', exists_eq_left, exists_eq_right, exists_eq_right', exists_and_left, exists_and_right, exists_eq, exists_eq', Option.some.injEq, List.getElem?_cons_zero, List.getElem?_cons_succ, V.bl.injEq, V.int.injEq, V.str.injEq, V.ref.injEq, List.cons_append, List.nil_append, List.cons.injEq, HO.ins.injEq, HO.lst.injEq, HO.tup.injEq, true_and, and_true, decide_eq_true_eq, Bool.false_eq_true, ↓reduceIte, Bool.not_true, Bool.not_false, Bool.not_eq_true', decide_eq_false_iff_not, List.set_cons_zero, List.set_cons_succ, and_assoc, scal, dec_int, dec_str, forall_const, implies_true, st_code, st_long, st_each, st_full, S_eq, k1, pcF_get, pcF_code]
      refine ⟨_, hT, _, atI_nat (j := 1) rfl, _, rfl, ?_⟩
      have hq : termHolds h e m (.code x y) = (decide (x ≤ (parcelOf h m).code) && decide ((parcelOf h m).code ≤ y)) := rfl
      rw [hq] at q
      by_cases h1 : x ≤ (parcelOf h m).code
      · rw [if_pos (by omega)]
        refine ⟨_, hT, _, atI_nat (j := 2) rfl, _, rfl, qb (q H (.refl H)) ?_⟩
        rw [decide_eq_true h1, Bool.true_and]
        by_cases h2 : (parcelOf h m).code ≤ y
        · rw [decide_eq_true h2]
          exact decide_eq_true (by omega)
        · rw [decide_eq_false h2]
          exact decide_eq_false (by omega)
      · rw [if_neg (by omega)]
        refine qb (q H (.refl H)) ?_
        rw [decide_eq_false h1, Bool.false_and]
    | length n =>
      refine ⟨_, rfl, t, _, 0, _, rfl, rfl, hT, atI_nat (j := 0) rfl, ?_⟩
      simp only [rIxD, gSub, rSetL, sDPut, tDGet, tDIn, tDNotIn, wipe, rLenS, tBM, rAppend, rExtend, rIn, cx_K, rIxS, rIxL, rIxT, tRet, tIfS, tTest, tChain, rI, rI0, rU, tC, tVar, tOp, tUn, tCB, tCons, tNil, tSeq, tNext, tB, tNot, tAnd, tOr, tAndV, tOrV, tNotV, tFc, sFc, sFcA, tMt, tCl, tNw, tLst, tTup, tDrop, tAsg, tPar, gName, gCons, gNil, tR1, rEq, rNe, rAdd, rSub, tAug, ipI, L2.start, List.map, List.length, List.replicate, List.append, List.set, exists_eq_left', exists_eq_left, exists_eq_right, exists_eq_right', exists_and_left, exists_and_right, exists_eq, exists_eq', Option.some.injEq, List.getElem?_cons_zero, List.getElem?_cons_succ, V.bl.injEq, V.int.injEq, V.str.injEq, V.ref.injEq, List.cons_append, List.nil_append, List.cons.injEq, HO.ins.injEq, HO.lst.injEq, HO.tup.injEq, true_and, and_true, decide_eq_true_eq, Bool.false_eq_true, ↓reduceIte, Bool.not_true, Bool.not_false, Bool.not_eq_true', decide_eq_false_iff_not, List.set_cons_zero, List.set_cons_succ, and_assoc, scal, dec_int, dec_str, forall_const, implies_true, st_code, st_long, st_each, st_full, S_eq, k1, pcF_get]
      rw [if_neg (by decide)]
      refine ⟨_, hT, _, atI_nat (j := 1) rfl, _, rfl, qb (q H (.refl H)) ?_⟩
      show _ = decide (n ≤ (parcelOf h m).length)
      by_cases h2 : n ≤ (parcelOf h m).length
      · rw [decide_eq_true h2]
        exact decide_eq_true (by omega)
      · rw [decide_eq_false h2]
        exact decide_eq_false (by omega)
    | each n =>
      refine ⟨_, rfl, t, _, 0, _, rfl, rfl, hT, atI_nat (j := 0) rfl, ?_⟩
      simp only [rIxD, gSub, rSetL, sDPut, tDGet, tDIn, tDNotIn, wipe, rLenS, tBM, rAppend, rExtend, rIn, cx_K, rIxS, rIxL, rIxT, tRet, tIfS, tTest, tChain, rI, rI0, rU, tC, tVar, tOp, tUn, tCB, tCons, tNil, tSeq, tNext, tB, tNot, tAnd, tOr, tAndV, tOrV, tNotV, tFc, sFc, sFcA, tMt, tCl, tNw, tLst, tTup, tDrop, tAsg, tPar, gName, gCons, gNil, tR1, rEq, rNe, rAdd, rSub, tAug, ipI, L2.start, List.map, List.length, List.replicate, List.append, List.set, exists_eq_left', exists_eq_left, exists_eq_right, exists_eq_right', exists_and_left, exists_and_right, exists_eq, exists_eq', Option.some.injEq, List.getElem?_cons_zero, List.getElem?_cons_succ, V.bl.injEq, V.int.injEq, V.str.injEq, V.ref.injEq, List.cons_append, List.nil_append, List.cons.injEq, HO.ins.injEq, HO.lst.injEq, HO.tup.injEq, true_and, and_true, decide_eq_true_eq, Bool.false_eq_true, ↓reduceIte, Bool.not_true, Bool.not_false, Bool.not_eq_true', decide_eq_false_iff_not, List.set_cons_zero, List.set_cons_succ, and_assoc, scal, dec_int, dec_str, forall_const, implies_true, st_code, st_long, st_each, st_full, S_eq, hf, flF_get]
      rw [if_neg (by decide), if_neg (by decide)]
      have hes : e < h.seen.length := by rw [f.ok.se]; exact he
      have hn : 1 ≤ n := hc
      refine ⟨_, .inl (.inl f.se), .int (h.seen[e] : Nat), atI_nat (by rw [List.getElem?_map, List.getElem?_eq_getElem hes]; rfl), _, hT, _, atI_nat (j := 1) rfl, _, rfl, _, rfl, by omega, qb (q H (.refl H)) ?_⟩
      show _ = (h.seen.getD e 0 % n == 0)
      rw [List.getD, List.getElem?_eq_getElem hes, Option.getD_some]
      rw [Int.fmod_eq_emod_of_nonneg _ (by omega)]
      by_cases h2 : h.seen[e] % n = 0
      · rw [h2]
        exact decide_eq_true (by omega)
      · rw [show (h.seen[e] % n == 0) = false from beq_eq_false_iff_ne.mpr h2]
        exact decide_eq_false (by omega)
    | full k =>
      refine ⟨_, rfl, t, _, 0, _, rfl, rfl, hT, atI_nat (j := 0) rfl, ?_⟩
      simp only [rIxD, gSub, rSetL, sDPut, tDGet, tDIn, tDNotIn, wipe, rLenS, tBM, rAppend, rExtend, rIn, cx_K, rIxS, rIxL, rIxT, tRet, tIfS, tTest, tChain, rI, rI0, rU, tC, tVar, tOp, tUn, tCB, tCons, tNil, tSeq, tNext, tB, tNot, tAnd, tOr, tAndV, tOrV, tNotV, tFc, sFc, sFcA, tMt, tCl, tNw, tLst, tTup, tDrop, tAsg, tPar, gName, gCons, gNil, tR1, rEq, rNe, rAdd, rSub, tAug, ipI, L2.start, List.map, List.length, List.replicate, List.append, List.set, exists_eq_left', exists_eq_left, exists_eq_right, exists_eq_right', exists_and_left, exists_and_right, exists_eq, exists_eq', Option.some.injEq, List.getElem?_cons_zero, List.getElem?_cons_succ, V.bl.injEq, V.int.injEq, V.str.injEq, V.ref.injEq, List.cons_append, List.nil_append, List.cons.injEq, HO.ins.injEq, HO.lst.injEq, HO.tup.injEq, true_and, and_true, decide_eq_true_eq, Bool.false_eq_true, ↓reduceIte, Bool.not_true, Bool.not_false, Bool.not_eq_true', decide_eq_false_iff_not, List.set_cons_zero, List.set_cons_succ, and_assoc, scal, dec_int, dec_str, forall_const, implies_true, st_code, st_long, st_each, st_full, S_eq, hf, flF_get]
      rw [if_neg (by decide), if_neg (by decide), if_neg (by decide)]
      refine ⟨_, hT, _, atI_nat (j := 1) rfl, R, F, h, k, rfl, f, hc, fun H' s' => ⟨_, rfl, qb (q H' s') ?_⟩⟩
      show _ = decide (roomOf h k ≤ contentsOf h k)
      by_cases h2 : roomOf h k ≤ contentsOf h k
      · rw [decide_eq_true h2, decide_eq_false (by omega)]
        rfl
      · rw [decide_eq_false h2, decide_eq_true (by omega)]
        rfl
    | free b =>
      refine ⟨_, rfl, t, _, 0, _, rfl, rfl, hT, atI_nat (j := 0) rfl, ?_⟩
      simp only [rIxD, gSub, rSetL, sDPut, tDGet, tDIn, tDNotIn, wipe, rLenS, tBM, rAppend, rExtend, rIn, cx_K, rIxS, rIxL, rIxT, tRet, tIfS, tTest, tChain, rI, rI0, rU, tC, tVar, tOp, tUn, tCB, tCons, tNil, tSeq, tNext, tB, tNot, tAnd, tOr, tAndV, tOrV, tNotV, tFc, sFc, sFcA, tMt, tCl, tNw, tLst, tTup, tDrop, tAsg, tPar, gName, gCons, gNil, tR1, rEq, rNe, rAdd, rSub, tAug, ipI, L2.start, List.map, List.length, List.replicate, List.append, List.set, exists_eq_left', exists_eq_left, exists_eq_right, exists_eq_right', exists_and_left, exists_and_right, exists_eq, exists_eq', Option.some.injEq, List.getElem?_cons_zero, List.getElem?_cons_succ, V.bl.injEq, V.int.injEq, V.str.injEq, V.ref.injEq, List.cons_append, List.nil_append, List.cons.injEq, HO.ins.injEq, HO.lst.injEq, HO.tup.injEq, true_and, and_true, decide_eq_true_eq, Bool.false_eq_true, ↓reduceIte, Bool.not_true, Bool.not_false, Bool.not_eq_true', decide_eq_false_iff_not, List.set_cons_zero, List.set_cons_succ, and_assoc, scal, dec_int, dec_str, forall_const, implies_true, st_code, st_long, st_each, st_full, st_free, S_eq, hf, flF_get]
      rw [if_neg (by decide), if_neg (by decide), if_neg (by decide), if_neg (by decide)]
      refine ⟨_, hT, _, atI_nat (j := 1) rfl, R, F, h, b, rfl, f, fun H' p s' hp0 hp => ⟨Nat.zero_le _, fun l hl => ?_⟩⟩
      have s2 := Same.new (o := .lst []) hl
      refine ⟨_, .list [], .lst (.inl (.inl (s2 _ _ hp))) (dp_ints _), .lst (.inl (.inl upd_same)) .nil, ints_shaped _, rfl, qb (q _ (s'.trans s2)) ?_⟩
      rw [ints_eqv]
      exact onBelt_empty f.ok b
def sp_Floor_is_done (g : GG) : Sp := fun vs H Q _ => ∃ (R : Hp) (F : FL) (h : Simulation), vs = [.ref F.fl] ∧ FloorAt g H R F h ∧ ∀ H', Same H H' → Q (.bl (Xb08.allDone h)) H'
theorem ok_Floor_is_done (T : Tx g) : Mt CX0 g 2 "Floor" "is_done" ["self"] (sp_Floor_is_done g) := by
  refine mt0 (k := 1) T.cl_Floor T.me_Floor_is_done T.df_Floor_is_done sc_Floor_is_done (fun _ _ _ _ _ _ us hl => match us, hl with | [_], _ => rfl) ?_ ?_
  · rintro vs H Q E ⟨R, F, h, rfl, _⟩
    rfl
  · rintro cdv A outer s H vs Q E hr ⟨R, F, h, rfl, f, q⟩
    refine ⟨_, (pss_one (ps_ret (pe_cmpR op_eq (pe_callB call_lenS (by rfl) T.fr_len bt_len (pa_cons (pe_mt (ok_Floor_of_kind T) hr (by decide) (pv 0) (pa_cons (C8.pe_gc rfl T.in_CHUTE) pa_nil)) pa_nil)) (pe_callB call_lenS (by rfl) T.fr_len bt_len (pa_cons (pe_fc T.cl_Floor T.na_Floor_parcels (pv 0)) pa_nil)) (nomark _)))), ?_⟩
    obtain ⟨dx, hf⟩ := f.flo
    simp only [rIxD, gSub, rSetL, sDPut, tDGet, tDIn, tDNotIn, wipe, rLenS, tBM, rAppend, rExtend, rIn, cx_K, rIxS, rIxL, rIxT, tRet, tIfS, tTest, tChain, rI, rI0, rU, tC, tVar, tOp, tUn, tCB, tCons, tNil, tSeq, tNext, tB, tNot, tAnd, tOr, tAndV, tOrV, tNotV, tFc, sFc, sFcA, tMt, tCl, tNw, tLst, tTup, tDrop, tAsg, tPar, gName, gCons, gNil, tR1, rEq, rNe, rAdd, rSub, tAug, ipI, L2.start, List.map, List.length, List.replicate, List.append, List.set, exists_eq_left', exists_eq_left, exists_eq_right, exists_eq_right', exists_and_left, exists_and_right, exists_eq, exists_eq', Option.some.injEq, List.getElem?_cons_zero, List.getElem?_cons_succ, V.bl.injEq, V.int.injEq, V.str.injEq, V.ref.injEq, List.cons_append, List.nil_append, List.cons.injEq, HO.ins.injEq, HO.lst.injEq, HO.tup.injEq, true_and, and_true, decide_eq_true_eq, Bool.false_eq_true, ↓reduceIte, Bool.not_true, Bool.not_false, Bool.not_eq_true', decide_eq_false_iff_not, List.set_cons_zero, List.set_cons_succ, and_assoc, scal, dec_int, dec_str, forall_const, implies_true, hf, flF_get]
    refine ⟨R, F, h, 2, rfl, f, fun H' p s' hp0 hp => ?_⟩
    obtain ⟨dx2, hf2⟩ := (f.mono s').flo
    simp only [rIxD, gSub, rSetL, sDPut, tDGet, tDIn, tDNotIn, wipe, rLenS, tBM, rAppend, rExtend, rIn, cx_K, rIxS, rIxL, rIxT, tRet, tIfS, tTest, tChain, rI, rI0, rU, tC, tVar, tOp, tUn, tCB, tCons, tNil, tSeq, tNext, tB, tNot, tAnd, tOr, tAndV, tOrV, tNotV, tFc, sFc, sFcA, tMt, tCl, tNw, tLst, tTup, tDrop, tAsg, tPar, gName, gCons, gNil, tR1, rEq, rNe, rAdd, rSub, tAug, ipI, L2.start, List.map, List.length, List.replicate, List.append, List.set, exists_eq_left', exists_eq_left, exists_eq_right, exists_eq_right', exists_and_left, exists_and_right, exists_eq, exists_eq', Option.some.injEq, List.getElem?_cons_zero, List.getElem?_cons_succ, V.bl.injEq, V.int.injEq, V.str.injEq, V.ref.injEq, List.cons_append, List.nil_append, List.cons.injEq, HO.ins.injEq, HO.lst.injEq, HO.tup.injEq, true_and, and_true, decide_eq_true_eq, Bool.false_eq_true, ↓reduceIte, Bool.not_true, Bool.not_false, Bool.not_eq_true', decide_eq_false_iff_not, List.set_cons_zero, List.set_cons_succ, and_assoc, scal, dec_int, dec_str, forall_const, implies_true, hf2, flF_get]
    refine ⟨_, .inl (.inl (.inl hp)), _, .inl (.inl (.inl (f.mono s').pcs)), qb (q H' s') ?_⟩
    unfold Xb08.allDone Xb08.countInChutes
    rw [List.length_map, List.length_map, f.psLen]
    have e : ((List.range h.positions_.length).filter fun i => decide (kindN (placeOfParcel h i) = 2)).length = (h.positions_.filter fun p => match p with
      | .chute _ => true
      | _ => false).length := by
      have := filter_range h.positions_ .notFed (fun p => match p with
        | .chute _ => true
        | _ => false)
      rw [← this]
      congr 1
      refine List.filter_congr fun i _ => ?_
      show decide (kindN (h.positions_.getD i .notFed) = 2) = _
      cases h.positions_.getD i .notFed <;> rfl
    rw [e]
    exact decide_eq_decide.mpr Int.ofNat_inj
end Tote
/-! # floors.py: the first rule -/
namespace Tote
open PySem PySem.Spec PyProof.Rows L2 Tq
open SX (S S_inj S_len S_cat)
open Xb08 (Simulation Goal placeOfParcel parcelOf contentsOf roomOf isFree canGo parcelsOnBelt termHolds ascii)
variable {g : GG}
def ruleB (h : Simulation) (e m : Nat) (r : Xb08.Rule) : Bool := r.sensor == e && r.conds.all (termHolds h e m)
def ruleOf (h : Simulation) (e m : Nat) : Option Nat := h.plant.rules.findIdx? (ruleB h e m)
def sp_Floor_first_rule (g : GG) : Sp := fun vs H Q _ => ∃ (R : Hp) (F : FL) (h : Simulation) (e m : Nat) (a : Addr), vs = [.ref F.fl, .int e, .ref a] ∧ FloorAt g H R F h ∧ e < h.plant.sensors.length ∧ F.ps[m]? = some a ∧
  ∀ H' p, Same H H' → H p = none → H' p = some (.lst ((ruleOf h e m).toList.map iV)) → Q (.ref p) H'
theorem ok_Floor_first_rule (T : Tx g) : Mt CX0 g 4 "Floor" "first_rule" ["self", "eye", "parcel"] (sp_Floor_first_rule g) := by
  refine mt0 (k := 3) T.cl_Floor T.me_Floor_first_rule T.df_Floor_first_rule sc_Floor_first_rule (fun _ _ _ _ _ _ us hl => match us, hl with | [_, _, _], _ => rfl) ?_ ?_
  · rintro vs H Q E ⟨R, F, h, e, m, a, rfl, _⟩
    rfl
  · rintro cdv A outer s H vs Q E hr ⟨R, F, h, e, m, a, rfl, f, he, ha, q⟩
    refine ⟨_, (pss_cons (ps_for PassesOwn.never rfl (pi_enum (by rfl) T.fr_enumerate (pa_cons (pe_fc T.cl_Plant T.na_Plant_rules (pe_fc T.cl_Floor T.na_Floor_plant (pv 0))) pa_nil)) (pg_tup rfl (pgs_cons (pg_name (i := 3) sc_Floor_first_rule.nd rfl (.inl rfl)) (pgs_cons (pg_tup rfl (pgs_cons (pg_name (i := 4) sc_Floor_first_rule.nd rfl (.inl rfl)) (pgs_cons (pg_name (i := 5) sc_Floor_first_rule.nd rfl (.inl rfl)) (pgs_cons (pg_name (i := 6) sc_Floor_first_rule.nd rfl (.inl rfl)) (pgs_cons (pg_name (i := 7) sc_Floor_first_rule.nd rfl (.inl rfl)) pgs_nil))))) pgs_nil))) (pss_one (ps_if (PW.pt (pw_and (pt_cmpR op_eq (pv 4) (pv 1) (nomark _)) (pw_and1 (pt_val (pe_callB (cr_all rfl) (by rfl) T.fr_all bt_all (pa_cons (pe_lc (own := [("term", 8)]) (g := (gName 8)) (te := (tMt (cF g "Floor") "holds" (sp_Floor_holds g) E0 (tVar 0) (tCons (tVar 1) (tCons (tVar 2) (tCons (tVar 8) tNil))))) rfl sc_Floor_first_rule.nd (pi_list (pv 5)) (blkOk_by (N := ["self", "eye", "parcel", "number", "own", "terms", "pusher", "delay", "term"]) (sc := defScope s_Floor_first_rule) (by decide +kernel)) (fun _ _ _ _ _ => (pg_name (i := 8) sc_Floor_first_rule.nd rfl (.inl rfl))) (fun _ _ _ _ _ => pts_nil) (fun _ _ _ _ _ => (pe_mt (ok_Floor_holds T) hr (by decide) (pv 0) (pa_cons (pv 1) (pa_cons (pv 2) (pa_cons (pv 8) pa_nil)))))) pa_nil)))))) (pss_one (ps_ret (pe_lst (pa_cons (pv 3) pa_nil)))) pss_nil))) (pss_one (ps_ret (pe_lst pa_nil)))), ?_⟩
    obtain ⟨dx, hf⟩ := f.flo
    obtain ⟨px, pi⟩ := (f.pla.same f.same).ins
    obtain ⟨ts, hr1, hr2⟩ := (f.pla.same f.same).ru
    refine ⟨_, rfl, _, dx, _, _, rfl, hf, rfl, _, px, _, _, rfl, pi, rfl, F.L.ru, ts.map .ref, rfl, .inl (.inl hr1), ?_⟩
    refine for_it (walk_enum (xs := ts.map .ref)) (fun i σ H' => ∃ y3 y4 y5 y6 y7 y8, σ = [some (.ref F.fl), some (.int e), some (.ref a), y3, y4, y5, y6, y7, y8] ∧ Same H H' ∧ ∀ j r, j < i → h.plant.rules[j]? = some r → ruleB h e m r = false) ⟨none, none, none, none, none, none, rfl, .refl H, fun j r hj => absurd hj (Nat.not_lt_zero _)⟩ ?_ ?_ ?_
    · rintro i σ H' hi ⟨y3, y4, y5, y6, y7, y8, rfl, s1, _⟩
      exact .inl (.inl (s1 _ _ hr1))
    · rintro i x σ H1 H' hi ⟨y3, y4, y5, y6, y7, y8, rfl, s1, hno⟩ ⟨T1, v1, v2, rfl, hT1, rfl, e1, e2⟩
      cases e1
      rw [List.length_map] at hi
      change (ts.map V.ref)[i]? = some v2 at e2
      rw [List.getElem?_map, List.getElem?_eq_getElem hi] at e2
      cases e2
      obtain ⟨r, hrl, l, hl0, htup, hterms⟩ := hr2.get' (List.getElem?_eq_getElem hi)
      have s2 : Same H1 (upd H1 T1 (.tup [.int (i : Nat), .ref ts[i]])) := Same.new hT1
      have s3 := s1.trans s2
      refine ⟨T1, _, rfl, .inl (.inl upd_same), rfl, _, _, rfl, _, _, rfl, ?_⟩
      generalize upd H1 T1 (.tup [.int (i : Nat), .ref ts[i]]) = H2 at s3 ⊢
      refine ⟨ts[i], _, rfl, .inl (.inl (s3 _ _ htup)), rfl, _, _, rfl, _, _, rfl, _, _, rfl, _, _, rfl, rfl, rfl, ?_⟩
      have rok := f.ok.pl.ru r (List.mem_of_getElem? hrl)
      refine ⟨_, rfl, _, rfl, rfl, _, rfl, ?_⟩
      have next : ruleB h e m r = false → ∀ j r', j < i + 1 → h.plant.rules[j]? = some r' → ruleB h e m r' = false := by
        intro z j r' hj hr'
        by_cases ej : j = i
        · subst ej
          rw [hrl] at hr'
          cases hr'
          exact z
        · exact hno j r' (by omega) hr'
      by_cases es : r.sensor = e
      · rw [decide_eq_true (show V.int (r.sensor : Nat) = V.int (e : Nat) by rw [es])]
        refine iteT ⟨_, rfl, l, rfl, ?_⟩
        obtain ⟨us, hu1, hu2⟩ := hterms
        have hl2 := s3 _ _ hu1
        refine ⟨⟨_, .inl (.inl hl2)⟩, fun D hD => ?_⟩
        refine lc_fm (walk_list (xs := us.map .ref)) (fun i => (r.conds[i]?).map fun c => V.bl (termHolds h e m c)) hD ?_ (fun H3 s4 => .inl (.inl (s4 _ _ hl2))) ?_ ?_
        · rw [List.length_map, hu2.len]
          have := rok.2.1
          omega
        · rintro j y H3 H4 Qk Qn hj s4 ⟨rfl, ey⟩ hk hn
          rw [List.length_map] at hj
          rw [List.getElem?_map, List.getElem?_eq_getElem hj] at ey
          cases ey
          obtain ⟨c, hc, hct⟩ := hu2.get' (List.getElem?_eq_getElem hj)
          have f3 := f.mono (s3.trans s4)
          obtain ⟨dx3, hf3⟩ := f3.flo
          refine ⟨rfl, yesI ⟨_, rfl, _, dx3, _, rfl, hf3, rfl, _, rfl, _, rfl, _, rfl, R, F, h, e, m, a, us[j], c, rfl, f3, he, ha, (s3.trans s4) _ _ hct, rok.2.2 c (List.mem_of_getElem? hc), fun H5 s5 => hk _ _ s5 (by rw [hc]; rfl)⟩⟩
        · intro H3 s4 hD3
          rw [List.length_map, hu2.len, fm_map] at hD3
          refine ⟨D, r.conds.map (termHolds h e m), rfl, .inl (.inl (by rw [hD3, List.map_map] <;> rfl)), _, rfl, ?_⟩
          have ea : (r.conds.map (termHolds h e m)).all id = ruleB h e m r := by
            unfold ruleB
            rw [List.all_map, es, BEq.rfl, Bool.true_and]
            rfl
          rw [ea]
          cases eb : ruleB h e m r with
          | false => exact iteF ⟨_, _, _, _, _, _, rfl, s3.trans s4, next eb⟩
          | true =>
            refine iteT ⟨_, rfl, by show 1 ≤ sizeLine; decide, fun p hp => q _ p ((s3.trans s4).trans (Same.new hp)) ((s3.trans s4).free hp) ?_⟩
            rw [upd_same]
            have er : ruleOf h e m = some i := by
              unfold ruleOf
              rw [List.findIdx?_eq_some_iff_getElem]
              obtain ⟨hlt, hre⟩ := List.getElem?_eq_some_iff.mp hrl
              refine ⟨hlt, by rw [hre]; exact eb, fun j hj => ?_⟩
              have hjl : j < h.plant.rules.length := by omega
              rw [hno j _ hj (List.getElem?_eq_getElem hjl)]
              decide
            rw [er]
            rfl
      · rw [decide_eq_false (show ¬ V.int (r.sensor : Nat) = V.int (e : Nat) from fun z => es (by have := V.int.inj z; omega))]
        have eb : ruleB h e m r = false := by
          unfold ruleB
          rw [show (r.sensor == e) = false from beq_eq_false_iff_ne.mpr es, Bool.false_and]
        exact iteF (iteF ⟨_, _, _, _, _, _, rfl, s3, next eb⟩)
    · rintro σ H' ⟨y3, y4, y5, y6, y7, y8, rfl, s1, hno⟩
      refine ⟨Nat.zero_le _, fun p hp => q _ p (s1.trans (Same.new hp)) (s1.free hp) ?_⟩
      rw [upd_same]
      have er : ruleOf h e m = none := by
        unfold ruleOf
        rw [List.findIdx?_eq_none_iff]
        intro r hr
        obtain ⟨j, hj⟩ := List.getElem?_of_mem hr
        refine hno j r ?_ hj
        rw [List.length_map, hr2.len]
        exact (List.getElem?_eq_some_iff.mp hj).1
      rw [er]
      rfl
end Tote
/-! # floors.py: what changes a floor -/
namespace Tote
open PySem PySem.Spec PyProof.Rows L2 Tq
open SX (S S_inj S_len S_cat)
open Xb08 (Simulation Goal placeOfParcel parcelOf contentsOf roomOf isFree canGo parcelsOnBelt termHolds moveTo putAt)
variable {g : GG}
section
variable {H R : Hp} {F : FL} {h h' : Simulation}
theorem FL.in_lists {F : FL} : F.sc ∈ F.lists ∧ F.pc ∈ F.lists ∧ F.se ∈ F.lists ∧ F.fi ∈ F.lists ∧ F.dn ∈ F.lists ∧ F.mi ∈ F.lists := by simp [FL.lists]
theorem FloorAt.ps_in {i : Nat} {a : Addr} (ha : F.ps[i]? = some a) : a ∈ F.inss := List.mem_cons_of_mem _ (List.mem_of_getElem? ha)
/-- one parcel changes -/
theorem FloorAt.setPar (f : FloorAt g H R F h) {i : Nat} {a : Addr} {o : HO} (ha : F.ps[i]? = some a) (ok' : SimOk h') (e1 : h'.plant = h.plant) (e2 : h'.tick = h.tick) (e3 : h'.scheduled = h.scheduled) (e4 : h'.seen = h.seen) (e5 : h'.fired = h.fired) (e6 : h'.pushesDone = h.pushesDone) (e7 : h'.pushesMissed = h.pushesMissed)
    (e8 : h'.positions_.length = h.positions_.length) (hj : ∀ j, j ≠ i → placeOfParcel h' j = placeOfParcel h j ∧ h'.moved.contains j = h.moved.contains j)
    (ho : PcAt g (upd H a o) a (parcelOf h i) (placeOfParcel h' i) (h'.moved.contains i)) : FloorAt g (upd H a o) R F h' := by
  have hin := FloorAt.ps_in (F := F) ha
  have hout : R a = none := f.out a (List.mem_append_right _ hin)
  have s : Sta (fun b => b = a) H (upd H a o) := Sta.of_upd
  have n : NoT (fun b => b = a) H := fun b xs e => by
    subst e
    exact f.noT b xs (List.mem_append_right _ hin)
  obtain ⟨l1, l2, l3, l4, l5, l6⟩ := FL.in_lists (F := F)
  have nfl : F.fl ≠ a := fun e => (List.nodup_cons.mp f.ndi).1 (by rw [e]; exact List.mem_of_getElem? ha)
  have par : parcelOf h' = parcelOf h := by
    unfold parcelOf
    rw [e1]
  refine ⟨Same.upd hout f.same, by rw [e1]; exact f.pla, f.out, f.ndl, f.ndi, by rw [e2]; exact f.flo.st s n nfl, by rw [e3]; exact f.sc.st s n (f.li l1 hin), by rw [upd_ne (f.li l2 hin)]; exact f.pcs, ?_, by rw [e4]; exact f.se.st s n (f.li l3 hin), by rw [e5]; exact f.fi.st s n (f.li l4 hin), by rw [e6]; exact f.dn.st s n (f.li l5 hin), by rw [e7]; exact f.mi.st s n (f.li l6 hin), ok'⟩
  refine ⟨by rw [List.length_range, e8]; exact f.psLen, fun j b k hb hk => ?_⟩
  have hlt : j < h'.positions_.length := by
    have := (List.getElem?_eq_some_iff.mp hk).1
    rwa [List.length_range] at this
  rw [List.getElem?_range hlt] at hk
  cases hk
  rw [par]
  by_cases e : j = i
  · subst e
    rw [ha] at hb
    cases hb
    exact ho
  · have nb : b ≠ a := fun z => by
      subst z
      have nd := (List.nodup_cons.mp f.ndi).2
      have hj1 := (List.getElem?_eq_some_iff.mp hb)
      have hi1 := (List.getElem?_eq_some_iff.mp ha)
      exact e ((List.getElem_inj nd).mp (hj1.2.trans hi1.2.symm))
    obtain ⟨z1, z2⟩ := hj j e
    rw [z1, z2]
    exact (f.parGet hb).2.st s n nb
/-- the counts, one by one -/
theorem FloorAt.rest (f : FloorAt g H R F h) {a : Addr} {xs : List V} (ha : a ∈ F.lists) : Same R (upd H a (.lst xs)) ∧ FloI g (upd H a (.lst xs)) F h.tick ∧ ParAt g (upd H a (.lst xs)) F.ps h ∧ Sta (fun b => b = a) H (upd H a (.lst xs)) ∧ NoT (fun b => b = a) H := by
  have s : Sta (fun b => b = a) H (upd H a (.lst xs)) := Sta.of_upd
  have n : NoT (fun b => b = a) H := fun b xs e => by
    subst e
    exact f.noT b xs (List.mem_append_left _ ha)
  exact ⟨Same.upd (f.out a (List.mem_append_left _ ha)) f.same, f.flo.st s n (f.li ha List.mem_cons_self).symm, f.par.st s n fun b hb => (f.li ha (List.mem_cons_of_mem _ hb)).symm, s, n⟩
theorem FL.ne (nd : F.lists.Nodup) : (F.sc ≠ F.pc ∧ F.sc ≠ F.se ∧ F.sc ≠ F.fi ∧ F.sc ≠ F.dn ∧ F.sc ≠ F.mi) ∧ (F.pc ≠ F.se ∧ F.pc ≠ F.fi ∧ F.pc ≠ F.dn ∧ F.pc ≠ F.mi) ∧ (F.se ≠ F.fi ∧ F.se ≠ F.dn ∧ F.se ≠ F.mi) ∧ (F.fi ≠ F.dn ∧ F.fi ≠ F.mi) ∧ F.dn ≠ F.mi := by
  unfold FL.lists at nd
  simp only [List.nodup_cons, List.mem_cons, List.not_mem_nil, not_or, or_false, not_false_eq_true, and_true, List.nodup_nil] at nd
  obtain ⟨⟨a1, a2, a3, a4, a5⟩, ⟨b1, b2, b3, b4⟩, ⟨c1, c2, c3⟩, ⟨d1, d2⟩, e1⟩ := nd
  exact ⟨⟨a1, a2, a3, a4, a5⟩, ⟨b1, b2, b3, b4⟩, ⟨c1, c2, c3⟩, ⟨d1, d2⟩, e1⟩
theorem FloorAt.setSe (f : FloorAt g H R F h) {l : List Nat} (hl : l.length = h.seen.length) : FloorAt g (upd H F.se (.lst (l.map iV))) R F { h with seen := l } := by
  obtain ⟨l1, l2, l3, l4, l5, l6⟩ := FL.in_lists (F := F)
  obtain ⟨r1, r2, r3, s, n⟩ := f.rest (xs := l.map iV) l3
  obtain ⟨⟨a1, a2, a3, a4, a5⟩, ⟨b1, b2, b3, b4⟩, ⟨c1, c2, c3⟩, ⟨d1, d2⟩, x1⟩ := FL.ne f.ndl
  have k := f.ok
  exact ⟨r1, f.pla, f.out, f.ndl, f.ndi, r2, f.sc.st s n a2, by rw [upd_ne b1]; exact f.pcs, r3, upd_same, f.fi.st s n c1.symm, f.dn.st s n c2.symm, f.mi.st s n c3.symm, ⟨k.pl, k.len, hl.trans k.se, k.fi, k.dn, k.mi, k.on, k.one, k.sc, k.few⟩⟩
theorem FloorAt.setFi (f : FloorAt g H R F h) {l : List Nat} (hl : l.length = h.fired.length) : FloorAt g (upd H F.fi (.lst (l.map iV))) R F { h with fired := l } := by
  obtain ⟨l1, l2, l3, l4, l5, l6⟩ := FL.in_lists (F := F)
  obtain ⟨r1, r2, r3, s, n⟩ := f.rest (xs := l.map iV) l4
  obtain ⟨⟨a1, a2, a3, a4, a5⟩, ⟨b1, b2, b3, b4⟩, ⟨c1, c2, c3⟩, ⟨d1, d2⟩, x1⟩ := FL.ne f.ndl
  have k := f.ok
  exact ⟨r1, f.pla, f.out, f.ndl, f.ndi, r2, f.sc.st s n a3, by rw [upd_ne b2]; exact f.pcs, r3, f.se.st s n c1, upd_same, f.dn.st s n d1.symm, f.mi.st s n d2.symm, ⟨k.pl, k.len, k.se, hl.trans k.fi, k.dn, k.mi, k.on, k.one, k.sc, k.few⟩⟩
theorem FloorAt.setDn (f : FloorAt g H R F h) {l : List Nat} (hl : l.length = h.pushesDone.length) : FloorAt g (upd H F.dn (.lst (l.map iV))) R F { h with pushesDone := l } := by
  obtain ⟨l1, l2, l3, l4, l5, l6⟩ := FL.in_lists (F := F)
  obtain ⟨r1, r2, r3, s, n⟩ := f.rest (xs := l.map iV) l5
  obtain ⟨⟨a1, a2, a3, a4, a5⟩, ⟨b1, b2, b3, b4⟩, ⟨c1, c2, c3⟩, ⟨d1, d2⟩, x1⟩ := FL.ne f.ndl
  have k := f.ok
  exact ⟨r1, f.pla, f.out, f.ndl, f.ndi, r2, f.sc.st s n a4, by rw [upd_ne b3]; exact f.pcs, r3, f.se.st s n c2, f.fi.st s n d1, upd_same, f.mi.st s n x1.symm, ⟨k.pl, k.len, k.se, k.fi, hl.trans k.dn, k.mi, k.on, k.one, k.sc, k.few⟩⟩
theorem FloorAt.setMi (f : FloorAt g H R F h) {l : List Nat} (hl : l.length = h.pushesMissed.length) : FloorAt g (upd H F.mi (.lst (l.map iV))) R F { h with pushesMissed := l } := by
  obtain ⟨l1, l2, l3, l4, l5, l6⟩ := FL.in_lists (F := F)
  obtain ⟨r1, r2, r3, s, n⟩ := f.rest (xs := l.map iV) l6
  obtain ⟨⟨a1, a2, a3, a4, a5⟩, ⟨b1, b2, b3, b4⟩, ⟨c1, c2, c3⟩, ⟨d1, d2⟩, x1⟩ := FL.ne f.ndl
  have k := f.ok
  exact ⟨r1, f.pla, f.out, f.ndl, f.ndi, r2, f.sc.st s n a5, by rw [upd_ne b4]; exact f.pcs, r3, f.se.st s n c3, f.fi.st s n d2, f.dn.st s n x1, upd_same, ⟨k.pl, k.len, k.se, k.fi, k.dn, hl.trans k.mi, k.on, k.one, k.sc, k.few⟩⟩
/-- a push more that is scheduled -/
theorem FloorAt.putSc (f : FloorAt g H R F h) {t : Addr} {ts : List Addr} {q : Nat × Nat} (ht : H t = some (.tup [.int q.1, .int q.2])) (h1 : H F.sc = some (.lst (ts.map .ref))) (h2 : F2 (fun t (q : Nat × Nat) => H t = some (.tup [.int q.1, .int q.2])) ts h.scheduled) (ok' : SimOk { h with scheduled := h.scheduled ++ [q] }) :
    FloorAt g (upd H F.sc (.lst ((ts.map .ref) ++ [.ref t]))) R F { h with scheduled := h.scheduled ++ [q] } := by
  obtain ⟨l1, l2, l3, l4, l5, l6⟩ := FL.in_lists (F := F)
  obtain ⟨r1, r2, r3, s, n⟩ := f.rest (xs := (ts.map .ref) ++ [.ref t]) l1
  obtain ⟨⟨a1, a2, a3, a4, a5⟩, ⟨b1, b2, b3, b4⟩, ⟨c1, c2, c3⟩, ⟨d1, d2⟩, x1⟩ := FL.ne f.ndl
  exact ⟨r1, f.pla, f.out, f.ndl, f.ndi, r2, ⟨ts ++ [t], by rw [upd_same, List.map_append]; rfl, (h2.imp fun _ _ _ _ r => s.tup n r).snoc (s.tup n ht)⟩, by rw [upd_ne a1.symm]; exact f.pcs, r3, f.se.st s n a2.symm, f.fi.st s n a3.symm, f.dn.st s n a4.symm, f.mi.st s n a5.symm, ok'⟩
/-- the floor's own fields: the tick; where the scheduled pushes stand -/
theorem FloorAt.setFl (f : FloorAt g H R F h) {dx sc' : Addr} {l : List (Nat × Nat)} {tick : Nat} (hs : ScAt H sc' l) (hn : sc' = F.sc ∨ (sc' ∉ F.foot ∧ R sc' = none)) (ok' : SimOk { h with tick := tick, scheduled := l }) :
    FloorAt g (upd H F.fl (.ins (cF g "Floor") dx (flF (.ref F.L.pl) (.ref F.pc) (.int tick) (.ref F.se) (.ref F.fi) (.ref F.dn) (.ref F.mi) (.ref sc')))) R { F with sc := sc' } { h with tick := tick, scheduled := l } := by
  obtain ⟨l1, l2, l3, l4, l5, l6⟩ := FL.in_lists (F := F)
  have hin : F.fl ∈ F.inss := List.mem_cons_self
  have hout : R F.fl = none := f.out _ (List.mem_append_right _ hin)
  have s : Sta (fun b => b = F.fl) H (upd H F.fl (.ins (cF g "Floor") dx (flF (.ref F.L.pl) (.ref F.pc) (.int tick) (.ref F.se) (.ref F.fi) (.ref F.dn) (.ref F.mi) (.ref sc')))) := Sta.of_upd
  have n : NoT (fun b => b = F.fl) H := fun b xs e => by
    subst e
    exact f.noT _ xs (List.mem_append_right _ hin)
  have nsc : sc' ≠ F.fl := by
    obtain ⟨ts, h1, _⟩ := hs
    obtain ⟨dx0, h2⟩ := f.flo
    exact ne_of h1 h2 (by intro z; cases z)
  have nps : ∀ a ∈ F.ps, ¬ a = F.fl := fun a ha e => (List.nodup_cons.mp f.ndi).1 (by rw [← e]; exact ha)
  refine ⟨Same.upd hout f.same, f.pla, ?_, ?_, f.ndi, ⟨dx, upd_same⟩, hs.st s n nsc, by rw [upd_ne (f.li l2 hin)]; exact f.pcs, F2.imp f.par fun a i ha _ r => r.st s n (nps a ha), f.se.st s n (f.li l3 hin), f.fi.st s n (f.li l4 hin), f.dn.st s n (f.li l5 hin), f.mi.st s n (f.li l6 hin), ok'⟩
  · intro a ha
    rcases hn with e | ⟨_, hr⟩
    · subst e
      exact f.out a ha
    · rcases List.mem_append.mp ha with hl | hi
      · rcases List.mem_cons.mp hl with rfl | hl
        · exact hr
        · exact f.out a (List.mem_append_left _ (List.mem_cons_of_mem _ hl))
      · exact f.out a (List.mem_append_right _ hi)
  · rcases hn with e | ⟨hf, _⟩
    · subst e
      exact f.ndl
    · refine List.nodup_cons.mpr ⟨fun hm => hf (List.mem_append_left _ (List.mem_cons_of_mem _ hm)), (List.nodup_cons.mp f.ndl).2⟩
end
end Tote
/-! # floors.py: going, pushes -/
namespace Tote
open PySem PySem.Spec PyProof.Rows L2 Tq
open SX (S S_inj S_len S_cat)
open Xb08 (Simulation Goal placeOfParcel parcelOf contentsOf roomOf isFree canGo parcelsOnBelt termHolds moveTo putAt)
variable {g : GG}
section
variable {h : Simulation}
theorem SimOk.put (ok : SimOk h) {m : Nat} {pl : Xb08.Place} (hv : ∀ b x, pl = .on b x → b < h.plant.belts.length ∧ x < Xb08.beltLength h.plant b) (hf : ∀ b x j, pl = .on b x → j ≠ m → h.positions_[j]? ≠ some (.on b x)) (mv : List Nat) :
    SimOk { h with positions_ := h.positions_.set m pl, moved := mv } := by
  have get : ∀ (i b x : Nat), (h.positions_.set m pl)[i]? = some (.on b x) → (i = m ∧ pl = .on b x) ∨ (i ≠ m ∧ h.positions_[i]? = some (.on b x)) := by
    intro i b x e
    rw [List.getElem?_set] at e
    by_cases z : m = i
    · rw [if_pos z] at e
      split at e
      · exact .inl ⟨z.symm, Option.some.inj e⟩
      · cases e
    · rw [if_neg z] at e
      exact .inr ⟨fun y => z y.symm, e⟩
  refine ⟨ok.pl, ?_, ok.se, ok.fi, ok.dn, ok.mi, fun i b x e => ?_, fun i j b x e1 e2 => ?_, ok.sc, ok.few⟩
  · show _ = (h.positions_.set m pl).length
    rw [List.length_set]
    exact ok.len
  · rcases get i b x e with ⟨_, e⟩ | ⟨_, e⟩
    · exact hv b x e
    · exact ok.on i b x e
  · rcases get i b x e1 with ⟨z1, p1⟩ | ⟨z1, p1⟩
    · rcases get j b x e2 with ⟨z2, p2⟩ | ⟨z2, p2⟩
      · exact z1.trans z2.symm
      · exact absurd p2 (hf b x j p1 z2)
    · rcases get j b x e2 with ⟨z2, p2⟩ | ⟨z2, p2⟩
      · exact absurd p1 (hf b x i p2 z1)
      · exact ok.one i j b x p1 p2
theorem SimOk.parLen (ok : SimOk h) {j : Nat} (hj : j < h.positions_.length) : 1 ≤ (parcelOf h j).length ∧ (parcelOf h j).length ≤ 5 ∧ (parcelOf h j).belt < h.plant.belts.length := by
  have hl : j < h.plant.parcels.length := by rw [ok.len]; exact hj
  have e : parcelOf h j = h.plant.parcels[j] := by
    unfold parcelOf
    rw [List.getD, List.getElem?_eq_getElem hl]
    rfl
  rw [e]
  have := ok.pl.pa _ (List.getElem_mem hl)
  exact ⟨this.2.1, this.2.2, this.1⟩
theorem free_front (ok : SimOk h) {m b x : Nat} (hf : isFree h m b x = true) : ∀ j, j ≠ m → h.positions_[j]? ≠ some (.on b x) := by
  intro j hj e
  have hl := (List.getElem?_eq_some_iff.mp e).1
  unfold isFree at hf
  rw [List.all_eq_true] at hf
  have := hf j (List.mem_range.mpr hl)
  have hp : placeOfParcel h j = .on b x := by
    unfold placeOfParcel
    rw [List.getD, e]
    rfl
  have hc : Xb08.covers h j b x = true := by
    unfold Xb08.covers
    rw [hp]
    have := (ok.parLen hl).1
    simp
    omega
  rw [hc] at this
  simp at this
  exact hj this
theorem canGo_free (ok : SimOk h) {m b x : Nat} (hm : m < h.positions_.length) (hc : canGo h m (.belt b x) = true) : isFree h m b x = true := by
  unfold canGo at hc
  obtain ⟨h1, h2⟩ := Bool.and_eq_true_iff.mp hc
  rw [List.all_eq_true] at h2
  have := h2 0 (List.mem_range.mpr (ok.parLen hm).1)
  exact this
theorem SimOk.move (ok : SimOk h) {m : Nat} {gl : Goal} (hg : GoalOk h.plant gl) (hf : ∀ b x, gl = .belt b x → isFree h m b x = true) : SimOk (moveTo h m gl) := by
  refine ok.put (fun b x e => ?_) (fun b x j e hj => ?_) _
  · cases gl with
    | belt k y => cases e; exact hg
    | chute k => cases e
  · cases gl with
    | belt k y => cases e; exact free_front ok (hf _ _ rfl) j hj
    | chute k => cases e
theorem place_set {m j : Nat} {pl : Xb08.Place} (mv : List Nat) : placeOfParcel { h with positions_ := h.positions_.set m pl, moved := mv } j = if m = j ∧ j < h.positions_.length then pl else placeOfParcel h j := by
  unfold placeOfParcel
  dsimp only
  rw [List.getD, List.getElem?_set]
  by_cases e : m = j
  · subst e
    rw [if_pos rfl]
    by_cases hl : m < h.positions_.length
    · rw [if_pos hl, if_pos ⟨rfl, hl⟩]
      rfl
    · rw [if_neg hl, if_neg fun z => hl z.2]
      rw [List.getD, List.getElem?_eq_none (by omega)]
  · rw [if_neg e, if_neg fun z => e z.1]
    rfl
end
def sp_Floor_go (g : GG) : Sp := fun vs H Q _ => ∃ (R : Hp) (F : FL) (h : Simulation) (m : Nat) (t : Addr) (gl : Goal), vs = [.ref F.fl, .int m, .ref t] ∧ FloorAt g H R F h ∧ m < h.positions_.length ∧ PlT g H t (plaV (putAt gl)) ∧ SimOk (moveTo h m gl) ∧
  ∀ H', FloorAt g H' R F (moveTo h m gl) → Q .non H'
theorem ok_Floor_go (T : Tx g) : Mt CX0 g 1 "Floor" "go" ["self", "number", "place"] (sp_Floor_go g) := by
  refine mt0 (k := 0) T.cl_Floor T.me_Floor_go T.df_Floor_go sc_Floor_go (fun _ _ _ _ _ _ us hl => match us, hl with | [_, _, _], _ => rfl) ?_ ?_
  · rintro vs H Q E ⟨R, F, h, m, t, gl, rfl, _⟩
    rfl
  · rintro cdv A outer s H vs Q E hr ⟨R, F, h, m, t, gl, rfl, f, hm, ht, ok', q⟩
    refine ⟨_, (pss_cons (ps_fc T.cl_Parcel T.na_Parcel_place (pe_ix ix_list (pe_fc T.cl_Floor T.na_Floor_parcels (pv 0)) (pv 1) (fun _ _ => rfl)) (pv 2)) (pss_one (ps_fc T.cl_Parcel T.na_Parcel_has_moved (pe_ix ix_list (pe_fc T.cl_Floor T.na_Floor_parcels (pv 0)) (pv 1) (fun _ _ => rfl)) pe_bl))), ?_⟩
    obtain ⟨dx, hf⟩ := f.flo
    have hps : m < F.ps.length := by rw [f.psLen]; exact hm
    have ha : F.ps[m]? = some F.ps[m] := List.getElem?_eq_getElem hps
    generalize F.ps[m] = a at ha
    obtain ⟨hlt, dx1, t1, k1, k2⟩ := f.parGet ha
    simp only [rIxD, gSub, rSetL, sDPut, tDGet, tDIn, tDNotIn, wipe, rLenS, tBM, rAppend, rExtend, rIn, cx_K, rIxS, rIxL, rIxT, tRet, tIfS, tTest, tChain, rI, rI0, rU, tC, tVar, tOp, tUn, tCB, tCons, tNil, tSeq, tNext, tB, tNot, tAnd, tOr, tAndV, tOrV, tNotV, tFc, sFc, sFcA, tMt, tCl, tNw, tLst, tTup, tDrop, tAsg, tPar, gName, gCons, gNil, tR1, rEq, rNe, rAdd, rSub, tAug, ipI, L2.start, List.map, List.length, List.replicate, List.append, List.set, exists_eq_left', exists_eq_left, exists_eq_right, exists_eq_right', exists_and_left, exists_and_right, exists_eq, exists_eq', Option.some.injEq, List.getElem?_cons_zero, List.getElem?_cons_succ, V.bl.injEq, V.int.injEq, V.str.injEq, V.ref.injEq, List.cons_append, List.nil_append, List.cons.injEq, HO.ins.injEq, HO.lst.injEq, HO.tup.injEq, true_and, and_true, decide_eq_true_eq, Bool.false_eq_true, ↓reduceIte, Bool.not_true, Bool.not_false, Bool.not_eq_true', decide_eq_false_iff_not, List.set_cons_zero, List.set_cons_succ, and_assoc, scal, dec_int, dec_str, forall_const, implies_true, hf, flF_get]
    refine ⟨_, .inl (.inl f.pcs), .ref a, atI_nat (by rw [List.getElem?_map, ha]; rfl), _, rfl, _, _, k1, (by show 6 < 1000; decide), ?_⟩
    have f1 : FloorAt g (upd H a (.ins (He.ga g.K (Str.ofString "Parcel")) dx1 (putF "place" (.ref t) (pcF (.int (parcelOf h m).belt) (.int (parcelOf h m).code) (.int (parcelOf h m).length) (.int (parcelOf h m).t) (.ref t1) (.bl (h.moved.contains m)))))) R F { h with positions_ := h.positions_.set m (putAt gl), moved := h.moved } := by
      refine f.setPar ha ?_ rfl rfl rfl rfl rfl rfl rfl (List.length_set ..) (fun j hj => ⟨?_, rfl⟩) ?_
      · exact ⟨ok'.pl, ok'.len, ok'.se, ok'.fi, ok'.dn, ok'.mi, ok'.on, ok'.one, ok'.sc, ok'.few⟩
      · rw [place_set, if_neg fun z => hj z.1.symm]
      · rw [place_set, if_pos ⟨rfl, hm⟩]
        have s : Sta (fun b => b = a) H (upd H a (.ins (He.ga g.K (Str.ofString "Parcel")) dx1 (putF "place" (.ref t) (pcF (.int (parcelOf h m).belt) (.int (parcelOf h m).code) (.int (parcelOf h m).length) (.int (parcelOf h m).t) (.ref t1) (.bl (h.moved.contains m)))))) := Sta.of_upd
        have n : NoT (fun b => b = a) H := fun b xs e => by
          subst e
          exact f.noT b xs (List.mem_append_right _ (FloorAt.ps_in ha))
        exact ⟨dx1, t, upd_same, ht.st s n⟩
    generalize upd H a (.ins (He.ga g.K (Str.ofString "Parcel")) dx1 (putF "place" (.ref t) (pcF (.int (parcelOf h m).belt) (.int (parcelOf h m).code) (.int (parcelOf h m).length) (.int (parcelOf h m).t) (.ref t1) (.bl (h.moved.contains m))))) = H1 at f1 ⊢
    obtain ⟨dx2, hf2⟩ := f1.flo
    obtain ⟨hlt2, dx3, t3, k3, k4⟩ := f1.parGet ha
    refine ⟨_, _, hf2, _, rfl, _, rfl, _, .inl (.inl f1.pcs), .ref a, atI_nat (by rw [List.getElem?_map, ha]; rfl), a, rfl, _, _, k3, (by show 6 < 1000; decide), ?_⟩
    refine q _ ?_
    refine f1.setPar ha ok' rfl rfl rfl rfl rfl rfl rfl rfl (fun j hj => ⟨rfl, ?_⟩) ?_
    · show (m :: h.moved).contains j = h.moved.contains j
      rw [List.contains_cons, show (j == m) = false from beq_eq_false_iff_ne.mpr hj, Bool.false_or]
    · have e : (moveTo h m gl).moved.contains m = true := by
        show (m :: h.moved).contains m = true
        rw [List.contains_cons, BEq.rfl, Bool.true_or]
      rw [e]
      have s : Sta (fun b => b = a) H1 (upd H1 a (.ins (He.ga g.K (Str.ofString "Parcel")) dx3 (putF "has_moved" (.bl true) (pcF (.int (parcelOf h m).belt) (.int (parcelOf h m).code) (.int (parcelOf h m).length) (.int (parcelOf h m).t) (.ref t3) (.bl (h.moved.contains m)))))) := Sta.of_upd
      have n : NoT (fun b => b = a) H1 := fun b xs e => by
        subst e
        exact f1.noT b xs (List.mem_append_right _ (FloorAt.ps_in ha))
      exact ⟨dx3, t3, upd_same, k4.st s n⟩
end Tote
/-! # floors.py: a tick begins; a push -/
namespace Tote
open PySem PySem.Spec PyProof.Rows L2 Tq
open SX (S S_inj S_len S_cat)
open Xb08 (Simulation Goal placeOfParcel parcelOf contentsOf roomOf isFree canGo parcelsOnBelt termHolds moveTo putAt)
variable {g : GG}
theorem SimOk.tick {h : Simulation} (ok : SimOk h) (t : Nat) (mv : List Nat) (ht : h.tick ≤ t) : SimOk { h with tick := t, moved := mv } :=
  ⟨ok.pl, ok.len, ok.se, ok.fi, ok.dn, ok.mi, ok.on, ok.one, ok.sc, by have := ok.few; show h.scheduled.length ≤ 12 * t; omega⟩
theorem FloorAt.moved {H R : Hp} {F : FL} {h : Simulation} (f : FloorAt g H R F h) (mv : List Nat) (e : ∀ i, i < h.positions_.length → mv.contains i = h.moved.contains i) : FloorAt g H R F { h with moved := mv } := by
  have k := f.ok
  refine ⟨f.same, f.pla, f.out, f.ndl, f.ndi, f.flo, f.sc, f.pcs, F2.imp f.par fun a i _ hi r => ?_, f.se, f.fi, f.dn, f.mi, ⟨k.pl, k.len, k.se, k.fi, k.dn, k.mi, k.on, k.one, k.sc, k.few⟩⟩
  show PcAt g H a (parcelOf h i) (placeOfParcel h i) (mv.contains i)
  rw [e i (List.mem_range.mp hi)]
  exact r
theorem cont_filter (l : List Nat) (i j : Nat) : (l.filter fun k => decide (i ≤ k)).contains j = (l.contains j && decide (i ≤ j)) := by
  rw [Bool.eq_iff_iff]
  simp [List.mem_filter]
def sp_Floor_begin_tick (g : GG) : Sp := fun vs H Q _ => ∃ (R : Hp) (F : FL) (h : Simulation), vs = [.ref F.fl] ∧ FloorAt g H R F h ∧ ∀ H', FloorAt g H' R F { h with tick := h.tick + 1, moved := [] } → Q .non H'
theorem ok_Floor_begin_tick (T : Tx g) : Mt CX0 g 1 "Floor" "begin_tick" ["self"] (sp_Floor_begin_tick g) := by
  refine mt0 (k := 0) T.cl_Floor T.me_Floor_begin_tick T.df_Floor_begin_tick sc_Floor_begin_tick (fun _ _ _ _ _ _ us hl => match us, hl with | [_], _ => rfl) ?_ ?_
  · rintro vs H Q E ⟨R, F, h, rfl, _⟩
    rfl
  · rintro cdv A outer s H vs Q E hr ⟨R, F, h, rfl, f, q⟩
    refine ⟨_, (pss_cons (ps_fca T.cl_Floor T.na_Floor_tick in_add (pv 0) pe_int) (pss_one (ps_for PassesOwn.never rfl (pi_list (pe_fc T.cl_Floor T.na_Floor_parcels (pv 0))) (pg_name (i := 1) sc_Floor_begin_tick.nd rfl (.inl rfl)) (pss_one (ps_fc T.cl_Parcel T.na_Parcel_has_moved (pv 1) pe_bl))))), ?_⟩
    obtain ⟨dx, hf⟩ := f.flo
    refine ⟨_, rfl, _, dx, _, _, rfl, hf, rfl, _, _, rfl, rfl, dx, _, hf, (by show 8 < 1000; decide), ?_⟩
    have f1 : FloorAt g (upd H F.fl (.ins (cF g "Floor") dx (flF (.ref F.L.pl) (.ref F.pc) (.int ((h.tick + 1 : Nat) : Int)) (.ref F.se) (.ref F.fi) (.ref F.dn) (.ref F.mi) (.ref F.sc)))) R F { h with tick := h.tick + 1, moved := h.moved } := f.setFl f.sc (.inl rfl) (f.ok.tick (h.tick + 1) h.moved (Nat.le_succ _))
    rw [show putF "tick" (.int ((h.tick : Int) + 1)) (flF (.ref F.L.pl) (.ref F.pc) (.int h.tick) (.ref F.se) (.ref F.fi) (.ref F.dn) (.ref F.mi) (.ref F.sc)) = flF (.ref F.L.pl) (.ref F.pc) (.int ((h.tick + 1 : Nat) : Int)) (.ref F.se) (.ref F.fi) (.ref F.dn) (.ref F.mi) (.ref F.sc) from rfl]
    generalize upd H F.fl (.ins (cF g "Floor") dx (flF (.ref F.L.pl) (.ref F.pc) (.int ((h.tick + 1 : Nat) : Int)) (.ref F.se) (.ref F.fi) (.ref F.dn) (.ref F.mi) (.ref F.sc))) = H1 at f1 ⊢
    obtain ⟨dx1, hf1⟩ := f1.flo
    refine ⟨_, rfl, _, dx1, _, _, rfl, hf1, rfl, F.pc, rfl, ⟨_, .inl (.inl f1.pcs)⟩, ?_⟩
    refine for_it (walk_list (xs := F.ps.map .ref)) (fun i σ H' => ∃ y, σ = [some (.ref F.fl), y] ∧ FloorAt g H' R F { h with tick := h.tick + 1, moved := h.moved.filter fun k => decide (i ≤ k) }) ⟨none, rfl, ?_⟩ ?_ ?_ ?_
    · refine f1.moved _ fun i _ => ?_
      rw [cont_filter, decide_eq_true (Nat.zero_le i), Bool.and_true]
    · rintro i σ H' hi ⟨y, rfl, f2⟩
      exact .inl (.inl f2.pcs)
    · rintro i x σ H2 H' hi ⟨y, rfl, f2⟩ ⟨rfl, ex⟩
      rw [List.length_map] at hi
      rw [List.getElem?_map, List.getElem?_eq_getElem hi] at ex
      cases ex
      have ha : F.ps[i]? = some F.ps[i] := List.getElem?_eq_getElem hi
      generalize F.ps[i] = a at ha
      obtain ⟨hlt, dx2, t2, k1, k2⟩ := f2.parGet ha
      refine ⟨_, rfl, a, dx2, _, rfl, k1, (by show 6 < 1000; decide), _, rfl, ?_⟩
      refine f2.setPar ha (f.ok.tick (h.tick + 1) _ (Nat.le_succ _)) rfl rfl rfl rfl rfl rfl rfl rfl (fun j hj => ⟨rfl, ?_⟩) ?_
      · dsimp only
        rw [cont_filter, cont_filter]
        congr 1
        by_cases z : i ≤ j
        · rw [decide_eq_true z, decide_eq_true (by omega)]
        · rw [decide_eq_false z, decide_eq_false (by omega)]
      · dsimp only
        have e : (h.moved.filter fun k => decide (i + 1 ≤ k)).contains i = false := by
          rw [cont_filter, decide_eq_false (by omega), Bool.and_false]
        rw [e]
        have s : Sta (fun b => b = a) H' (upd H' a (.ins (cF g "Parcel") dx2 (putF "has_moved" (.bl false) (pcF (.int (parcelOf h i).belt) (.int (parcelOf h i).code) (.int (parcelOf h i).length) (.int (parcelOf h i).t) (.ref t2) (.bl ((h.moved.filter fun k => decide (i ≤ k)).contains i)))))) := Sta.of_upd
        have n : NoT (fun b => b = a) H' := fun b xs e => by
          subst e
          exact f2.noT b xs (List.mem_append_right _ (FloorAt.ps_in ha))
        exact ⟨dx2, t2, upd_same, k2.st s n⟩
    · rintro σ H' ⟨y, rfl, f2⟩
      refine q _ (f2.moved [] fun i hi => ?_)
      dsimp only at hi ⊢
      rw [cont_filter, List.length_map, f.psLen, decide_eq_false (by omega), Bool.and_false]
      rfl
end Tote
/-! # floors.py: a push -/
namespace Tote
open PySem PySem.Spec PyProof.Rows L2 Tq
open SX (S S_inj S_len S_cat)
open Xb08 (Simulation Goal placeOfParcel parcelOf contentsOf roomOf isFree canGo parcelsOnBelt termHolds moveTo putAt executePush addAt)
variable {g : GG}
theorem place_iff {h : Simulation} {i : Nat} {b x : Nat} : placeOfParcel h i = .on b x ↔ h.positions_[i]? = some (.on b x) := by
  unfold placeOfParcel List.getD
  cases q : h.positions_[i]? with
  | none => simp
  | some p => simp
theorem at_on {h : Simulation} (ok : SimOk h) (b x : Nat) : ((List.range h.positions_.length).filter fun i => decide (placeOfParcel h i = .on b x)) = (h.positions_.findIdx? fun p => p == .on b x).toList := by
  cases q : h.positions_.findIdx? fun p => p == .on b x with
  | none =>
    rw [List.findIdx?_eq_none_iff] at q
    refine List.filter_eq_nil_iff.mpr fun i hi hd => ?_
    have e := place_iff.mp (of_decide_eq_true hd)
    have := q _ (List.mem_of_getElem? e)
    simp at this
  | some m =>
    have hm := front_pos.mp ((find_on ok).mp q)
    have hl := (List.getElem?_eq_some_iff.mp hm).1
    have e : ((List.range h.positions_.length).filter fun i => decide (placeOfParcel h i = .on b x)) = (List.range h.positions_.length).filter fun i => decide (i = m) := by
      refine List.filter_congr fun i _ => decide_eq_decide.mpr ?_
      rw [place_iff]
      exact ⟨fun z => ok.one i m b x z hm, fun z => by rw [z]; exact hm⟩
    rw [e]
    have : ∀ n, m < n → (List.range n).filter (fun i => decide (i = m)) = [m] := by
      intro n hn
      induction n with
      | zero => omega
      | succ n ih =>
        rw [List.range_succ, List.filter_append]
        by_cases z : m = n
        · subst z
          rw [List.filter_eq_nil_iff.mpr fun i hi hd => by
            have := List.mem_range.mp hi
            have := of_decide_eq_true hd
            omega]
          simp
        · rw [ih (by omega)]
          simp [Ne.symm z]
    rw [this _ hl]
    rfl
theorem addAt_map (l : List Nat) (k : Nat) (hk : k < l.length) : (l.map iV).set k (.int ((l[k] : Nat) + 1)) = (addAt l k).map iV := by
  unfold addAt
  refine List.ext_getElem? fun i => ?_
  rw [List.getElem?_set, List.getElem?_map, List.getElem?_map, List.getElem?_modify, List.length_map]
  by_cases e : k = i
  · subst e
    rw [if_pos rfl, if_pos hk, List.getElem?_eq_getElem hk]
    simp [iV]
  · rw [if_neg e]
    cases l[i]? <;> simp [e]
theorem addAt_len (l : List Nat) (k : Nat) : (addAt l k).length = l.length := List.length_modify ..
def sp_Floor_do_push (g : GG) : Sp := fun vs H Q _ => ∃ (R : Hp) (F : FL) (h : Simulation) (k : Nat), vs = [.ref F.fl, .int k] ∧ FloorAt g H R F h ∧ k < h.plant.pushers.length ∧ ∀ H', FloorAt g H' R F (executePush h k) → Q .non H'
theorem ok_Floor_do_push (T : Tx g) : Mt CX0 g 4 "Floor" "do_push" ["self", "pusher"] (sp_Floor_do_push g) := by
  refine mt0 (k := 3) T.cl_Floor T.me_Floor_do_push T.df_Floor_do_push sc_Floor_do_push (fun _ _ _ _ _ _ us hl => match us, hl with | [_, _], _ => rfl) ?_ ?_
  · rintro vs H Q E ⟨R, F, h, k, rfl, _⟩
    rfl
  · rintro cdv A outer s H vs Q E hr ⟨R, F, h, k, rfl, f, hk, q⟩
    refine ⟨_, (pss_cons (ps_asg (pe_ix ix_list (pe_fc T.cl_Plant T.na_Plant_pushers (pe_fc T.cl_Floor T.na_Floor_plant (pv 0))) (pv 1) (fun _ _ => rfl)) (pg_tup rfl (pgs_cons (pg_name (i := 2) sc_Floor_do_push.nd rfl (.inl rfl)) (pgs_cons (pg_name (i := 3) sc_Floor_do_push.nd rfl (.inl rfl)) (pgs_cons (pg_name (i := 4) sc_Floor_do_push.nd rfl (.inl rfl)) pgs_nil))))) (pss_cons (ps_setLc (i := 5) (own := [("number", 6)]) (g := (gName 6)) (tt := (tNot (tB (tFc (cF g "Parcel") "has_moved" (tOp (rIxL g.K) (tFc (cF g "Floor") "parcels" (tVar 0)) (tVar 6)))))) (te := (tVar 6)) rfl sc_Floor_do_push.nd rfl rfl (sw_true rfl rfl rfl (by decide +kernel)) (pi_list (pe_mt (ok_Floor_at_place T) hr (by decide) (pv 0) (pa_cons (pe_tup (pa_cons (C8.pe_gc rfl T.in_BELT) (pa_cons (pv 2) (pa_cons (pv 3) pa_nil)))) pa_nil))) (blkOk_by (N := ["self", "pusher", "belt", "position", "goal", "here", "number"]) (sc := defScope s_Floor_do_push) (by decide +kernel)) (fun _ _ _ _ _ => (pg_name (i := 6) sc_Floor_do_push.nd rfl (.inl rfl))) (fun _ _ _ _ _ => pts_one (pt_not (pt_val (pe_fc T.cl_Parcel T.na_Parcel_has_moved (pe_ix ix_list (pe_fc T.cl_Floor T.na_Floor_parcels (pv 0)) (pv 6) (fun _ _ => rfl)))))) (fun _ _ _ _ _ => (pv 6))) (pss_one (ps_if (PW.pt (pw_and (pt_cmpR (op_neD (by exact hr.units)) (pv 5) (pe_lst pa_nil) (nomark _)) (pw_and1 (pt_val (pe_mt (ok_Floor_can_go T) hr (by decide) (pv 0) (pa_cons (pe_ix ix_list (pv 5) pe_int (fun _ _ => rfl)) (pa_cons (pv 4) pa_nil))))))) (pss_cons (ps_expr (pe_mt (ok_Floor_go T) hr (by decide) (pv 0) (pa_cons (pe_ix ix_list (pv 5) pe_int (fun _ _ => rfl)) (pa_cons (pv 4) pa_nil)))) (pss_one (ps_augS (pe_fc T.cl_Floor T.na_Floor_done (pv 0)) (pv 1) get_list pe_int ip_add set_list))) (pss_one (ps_augS (pe_fc T.cl_Floor T.na_Floor_missed (pv 0)) (pv 1) get_list pe_int ip_add set_list)))))), ?_⟩
    obtain ⟨dx, hf⟩ := f.flo
    obtain ⟨px, pi⟩ := (f.pla.same f.same).ins
    obtain ⟨ts, hp1, hp2⟩ := (f.pla.same f.same).pu
    have hu : h.plant.pushers[k]? = some h.plant.pushers[k] := List.getElem?_eq_getElem hk
    have hex : executePush h k = (match h.positions_.findIdx? fun p => p == .on h.plant.pushers[k].belt h.plant.pushers[k].position with
      | none => { h with pushesMissed := addAt h.pushesMissed k }
      | some m => if h.moved.contains m = false ∧ canGo h m h.plant.pushers[k].goal = true then { (moveTo h m h.plant.pushers[k].goal) with pushesDone := addAt h.pushesDone k } else { h with pushesMissed := addAt h.pushesMissed k }) := by
      unfold executePush
      rw [hu]
      rfl
    have hgo := f.ok.pl.pu _ (List.getElem_mem hk)
    generalize h.plant.pushers[k] = u at hu hex hgo
    obtain ⟨t, htk, t2, ht, ht2⟩ := hp2.get hu
    simp only [rIxD, gSub, rSetL, sDPut, tDGet, tDIn, tDNotIn, wipe, rLenS, tBM, rAppend, rExtend, rIn, cx_K, rIxS, rIxL, rIxT, tRet, tIfS, tTest, tChain, rI, rI0, rU, tC, tVar, tOp, tUn, tCB, tCons, tNil, tSeq, tNext, tB, tNot, tAnd, tOr, tAndV, tOrV, tNotV, tFc, sFc, sFcA, tMt, tCl, tNw, tLst, tTup, tDrop, tAsg, tPar, gName, gCons, gNil, tR1, rEq, rNe, rAdd, rSub, tAug, ipI, L2.start, List.map, List.length, List.replicate, List.append, List.set, exists_eq_left', exists_eq_left, exists_eq_right, exists_eq_right', exists_and_left, exists_and_right, exists_eq, exists_eq', Option.some.injEq, List.getElem?_cons_zero, List.getElem?_cons_succ, V.bl.injEq, V.int.injEq, V.str.injEq, V.ref.injEq, List.cons_append, List.nil_append, List.cons.injEq, HO.ins.injEq, HO.lst.injEq, HO.tup.injEq, true_and, and_true, decide_eq_true_eq, Bool.false_eq_true, ↓reduceIte, Bool.not_true, Bool.not_false, Bool.not_eq_true', decide_eq_false_iff_not, List.set_cons_zero, List.set_cons_succ, and_assoc, scal, dec_int, dec_str, forall_const, implies_true, hf, flF_get, pi, PL.fs, plF_get]
    refine ⟨_, .inl (.inl hp1), .ref t, atI_nat (by rw [List.getElem?_map, htk]; rfl), ?_⟩
    refine ⟨t, _, rfl, .inl (.inl ht), rfl, _, _, rfl, _, _, rfl, _, _, rfl, rfl, ?_⟩
    -- a push that is missed
    have miss : ∀ (H3 : Hp) (σ : L2.St), FloorAt g H3 R F h → executePush h k = { h with pushesMissed := addAt h.pushesMissed k } → σ[0]? = some (some (.ref F.fl)) → σ[1]? = some (some (.int k)) →
        tAugS (tFc (He.ga g.K (Str.ofString "Floor")) (Str.ofString "missed") (tVar 0)) (tVar 1) (tC (.int 1)) (rGetL g.K) (ipI fun i j => i + j) rSetL { nx := fun x H' => Q .non H', rt := Q } σ H3 := by
      intro H3 σ f3 e3 hs0 hs1
      obtain ⟨dx3, hf3⟩ := f3.flo
      have hkl : k < h.pushesMissed.length := by rw [f.ok.mi]; exact hk
      refine ⟨_, hs0, _, dx3, _, _, rfl, hf3, rfl, _, hs1, F.mi, _, k, .int (h.pushesMissed[k] : Nat), rfl, rfl, .inl (.inl f3.mi), (by rw [List.getElem?_map, List.getElem?_eq_getElem hkl]; rfl), _, _, rfl, rfl, F.mi, _, k, k, rfl, rfl, f3.mi, ixN_nat (by rw [List.length_map]; exact hkl), ?_⟩
      rw [addAt_map _ _ hkl]
      refine q _ ?_
      rw [e3]
      exact f3.setMi (addAt_len _ _)
    have done : ∀ (H3 : Hp) (σ : L2.St) (m : Nat), FloorAt g H3 R F (moveTo h m u.goal) → executePush h k = { (moveTo h m u.goal) with pushesDone := addAt h.pushesDone k } → σ[0]? = some (some (.ref F.fl)) → σ[1]? = some (some (.int k)) →
        tAugS (tFc (He.ga g.K (Str.ofString "Floor")) (Str.ofString "done") (tVar 0)) (tVar 1) (tC (.int 1)) (rGetL g.K) (ipI fun i j => i + j) rSetL { nx := fun x H' => Q .non H', rt := Q } σ H3 := by
      intro H3 σ m f3 e3 hs0 hs1
      obtain ⟨dx3, hf3⟩ := f3.flo
      have hkl : k < h.pushesDone.length := by rw [f.ok.dn]; exact hk
      refine ⟨_, hs0, _, dx3, _, _, rfl, hf3, rfl, _, hs1, F.dn, _, k, .int (h.pushesDone[k] : Nat), rfl, rfl, .inl (.inl f3.dn), (by show (h.pushesDone.map iV)[k]? = _; rw [List.getElem?_map, List.getElem?_eq_getElem hkl]; rfl), _, _, rfl, rfl, F.dn, _, k, k, rfl, rfl, f3.dn, ixN_nat (by show k < (h.pushesDone.map iV).length; rw [List.length_map]; exact hkl), ?_⟩
      rw [show (moveTo h m u.goal).pushesDone = h.pushesDone from rfl, addAt_map _ _ hkl]
      refine q _ ?_
      rw [e3]
      exact f3.setDn (addAt_len _ _)
    generalize hfind : (h.positions_.findIdx? fun p => p == .on u.belt u.position) = found at hex
    simp only [rIxD, gSub, rSetL, sDPut, tDGet, tDIn, tDNotIn, wipe, rLenS, tBM, rAppend, rExtend, rIn, cx_K, rIxS, rIxL, rIxT, tRet, tIfS, tTest, tChain, rI, rI0, rU, tC, tVar, tOp, tUn, tCB, tCons, tNil, tSeq, tNext, tB, tNot, tAnd, tOr, tAndV, tOrV, tNotV, tFc, sFc, sFcA, tMt, tCl, tNw, tLst, tTup, tDrop, tAsg, tPar, gName, gCons, gNil, tR1, rEq, rNe, rAdd, rSub, tAug, ipI, L2.start, List.map, List.length, List.replicate, List.append, List.set, exists_eq_left', exists_eq_left, exists_eq_right, exists_eq_right', exists_and_left, exists_and_right, exists_eq, exists_eq', Option.some.injEq, List.getElem?_cons_zero, List.getElem?_cons_succ, V.bl.injEq, V.int.injEq, V.str.injEq, V.ref.injEq, List.cons_append, List.nil_append, List.cons.injEq, HO.ins.injEq, HO.lst.injEq, HO.tup.injEq, true_and, and_true, decide_eq_true_eq, Bool.false_eq_true, ↓reduceIte, Bool.not_true, Bool.not_false, Bool.not_eq_true', decide_eq_false_iff_not, List.set_cons_zero, List.set_cons_succ, and_assoc, scal, dec_int, dec_str, forall_const, implies_true, hf, flF_get]
    refine ⟨_, rfl, _, dx, _, rfl, hf, rfl, _, rfl, _, rfl, (by show 3 ≤ sizeLine; decide), fun t3 ht3 => ?_⟩
    have s3 := Same.new (o := .tup [.int 1, .int u.belt, .int u.position]) ht3
    refine ⟨R, F, h, t3, .on u.belt u.position, rfl, f.mono s3, .inl upd_same, fun H4 p4 s4 hp40 hp4 => ?_⟩
    rw [at_on f.ok, hfind] at hp4
    have f4 := (f.mono s3).mono s4
    have s5 := s3.trans s4
    generalize upd H t3 (.tup [.int 1, .int u.belt, .int u.position]) = H3 at s3 s4 hp40
    refine ⟨p4, rfl, ⟨_, .inl (.inl hp4)⟩, fun D hD => ?_⟩
    have hfl : found.toList.length ≤ 1 := by cases found <;> simp
    refine lc_fm (walk_list (xs := found.toList.map iV)) (fun i => (found.toList[i]?).bind fun m => if (!h.moved.contains m) = true then some (V.int m) else none) hD (by rw [List.length_map]; omega) (fun H' s' => .inl (.inl (s' _ _ hp4))) ?_ ?_
    · rintro i x H5 H6 Qk Qn hi s6 ⟨rfl, ex⟩ hk' hn'
      rw [List.getElem?_map] at ex
      cases em : found.toList[i]? with
      | none => rw [em] at ex; cases ex
      | some m =>
        rw [em] at ex
        cases ex
        rw [em] at hk' hn'
        have hmf : found = some m := by
          cases found with
          | none => simp at em
          | some y =>
            have : m ∈ (some y).toList := List.mem_of_getElem? em
            simp at this
            rw [this]
        have hml : m < h.positions_.length := by
          rw [← hfind] at hmf
          exact (List.getElem?_eq_some_iff.mp (front_pos.mp ((find_on f.ok).mp hmf))).1
        have f6 := f4.mono s6
        obtain ⟨dx6, hf6⟩ := f6.flo
        have hps : m < F.ps.length := by rw [f.psLen]; exact hml
        obtain ⟨_, dx7, t7, k1, k2⟩ := f6.parGet (List.getElem?_eq_getElem hps)
        refine ⟨rfl, ?_⟩
        refine ⟨_, rfl, _, dx6, _, _, rfl, hf6, rfl, _, rfl, F.pc, _, _, _, rfl, rfl, .inl (.inl f6.pcs), atI_nat (by rw [List.getElem?_map, List.getElem?_eq_getElem hps]; rfl), _, dx7, _, _, rfl, k1, rfl, _, rfl, ?_⟩
        cases eb : h.moved.contains m with
        | true => exact iteF (hn' _ (.refl _) (by show (if (!h.moved.contains m) = true then some (V.int m) else none) = none; rw [eb]; rfl))
        | false => exact iteT ⟨_, rfl, hk' _ _ (.refl _) (by show (if (!h.moved.contains m) = true then some (V.int m) else none) = some (V.int m); rw [eb]; rfl)⟩
    · intro H5 s6 hD5
      rw [List.length_map, fm_bind] at hD5
      have f5 := f4.mono s6
      refine ⟨Nat.zero_le _, fun l hl => ?_⟩
      have s7 := Same.new (o := .lst []) hl
      have f6 := f5.mono s7
      have s8 : Same H (upd H5 l (.lst [])) := s5.trans (s6.trans s7)
      have e2 : found.toList.filterMap (fun m => if (!h.moved.contains m) = true then some (V.int m) else none) = (found.toList.filter fun m => !h.moved.contains m).map iV := by
        cases found with
        | none => rfl
        | some m =>
          show List.filterMap (fun m => if (!h.moved.contains m) = true then some (V.int m) else none) [m] = (List.filter (fun m => !h.moved.contains m) [m]).map iV
          rw [List.filterMap_cons, List.filter_cons]
          cases h.moved.contains m <;> rfl
      rw [e2] at hD5
      have hD6 := s7 _ _ hD5
      refine ⟨.list ((found.toList.filter fun m => !h.moved.contains m).map iD), .list [], .lst (.inl (.inl hD6)) (dp_ints _), .lst (.inl (.inl upd_same)) .nil, ints_shaped _, rfl, _, rfl, ?_⟩
      rw [ints_eqv]
      have htg : PlT g (upd H5 l (.lst [])) t2 (goalT u.goal) := .inl (s8 _ _ ht2)
      generalize upd H5 l (.lst []) = H6 at f6 s8 hD6 htg ⊢
      obtain ⟨dx6, hf6⟩ := f6.flo
      cases found with
      | none => exact iteF (miss _ _ f6 hex rfl rfl)
      | some m =>
        have hml : m < h.positions_.length := (List.getElem?_eq_some_iff.mp (front_pos.mp ((find_on f.ok).mp hfind))).1
        cases eb : h.moved.contains m with
        | true =>
          have e0 : ((some m).toList.filter fun m => !h.moved.contains m) = [] := by
            show List.filter (fun m => !h.moved.contains m) [m] = []
            rw [List.filter_cons, eb]
            rfl
          rw [e0]
          refine iteF (miss _ _ f6 ?_ rfl rfl)
          rw [hex]
          exact if_neg fun z => by rw [eb] at z; cases z.1
        | false =>
          have e0 : ((some m).toList.filter fun m => !h.moved.contains m) = [m] := by
            show List.filter (fun m => !h.moved.contains m) [m] = [m]
            rw [List.filter_cons, eb]
            rfl
          rw [e0] at hD6 ⊢
          refine iteT ⟨_, _, hf6, rfl, _, rfl, _, .inl (.inl hD6), _, atI_nat (j := 0) rfl, R, F, h, m, t2, u.goal, rfl, f6, htg, hgo, hml, fun H7 s9 => ⟨_, rfl, ?_⟩⟩
          have f7 := f6.mono s9
          cases ec : canGo h m u.goal with
          | false =>
            refine iteF (miss _ _ f7 ?_ rfl rfl)
            rw [hex]
            exact if_neg fun z => by rw [ec] at z; cases z.2
          | true =>
            obtain ⟨dx7, hf7⟩ := f7.flo
            have ok' := f.ok.move hgo fun b x e => canGo_free f.ok hml (by rw [← e]; exact ec)
            refine iteT ⟨_, _, hf7, rfl, _, rfl, _, .inl (.inl (s9 _ _ hD6)), _, atI_nat (j := 0) rfl, R, F, h, m, t2, u.goal, rfl, f7, hml, ?_, ok', fun H8 f8 => done _ _ m f8 ?_ rfl rfl⟩
            · rw [← goalT_pla]
              exact htg.st (Sta.of_same s9) NoT.none
            · rw [hex]
              exact if_pos ⟨eb, ec⟩
end Tote
/-! # floors.py: the pushes of a tick -/
namespace Tote
open PySem PySem.Spec PyProof.Rows L2 Tq
open SX (S S_inj S_len S_cat)
open Xb08 (Simulation Goal placeOfParcel parcelOf contentsOf roomOf isFree canGo parcelsOnBelt termHolds moveTo putAt executePush addAt)
variable {g : GG}
theorem exec_plant (h : Simulation) (k : Nat) : (executePush h k).plant = h.plant ∧ (executePush h k).tick = h.tick := by
  unfold executePush
  split
  · exact ⟨rfl, rfl⟩
  · split
    · exact ⟨rfl, rfl⟩
    · split <;> exact ⟨rfl, rfl⟩
def pushFold (l : List (Nat × Nat)) (h : Simulation) : Simulation := l.foldl (fun g d => executePush g d.2) h
theorem pushFold_plant (l : List (Nat × Nat)) : ∀ h : Simulation, (pushFold l h).plant = h.plant ∧ (pushFold l h).tick = h.tick := by
  induction l with
  | nil => exact fun h => ⟨rfl, rfl⟩
  | cons d l ih =>
    intro h
    have e := ih (executePush h d.2)
    have e2 := exec_plant h d.2
    exact ⟨e.1.trans e2.1, e.2.trans e2.2⟩
theorem pushFold_take {l : List (Nat × Nat)} {i : Nat} {d : Nat × Nat} (hd : l[i]? = some d) (h : Simulation) : pushFold (l.take (i + 1)) h = executePush (pushFold (l.take i) h) d.2 := by
  unfold pushFold
  rw [List.take_add_one, hd]
  simp
def nowOf (h : Simulation) : List (Nat × Nat) := h.scheduled.filter fun d => d.1 == h.tick
def laterOf (h : Simulation) : List (Nat × Nat) := h.scheduled.filter fun d => d.1 != h.tick
def pushAll (h : Simulation) : Simulation := pushFold (nowOf h) { h with scheduled := laterOf h }
/-- a floor keeps what stands besides it -/
theorem FloorAt.keep {H R H' : Hp} {F : FL} {h h' : Simulation} (f : FloorAt g H R F h) (e : h'.plant = h.plant) (f' : FloorAt g H' (F.wide H) F h') : FloorAt g H' R F h' ∧ ∀ a o, H a = some o → a ∉ F.foot → H' a = some o := by
  refine ⟨f'.less f.sub (by rw [e]; exact f.pla), fun a o ha hn => f'.same _ _ ?_⟩
  unfold FL.wide
  rw [if_neg hn]
  exact ha
def sp_Floor_do_pushes (g : GG) : Sp := fun vs H Q _ => ∃ (R : Hp) (F : FL) (h : Simulation), vs = [.ref F.fl] ∧ FloorAt g H R F h ∧ h.tick ≤ 100000 ∧ ∀ H' sc', FloorAt g H' R { F with sc := sc' } (pushAll h) → Q .non H'
theorem ok_Floor_do_pushes (T : Tx g) : Mt CX0 g 5 "Floor" "do_pushes" ["self"] (sp_Floor_do_pushes g) := by
  refine mt0 (k := 4) T.cl_Floor T.me_Floor_do_pushes T.df_Floor_do_pushes sc_Floor_do_pushes (fun _ _ _ _ _ _ us hl => match us, hl with | [_], _ => rfl) ?_ ?_
  · rintro vs H Q E ⟨R, F, h, rfl, _⟩
    rfl
  · rintro cdv A outer s H vs Q E hr ⟨R, F, h, rfl, f, htk, q⟩
    refine ⟨_, (pss_cons (ps_setLc (i := 2) (own := [("tick", 3), ("pusher", 1)]) (g := (gTup g.K 2 (gCons (gName 3) (gCons (gName 1) gNil)))) (tt := (tTest (tOp rEq (tVar 3) (tFc (cF g "Floor") "tick" (tVar 0))))) (te := (tVar 1)) rfl sc_Floor_do_pushes.nd rfl rfl (sw_true rfl rfl rfl (by decide +kernel)) (pi_list (pe_fc T.cl_Floor T.na_Floor_scheduled (pv 0))) (blkOk_by (N := ["self", "pusher", "due", "tick"]) (sc := defScope s_Floor_do_pushes) (by decide +kernel)) (fun _ _ _ _ _ => by exact (pg_tup rfl (pgs_cons (pg_name (i := 3) sc_Floor_do_pushes.nd rfl (.inl rfl)) (pgs_cons (pg_name (i := 1) sc_Floor_do_pushes.nd rfl (.inl rfl)) pgs_nil)))) (fun _ _ _ _ _ => by exact pts_one (pt_cmpR op_eq (pv 3) (pe_fc T.cl_Floor T.na_Floor_tick (pv 0)) (nomark _))) (fun _ _ _ _ _ => by exact (pv 1))) (pss_cons (ps_fc T.cl_Floor T.na_Floor_scheduled (pv 0) (pe_lc (own := [("tick", 3), ("pusher", 1)]) (g := (gTup g.K 2 (gCons (gName 3) (gCons (gName 1) gNil)))) (tt := (tTest (tOp rNe (tVar 3) (tFc (cF g "Floor") "tick" (tVar 0))))) (te := (tTup (tCons (tVar 3) (tCons (tVar 1) tNil)))) rfl sc_Floor_do_pushes.nd (pi_list (pe_fc T.cl_Floor T.na_Floor_scheduled (pv 0))) (blkOk_by (N := ["self", "pusher", "due", "tick"]) (sc := defScope s_Floor_do_pushes) (by decide +kernel)) (fun _ _ _ _ _ => by exact (pg_tup rfl (pgs_cons (pg_name (i := 3) sc_Floor_do_pushes.nd rfl (.inl rfl)) (pgs_cons (pg_name (i := 1) sc_Floor_do_pushes.nd rfl (.inl rfl)) pgs_nil)))) (fun _ _ _ _ _ => by exact pts_one (pt_cmpR op_ne (pv 3) (pe_fc T.cl_Floor T.na_Floor_tick (pv 0)) (nomark _))) (fun _ _ _ _ _ => by exact (pe_tup (pa_cons (pv 3) (pa_cons (pv 1) pa_nil)))))) (pss_one (ps_for PassesOwn.never rfl (pi_list (pv 2)) (pg_name (i := 1) sc_Floor_do_pushes.nd rfl (.inl rfl)) (pss_one (ps_expr (pe_mt (ok_Floor_do_push T) hr (by decide) (pv 0) (pa_cons (pv 1) pa_nil)))))))), ?_⟩
    obtain ⟨dx, hf⟩ := f.flo
    obtain ⟨ts, hs1, hs2⟩ := f.sc
    have hsl : h.scheduled.length ≤ 1000000 * 12 := by have := f.ok.few; omega
    refine ⟨_, rfl, _, dx, _, _, rfl, hf, rfl, F.sc, rfl, ⟨_, .inl (.inl hs1)⟩, fun D hD => ?_⟩
    refine lc_fmB (walk_list (xs := ts.map .ref)) (fun i => (h.scheduled[i]?).bind fun d => if (d.1 == h.tick) = true then some (V.int d.2) else none) hD (by rw [List.length_map, hs2.len]; rw [sizeLine_eq]; omega) (fun H' s' => .inl (.inl (s' _ _ hs1))) ?_ ?_
    · rintro i x H5 H6 Qk Qn hi s6 ⟨rfl, ex⟩ hk' hn'
      rw [List.length_map] at hi
      rw [List.getElem?_map, List.getElem?_eq_getElem hi] at ex
      cases ex
      obtain ⟨d, hd, htd⟩ := hs2.get' (List.getElem?_eq_getElem hi)
      rw [hd] at hk' hn'
      obtain ⟨dx6, hf6⟩ := (f.mono s6).flo
      refine ⟨_, _, rfl, .inl (.inl (s6 _ _ htd)), rfl, _, _, rfl, _, _, rfl, rfl, rfl, ?_⟩
      refine ⟨_, rfl, _, rfl, _, dx6, _, _, rfl, hf6, rfl, rfl, _, rfl, ?_⟩
      by_cases e : d.1 = h.tick
      · rw [decide_eq_true (show V.int (d.1 : Nat) = V.int (h.tick : Nat) by rw [e])]
        exact iteT ⟨_, rfl, hk' _ _ (.refl _) (by show (if (d.1 == h.tick) = true then some (V.int d.2) else none) = some (V.int d.2); rw [e, BEq.rfl]; rfl)⟩
      · rw [decide_eq_false (show ¬ V.int (d.1 : Nat) = V.int (h.tick : Nat) from fun z => e (by have := V.int.inj z; omega))]
        exact iteF (hn' _ (.refl _) (by show (if (d.1 == h.tick) = true then some (V.int d.2) else none) = none; rw [show (d.1 == h.tick) = false from beq_eq_false_iff_ne.mpr e]; rfl))
    · intro H1 s1 hD1
      rw [List.length_map, hs2.len, fm_bind] at hD1
      have f1 := f.mono s1
      obtain ⟨dx1, hf1⟩ := f1.flo
      refine ⟨_, rfl, _, dx1, _, _, rfl, hf1, rfl, F.sc, rfl, ⟨_, .inl (.inl (s1 _ _ hs1))⟩, fun D2 hD2 => ?_⟩
      refine lc_it (walk_list (xs := ts.map .ref)) (fun i H' => ∃ us : List Addr, Same H1 H' ∧ H' D2 = some (.lst (us.map .ref)) ∧ F2 (fun t (d : Nat × Nat) => H' t = some (.tup [.int d.1, .int d.2])) us ((h.scheduled.take i).filter fun d => d.1 != h.tick)) ⟨[], Same.new hD2, upd_same, F2.nil⟩ ?_ ?_ ?_
      · rintro i H' hi ⟨us, s2, _⟩
        exact .inl (.inl (s2 _ _ (s1 _ _ hs1)))
      · rintro i x H5 H6 hi ⟨us, s2, hl, hF⟩ ⟨rfl, ex⟩
        rw [List.length_map] at hi
        rw [List.getElem?_map, List.getElem?_eq_getElem hi] at ex
        cases ex
        obtain ⟨d, hd, htd⟩ := hs2.get' (List.getElem?_eq_getElem hi)
        have f6 := f1.mono s2
        obtain ⟨dx6, hf6⟩ := f6.flo
        refine ⟨_, _, rfl, .inl (.inl (s2 _ _ (s1 _ _ htd))), rfl, _, _, rfl, _, _, rfl, rfl, rfl, ?_⟩
        refine ⟨_, rfl, _, rfl, _, dx6, _, _, rfl, hf6, rfl, rfl, _, rfl, ?_⟩
        have tk : (h.scheduled.take (i + 1)).filter (fun d => d.1 != h.tick) = (h.scheduled.take i).filter (fun d => d.1 != h.tick) ++ (if (d.1 != h.tick) = true then [d] else []) := by
          rw [List.take_add_one, hd, List.filter_append]
          congr 1
          show List.filter _ [d] = _
          rw [List.filter_cons]
          rfl
        rw [tk]
        by_cases e : d.1 = h.tick
        · rw [decide_eq_true (show V.int (d.1 : Nat) = V.int (h.tick : Nat) by rw [e])]
          refine iteF ⟨us, s2, hl, ?_⟩
          rw [show (d.1 != h.tick) = false by rw [e]; simp]
          simpa using hF
        · rw [decide_eq_false (show ¬ V.int (d.1 : Nat) = V.int (h.tick : Nat) from fun z => e (by have := V.int.inj z; omega))]
          refine iteT ⟨_, rfl, _, rfl, (by show 2 ≤ sizeLine; decide), fun t7 ht7 => ⟨_, Same.new ht7 _ _ hl, ?_, us ++ [t7], Same.upd hD2 (s2.trans (Same.new ht7)), by rw [upd_same, List.map_append]; rfl, ?_⟩⟩
          · rw [List.length_map, hF.len]
            have := List.length_filter_le (fun d : Nat × Nat => d.1 != h.tick) (h.scheduled.take i)
            have := List.length_take_le i h.scheduled
            have := hs2.len
            rw [sizeLine_eq]
            omega
          · rw [show (d.1 != h.tick) = true by simpa using e]
            have s8 := Same.new (o := .tup [.int d.1, .int d.2]) ht7
            have nt : NoT (fun b => b = D2) (upd H6 t7 (.tup [.int d.1, .int d.2])) := NoT.lst (s8 _ _ hl)
            have st := Sta.of_upd (H := upd H6 t7 (.tup [.int d.1, .int d.2])) (a := D2) (o := .lst ((us.map V.ref) ++ [.ref t7]))
            exact (hF.imp fun _ _ _ _ r => st.tup nt (s8 _ _ r)).snoc (st.tup nt upd_same)
      · rintro H2 ⟨us, s2, hl, hF⟩
        rw [List.length_map, hs2.len, List.take_length] at hF
        have f2 := f1.mono s2
        obtain ⟨dx2, hf2⟩ := f2.flo
        have nD2 : D2 ∉ F.foot := fun hm => f1.stands D2 hm hD2
        have rD2 : R D2 = none := f1.same.free hD2
        have ok2 : SimOk { h with tick := h.tick, scheduled := laterOf h } := by
          have k := f.ok
          refine ⟨k.pl, k.len, k.se, k.fi, k.dn, k.mi, k.on, k.one, fun q hq => k.sc q (List.mem_filter.mp hq).1, ?_⟩
          have := List.length_filter_le (fun d : Nat × Nat => d.1 != h.tick) h.scheduled
          have := k.few
          show (laterOf h).length ≤ 12 * h.tick
          unfold laterOf
          omega
        refine ⟨_, rfl, _, dx2, _, rfl, hf2, (by show 8 < 1000; decide), ?_⟩
        have f3 := f2.setFl (dx := dx2) (sc' := D2) (l := laterOf h) (tick := h.tick) ⟨us, hl, hF⟩ (.inr ⟨nD2, rD2⟩) ok2
        have nDD : D ≠ D2 := ne_of_none hD1 hD2
        have nDf : D ∉ F.foot := fun hm => f.stands D hm hD
        have nDF : D ∉ ({ F with sc := D2 } : FL).foot := by
          intro hm
          rcases List.mem_append.mp hm with hl | hi
          · rcases List.mem_cons.mp hl with e | hl
            · exact nDD e
            · exact nDf (List.mem_append_left _ (List.mem_cons_of_mem _ hl))
          · exact nDf (List.mem_append_right _ hi)
        have hD3 : (upd H2 F.fl (.ins (He.ga g.K (Str.ofString "Floor")) dx2 (putF "scheduled" (.ref D2) (flF (.ref F.L.pl) (.ref F.pc) (.int h.tick) (.ref F.se) (.ref F.fi) (.ref F.dn) (.ref F.mi) (.ref F.sc))))) D = some (.lst (((nowOf h).map (·.2)).map iV)) := by
          rw [upd_ne fun e => nDf (by rw [e]; exact List.mem_append_right _ List.mem_cons_self)]
          rw [s2 _ _ hD1]
          congr 2
          unfold nowOf
          rw [List.map_map]
          induction h.scheduled with
          | nil => rfl
          | cons d l ih =>
            rw [List.filterMap_cons, List.filter_cons]
            cases e : d.1 == h.tick with
            | true =>
              rw [if_pos rfl, if_pos rfl, List.map_cons, ih]
              rfl
            | false =>
              rw [if_neg (by decide), if_neg (by decide), ih]
        change FloorAt g (upd H2 F.fl (.ins (He.ga g.K (Str.ofString "Floor")) dx2 (putF "scheduled" (.ref D2) (flF (.ref F.L.pl) (.ref F.pc) (.int h.tick) (.ref F.se) (.ref F.fi) (.ref F.dn) (.ref F.mi) (.ref F.sc))))) R { F with sc := D2 } { h with scheduled := laterOf h } at f3
        generalize upd H2 F.fl (.ins (He.ga g.K (Str.ofString "Floor")) dx2 (putF "scheduled" (.ref D2) (flF (.ref F.L.pl) (.ref F.pc) (.int h.tick) (.ref F.se) (.ref F.fi) (.ref F.dn) (.ref F.mi) (.ref F.sc)))) = H3 at f3 hD3 ⊢
        refine ⟨_, rfl, D, rfl, ⟨_, .inl (.inl hD3)⟩, ?_⟩
        refine for_it (walk_list (xs := ((nowOf h).map (·.2)).map iV)) (fun i σ H' => ∃ y y3, σ = [some (.ref F.fl), y, some (.ref D), y3] ∧ FloorAt g H' R { F with sc := D2 } (pushFold ((nowOf h).take i) { h with scheduled := laterOf h }) ∧ H' D = some (.lst (((nowOf h).map (·.2)).map iV))) ⟨_, _, rfl, f3, hD3⟩ ?_ ?_ ?_
        · rintro i σ H' hi ⟨y, y3, rfl, f4, h4⟩
          exact .inl (.inl h4)
        · rintro i x σ H5 H' hi ⟨y, y3, rfl, f4, h4⟩ ⟨rfl, ex⟩
          rw [List.length_map, List.length_map] at hi
          have hd : (nowOf h)[i]? = some (nowOf h)[i] := List.getElem?_eq_getElem hi
          rw [List.getElem?_map, List.getElem?_map, hd] at ex
          cases ex
          rw [pushFold_take hd]
          have hpl := (pushFold_plant ((nowOf h).take i) { h with scheduled := laterOf h }).1
          have hlt : (nowOf h)[i].2 < (pushFold ((nowOf h).take i) { h with scheduled := laterOf h }).plant.pushers.length := by
            rw [hpl]
            exact f.ok.sc _ (List.mem_filter.mp (List.getElem_mem hi)).1
          obtain ⟨dx5, hf5⟩ := f4.flo
          refine ⟨_, rfl, _, dx5, _, rfl, hf5, rfl, _, rfl, _, { F with sc := D2 }, _, _, rfl, f4.full, hlt, fun H6 f6 => ?_⟩
          obtain ⟨f7, keep⟩ := f4.keep (exec_plant _ _).1 f6
          exact ⟨_, _, rfl, f7, keep D _ h4 nDF⟩
        · rintro σ H' ⟨y, y3, rfl, f4, h4⟩
          rw [List.length_map, List.length_map, List.take_length] at f4
          exact q H' D2 f4
end Tote
/-! # floors.py: belts -/
namespace Tote
open PySem PySem.Spec PyProof.Rows L2 Tq
open SX (S S_inj S_len S_cat)
open Xb08 (Simulation Goal placeOfParcel parcelOf contentsOf roomOf isFree canGo parcelsOnBelt termHolds moveTo putAt executePush addAt)
variable {g : GG}
theorem move_place (h : Simulation) (m j : Nat) (gl : Goal) (hj : j ≠ m) : placeOfParcel (moveTo h m gl) j = placeOfParcel h j := by
  show placeOfParcel { h with positions_ := h.positions_.set m (putAt gl), moved := m :: h.moved } j = _
  rw [place_set, if_neg fun z => hj z.1.symm]
/-- what advancing does to the rest -/
structure Near (h h' : Simulation) (m : Nat) : Prop where
  plant : h'.plant = h.plant
  len : h'.positions_.length = h.positions_.length
  tick : h'.tick = h.tick
  place : ∀ j, j ≠ m → placeOfParcel h' j = placeOfParcel h j
theorem Near.refl (h : Simulation) (m : Nat) : Near h h m := ⟨rfl, rfl, rfl, fun _ _ => rfl⟩
theorem Near.move (h : Simulation) (m : Nat) (gl : Goal) : Near h (moveTo h m gl) m := ⟨rfl, List.length_set .., rfl, fun j hj => move_place h m j gl hj⟩
theorem near_advance (h : Simulation) (m : Nat) : Near h (Xb08.advance h m) m := by
  unfold Xb08.advance
  split
  · exact .refl h m
  split
  · split
    · exact .refl h m
    split
    · split
      · exact .move h m _
      · exact .refl h m
    split
    · exact .refl h m
    split
    · exact .move h m _
    · exact .refl h m
  · exact .refl h m
def sp_Floor_advance (g : GG) : Sp := fun vs H Q _ => ∃ (R : Hp) (F : FL) (h : Simulation) (b m x : Nat), vs = [.ref F.fl, .int b, .int m] ∧ FloorAt g H R F h ∧ placeOfParcel h m = .on b x ∧ h.moved.contains m = false ∧ ∀ H', FloorAt g H' R F (Xb08.advance h m) → Q .non H'
theorem ok_Floor_advance (T : Tx g) : Mt CX0 g 4 "Floor" "advance" ["self", "belt", "number"] (sp_Floor_advance g) := by
  refine mt0 (k := 3) T.cl_Floor T.me_Floor_advance T.df_Floor_advance sc_Floor_advance (fun _ _ _ _ _ _ us hl => match us, hl with | [_, _, _], _ => rfl) ?_ ?_
  · rintro vs H Q E ⟨R, F, h, b, m, x, rfl, _⟩
    rfl
  · rintro cdv A outer s H vs Q E hr ⟨R, F, h, b, m, x, rfl, f, hpl, hmv, q⟩
    refine ⟨_, (pss_cons (ps_set (i := 3) sc_Floor_advance.nd rfl (.inl rfl) (pe_ix ix_tup (pe_fc T.cl_Parcel T.na_Parcel_place (pe_ix ix_list (pe_fc T.cl_Floor T.na_Floor_parcels (pv 0)) (pv 2) (fun _ _ => rfl))) pe_int (fun _ _ => rfl))) (pss_cons (ps_set (i := 4) sc_Floor_advance.nd rfl (.inl rfl) (pe_ix ix_list (pe_fc T.cl_Plant T.na_Plant_goals (pe_fc T.cl_Floor T.na_Floor_plant (pv 0))) (pv 1) (fun _ _ => rfl))) (pss_one (ps_if (pt_cmpR op_lt (pe_op op_add (pv 3) pe_int) (pe_ix ix_list (pe_fc T.cl_Plant T.na_Plant_lengths (pe_fc T.cl_Floor T.na_Floor_plant (pv 0))) (pv 1) (fun _ _ => rfl)) (nomark _)) (pss_one (ps_if (pt_val (pe_mt (ok_Floor_is_free T) hr (by decide) (pv 0) (pa_cons (pv 2) (pa_cons (pv 1) (pa_cons (pe_op op_add (pv 3) pe_int) pa_nil))))) (pss_one (ps_expr (pe_mt (ok_Floor_go T) hr (by decide) (pv 0) (pa_cons (pv 2) (pa_cons (pe_tup (pa_cons (C8.pe_gc rfl T.in_BELT) (pa_cons (pv 1) (pa_cons (pe_op op_add (pv 3) pe_int) pa_nil)))) pa_nil))))) pss_nil)) (pss_one (ps_if (PW.pt (pw_and (pt_cmpR op_notN (pv 4) pe_non (nomark _)) (pw_and1 (pt_val (pe_mt (ok_Floor_can_go T) hr (by decide) (pv 0) (pa_cons (pv 2) (pa_cons (pv 4) pa_nil))))))) (pss_one (ps_expr (pe_mt (ok_Floor_go T) hr (by decide) (pv 0) (pa_cons (pv 2) (pa_cons (pv 4) pa_nil))))) pss_nil)))))), ?_⟩
    obtain ⟨dx, hf⟩ := f.flo
    have hpos := place_iff.mp hpl
    have hm : m < h.positions_.length := (List.getElem?_eq_some_iff.mp hpos).1
    obtain ⟨hb, hx⟩ := f.ok.on m b x hpos
    have hps : m < F.ps.length := by rw [f.psLen]; exact hm
    have ha : F.ps[m]? = some F.ps[m] := List.getElem?_eq_getElem hps
    generalize F.ps[m] = a at ha
    obtain ⟨_, dx1, t1, k1, k2⟩ := f.parGet ha
    rw [hpl] at k2
    obtain ⟨px, pi⟩ := (f.pla.same f.same).ins
    obtain ⟨gs, hg1, hg2⟩ := (f.pla.same f.same).go
    have hle : LeAt H F.L.le h.plant.belts := (f.pla.same f.same).le
    have hbl : h.plant.belts[b]? = some h.plant.belts[b] := List.getElem?_eq_getElem hb
    have hgo := f.ok.pl.go _ (List.getElem_mem hb)
    have hlen : Xb08.beltLength h.plant b = h.plant.belts[b].length := by
      unfold Xb08.beltLength
      rw [hbl]
      rfl
    have hadv : Xb08.advance h m = (if x + 1 < h.plant.belts[b].length then (if isFree h m b (x + 1) then moveTo h m (.belt b (x + 1)) else h) else match h.plant.belts[b].goal with
      | none => h
      | some gl => if canGo h m gl then moveTo h m gl else h) := by
      unfold Xb08.advance
      rw [hmv, hpl]
      dsimp only
      rw [hbl]
      rfl
    generalize h.plant.belts[b] = bl at hbl hgo hlen hadv
    obtain ⟨v, hv, hgv⟩ := hg2.get hbl
    simp only [rIxD, gSub, rSetL, sDPut, tDGet, tDIn, tDNotIn, wipe, rLenS, tBM, rAppend, rExtend, rIn, cx_K, rIxS, rIxL, rIxT, tRet, tIfS, tTest, tChain, rI, rI0, rU, tC, tVar, tOp, tUn, tCB, tCons, tNil, tSeq, tNext, tB, tNot, tAnd, tOr, tAndV, tOrV, tNotV, tFc, sFc, sFcA, tMt, tCl, tNw, tLst, tTup, tDrop, tAsg, tPar, gName, gCons, gNil, tR1, rEq, rNe, rAdd, rSub, tAug, ipI, L2.start, List.map, List.length, List.replicate, List.append, List.set, exists_eq_left', exists_eq_left, exists_eq_right, exists_eq_right', exists_and_left, exists_and_right, exists_eq, exists_eq', Option.some.injEq, List.getElem?_cons_zero, List.getElem?_cons_succ, V.bl.injEq, V.int.injEq, V.str.injEq, V.ref.injEq, List.cons_append, List.nil_append, List.cons.injEq, HO.ins.injEq, HO.lst.injEq, HO.tup.injEq, true_and, and_true, decide_eq_true_eq, Bool.false_eq_true, ↓reduceIte, Bool.not_true, Bool.not_false, Bool.not_eq_true', decide_eq_false_iff_not, List.set_cons_zero, List.set_cons_succ, and_assoc, scal, dec_int, dec_str, forall_const, implies_true, hf, flF_get, pi, PL.fs, plF_get]
    refine ⟨_, .inl (.inl f.pcs), .ref a, atI_nat (by rw [List.getElem?_map, ha]; rfl), _, rfl, _, _, k1, _, rfl, t1, rfl, _, k2.sq, .int x, atI_nat (j := 2) rfl, ?_⟩
    refine ⟨_, .inl (.inl hg1), v, atI_nat hv, ?_⟩
    simp only [rIxD, gSub, rSetL, sDPut, tDGet, tDIn, tDNotIn, wipe, rLenS, tBM, rAppend, rExtend, rIn, cx_K, rIxS, rIxL, rIxT, tRet, tIfS, tTest, tChain, rI, rI0, rU, tC, tVar, tOp, tUn, tCB, tCons, tNil, tSeq, tNext, tB, tNot, tAnd, tOr, tAndV, tOrV, tNotV, tFc, sFc, sFcA, tMt, tCl, tNw, tLst, tTup, tDrop, tAsg, tPar, gName, gCons, gNil, tR1, rEq, rNe, rAdd, rSub, tAug, ipI, L2.start, List.map, List.length, List.replicate, List.append, List.set, exists_eq_left', exists_eq_left, exists_eq_right, exists_eq_right', exists_and_left, exists_and_right, exists_eq, exists_eq', Option.some.injEq, List.getElem?_cons_zero, List.getElem?_cons_succ, V.bl.injEq, V.int.injEq, V.str.injEq, V.ref.injEq, List.cons_append, List.nil_append, List.cons.injEq, HO.ins.injEq, HO.lst.injEq, HO.tup.injEq, true_and, and_true, decide_eq_true_eq, Bool.false_eq_true, ↓reduceIte, Bool.not_true, Bool.not_false, Bool.not_eq_true', decide_eq_false_iff_not, List.set_cons_zero, List.set_cons_succ, and_assoc, scal, dec_int, dec_str, forall_const, implies_true, hf, flF_get, pi, PL.fs, plF_get]
    refine ⟨_, .inl (.inl hle), .int bl.length, atI_nat (by rw [List.getElem?_map, hbl]; rfl), _, rfl, ?_⟩
    rw [hadv] at q
    by_cases h1 : x + 1 < bl.length
    · rw [if_pos h1] at q
      rw [if_pos (by omega)]
      refine ⟨R, F, h, m, b, x + 1, rfl, f, fun H1 s1 => ⟨_, rfl, ?_⟩⟩
      have f1 := f.mono s1
      obtain ⟨dx2, hf2⟩ := f1.flo
      cases hfr : isFree h m b (x + 1) with
      | false =>
        rw [hfr, if_neg (by decide)] at q
        exact iteF (q H1 f1)
      | true =>
        rw [hfr, if_pos rfl] at q
        have ok' := f.ok.move (m := m) (gl := .belt b (x + 1)) ⟨hb, by rw [hlen]; exact h1⟩ fun b' x' e => by cases e; exact hfr
        refine iteT ⟨_, _, hf2, rfl, by decide, fun t ht => ⟨R, F, h, m, t, .belt b (x + 1), rfl, f1.mono (Same.new ht), hm, .inl upd_same, ok', q⟩⟩
    · rw [if_neg h1] at q
      rw [if_neg (by omega)]
      cases hgl : bl.goal with
      | none =>
        rw [hgl] at q hgv
        cases hgv
        rw [if_neg fun z => z rfl]
        exact q H f
      | some gl =>
        rw [hgl] at q hgv
        obtain ⟨t, rfl, ht⟩ := hgv
        rw [if_pos (by intro z; cases z)]
        have htg : PlT g H t (goalT gl) := .inl ht
        refine ⟨R, F, h, m, t, gl, rfl, f, htg, hgo gl hgl, hm, fun H1 s1 => ⟨_, rfl, ?_⟩⟩
        have f1 := f.mono s1
        obtain ⟨dx2, hf2⟩ := f1.flo
        dsimp only at q
        cases hc : canGo h m gl with
        | false =>
          rw [hc, if_neg (by decide)] at q
          exact iteF (q H1 f1)
        | true =>
          rw [hc, if_pos rfl] at q
          have ok' := f.ok.move (m := m) (hgo gl hgl) fun b' x' e => canGo_free f.ok hm (by rw [← e]; exact hc)
          exact iteT ⟨_, _, hf2, rfl, R, F, h, m, t, gl, rfl, f1, hm, by rw [← goalT_pla]; exact htg.st (Sta.of_same s1) NoT.none, ok', q⟩
/-! ## the belts in their order -/
def beltFold (h : Simulation) (l : List Nat) : Simulation := l.foldl Xb08.advance h
theorem beltFold_take {l : List Nat} {i m : Nat} (hm : l[i]? = some m) (h : Simulation) : beltFold h (l.take (i + 1)) = Xb08.advance (beltFold h (l.take i)) m := by
  unfold beltFold
  rw [List.take_add_one, hm]
  simp
theorem beltFold_near (l : List Nat) : ∀ h : Simulation, (beltFold h l).plant = h.plant ∧ (beltFold h l).positions_.length = h.positions_.length ∧ (beltFold h l).tick = h.tick ∧ ∀ j, j ∉ l → placeOfParcel (beltFold h l) j = placeOfParcel h j := by
  induction l with
  | nil => exact fun h => ⟨rfl, rfl, rfl, fun _ _ => rfl⟩
  | cons m l ih =>
    intro h
    obtain ⟨e1, e2, e3, e4⟩ := ih (Xb08.advance h m)
    have n := near_advance h m
    exact ⟨e1.trans n.plant, e2.trans n.len, e3.trans n.tick, fun j hj => (e4 j fun z => hj (List.mem_cons_of_mem _ z)).trans (n.place j fun z => hj (by rw [z]; exact List.mem_cons_self))⟩
def doBelts (h : Simulation) (l : List Nat) : Simulation := l.foldl (fun g b => beltFold g (parcelsOnBelt g b)) h
theorem doBelts_take {l : List Nat} {i b : Nat} (hb : l[i]? = some b) (h : Simulation) : doBelts h (l.take (i + 1)) = beltFold (doBelts h (l.take i)) (parcelsOnBelt (doBelts h (l.take i)) b) := by
  unfold doBelts
  rw [List.take_add_one, hb]
  simp
theorem doBelts_near (l : List Nat) : ∀ h : Simulation, (doBelts h l).plant = h.plant ∧ (doBelts h l).positions_.length = h.positions_.length ∧ (doBelts h l).tick = h.tick := by
  induction l with
  | nil => exact fun h => ⟨rfl, rfl, rfl⟩
  | cons b l ih =>
    intro h
    obtain ⟨e1, e2, e3⟩ := ih (beltFold h (parcelsOnBelt h b))
    obtain ⟨n1, n2, n3, _⟩ := beltFold_near (parcelsOnBelt h b) h
    exact ⟨e1.trans n1, e2.trans n2, e3.trans n3⟩
theorem onBelt_nodup {h : Simulation} (ok : SimOk h) (b : Nat) : (parcelsOnBelt h b).Nodup := by
  have := onBelt_falls ok b
  rw [List.pairwise_map] at this
  exact this.imp fun {x y} hxy e => by
    rw [e] at hxy
    omega
theorem advance_moved (h : Simulation) (m : Nat) (e : h.moved.contains m = true) : Xb08.advance h m = h := by
  unfold Xb08.advance
  rw [e, if_pos rfl]
def sp_Floor_do_belts (g : GG) : Sp := fun vs H Q _ => ∃ (R : Hp) (F : FL) (h : Simulation), vs = [.ref F.fl] ∧ FloorAt g H R F h ∧ ∀ H', FloorAt g H' R F (doBelts h (List.range h.plant.belts.length)) → Q .non H'
theorem ok_Floor_do_belts (T : Tx g) : Mt CX0 g 5 "Floor" "do_belts" ["self"] (sp_Floor_do_belts g) := by
  refine mt0 (k := 4) T.cl_Floor T.me_Floor_do_belts T.df_Floor_do_belts sc_Floor_do_belts (fun _ _ _ _ _ _ us hl => match us, hl with | [_], _ => rfl) ?_ ?_
  · rintro vs H Q E ⟨R, F, h, rfl, _⟩
    rfl
  · rintro cdv A outer s H vs Q E hr ⟨R, F, h, rfl, f, q⟩
    refine ⟨_, (pss_one (ps_for PassesOwn.never rfl (pi_range1 rfl T.fr_range (pa_cons (pe_callB call_lenS (by rfl) T.fr_len bt_len (pa_cons (pe_fc T.cl_Plant T.na_Plant_lengths (pe_fc T.cl_Floor T.na_Floor_plant (pv 0))) pa_nil)) pa_nil)) (pg_name (i := 1) sc_Floor_do_belts.nd rfl (.inl rfl)) (pss_one (ps_for PassesOwn.never rfl (pi_list (pe_mt (ok_Floor_on_belt T) hr (by decide) (pv 0) (pa_cons (pv 1) pa_nil))) (pg_name (i := 2) sc_Floor_do_belts.nd rfl (.inl rfl)) (pss_one (ps_if (pt_not (pt_val (pe_fc T.cl_Parcel T.na_Parcel_has_moved (pe_ix ix_list (pe_fc T.cl_Floor T.na_Floor_parcels (pv 0)) (pv 2) (fun _ _ => rfl))))) (pss_one (ps_expr (pe_mt (ok_Floor_advance T) hr (by decide) (pv 0) (pa_cons (pv 1) (pa_cons (pv 2) pa_nil))))) pss_nil)))))), ?_⟩
    obtain ⟨dx, hf⟩ := f.flo
    obtain ⟨px, pi⟩ := (f.pla.same f.same).ins
    have hle : LeAt H F.L.le h.plant.belts := (f.pla.same f.same).le
    have hb12 := f.ok.pl.lim.be
    refine ⟨_, rfl, _, dx, _, _, rfl, hf, rfl, _, px, _, _, rfl, pi, rfl, F.L.le, _, rfl, .inl (.inl (.inl hle)), _, rfl, by rw [List.length_map]; omega, by rw [List.length_map]; omega, ?_⟩
    rw [List.length_map, Int.toNat_natCast]
    refine for_it walk_range (fun i σ H' => ∃ y y2, σ = [some (.ref F.fl), y, y2] ∧ FloorAt g H' R F (doBelts h ((List.range h.plant.belts.length).take i))) ⟨none, none, rfl, f⟩ (fun _ _ _ _ _ => trivial) ?_ ?_
    · rintro i x σ H1 H' hi ⟨y, y2, rfl, f1⟩ ⟨rfl, rfl⟩
      have hri : (List.range h.plant.belts.length)[i]? = some i := List.getElem?_range hi
      rw [doBelts_take hri]
      have hpl := (doBelts_near ((List.range h.plant.belts.length).take i) h).1
      generalize doBelts h ((List.range h.plant.belts.length).take i) = h1 at f1 hpl ⊢
      obtain ⟨dx1, hf1⟩ := f1.flo
      refine ⟨_, rfl, _, dx1, _, rfl, hf1, rfl, _, rfl, R, F, h1, i, ?_, f1, fun H2 D s2 hD0 hD => ?_⟩
      · dsimp only
        rw [Int.zero_add]
      have f2 := f1.mono s2
      have nDf : D ∉ F.foot := fun hm => f1.stands D hm hD0
      refine ⟨D, rfl, ⟨_, .inl (.inl hD)⟩, ?_⟩
      refine for_it (walk_list (xs := (parcelsOnBelt h1 i).map iV)) (fun k σ H' => ∃ y y2, σ = [some (.ref F.fl), some (.int (0 + (i : Nat))), y2] ∧ y = y2 ∧ FloorAt g H' R F (beltFold h1 ((parcelsOnBelt h1 i).take k)) ∧ H' D = some (.lst ((parcelsOnBelt h1 i).map iV))) ⟨_, _, rfl, rfl, f2, hD⟩ ?_ ?_ ?_
      · rintro k σ H3 hk ⟨y, y2, rfl, _, f3, h3⟩
        exact .inl (.inl h3)
      · rintro k x σ H3 H4 hk ⟨y, y2, rfl, _, f3, h3⟩ ⟨rfl, ex⟩
        rw [List.length_map] at hk
        have hm : (parcelsOnBelt h1 i)[k]? = some (parcelsOnBelt h1 i)[k] := List.getElem?_eq_getElem hk
        rw [List.getElem?_map, hm] at ex
        cases ex
        rw [beltFold_take hm]
        have near := beltFold_near ((parcelsOnBelt h1 i).take k) h1
        have hmem : (parcelsOnBelt h1 i)[k] ∈ parcelsOnBelt h1 i := List.getElem_mem hk
        have hnot : (parcelsOnBelt h1 i)[k] ∉ (parcelsOnBelt h1 i).take k := by
          intro hmm
          obtain ⟨j, hj, ej⟩ := List.getElem_of_mem hmm
          rw [List.getElem_take] at ej
          have hj' : j < k := by
            rw [List.length_take] at hj
            omega
          have := (List.getElem_inj (onBelt_nodup f1.ok i)).mp ej
          omega
        obtain ⟨x, hx⟩ := (mem_onBelt f1.ok).mp hmem
        have hplace : placeOfParcel (beltFold h1 ((parcelsOnBelt h1 i).take k)) (parcelsOnBelt h1 i)[k] = .on i x := by
          rw [near.2.2.2 _ hnot]
          exact place_iff.mpr (front_pos.mp hx)
        generalize (parcelsOnBelt h1 i)[k] = m at hplace ⊢
        generalize beltFold h1 ((parcelsOnBelt h1 i).take k) = w3 at f3 hplace near ⊢
        obtain ⟨dx3, hf3⟩ := f3.flo
        have hml : m < w3.positions_.length := (List.getElem?_eq_some_iff.mp (place_iff.mp hplace)).1
        have hps : m < F.ps.length := by rw [f3.psLen]; exact hml
        obtain ⟨_, dx5, t5, k1, k2⟩ := f3.parGet (List.getElem?_eq_getElem hps)
        refine ⟨_, rfl, _, dx3, _, _, rfl, hf3, rfl, _, rfl, F.pc, _, _, _, rfl, rfl, .inl (.inl f3.pcs), atI_nat (by rw [List.getElem?_map, List.getElem?_eq_getElem hps]; rfl), _, dx5, _, _, rfl, k1, rfl, _, rfl, ?_⟩
        cases eb : w3.moved.contains m with
        | true =>
          rw [advance_moved w3 m eb]
          exact iteF ⟨_, _, rfl, rfl, f3, h3⟩
        | false =>
          refine iteT ⟨_, rfl, _, dx3, _, rfl, hf3, rfl, _, rfl, _, rfl, _, F, w3, i, m, x, ?_, f3.full, hplace, eb, fun H6 f6 => ?_⟩
          · rw [Int.zero_add]
            rfl
          · obtain ⟨f7, keep⟩ := f3.keep (near_advance w3 m).plant f6
            exact ⟨_, _, rfl, rfl, f7, keep D _ h3 nDf⟩
      · rintro σ H3 ⟨y, y2, rfl, _, f3, h3⟩
        rw [List.length_map, List.take_length] at f3
        exact ⟨_, _, rfl, f3⟩
    · rintro σ H' ⟨y, y2, rfl, f1⟩
      refine q H' ?_
      have e : (List.range h.plant.belts.length).take h.plant.belts.length = List.range h.plant.belts.length := List.take_of_length_le (by simp)
      rw [e] at f1
      exact f1
end Tote
/-! # floors.py: feeds -/
namespace Tote
open PySem PySem.Spec PyProof.Rows L2 Tq
open SX (S S_inj S_len S_cat)
open Xb08 (Simulation Goal placeOfParcel parcelOf contentsOf roomOf isFree canGo parcelsOnBelt termHolds moveTo putAt executePush addAt feedParcel)
variable {g : GG}
theorem near_feed (h : Simulation) (m : Nat) : Near h (feedParcel h m) m := by
  unfold feedParcel
  split
  · split
    · exact .move h m _
    · exact .refl h m
  · exact .refl h m
def feedFold (h : Simulation) (l : List Nat) : Simulation := l.foldl feedParcel h
theorem feedFold_take {l : List Nat} {i m : Nat} (hm : l[i]? = some m) (h : Simulation) : feedFold h (l.take (i + 1)) = feedParcel (feedFold h (l.take i)) m := by
  unfold feedFold
  rw [List.take_add_one, hm]
  simp
theorem feedFold_near (l : List Nat) : ∀ h : Simulation, (feedFold h l).plant = h.plant ∧ (feedFold h l).positions_.length = h.positions_.length ∧ (feedFold h l).tick = h.tick ∧ ∀ j, j ∉ l → placeOfParcel (feedFold h l) j = placeOfParcel h j := by
  induction l with
  | nil => exact fun h => ⟨rfl, rfl, rfl, fun _ _ => rfl⟩
  | cons m l ih =>
    intro h
    obtain ⟨e1, e2, e3, e4⟩ := ih (feedParcel h m)
    have n := near_feed h m
    exact ⟨e1.trans n.plant, e2.trans n.len, e3.trans n.tick, fun j hj => (e4 j fun z => hj (List.mem_cons_of_mem _ z)).trans (n.place j fun z => hj (by rw [z]; exact List.mem_cons_self))⟩
theorem feed_skip (h : Simulation) (m : Nat) (e : kindN (placeOfParcel h m) ≠ 0) : feedParcel h m = h := by
  unfold feedParcel
  cases p : placeOfParcel h m with
  | notFed => rw [p] at e; exact absurd rfl e
  | on b x => rfl
  | chute k => rfl
/-- only those that wait at the start are fed -/
theorem feed_filter (l : List Nat) (nd : l.Nodup) : ∀ h : Simulation, feedFold h (l.filter fun i => decide (kindN (placeOfParcel h i) = 0)) = feedFold h l := by
  induction l with
  | nil => exact fun h => rfl
  | cons m l ih =>
    intro h
    have nd' := (List.nodup_cons.mp nd).2
    have hm := (List.nodup_cons.mp nd).1
    have ih2 := ih nd' (feedParcel h m)
    have ef : (l.filter fun i => decide (kindN (placeOfParcel (feedParcel h m) i) = 0)) = l.filter fun i => decide (kindN (placeOfParcel h i) = 0) := by
      refine List.filter_congr fun i hi => ?_
      rw [(near_feed h m).place i fun e => hm (by rw [← e]; exact hi)]
    rw [ef] at ih2
    by_cases e : kindN (placeOfParcel h m) = 0
    · rw [List.filter_cons, if_pos (decide_eq_true e)]
      show feedFold (feedParcel h m) _ = feedFold (feedParcel h m) l
      exact ih2
    · rw [List.filter_cons, if_neg (by simpa using e)]
      show _ = feedFold (feedParcel h m) l
      rw [feed_skip h m e] at ih2 ⊢
      exact ih2
def sp_Floor_do_feeds (g : GG) : Sp := fun vs H Q _ => ∃ (R : Hp) (F : FL) (h : Simulation), vs = [.ref F.fl] ∧ FloorAt g H R F h ∧ ∀ H', FloorAt g H' R F (feedFold h (List.range h.positions_.length)) → Q .non H'
theorem ok_Floor_do_feeds (T : Tx g) : Mt CX0 g 3 "Floor" "do_feeds" ["self"] (sp_Floor_do_feeds g) := by
  refine mt0 (k := 2) T.cl_Floor T.me_Floor_do_feeds T.df_Floor_do_feeds sc_Floor_do_feeds (fun _ _ _ _ _ _ us hl => match us, hl with | [_], _ => rfl) ?_ ?_
  · rintro vs H Q E ⟨R, F, h, rfl, _⟩
    rfl
  · rintro cdv A outer s H vs Q E hr ⟨R, F, h, rfl, f, q⟩
    refine ⟨_, (pss_one (ps_for PassesOwn.never rfl (pi_list (pe_mt (ok_Floor_of_kind T) hr (by decide) (pv 0) (pa_cons (pe_ix ix_tup (pe_glob (v := .ref (cF g "WAITING")) rfl T.gl_WAITING rfl) pe_int (fun _ _ => rfl)) pa_nil))) (pg_name (i := 1) sc_Floor_do_feeds.nd rfl (.inl rfl)) (pss_cons (ps_set (i := 2) sc_Floor_do_feeds.nd rfl (.inl rfl) (pe_ix ix_list (pe_fc T.cl_Floor T.na_Floor_parcels (pv 0)) (pv 1) (fun _ _ => rfl))) (pss_one (ps_if (PW.pt (pw_and (pt_cmpR op_le (pe_fc T.cl_Parcel T.na_Parcel_since (pv 2)) (pe_fc T.cl_Floor T.na_Floor_tick (pv 0)) (nomark _)) (pw_and1 (pt_val (pe_mt (ok_Floor_is_free T) hr (by decide) (pv 0) (pa_cons (pv 1) (pa_cons (pe_fc T.cl_Parcel T.na_Parcel_belt (pv 2)) (pa_cons pe_int pa_nil)))))))) (pss_one (ps_expr (pe_mt (ok_Floor_go T) hr (by decide) (pv 0) (pa_cons (pv 1) (pa_cons (pe_tup (pa_cons (C8.pe_gc rfl T.in_BELT) (pa_cons (pe_fc T.cl_Parcel T.na_Parcel_belt (pv 2)) (pa_cons pe_int pa_nil)))) pa_nil))))) pss_nil))))), ?_⟩
    rw [← feed_filter _ List.nodup_range h] at q
    obtain ⟨dx, hf⟩ := f.flo
    have hw : SqT g.K H (cF g "WAITING") (plaV .notFed) := T.waiting H
    refine ⟨_, rfl, _, dx, _, rfl, hf, rfl, _, _, 0, _, rfl, rfl, hw, atI_nat (j := 0) rfl, R, F, h, 0, rfl, f, fun H1 D s1 hD0 hD => ?_⟩
    have f1 := f.mono s1
    have nDf : D ∉ F.foot := fun hm => f.stands D hm hD0
    generalize hl : ((List.range h.positions_.length).filter fun i => decide (kindN (placeOfParcel h i) = 0)) = l at hD q
    have nd : l.Nodup := by
      rw [← hl]
      exact List.nodup_range.sublist List.filter_sublist
    have hk0 : ∀ m ∈ l, m < h.positions_.length ∧ placeOfParcel h m = .notFed := fun m hm => by
      rw [← hl] at hm
      obtain ⟨h1, h2⟩ := List.mem_filter.mp hm
      refine ⟨List.mem_range.mp h1, ?_⟩
      have := of_decide_eq_true h2
      cases p : placeOfParcel h m with
      | notFed => rfl
      | on b x => rw [p] at this; cases this
      | chute k => rw [p] at this; cases this
    refine ⟨D, rfl, ⟨_, .inl (.inl hD)⟩, ?_⟩
    refine for_it (walk_list (xs := l.map iV)) (fun k σ H' => ∃ y y2, σ = [some (.ref F.fl), y, y2] ∧ FloorAt g H' R F (feedFold h (l.take k)) ∧ H' D = some (.lst (l.map iV))) ⟨none, none, rfl, f1, hD⟩ ?_ ?_ ?_
    · rintro k σ H3 hk ⟨y, y2, rfl, f3, h3⟩
      exact .inl (.inl h3)
    · rintro k x σ H3 H4 hk ⟨y, y2, rfl, f3, h3⟩ ⟨rfl, ex⟩
      rw [List.length_map] at hk
      have hm : l[k]? = some l[k] := List.getElem?_eq_getElem hk
      rw [List.getElem?_map, hm] at ex
      cases ex
      rw [feedFold_take hm]
      have near := feedFold_near (l.take k) h
      have hmem : l[k] ∈ l := List.getElem_mem hk
      have hnot : l[k] ∉ l.take k := by
        intro hmm
        obtain ⟨j, hj, ej⟩ := List.getElem_of_mem hmm
        rw [List.getElem_take] at ej
        have hj' : j < k := by
          rw [List.length_take] at hj
          omega
        have := (List.getElem_inj nd).mp ej
        omega
      obtain ⟨hml0, hpl0⟩ := hk0 _ hmem
      have hplace : placeOfParcel (feedFold h (l.take k)) l[k] = .notFed := by
        rw [near.2.2.2 _ hnot]
        exact hpl0
      have hml : l[k] < (feedFold h (l.take k)).positions_.length := by rw [near.2.1]; exact hml0
      generalize l[k] = m at hplace hml ⊢
      generalize feedFold h (l.take k) = w3 at f3 hplace near hml ⊢
      obtain ⟨dx3, hf3⟩ := f3.flo
      have hps : m < F.ps.length := by rw [f3.psLen]; exact hml
      have ha : F.ps[m]? = some F.ps[m] := List.getElem?_eq_getElem hps
      generalize F.ps[m] = a at ha
      obtain ⟨_, dx5, t5, k1, k2⟩ := f3.parGet ha
      have hfd : feedParcel w3 m = if (parcelOf w3 m).t ≤ w3.tick ∧ isFree w3 m (parcelOf w3 m).belt 0 = true then moveTo w3 m (.belt (parcelOf w3 m).belt 0) else w3 := by
        unfold feedParcel
        rw [hplace]
      have hpq := f3.ok.parLen hml
      refine ⟨_, rfl, _, dx3, _, _, rfl, hf3, rfl, _, rfl, F.pc, _, _, .ref a, rfl, rfl, .inl (.inl f3.pcs), atI_nat (by rw [List.getElem?_map, ha]; rfl), ?_⟩
      generalize hq : parcelOf w3 m = qq at k1 hfd hpq
      refine ⟨_, rfl, _, dx5, _, _, rfl, k1, rfl, _, rfl, _, dx3, _, _, rfl, hf3, rfl, _, _, rfl, rfl, _, rfl, ?_⟩
      by_cases h1 : qq.t ≤ w3.tick
      · rw [decide_eq_true (by omega : ((qq.t : Nat) : Int) ≤ (w3.tick : Nat))]
        refine iteT ⟨_, rfl, _, dx3, _, rfl, hf3, rfl, _, rfl, _, rfl, _, dx5, _, _, rfl, k1, rfl, R, F, w3, m, qq.belt, 0, rfl, f3, fun H5 s5 => ⟨_, rfl, ?_⟩⟩
        have f5 := f3.mono s5
        cases hfr : isFree w3 m qq.belt 0 with
        | false =>
          rw [hfd, if_neg fun z => by rw [hfr] at z; cases z.2]
          exact iteF ⟨_, _, rfl, f5, s5 _ _ h3⟩
        | true =>
          rw [hfd, if_pos ⟨h1, hfr⟩]
          have hbl := f3.ok.pl.pos
          have ok' := f3.ok.move (m := m) (gl := .belt qq.belt 0) ⟨hpq.2.2, by
            unfold Xb08.beltLength
            rw [List.getElem?_eq_getElem hpq.2.2]
            exact (hbl _ (List.getElem_mem hpq.2.2)).1⟩ fun b' x' e => by cases e; exact hfr
          obtain ⟨dx6, hf6⟩ := f5.flo
          refine iteT ⟨_, rfl, _, dx6, _, rfl, hf6, rfl, _, rfl, _, rfl, _, dx5, _, _, rfl, s5 _ _ k1, rfl, (by show 3 ≤ sizeLine; decide), fun t7 ht7 => ?_⟩
          have f7 := f5.mono (Same.new (o := .tup [.int 1, .int qq.belt, .int 0]) ht7)
          refine ⟨_, F, w3, m, t7, .belt qq.belt 0, rfl, f7.full, hml, .inl upd_same, ok', fun H8 f8 => ?_⟩
          obtain ⟨f9, keep⟩ := FloorAt.keep (h' := moveTo w3 m (.belt qq.belt 0)) f7 rfl f8
          exact ⟨_, _, rfl, f9, keep D _ (Same.new ht7 _ _ (s5 _ _ h3)) nDf⟩
      · rw [decide_eq_false (by omega : ¬ ((qq.t : Nat) : Int) ≤ (w3.tick : Nat))]
        rw [hfd, if_neg fun z => h1 z.1]
        exact iteF (iteF ⟨_, _, rfl, f3, h3⟩)
    · rintro σ H3 ⟨y, y2, rfl, f3, h3⟩
      rw [List.length_map, List.take_length] at f3
      exact q H3 f3
end Tote
/-! # floors.py: sensors -/
namespace Tote
open PySem PySem.Spec PyProof.Rows L2 Tq
open SX (S S_inj S_len S_cat)
open Xb08 (Simulation Goal placeOfParcel parcelOf contentsOf roomOf isFree canGo parcelsOnBelt termHolds moveTo putAt executePush addAt senseAt)
variable {g : GG}
def seeE (h : Simulation) (e m : Nat) : Simulation := match ruleOf { h with seen := addAt h.seen e } e m with
  | none => { h with seen := addAt h.seen e }
  | some k => match h.plant.rules[k]? with
    | none => { h with seen := addAt h.seen e }
    | some r => { h with seen := addAt h.seen e, fired := addAt h.fired k, scheduled := h.scheduled ++ [(h.tick + r.after, r.push)] }
theorem see_near (h : Simulation) (e m : Nat) : (seeE h e m).plant = h.plant ∧ (seeE h e m).tick = h.tick ∧ (seeE h e m).positions_ = h.positions_ ∧ (seeE h e m).moved = h.moved ∧ (seeE h e m).scheduled.length ≤ h.scheduled.length + 1 := by
  unfold seeE
  split
  · exact ⟨rfl, rfl, rfl, rfl, Nat.le_succ _⟩
  · split
    · exact ⟨rfl, rfl, rfl, rfl, Nat.le_succ _⟩
    · exact ⟨rfl, rfl, rfl, rfl, by simp⟩
def sp_Floor_see (g : GG) : Sp := fun vs H Q _ => ∃ (R : Hp) (F : FL) (h : Simulation) (e m : Nat) (a : Addr), vs = [.ref F.fl, .int e, .ref a] ∧ FloorAt g H R F h ∧ e < h.plant.sensors.length ∧ F.ps[m]? = some a ∧ h.scheduled.length + 1 ≤ 12 * h.tick ∧ h.tick ≤ 100001 ∧
  ∀ H', FloorAt g H' R F (seeE h e m) → Q .non H'
theorem ok_Floor_see (T : Tx g) : Mt CX0 g 5 "Floor" "see" ["self", "eye", "parcel"] (sp_Floor_see g) := by
  refine mt0 (k := 4) T.cl_Floor T.me_Floor_see T.df_Floor_see sc_Floor_see (fun _ _ _ _ _ _ us hl => match us, hl with | [_, _, _], _ => rfl) ?_ ?_
  · rintro vs H Q E ⟨R, F, h, e, m, a, rfl, _⟩
    rfl
  · rintro cdv A outer s H vs Q E hr ⟨R, F, h, e, m, a, rfl, f, he, ha, hfew, htk, q⟩
    refine ⟨_, (pss_cons (ps_augS (pe_fc T.cl_Floor T.na_Floor_seen (pv 0)) (pv 1) get_list pe_int ip_add set_list) (pss_one (ps_for PassesOwn.never rfl (pi_list (pe_mt (ok_Floor_first_rule T) hr (by decide) (pv 0) (pa_cons (pv 1) (pa_cons (pv 2) pa_nil)))) (pg_name (i := 3) sc_Floor_see.nd rfl (.inl rfl)) (pss_cons (ps_asg (pe_ix ix_list (pe_fc T.cl_Plant T.na_Plant_rules (pe_fc T.cl_Floor T.na_Floor_plant (pv 0))) (pv 3) (fun _ _ => rfl)) (pg_tup rfl (pgs_cons (pg_name (i := 4) sc_Floor_see.nd rfl (.inl rfl)) (pgs_cons (pg_name (i := 5) sc_Floor_see.nd rfl (.inl rfl)) (pgs_cons (pg_name (i := 6) sc_Floor_see.nd rfl (.inl rfl)) (pgs_cons (pg_name (i := 7) sc_Floor_see.nd rfl (.inl rfl)) pgs_nil)))))) (pss_cons (ps_augS (pe_fc T.cl_Floor T.na_Floor_fired (pv 0)) (pv 3) get_list pe_int ip_add set_list) (pss_one (ps_expr (pe_bm PySem.F.plainAttrs_list PySem.F.slot_list_append PySem.F.type_list_append mt_append (pe_fc T.cl_Floor T.na_Floor_scheduled (pv 0)) (pa_cons (pe_tup (pa_cons (pe_op op_add (pe_fc T.cl_Floor T.na_Floor_tick (pv 0)) (pv 7)) (pa_cons (pv 6) pa_nil))) pa_nil))))))))), ?_⟩
    obtain ⟨dx, hf⟩ := f.flo
    have hkl : e < h.seen.length := by rw [f.ok.se]; exact he
    refine ⟨_, rfl, _, dx, _, _, rfl, hf, rfl, _, rfl, F.se, _, e, .int (h.seen[e] : Nat), rfl, rfl, .inl (.inl f.se), (by rw [List.getElem?_map, List.getElem?_eq_getElem hkl]; rfl), _, _, rfl, rfl, F.se, _, e, e, rfl, rfl, f.se, ixN_nat (by rw [List.length_map]; exact hkl), ?_⟩
    rw [addAt_map _ _ hkl]
    have f1 := f.setSe (addAt_len h.seen e)
    generalize upd H F.se (.lst ((addAt h.seen e).map iV)) = H1 at f1 ⊢
    obtain ⟨dx1, hf1⟩ := f1.flo
    refine ⟨_, rfl, _, dx1, _, rfl, hf1, rfl, _, rfl, _, rfl, R, F, _, e, m, a, rfl, f1, he, ha, fun H2 D s2 hD0 hD => ?_⟩
    have f2 := f1.mono s2
    have nDf : D ∉ F.foot := fun hm => f1.stands D hm hD0
    have hsee : seeE h e m = match ruleOf { h with seen := addAt h.seen e } e m with
      | none => { h with seen := addAt h.seen e }
      | some k => match h.plant.rules[k]? with
        | none => { h with seen := addAt h.seen e }
        | some r => { h with seen := addAt h.seen e, fired := addAt h.fired k, scheduled := h.scheduled ++ [(h.tick + r.after, r.push)] } := rfl
    refine ⟨D, rfl, ⟨_, .inl (.inl hD)⟩, ?_⟩
    cases hrule : ruleOf { h with seen := addAt h.seen e } e m with
    | none =>
      rw [hrule] at hD hsee
      refine for_it (walk_list (xs := [])) (fun k σ H' => FloorAt g H' R F { h with seen := addAt h.seen e } ∧ H' D = some (.lst [])) ⟨f2, hD⟩ (fun i σ H' hi hp => .inl (.inl hp.2)) ?_ ?_
      · intro i x σ H3 H4 hi
        exact absurd hi (Nat.not_lt_zero _)
      · rintro σ H3 ⟨f3, _⟩
        refine q H3 ?_
        rw [hsee]
        exact f3
    | some k =>
      rw [hrule] at hD hsee
      have hkr : k < h.plant.rules.length := by
        unfold ruleOf at hrule
        rw [List.findIdx?_eq_some_iff_getElem] at hrule
        exact hrule.1
      have hrk : h.plant.rules[k]? = some h.plant.rules[k] := List.getElem?_eq_getElem hkr
      have rok := f.ok.pl.ru _ (List.getElem_mem hkr)
      dsimp only at hsee
      rw [hrk] at hsee
      generalize h.plant.rules[k] = r at hrk rok hsee
      refine for_it (walk_list (xs := [V.int (k : Nat)])) (fun i σ H' => ∃ y3 y4 y5 y6 y7, σ = [some (.ref F.fl), some (.int e), some (.ref a), y3, y4, y5, y6, y7] ∧ FloorAt g H' R F (if i = 0 then { h with seen := addAt h.seen e } else seeE h e m) ∧ H' D = some (.lst [V.int (k : Nat)])) ⟨none, none, none, none, none, rfl, f2, hD⟩ (fun i σ H' hi hp => by
        obtain ⟨_, _, _, _, _, _, _, h4⟩ := hp
        exact .inl (.inl h4)) ?_ ?_
      · rintro i x σ H3 H4 hi ⟨y3, y4, y5, y6, y7, rfl, f3, h3⟩ ⟨rfl, ex⟩
        have hi0 : i = 0 := by
          have : i < 1 := hi
          omega
        subst hi0
        cases ex
        rw [if_pos rfl] at f3
        rw [if_neg (Nat.succ_ne_zero 0)]
        obtain ⟨dx3, hf3⟩ := f3.flo
        obtain ⟨px, pi⟩ := (f3.pla.same f3.same).ins
        obtain ⟨ts, hr1, hr2⟩ := (f3.pla.same f3.same).ru
        obtain ⟨t, ht, l, hl0, htup, hterms⟩ := hr2.get hrk
        refine ⟨_, rfl, _, dx3, _, _, rfl, hf3, rfl, _, px, _, _, rfl, pi, rfl, _, rfl, F.L.ru, _, _, .ref t, rfl, rfl, .inl (.inl hr1), atI_nat (by rw [List.getElem?_map, ht]; rfl), ?_⟩
        refine ⟨t, _, rfl, .inl (.inl htup), rfl, _, _, rfl, _, _, rfl, _, _, rfl, _, _, rfl, rfl, ?_⟩
        have hkf : k < h.fired.length := by rw [f.ok.fi]; exact hkr
        refine ⟨_, rfl, _, dx3, _, _, rfl, hf3, rfl, _, rfl, F.fi, h.fired.map iV, k, .int (h.fired[k] : Nat), rfl, rfl, .inl (.inl f3.fi), (by show (h.fired.map iV)[k]? = _; rw [List.getElem?_map, List.getElem?_eq_getElem hkf]; rfl), _, _, rfl, rfl, F.fi, h.fired.map iV, k, k, rfl, rfl, f3.fi, ixN_nat (by rw [List.length_map]; exact hkf), ?_⟩
        rw [addAt_map _ _ hkf]
        have f4 := f3.setFi (l := addAt h.fired k) (addAt_len _ _)
        have h4 : (upd H4 F.fi (.lst ((addAt h.fired k).map iV))) D = some (.lst [V.int (k : Nat)]) := by
          rw [upd_ne fun e => nDf (by rw [e]; exact List.mem_append_left _ FL.in_lists.2.2.2.1)]
          exact h3
        generalize upd H4 F.fi (.lst ((addAt h.fired k).map iV)) = H5 at f4 h4 ⊢
        obtain ⟨dx5, hf5⟩ := f4.flo
        obtain ⟨us, hu1, hu2⟩ := f4.sc
        refine ⟨_, rfl, _, dx5, _, _, rfl, hf5, rfl, .inl ⟨rfl, _, .inl (.inl hu1)⟩, _, rfl, _, dx5, _, _, rfl, hf5, rfl, _, rfl, _, _, rfl, rfl, _, rfl, (by show 2 ≤ sizeLine; decide), fun t7 ht7 => ?_⟩
        have s7 := Same.new (o := .tup [.int ((h.tick : Nat) + (r.after : Nat)), .int r.push]) ht7
        refine ⟨F.sc, _, _, rfl, rfl, s7 _ _ hu1, ?_, ?_⟩
        · rw [List.length_map, hu2.len, sizeLine_eq]
          show h.scheduled.length < _
          omega
        · refine ⟨_, _, _, _, _, rfl, ?_, ?_⟩
          · rw [hsee]
            refine (f4.mono s7).putSc (t := t7) (q := (h.tick + r.after, r.push)) ?_ (s7 _ _ hu1) (hu2.imp fun _ _ _ _ z => s7 _ _ z) ?_
            · rw [upd_same]
              rfl
            · have k4 := f4.ok
              refine ⟨k4.pl, k4.len, k4.se, k4.fi, k4.dn, k4.mi, k4.on, k4.one, fun d hd => ?_, ?_⟩
              · rcases List.mem_append.mp hd with hd | hd
                · exact k4.sc d hd
                · rw [List.mem_singleton.mp hd]
                  exact rok.1
              · show (h.scheduled ++ [(h.tick + r.after, r.push)]).length ≤ 12 * h.tick
                rw [List.length_append]
                exact hfew
          · rw [upd_ne fun e => nDf (by rw [e]; exact List.mem_append_left _ FL.in_lists.1)]
            exact s7 _ _ h4
      · rintro σ H3 ⟨y3, y4, y5, y6, y7, rfl, f3, h3⟩
        exact q H3 f3
end Tote
/-! # floors.py: the sensors in order; a tick -/
namespace Tote
open PySem PySem.Spec PyProof.Rows L2 Tq
open SX (S S_inj S_len S_cat)
open Xb08 (Simulation Goal placeOfParcel parcelOf contentsOf roomOf isFree canGo parcelsOnBelt termHolds moveTo putAt executePush addAt senseAt)
variable {g : GG}
theorem sense_eq (h : Simulation) (e : Nat) (y : Xb08.Sensor) (hy : h.plant.sensors[e]? = some y) : senseAt h e = match h.positions_.findIdx? fun p => p == .on y.belt y.position with
    | none => h
    | some m => if h.moved.contains m = false then h else seeE h e m := by
  unfold senseAt
  rw [hy]
  rfl
theorem sense_near (h : Simulation) (e : Nat) : (senseAt h e).plant = h.plant ∧ (senseAt h e).tick = h.tick ∧ (senseAt h e).positions_ = h.positions_ ∧ (senseAt h e).scheduled.length ≤ h.scheduled.length + 1 := by
  cases hy : h.plant.sensors[e]? with
  | none =>
    have : senseAt h e = h := by
      unfold senseAt
      rw [hy]
    rw [this]
    exact ⟨rfl, rfl, rfl, Nat.le_succ _⟩
  | some y =>
    rw [sense_eq h e y hy]
    split
    · exact ⟨rfl, rfl, rfl, Nat.le_succ _⟩
    · split
      · exact ⟨rfl, rfl, rfl, Nat.le_succ _⟩
      · have n := see_near h e ‹Nat›
        exact ⟨n.1, n.2.1, n.2.2.1, n.2.2.2.2⟩
def senseFold (h : Simulation) (l : List Nat) : Simulation := l.foldl senseAt h
theorem senseFold_take {l : List Nat} {i m : Nat} (hm : l[i]? = some m) (h : Simulation) : senseFold h (l.take (i + 1)) = senseAt (senseFold h (l.take i)) m := by
  unfold senseFold
  rw [List.take_add_one, hm]
  simp
theorem senseFold_near (l : List Nat) : ∀ h : Simulation, (senseFold h l).plant = h.plant ∧ (senseFold h l).tick = h.tick ∧ (senseFold h l).positions_ = h.positions_ ∧ (senseFold h l).scheduled.length ≤ h.scheduled.length + l.length := by
  induction l with
  | nil => exact fun h => ⟨rfl, rfl, rfl, Nat.le_refl _⟩
  | cons m l ih =>
    intro h
    obtain ⟨e1, e2, e3, e4⟩ := ih (senseAt h m)
    obtain ⟨n1, n2, n3, n4⟩ := sense_near h m
    refine ⟨e1.trans n1, e2.trans n2, e3.trans n3, ?_⟩
    show (senseFold (senseAt h m) l).scheduled.length ≤ _
    rw [List.length_cons]
    omega
def sp_Floor_do_eyes (g : GG) : Sp := fun vs H Q _ => ∃ (R : Hp) (F : FL) (h : Simulation), vs = [.ref F.fl] ∧ FloorAt g H R F h ∧ h.scheduled.length + 12 ≤ 12 * h.tick ∧ h.tick ≤ 100001 ∧ ∀ H', FloorAt g H' R F (senseFold h (List.range h.plant.sensors.length)) → Q .non H'
theorem ok_Floor_do_eyes (T : Tx g) : Mt CX0 g 6 "Floor" "do_eyes" ["self"] (sp_Floor_do_eyes g) := by
  refine mt0 (k := 5) T.cl_Floor T.me_Floor_do_eyes T.df_Floor_do_eyes sc_Floor_do_eyes (fun _ _ _ _ _ _ us hl => match us, hl with | [_], _ => rfl) ?_ ?_
  · rintro vs H Q E ⟨R, F, h, rfl, _⟩
    rfl
  · rintro cdv A outer s H vs Q E hr ⟨R, F, h, rfl, f, hfew, htk, q⟩
    refine ⟨_, (pss_one (ps_for PassesOwn.never rfl (pi_enum (by rfl) T.fr_enumerate (pa_cons (pe_fc T.cl_Plant T.na_Plant_eyes (pe_fc T.cl_Floor T.na_Floor_plant (pv 0))) pa_nil)) (pg_tup rfl (pgs_cons (pg_name (i := 1) sc_Floor_do_eyes.nd rfl (.inl rfl)) (pgs_cons (pg_tup rfl (pgs_cons (pg_name (i := 2) sc_Floor_do_eyes.nd rfl (.inl rfl)) (pgs_cons (pg_name (i := 3) sc_Floor_do_eyes.nd rfl (.inl rfl)) pgs_nil))) pgs_nil))) (pss_one (ps_for PassesOwn.never rfl (pi_list (pe_mt (ok_Floor_at_place T) hr (by decide) (pv 0) (pa_cons (pe_tup (pa_cons (C8.pe_gc rfl T.in_BELT) (pa_cons (pv 2) (pa_cons (pv 3) pa_nil)))) pa_nil))) (pg_name (i := 4) sc_Floor_do_eyes.nd rfl (.inl rfl)) (pss_one (ps_if (pt_val (pe_fc T.cl_Parcel T.na_Parcel_has_moved (pe_ix ix_list (pe_fc T.cl_Floor T.na_Floor_parcels (pv 0)) (pv 4) (fun _ _ => rfl)))) (pss_one (ps_expr (pe_mt (ok_Floor_see T) hr (by decide) (pv 0) (pa_cons (pv 1) (pa_cons (pe_ix ix_list (pe_fc T.cl_Floor T.na_Floor_parcels (pv 0)) (pv 4) (fun _ _ => rfl)) pa_nil))))) pss_nil)))))), ?_⟩
    obtain ⟨dx, hf⟩ := f.flo
    obtain ⟨px, pi⟩ := (f.pla.same f.same).ins
    obtain ⟨ts, hr1, hr2⟩ := f.pla.ey
    have hr0 := f.same _ _ hr1
    have hse := f.ok.pl.lim.se
    refine ⟨_, rfl, _, dx, _, _, rfl, hf, rfl, _, px, _, _, rfl, pi, rfl, F.L.ey, _, rfl, .inl (.inl hr0), ?_⟩
    refine for_it (walk_enum (xs := ts.map .ref)) (fun i σ H' => ∃ y1 y2 y3 y4, σ = [some (.ref F.fl), y1, y2, y3, y4] ∧ FloorAt g H' R F (senseFold h ((List.range h.plant.sensors.length).take i))) ⟨none, none, none, none, rfl, f⟩ ?_ ?_ ?_
    · rintro i σ H' hi ⟨y1, y2, y3, y4, rfl, f1⟩
      exact .inl (.inl (f1.same _ _ hr1))
    · rintro i x σ H1 H' hi ⟨y1, y2, y3, y4, rfl, f1⟩ ⟨T1, v1, v2, rfl, hT1, rfl, e1, e2⟩
      cases e1
      rw [List.length_map] at hi
      change (ts.map V.ref)[i]? = some v2 at e2
      rw [List.getElem?_map, List.getElem?_eq_getElem hi] at e2
      cases e2
      have hi2 : i < h.plant.sensors.length := by rw [← hr2.len]; exact hi
      have hri : (List.range h.plant.sensors.length)[i]? = some i := List.getElem?_range hi2
      rw [senseFold_take hri]
      obtain ⟨n1, n2, n3, n4⟩ := senseFold_near ((List.range h.plant.sensors.length).take i) h
      have hti : ((List.range h.plant.sensors.length).take i).length = i := by
        rw [List.length_take, List.length_range]
        omega
      rw [hti] at n4
      obtain ⟨y, hy, htup⟩ := hr2.get' (List.getElem?_eq_getElem hi)
      rw [← n1] at hy
      have hi3 : i < (senseFold h ((List.range h.plant.sensors.length).take i)).plant.sensors.length := by rw [n1]; exact hi2
      generalize senseFold h ((List.range h.plant.sensors.length).take i) = w at f1 n1 n2 n3 n4 hy hi3 ⊢
      have f2 := f1.mono (Same.new (o := .tup [.int (i : Nat), .ref ts[i]]) hT1)
      refine ⟨T1, _, rfl, .inl (.inl upd_same), rfl, _, _, rfl, _, _, rfl, ?_⟩
      generalize upd H1 T1 (.tup [.int (i : Nat), .ref ts[i]]) = H2 at f2 ⊢
      refine ⟨ts[i], _, rfl, .inl (.inl (f2.same _ _ htup)), rfl, _, _, rfl, _, _, rfl, rfl, rfl, ?_⟩
      obtain ⟨dx2, hf2⟩ := f2.flo
      refine ⟨_, rfl, _, dx2, _, rfl, hf2, rfl, _, rfl, _, rfl, (by show 3 ≤ sizeLine; decide), fun t3 ht3 => ?_⟩
      have f3 := f2.mono (Same.new (o := .tup [.int 1, .int y.belt, .int y.position]) ht3)
      refine ⟨R, F, w, t3, .on y.belt y.position, rfl, f3, .inl upd_same, fun H4 D s4 hD0 hD => ?_⟩
      rw [at_on f3.ok] at hD
      have f4 := f3.mono s4
      have nDf : D ∉ F.foot := fun hm => f3.stands D hm hD0
      rw [sense_eq w i y hy]
      refine ⟨D, rfl, ⟨_, .inl (.inl hD)⟩, ?_⟩
      cases hfind : (w.positions_.findIdx? fun p => p == .on y.belt y.position) with
      | none =>
        rw [hfind] at hD
        refine for_it (walk_list (xs := [])) (fun k σ H' => ∃ y1 y2 y3 y4, σ = [some (.ref F.fl), y1, y2, y3, y4] ∧ FloorAt g H' R F w ∧ H' D = some (.lst [])) ⟨_, _, _, _, rfl, f4, hD⟩ (fun i σ H' hi hp => by
          obtain ⟨_, _, _, _, _, _, h4⟩ := hp
          exact .inl (.inl h4)) ?_ ?_
        · intro i x σ H3 H4 hi
          exact absurd hi (Nat.not_lt_zero _)
        · rintro σ H5 ⟨z1, z2, z3, z4, rfl, f5, _⟩
          exact ⟨_, _, _, _, rfl, f5⟩
      | some m =>
        rw [hfind] at hD
        have hml : m < w.positions_.length := (List.getElem?_eq_some_iff.mp (front_pos.mp ((find_on f4.ok).mp hfind))).1
        refine for_it (walk_list (xs := [V.int (m : Nat)])) (fun k σ H' => ∃ y2 y3 y4, σ = [some (.ref F.fl), some (.int (i : Nat)), y2, y3, y4] ∧ FloorAt g H' R F (if k = 0 then w else (if w.moved.contains m = false then w else seeE w i m)) ∧ H' D = some (.lst [V.int (m : Nat)])) ⟨_, _, _, rfl, f4, hD⟩ (fun i σ H' hi hp => by
          obtain ⟨_, _, _, _, _, h4⟩ := hp
          exact .inl (.inl h4)) ?_ ?_
        · rintro k x σ H5 H6 hk ⟨z2, z3, z4, rfl, f5, h5⟩ ⟨rfl, ex⟩
          have hk0 : k = 0 := by
            have : k < 1 := hk
            omega
          subst hk0
          cases ex
          rw [if_pos rfl] at f5
          rw [if_neg (Nat.succ_ne_zero 0)]
          obtain ⟨dx5, hf5⟩ := f5.flo
          have hps : m < F.ps.length := by rw [f5.psLen]; exact hml
          have ha : F.ps[m]? = some F.ps[m] := List.getElem?_eq_getElem hps
          generalize F.ps[m] = a at ha
          obtain ⟨_, dx6, t6, k1, k2⟩ := f5.parGet ha
          refine ⟨_, rfl, _, dx5, _, _, rfl, hf5, rfl, _, rfl, F.pc, _, _, .ref a, rfl, rfl, .inl (.inl f5.pcs), atI_nat (by rw [List.getElem?_map, ha]; rfl), _, dx6, _, _, rfl, k1, rfl, _, rfl, ?_⟩
          cases eb : w.moved.contains m with
          | false =>
            rw [show (if false = false then w else seeE w i m) = w from if_pos rfl]
            exact iteF ⟨_, _, _, rfl, f5, h5⟩
          | true =>
            rw [show (if true = false then w else seeE w i m) = seeE w i m from if_neg (by decide)]
            refine iteT ⟨_, rfl, _, dx5, _, rfl, hf5, rfl, _, rfl, _, rfl, _, dx5, _, _, rfl, hf5, rfl, _, rfl, F.pc, _, _, .ref a, rfl, rfl, .inl (.inl f5.pcs), atI_nat (by rw [List.getElem?_map, ha]; rfl), _, F, w, i, m, a, rfl, f5.full, hi3, ha, by omega, by omega, fun H7 f7 => ?_⟩
            obtain ⟨f8, keep⟩ := f5.keep (see_near w i m).1 f7
            exact ⟨_, _, _, rfl, f8, keep D _ h5 nDf⟩
        · rintro σ H5 ⟨z2, z3, z4, rfl, f5, h5⟩
          exact ⟨_, _, _, _, rfl, f5⟩
    · rintro σ H' ⟨y1, y2, y3, y4, rfl, f1⟩
      rw [List.length_map, hr2.len] at f1
      have e : (List.range h.plant.sensors.length).take h.plant.sensors.length = List.range h.plant.sensors.length := List.take_of_length_le (by simp)
      rw [e] at f1
      exact q H' f1
end Tote
/-! # floors.py: a tick -/
namespace Tote
open PySem PySem.Spec PyProof.Rows L2 Tq
open SX (S S_inj S_len S_cat)
open Xb08 (Simulation Goal placeOfParcel parcelOf contentsOf roomOf isFree canGo parcelsOnBelt termHolds moveTo putAt executePush addAt senseAt feedParcel stepTick)
variable {g : GG}
theorem exec_sc (h : Simulation) (k : Nat) : (executePush h k).scheduled = h.scheduled := by
  unfold executePush
  split
  · rfl
  · split
    · rfl
    · split <;> rfl
theorem pushFold_sc (l : List (Nat × Nat)) : ∀ h : Simulation, (pushFold l h).scheduled = h.scheduled := by
  induction l with
  | nil => exact fun h => rfl
  | cons d l ih => exact fun h => (ih (executePush h d.2)).trans (exec_sc h d.2)
theorem advance_sc (h : Simulation) (m : Nat) : (Xb08.advance h m).scheduled = h.scheduled := by
  unfold Xb08.advance
  split
  · rfl
  split
  · split
    · rfl
    split
    · split <;> rfl
    split
    · rfl
    split <;> rfl
  · rfl
theorem beltFold_sc (l : List Nat) : ∀ h : Simulation, (beltFold h l).scheduled = h.scheduled := by
  induction l with
  | nil => exact fun h => rfl
  | cons d l ih => exact fun h => (ih (Xb08.advance h d)).trans (advance_sc h d)
theorem doBelts_sc (l : List Nat) : ∀ h : Simulation, (doBelts h l).scheduled = h.scheduled := by
  induction l with
  | nil => exact fun h => rfl
  | cons d l ih => exact fun h => (ih (beltFold h (parcelsOnBelt h d))).trans (beltFold_sc _ h)
theorem feed_sc (h : Simulation) (m : Nat) : (feedParcel h m).scheduled = h.scheduled := by
  unfold feedParcel
  split
  · split <;> rfl
  · rfl
theorem feedFold_sc (l : List Nat) : ∀ h : Simulation, (feedFold h l).scheduled = h.scheduled := by
  induction l with
  | nil => exact fun h => rfl
  | cons d l ih => exact fun h => (ih (feedParcel h d)).trans (feed_sc h d)
theorem step_eq (h : Simulation) : stepTick h =
    (let h1 : Simulation := { h with tick := h.tick + 1, moved := [] }
     let h2 := pushAll h1
     let h3 := doBelts h2 (List.range h2.plant.belts.length)
     let h4 := feedFold h3 (List.range h3.positions_.length)
     senseFold h4 (List.range h4.plant.sensors.length)) := rfl
def sp_Floor_do_tick (g : GG) : Sp := fun vs H Q _ => ∃ (R : Hp) (F : FL) (h : Simulation), vs = [.ref F.fl] ∧ FloorAt g H R F h ∧ h.tick ≤ 99999 ∧ ∀ H' sc', FloorAt g H' R { F with sc := sc' } (stepTick h) → Q .non H'
theorem ok_Floor_do_tick (T : Tx g) : Mt CX0 g 7 "Floor" "do_tick" ["self"] (sp_Floor_do_tick g) := by
  refine mt0 (k := 6) T.cl_Floor T.me_Floor_do_tick T.df_Floor_do_tick sc_Floor_do_tick (fun _ _ _ _ _ _ us hl => match us, hl with | [_], _ => rfl) ?_ ?_
  · rintro vs H Q E ⟨R, F, h, rfl, _⟩
    rfl
  · rintro cdv A outer s H vs Q E hr ⟨R, F, h, rfl, f, htk, q⟩
    refine ⟨_, (pss_cons (ps_expr (pe_mt0 (ok_Floor_begin_tick T) hr (by decide) (pv 0))) (pss_cons (ps_expr (pe_mt0 (ok_Floor_do_pushes T) hr (by decide) (pv 0))) (pss_cons (ps_expr (pe_mt0 (ok_Floor_do_belts T) hr (by decide) (pv 0))) (pss_cons (ps_expr (pe_mt0 (ok_Floor_do_feeds T) hr (by decide) (pv 0))) (pss_one (ps_expr (pe_mt0 (ok_Floor_do_eyes T) hr (by decide) (pv 0)))))))), ?_⟩
    rw [step_eq] at q
    dsimp only at q
    obtain ⟨dx, hf⟩ := f.flo
    refine ⟨_, rfl, _, dx, _, rfl, hf, rfl, R, F, h, rfl, f, fun H1 f1 => ?_⟩
    have few1 : ({ h with tick := h.tick + 1, moved := [] } : Simulation).scheduled.length + 12 ≤ 12 * ({ h with tick := h.tick + 1, moved := [] } : Simulation).tick := by
      have := f.ok.few
      show h.scheduled.length + 12 ≤ 12 * (h.tick + 1)
      omega
    have tk1 : ({ h with tick := h.tick + 1, moved := [] } : Simulation).tick ≤ 100000 := by
      show h.tick + 1 ≤ 100000
      omega
    generalize ({ h with tick := h.tick + 1, moved := [] } : Simulation) = h1 at f1 few1 tk1 q
    obtain ⟨dx1, hf1⟩ := f1.flo
    refine ⟨_, rfl, _, dx1, _, rfl, hf1, rfl, R, F, h1, rfl, f1, tk1, fun H2 sc' f2 => ?_⟩
    have p2 := pushFold_plant (nowOf h1) { h1 with scheduled := laterOf h1 }
    have few2 : (pushAll h1).scheduled.length + 12 ≤ 12 * (pushAll h1).tick := by
      show (pushFold (nowOf h1) { h1 with scheduled := laterOf h1 }).scheduled.length + 12 ≤ 12 * (pushFold (nowOf h1) { h1 with scheduled := laterOf h1 }).tick
      rw [pushFold_sc, p2.2]
      have := List.length_filter_le (fun d : Nat × Nat => d.1 != h1.tick) h1.scheduled
      show (laterOf h1).length + 12 ≤ 12 * h1.tick
      unfold laterOf
      omega
    have tk2 : (pushAll h1).tick ≤ 100000 := by
      show (pushFold (nowOf h1) { h1 with scheduled := laterOf h1 }).tick ≤ 100000
      rw [p2.2]
      exact tk1
    generalize pushAll h1 = h2 at f2 few2 tk2 q
    obtain ⟨dx2, hf2⟩ := f2.flo
    refine ⟨_, rfl, _, dx2, _, rfl, hf2, rfl, R, { F with sc := sc' }, h2, rfl, f2, fun H3 f3 => ?_⟩
    have p3 := doBelts_near (List.range h2.plant.belts.length) h2
    have s3 := doBelts_sc (List.range h2.plant.belts.length) h2
    generalize doBelts h2 (List.range h2.plant.belts.length) = h3 at f3 p3 s3 q
    obtain ⟨dx3, hf3⟩ := f3.flo
    refine ⟨_, rfl, _, dx3, _, rfl, hf3, rfl, R, { F with sc := sc' }, h3, rfl, f3, fun H4 f4 => ?_⟩
    have p4 := feedFold_near (List.range h3.positions_.length) h3
    have s4 := feedFold_sc (List.range h3.positions_.length) h3
    generalize feedFold h3 (List.range h3.positions_.length) = h4 at f4 p4 s4 q
    obtain ⟨dx4, hf4⟩ := f4.flo
    refine ⟨_, rfl, _, dx4, _, rfl, hf4, rfl, R, { F with sc := sc' }, h4, rfl, f4, by rw [s4, s3, p4.2.2.1, p3.2.2]; exact few2, by rw [p4.2.2.1, p3.2.2]; omega, fun H5 f5 => q H5 sc' f5⟩
end Tote
/-! # floors.py: what is made -/
namespace Tote
open PySem PySem.Spec PyProof.Rows L2 Tq
open SX (S S_inj S_len S_cat)
open Xb08 (Simulation Goal placeOfParcel parcelOf contentsOf roomOf isFree canGo)
variable {g : GG}
def sp_Parcel_init (g : GG) : Sp := fun vs H Q _ => ∃ (a t dx : Addr) (y : Xb08.Parcel), vs = [.ref a, .ref t] ∧ H a = some (.ins (cF g "Parcel") dx []) ∧ H t = some (.tup (parT y)) ∧
  ∀ H', (∀ b o, b ≠ a → H b = some o → H' b = some o) → (∃ dx, H' a = some (.ins (cF g "Parcel") dx (pcF (.int y.belt) (.int y.code) (.int y.length) (.int y.t) (.ref (cF g "WAITING")) (.bl false)))) → Q .non H'
theorem ok_Parcel_init (T : Tx g) : Mw g 1 "Parcel" ["self", "told"] (sp_Parcel_init g) := by
  refine mw0 (k := 0) T.gl_Parcel T.mk_Parcel T.df_Parcel_init sc_Parcel_init (fun _ _ _ _ _ _ us hl => match us, hl with | [_, _], _ => rfl) ?_ ?_
  · rintro vs H Q E ⟨a, t, dx, y, rfl, _⟩
    rfl
  · rintro cdv A outer s H vs Q E hr ⟨a, t, dx, y, rfl, h1, h2, q⟩
    refine ⟨_, (pss_cons (ps_asg (pv 1) (pg_tup rfl (pgs_cons (pg_fld (pv 0)) (pgs_cons (pg_fld (pv 0)) (pgs_cons (pg_fld (pv 0)) (pgs_cons (pg_fld (pv 0)) pgs_nil)))))) (pss_cons (ps_fc T.cl_Parcel T.na_Parcel_place (pv 0) (pe_glob (v := .ref (cF g "WAITING")) rfl T.gl_WAITING rfl)) (pss_one (ps_fc T.cl_Parcel T.na_Parcel_has_moved (pv 0) pe_bl)))), ?_⟩
    refine ⟨_, rfl, t, _, rfl, .inl (.inl h2), rfl, ?_⟩
    refine ⟨_, _, rfl, _, rfl, a, _, dx, _, rfl, h1, T.cl_Parcel, T.na_Parcel_belt, (by show 0 < 1000; decide), ?_⟩
    refine ⟨_, _, rfl, _, rfl, a, _, dx, _, rfl, upd_same, T.cl_Parcel, T.na_Parcel_code, (by show 1 < 1000; decide), ?_⟩
    refine ⟨_, _, rfl, _, rfl, a, _, dx, _, rfl, upd_same, T.cl_Parcel, T.na_Parcel_length, (by show 2 < 1000; decide), ?_⟩
    refine ⟨_, _, rfl, _, rfl, a, _, dx, _, rfl, upd_same, T.cl_Parcel, T.na_Parcel_since, (by show 3 < 1000; decide), rfl, ?_⟩
    refine ⟨_, rfl, a, dx, _, rfl, upd_same, (by show 4 < 1000; decide), ?_⟩
    refine ⟨_, rfl, a, dx, _, rfl, upd_same, (by show 5 < 1000; decide), ?_⟩
    refine q _ (fun b o nb hb => ?_) ⟨dx, upd_same⟩
    rw [upd_ne nb, upd_ne nb, upd_ne nb, upd_ne nb, upd_ne nb, upd_ne nb]
    exact hb
theorem waiting_pl (T : Tx g) (H : Hp) : PlT g H (cF g "WAITING") (plaV .notFed) := .inr fun H' => T.waiting H'
def sp_Floor_put_parcel (g : GG) : Sp := fun vs H Q _ => ∃ (R : Hp) (F : FL) (h : Simulation) (t : Addr) (y : Xb08.Parcel), vs = [.ref F.fl, .ref t] ∧ FloorAt g H R F h ∧ H t = some (.tup (parT y)) ∧ h.positions_.length < 40 ∧ (∀ i ∈ h.moved, i < h.positions_.length) ∧ y.belt < h.plant.belts.length ∧ 1 ≤ y.length ∧ y.length ≤ 5 ∧
  ∀ H' a, FloorAt g H' R { F with ps := F.ps ++ [a] } { h with plant := { h.plant with parcels := h.plant.parcels ++ [y] }, positions_ := h.positions_ ++ [.notFed] } → Q .non H'
theorem ok_Floor_put_parcel (T : Tx g) : Mt CX0 g 3 "Floor" "put_parcel" ["self", "row"] (sp_Floor_put_parcel g) := by
  refine mt0 (k := 2) T.cl_Floor T.me_Floor_put_parcel T.df_Floor_put_parcel sc_Floor_put_parcel (fun _ _ _ _ _ _ us hl => match us, hl with | [_, _], _ => rfl) ?_ ?_
  · rintro vs H Q E ⟨R, F, h, t, y, rfl, _⟩
    rfl
  · rintro cdv A outer s H vs Q E hr ⟨R, F, h, t, y, rfl, f, ht, hn, hmv, hy1, hy2, hy3, q⟩
    refine ⟨_, (pss_one (ps_expr (pe_bm PySem.F.plainAttrs_list PySem.F.slot_list_append PySem.F.type_list_append mt_append (pe_fc T.cl_Floor T.na_Floor_parcels (pv 0)) (pa_cons (pe_nw (ok_Parcel_init T) hr (by decide) (pa_cons (pv 1) pa_nil)) pa_nil)))), ?_⟩
    obtain ⟨dx, hf⟩ := f.flo
    refine ⟨_, rfl, _, dx, _, _, rfl, hf, rfl, .inl ⟨rfl, _, .inl (.inl f.pcs)⟩, _, rfl, fun a dx1 ha hdx ne => ?_⟩
    have s1 : Same H (upd (upd H dx1 (.own a)) a (.ins (cF g "Parcel") dx1 [])) := Same.upd ha (Same.new hdx)
    refine ⟨a, t, dx1, y, rfl, upd_same, s1 _ _ ht, fun H2 keep ⟨dx2, h2⟩ => ⟨rfl, ?_⟩⟩
    have s2 : Same H H2 := fun b o e => keep b o (fun z => by rw [z, ha] at e; cases e) (s1 b o e)
    have f2 := f.mono s2
    refine ⟨F.pc, _, _, rfl, rfl, f2.pcs, by rw [List.length_map, f.psLen]; exact line_of' (by omega), ?_⟩
    obtain ⟨l1, l2, l3, l4, l5, l6⟩ := FL.in_lists (F := F)
    obtain ⟨r1, r2, r3, s, n⟩ := f2.rest (xs := (F.ps.map .ref) ++ [.ref a]) l2
    obtain ⟨⟨a1, a2, a3, a4, a5⟩, ⟨b1, b2, b3, b4⟩, ⟨c1, c2, c3⟩, ⟨d1, d2⟩, x1⟩ := FL.ne f.ndl
    have naf : a ∉ F.foot := fun hm => f.stands a hm ha
    have k := f.ok
    have hlen : h.plant.parcels.length = h.positions_.length := k.len
    refine q _ a ⟨r1, ?_, ?_, f.ndl, ?_, r2, f2.sc.st s n a1, ?_, ?_, f2.se.st s n b1.symm, f2.fi.st s n b2.symm, f2.dn.st s n b3.symm, f2.mi.st s n b4.symm, ?_⟩
    · exact ⟨f.pla.ins, f.pla.le, f.pla.go, f.pla.ro, f.pla.ey, f.pla.pu, f.pla.ru⟩
    · intro b hb
      rcases List.mem_append.mp hb with hl | hi
      · exact f.out b (List.mem_append_left _ hl)
      · rcases List.mem_cons.mp hi with e | hi
        · exact f.out b (List.mem_append_right _ (by rw [e]; exact List.mem_cons_self))
        · rcases List.mem_append.mp hi with hi | hi
          · exact f.out b (List.mem_append_right _ (List.mem_cons_of_mem _ hi))
          · rw [List.mem_singleton.mp hi]
            exact f.same.free ha
    · show (F.fl :: (F.ps ++ [a])).Nodup
      rw [← List.cons_append]
      refine List.nodup_append.mpr ⟨f.ndi, List.nodup_cons.mpr ⟨List.not_mem_nil, List.nodup_nil⟩, fun b hb c hc e => ?_⟩
      rw [List.mem_singleton.mp hc] at e
      exact naf (List.mem_append_right _ (by rw [← e]; exact hb))
    · show upd H2 F.pc _ F.pc = some (.lst ((F.ps ++ [a]).map .ref))
      rw [upd_same, List.map_append]
      rfl
    · have hold : ∀ i, i < h.positions_.length → parcelOf { h with plant := { h.plant with parcels := h.plant.parcels ++ [y] }, positions_ := h.positions_ ++ [.notFed] } i = parcelOf h i ∧ placeOfParcel { h with plant := { h.plant with parcels := h.plant.parcels ++ [y] }, positions_ := h.positions_ ++ [.notFed] } i = placeOfParcel h i := by
        intro i hi
        unfold parcelOf placeOfParcel List.getD
        dsimp only
        rw [List.getElem?_append_left (by rw [hlen]; exact hi), List.getElem?_append_left hi]
        exact ⟨rfl, rfl⟩
      show F2 _ (F.ps ++ [a]) (List.range (h.positions_ ++ [Xb08.Place.notFed]).length)
      rw [List.length_append, List.length_singleton, List.range_succ]
      refine (F2.imp r3 fun b i hb hi z => ?_).snoc ?_
      · obtain ⟨e1, e2⟩ := hold i (List.mem_range.mp hi)
        rw [e1, e2]
        exact z
      · have e1 : parcelOf { h with plant := { h.plant with parcels := h.plant.parcels ++ [y] }, positions_ := h.positions_ ++ [.notFed] } h.positions_.length = y := by
          unfold parcelOf List.getD
          dsimp only
          rw [List.getElem?_append_right (by rw [hlen]; exact Nat.le_refl _), hlen, Nat.sub_self]
          rfl
        have e2 : placeOfParcel { h with plant := { h.plant with parcels := h.plant.parcels ++ [y] }, positions_ := h.positions_ ++ [.notFed] } h.positions_.length = .notFed := by
          unfold placeOfParcel List.getD
          dsimp only
          rw [List.getElem?_append_right (Nat.le_refl _), Nat.sub_self]
          rfl
        have e3 : h.moved.contains h.positions_.length = false := by
          cases z : h.moved.contains h.positions_.length with
          | false => rfl
          | true =>
            have := hmv _ (by simpa using z)
            omega
        rw [e1, e2]
        show PcAt g _ a y .notFed (h.moved.contains h.positions_.length)
        rw [e3]
        refine ⟨dx2, _, ?_, waiting_pl T _⟩
        rw [upd_ne fun e => naf (by rw [e]; exact List.mem_append_left _ l2)]
        exact h2
    · have hpl : PlOk { h.plant with parcels := h.plant.parcels ++ [y] } := by
        have p := k.pl
        have l := p.lim
        refine ⟨⟨l.be, l.ch, l.se, l.pu, l.ru, ?_⟩, p.pos, p.go, p.pu, p.ru, fun z hz => ?_⟩
        · show (h.plant.parcels ++ [y]).length ≤ 40
          rw [List.length_append, List.length_singleton, hlen]
          omega
        · rcases List.mem_append.mp hz with hz | hz
          · exact p.pa z hz
          · rw [List.mem_singleton.mp hz]
            exact ⟨hy1, hy2, hy3⟩
      have get : ∀ (i b x : Nat), (h.positions_ ++ [Xb08.Place.notFed])[i]? = some (.on b x) → h.positions_[i]? = some (.on b x) := by
        intro i b x e
        by_cases hi : i < h.positions_.length
        · rw [List.getElem?_append_left hi] at e
          exact e
        · have hl := (List.getElem?_eq_some_iff.mp e).1
          rw [List.length_append, List.length_singleton] at hl
          have : i = h.positions_.length := by omega
          subst this
          rw [List.getElem?_append_right (Nat.le_refl _), Nat.sub_self] at e
          cases e
      refine ⟨hpl, ?_, k.se, k.fi, k.dn, k.mi, fun i b x e => k.on i b x (get i b x e), fun i j b x e1 e2 => k.one i j b x (get i b x e1) (get j b x e2), k.sc, k.few⟩
      show (h.plant.parcels ++ [y]).length = (h.positions_ ++ [Xb08.Place.notFed]).length
      rw [List.length_append, List.length_append, hlen]
      rfl
end Tote
/-! # floors.py: a floor is made -/
namespace Tote
open PySem PySem.Spec PyProof.Rows L2 Tq
open SX (S S_inj S_len S_cat)
open Xb08 (Simulation Goal placeOfParcel parcelOf contentsOf roomOf isFree canGo)
variable {g : GG}
theorem PI.same {H0 H H' : Hp} {C pl dx : Addr} {fs : List (Str × V)} {as : List (Addr × HO)} (h : PI H0 H C pl dx fs as) (s : Same H H') : PI H0 H' C pl dx fs as :=
  ⟨h.old, s _ _ h.ins, fun b o nb hb => s _ _ (h.keep b o nb hb), fun q hq => ⟨s _ _ (h.new q hq).1, (h.new q hq).2⟩, h.nd⟩
theorem PI.store {H0 H : Hp} {C pl dx : Addr} {fs fs' : List (Str × V)} {as : List (Addr × HO)} (h : PI H0 H C pl dx fs as) : PI H0 (upd H pl (.ins C dx fs')) C pl dx fs' as := by
  refine ⟨h.old, upd_same, fun b o nb hb => by rw [upd_ne nb]; exact h.keep b o nb hb, fun q hq => ?_, h.nd⟩
  obtain ⟨h1, h2⟩ := h.new q hq
  obtain ⟨o0, h0⟩ := h.old
  exact ⟨by rw [upd_ne (fun e => by rw [e, h0] at h2; cases h2)]; exact h1, h2⟩
theorem PI.add {H0 H : Hp} {C pl dx p : Addr} {fs : List (Str × V)} {as : List (Addr × HO)} {o : HO} (h : PI H0 H C pl dx fs as) (hp : H p = some o) (h0 : H0 p = none) (hn : p ∉ as.map (·.1)) : PI H0 H C pl dx fs (as ++ [(p, o)]) := by
  refine ⟨h.old, h.ins, h.keep, fun q hq => ?_, ?_⟩
  · rcases List.mem_append.mp hq with hq | hq
    · exact h.new q hq
    · rw [List.mem_singleton.mp hq]
      exact ⟨hp, h0⟩
  · rw [List.map_append]
    refine List.nodup_append.mpr ⟨h.nd, List.nodup_cons.mpr ⟨List.not_mem_nil, List.nodup_nil⟩, fun a ha b hb e => hn ?_⟩
    rw [List.mem_singleton.mp hb] at e
    exact (show a = p from e) ▸ ha
/-- the new parcels -/
def NewPs (g : GG) (H : Hp) (ps : List Addr) (ys : List Xb08.Parcel) : Prop := F2 (fun a (y : Xb08.Parcel) => ∃ dx, H a = some (.ins (cF g "Parcel") dx (pcF (.int y.belt) (.int y.code) (.int y.length) (.int y.t) (.ref (cF g "WAITING")) (.bl false)))) ps ys
theorem NewPs.same {H H' : Hp} {ps : List Addr} {ys : List Xb08.Parcel} (h : NewPs g H ps ys) (s : Same H H') : NewPs g H' ps ys := F2.imp h fun a y _ _ z => by
  obtain ⟨dz, hz⟩ := z
  exact ⟨dz, s _ _ hz⟩
theorem NewPs.store {H : Hp} {fl : Addr} {o : HO} {ps : List Addr} {ys : List Xb08.Parcel} (h : NewPs g H ps ys) (n : ∀ a ∈ ps, a ≠ fl) : NewPs g (upd H fl o) ps ys := F2.imp h fun a y ha _ z => by
  obtain ⟨dz, hz⟩ := z
  exact ⟨dz, by rw [upd_ne (n a ha)]; exact hz⟩
theorem rep_flat (n : Nat) : (List.replicate n [V.int 0]).flatten = (List.replicate n 0).map iV := by
  induction n with
  | zero => rfl
  | succ n ih =>
    rw [List.replicate_succ, List.flatten_cons, ih, List.replicate_succ, List.map_cons]
    rfl
def sp_Floor_init (g : GG) : Sp := fun vs H Q _ => ∃ (fl dx ra : Addr) (L : PL) (p : Xb08.Plant) (ts : List Addr), vs = [.ref fl, .ref L.pl, .ref ra] ∧ H fl = some (.ins (cF g "Floor") dx []) ∧ (∃ R, Same R H ∧ R fl = none ∧ PlantF g R L p) ∧ H ra = some (.lst (ts.map .ref)) ∧ F2 (fun t (y : Xb08.Parcel) => H t = some (.tup (parT y))) ts p.parcels ∧ PlOk p ∧
  ∀ H' F, F.fl = fl → F.L = L → (∀ R, Same R H → R fl = none → PlantF g R L p → FloorAt g H' R F (Xb08.initial p)) → Q .non H'
theorem ok_Floor_init (T : Tx g) : Mw g 3 "Floor" ["self", "plant", "rows"] (sp_Floor_init g) := by
  refine mw0 (k := 2) T.gl_Floor T.mk_Floor T.df_Floor_init sc_Floor_init (fun _ _ _ _ _ _ us hl => match us, hl with | [_, _, _], _ => rfl) ?_ ?_
  · rintro vs H Q E ⟨fl, dx, ra, L, p, ts, rfl, _⟩
    rfl
  · rintro cdv A outer s H vs Q E hr ⟨fl, dx, ra, L, p, ts, rfl, h1, ⟨R0, sR0, nR0, hp0⟩, hra, hts, pok, q⟩
    refine ⟨_, (pss_cons (ps_fc T.cl_Floor T.na_Floor_plant (pv 0) (pv 1)) (pss_cons (ps_fc T.cl_Floor T.na_Floor_parcels (pv 0) (pe_lc (own := [("row", 3)]) (g := (gName 3)) rfl sc_Floor_init.nd (pi_list (pv 2)) (blkOk_by (N := ["self", "plant", "rows", "row"]) (sc := defScope s_Floor_init) (by decide +kernel)) (fun _ _ _ _ _ => (pg_name (i := 3) sc_Floor_init.nd rfl (.inl rfl))) (fun _ _ _ _ _ => pts_nil) (fun _ _ _ _ _ => (pe_nw (ok_Parcel_init T) hr (by decide) (pa_cons (pv 3) pa_nil))))) (pss_cons (ps_fc T.cl_Floor T.na_Floor_tick (pv 0) pe_int) (pss_cons (ps_fc T.cl_Floor T.na_Floor_seen (pv 0) (pe_op op_rep (pe_lst (pa_cons pe_int pa_nil)) (pe_callB call_lenS (by rfl) T.fr_len bt_len (pa_cons (pe_fc T.cl_Plant T.na_Plant_eyes (pv 1)) pa_nil)))) (pss_cons (ps_fc T.cl_Floor T.na_Floor_fired (pv 0) (pe_op op_rep (pe_lst (pa_cons pe_int pa_nil)) (pe_callB call_lenS (by rfl) T.fr_len bt_len (pa_cons (pe_fc T.cl_Plant T.na_Plant_rules (pv 1)) pa_nil)))) (pss_cons (ps_fc T.cl_Floor T.na_Floor_done (pv 0) (pe_op op_rep (pe_lst (pa_cons pe_int pa_nil)) (pe_callB call_lenS (by rfl) T.fr_len bt_len (pa_cons (pe_fc T.cl_Plant T.na_Plant_pushers (pv 1)) pa_nil)))) (pss_cons (ps_fc T.cl_Floor T.na_Floor_missed (pv 0) (pe_op op_rep (pe_lst (pa_cons pe_int pa_nil)) (pe_callB call_lenS (by rfl) T.fr_len bt_len (pa_cons (pe_fc T.cl_Plant T.na_Plant_pushers (pv 1)) pa_nil)))) (pss_one (ps_fc T.cl_Floor T.na_Floor_scheduled (pv 0) (pe_lst pa_nil)))))))))), ?_⟩
    have i0 : PI H H (cF g "Floor") fl dx [] [] := ⟨⟨_, h1⟩, h1, fun _ _ _ h => h, fun _ z => absurd z List.not_mem_nil, List.nodup_nil⟩
    refine ⟨_, rfl, _, rfl, fl, dx, _, rfl, h1, (by show 0 < 1000; decide), ?_⟩
    have i1 := i0.store (fs' := putF "plant" (.ref L.pl) [])
    have k1 : ∀ b o, b ≠ fl → H b = some o → (upd H fl (.ins (cF g "Floor") dx (putF "plant" (.ref L.pl) []))) b = some o := i1.keep
    have nra : ra ≠ fl := ne_of hra h1 (by intro z; cases z)
    generalize upd H fl (.ins (cF g "Floor") dx (putF "plant" (.ref L.pl) [])) = H1 at i1 k1 ⊢
    -- the parcels
    refine ⟨_, rfl, ra, rfl, ⟨_, .inl (.inl (k1 _ _ nra hra))⟩, fun D hD => ?_⟩
    refine lc_it (walk_list (xs := ts.map .ref)) (fun i H' => ∃ ps : List Addr, Same H1 H' ∧ H' D = some (.lst (ps.map .ref)) ∧ NewPs g H' ps (p.parcels.take i) ∧ ps.Nodup ∧ ∀ a ∈ ps, H1 a = none) ⟨[], Same.new hD, upd_same, F2.nil, List.nodup_nil, fun _ h => absurd h List.not_mem_nil⟩ ?_ ?_ ?_
    · rintro i H' hi ⟨ps, s2, _⟩
      exact .inl (.inl (s2 _ _ (k1 _ _ nra hra)))
    · rintro i x H2 H3 hi ⟨ps, s2, hl, hps, nd, hnew⟩ ⟨rfl, ex⟩
      rw [List.length_map] at hi
      rw [List.getElem?_map, List.getElem?_eq_getElem hi] at ex
      cases ex
      obtain ⟨y, hy, hty⟩ := hts.get' (List.getElem?_eq_getElem hi)
      have nt : ts[i] ≠ fl := ne_of hty h1 (by intro z; cases z)
      refine ⟨rfl, yesI ?_⟩
      refine ⟨_, rfl, fun a dx1 ha hdx ne => ?_⟩
      have s3 : Same H3 (upd (upd H3 dx1 (.own a)) a (.ins (cF g "Parcel") dx1 [])) := Same.upd ha (Same.new hdx)
      refine ⟨a, ts[i], dx1, y, rfl, upd_same, s3 _ _ (s2 _ _ (k1 _ _ nt hty)), fun H5 keep ⟨dx2, h5⟩ => ⟨rfl, ?_⟩⟩
      have s5 : Same H3 H5 := fun b o e => keep b o (fun z => by rw [z, ha] at e; cases e) (s3 b o e)
      have naD : a ≠ D := fun e => by
        rw [e, hl] at ha
        cases ha
      have nps : a ∉ ps := fun hm => by
        obtain ⟨j, hj⟩ := List.getElem?_of_mem hm
        obtain ⟨z, _, dz, hz⟩ := hps.get' hj
        rw [ha] at hz
        cases hz
      have hD1 : ∀ b ∈ ps, b ≠ D := fun b hb e => by
        obtain ⟨j, hj⟩ := List.getElem?_of_mem hb
        obtain ⟨z, _, dz, hz⟩ := hps.get' hj
        rw [e, hl] at hz
        cases hz
      refine ⟨_, s5 _ _ hl, by rw [List.length_map, hps.len, List.length_take]; exact line_of' (by have := pok.lim.pa; omega), ps ++ [a], Same.upd hD (s2.trans s5), by rw [upd_same, List.map_append]; rfl, ?_, ?_, ?_⟩
      · rw [List.take_add_one, hy]
        refine (hps.imp fun b z hb _ hz => ?_).snoc ?_
        · obtain ⟨dz, hz⟩ := hz
          exact ⟨dz, by rw [upd_ne (hD1 b hb)]; exact s5 _ _ hz⟩
        · exact ⟨dx2, by rw [upd_ne naD]; exact h5⟩
      · refine List.nodup_append.mpr ⟨nd, List.nodup_cons.mpr ⟨List.not_mem_nil, List.nodup_nil⟩, fun b hb c hc e => ?_⟩
        rw [List.mem_singleton.mp hc] at e
        exact nps (by rw [← e]; exact hb)
      · intro b hb
        rcases List.mem_append.mp hb with hb | hb
        · exact hnew b hb
        · rw [List.mem_singleton.mp hb]
          exact s2.free ha
    · rintro H2 ⟨ps, s2, hl, hps, nd, hnew⟩
      rw [List.length_map, hts.len, List.take_length] at hps
      have hD0 : H D = none := i1.free hD
      have i2 := (i1.same s2).add hl hD0 List.not_mem_nil
      refine ⟨_, rfl, fl, dx, _, rfl, i2.ins, (by show 1 < 1000; decide), ?_⟩
      have i3 := i2.store (fs' := putF "parcels" (.ref D) (putF "plant" (.ref L.pl) []))
      have ps3 : NewPs g (upd H2 fl (.ins (cF g "Floor") dx (putF "parcels" (.ref D) (putF "plant" (.ref L.pl) [])))) ps p.parcels := hps.imp fun b z hb _ hz => by
        obtain ⟨dz, hz⟩ := hz
        exact ⟨dz, by rw [upd_ne (fun e => by have := i1.ins; rw [← e, hnew b hb] at this; cases this)]; exact hz⟩
      have nps : ∀ b ∈ ps, b ≠ fl := fun b hb e => by
        have := i1.ins
        rw [← e, hnew b hb] at this
        cases this
      have frame : ∀ {Hc : Hp} {fs : List (Str × V)} {as : List (Addr × HO)}, PI H Hc (cF g "Floor") fl dx fs as → ∀ R, Same R H → R fl = none → Same R Hc := fun hi R sR nR b o hb => hi.keep b o (fun e => by rw [e, nR] at hb; cases hb) (sR b o hb)
      generalize upd H2 fl (.ins (cF g "Floor") dx (putF "parcels" (.ref D) (putF "plant" (.ref L.pl) []))) = H3 at i3 ps3 ⊢
      -- the tick
      refine ⟨_, rfl, fl, dx, _, rfl, i3.ins, (by show 2 < 1000; decide), ?_⟩
      have i4 := i3.store (fs' := putF "tick" (.int 0) (putF "parcels" (.ref D) (putF "plant" (.ref L.pl) [])))
      have ps4 := ps3.store (o := .ins (cF g "Floor") dx (putF "tick" (.int 0) (putF "parcels" (.ref D) (putF "plant" (.ref L.pl) [])))) nps
      generalize upd H3 fl (.ins (cF g "Floor") dx (putF "tick" (.int 0) (putF "parcels" (.ref D) (putF "plant" (.ref L.pl) [])))) = H4 at i4 ps4 ⊢
      -- seen
      refine ⟨by decide, fun z4 hz4 => ?_⟩
      have j4 := i4.same (Same.new (o := .lst [.int 0]) hz4)
      have pz4 := ps4.same (Same.new (o := .lst [.int 0]) hz4)
      have uz4 : (upd H4 z4 (.lst [.int 0])) z4 = some (.lst [.int 0]) := upd_same
      generalize upd H4 z4 (.lst [.int 0]) = G4 at j4 pz4 uz4 ⊢
      have pf4 := hp0.same (frame j4 R0 sR0 nR0)
      obtain ⟨px4, pi4⟩ := pf4.ins
      obtain ⟨us4, hu4, hv4⟩ := pf4.ey
      refine ⟨_, rfl, _, px4, _, _, rfl, pi4, rfl, _, _, rfl, .inl (.inl (.inl hu4)), z4, _, _, rfl, rfl, uz4, by omega, by rw [List.length_map, hv4.len]; have := pok.lim.se; omega, by rw [List.length_map, hv4.len, sizeLine_eq]; have := pok.lim.se; show 1 * (((p.sensors.length : Nat) : Int)).toNat ≤ _; omega, fun se hse => ?_⟩
      have fl4 : (List.replicate ((((us4.map V.ref).length : Nat) : Int)).toNat [V.int 0]).flatten = (List.replicate p.sensors.length 0).map iV := by
        rw [Int.toNat_natCast, List.length_map, hv4.len, rep_flat]
      rw [fl4]
      refine ⟨_, rfl, fl, dx, _, rfl, (by rw [upd_ne (ne_of_none j4.ins hse)]; exact j4.ins), (by show 3 < 1000; decide), ?_⟩
      have i5 := j4.step (fs' := putF "seen" (.ref se) (putF "tick" (.int 0) (putF "parcels" (.ref D) (putF "plant" (.ref L.pl) [])))) (o := .lst ((List.replicate p.sensors.length 0).map iV)) hse
      have ps5 := (pz4.same (Same.new (o := .lst ((List.replicate p.sensors.length 0).map iV)) hse)).store (o := .ins (cF g "Floor") dx (putF "seen" (.ref se) (putF "tick" (.int 0) (putF "parcels" (.ref D) (putF "plant" (.ref L.pl) []))))) nps
      generalize upd (upd G4 se (.lst ((List.replicate p.sensors.length 0).map iV))) fl (.ins (cF g "Floor") dx (putF "seen" (.ref se) (putF "tick" (.int 0) (putF "parcels" (.ref D) (putF "plant" (.ref L.pl) []))))) = H5 at i5 ps5 ⊢
      -- fired
      refine ⟨by decide, fun z5 hz5 => ?_⟩
      have j5 := i5.same (Same.new (o := .lst [.int 0]) hz5)
      have pz5 := ps5.same (Same.new (o := .lst [.int 0]) hz5)
      have uz5 : (upd H5 z5 (.lst [.int 0])) z5 = some (.lst [.int 0]) := upd_same
      generalize upd H5 z5 (.lst [.int 0]) = G5 at j5 pz5 uz5 ⊢
      have pf5 := hp0.same (frame j5 R0 sR0 nR0)
      obtain ⟨px5, pi5⟩ := pf5.ins
      obtain ⟨us5, hu5, hv5⟩ := pf5.ru
      refine ⟨_, rfl, _, px5, _, _, rfl, pi5, rfl, _, _, rfl, .inl (.inl (.inl hu5)), z5, _, _, rfl, rfl, uz5, by omega, by rw [List.length_map, hv5.len]; have := pok.lim.ru; omega, by rw [List.length_map, hv5.len, sizeLine_eq]; have := pok.lim.ru; show 1 * (((p.rules.length : Nat) : Int)).toNat ≤ _; omega, fun fi hfi => ?_⟩
      have fl5 : (List.replicate ((((us5.map V.ref).length : Nat) : Int)).toNat [V.int 0]).flatten = (List.replicate p.rules.length 0).map iV := by
        rw [Int.toNat_natCast, List.length_map, hv5.len, rep_flat]
      rw [fl5]
      refine ⟨_, rfl, fl, dx, _, rfl, (by rw [upd_ne (ne_of_none j5.ins hfi)]; exact j5.ins), (by show 4 < 1000; decide), ?_⟩
      have i6 := j5.step (fs' := putF "fired" (.ref fi) (putF "seen" (.ref se) (putF "tick" (.int 0) (putF "parcels" (.ref D) (putF "plant" (.ref L.pl) []))))) (o := .lst ((List.replicate p.rules.length 0).map iV)) hfi
      have ps6 := (pz5.same (Same.new (o := .lst ((List.replicate p.rules.length 0).map iV)) hfi)).store (o := .ins (cF g "Floor") dx (putF "fired" (.ref fi) (putF "seen" (.ref se) (putF "tick" (.int 0) (putF "parcels" (.ref D) (putF "plant" (.ref L.pl) [])))))) nps
      generalize upd (upd G5 fi (.lst ((List.replicate p.rules.length 0).map iV))) fl (.ins (cF g "Floor") dx (putF "fired" (.ref fi) (putF "seen" (.ref se) (putF "tick" (.int 0) (putF "parcels" (.ref D) (putF "plant" (.ref L.pl) [])))))) = H6 at i6 ps6 ⊢
      -- done
      refine ⟨by decide, fun z6 hz6 => ?_⟩
      have j6 := i6.same (Same.new (o := .lst [.int 0]) hz6)
      have pz6 := ps6.same (Same.new (o := .lst [.int 0]) hz6)
      have uz6 : (upd H6 z6 (.lst [.int 0])) z6 = some (.lst [.int 0]) := upd_same
      generalize upd H6 z6 (.lst [.int 0]) = G6 at j6 pz6 uz6 ⊢
      have pf6 := hp0.same (frame j6 R0 sR0 nR0)
      obtain ⟨px6, pi6⟩ := pf6.ins
      obtain ⟨us6, hu6, hv6⟩ := pf6.pu
      refine ⟨_, rfl, _, px6, _, _, rfl, pi6, rfl, _, _, rfl, .inl (.inl (.inl hu6)), z6, _, _, rfl, rfl, uz6, by omega, by rw [List.length_map, hv6.len]; have := pok.lim.pu; omega, by rw [List.length_map, hv6.len, sizeLine_eq]; have := pok.lim.pu; show 1 * (((p.pushers.length : Nat) : Int)).toNat ≤ _; omega, fun dn hdn => ?_⟩
      have fl6 : (List.replicate ((((us6.map V.ref).length : Nat) : Int)).toNat [V.int 0]).flatten = (List.replicate p.pushers.length 0).map iV := by
        rw [Int.toNat_natCast, List.length_map, hv6.len, rep_flat]
      rw [fl6]
      refine ⟨_, rfl, fl, dx, _, rfl, (by rw [upd_ne (ne_of_none j6.ins hdn)]; exact j6.ins), (by show 5 < 1000; decide), ?_⟩
      have i7 := j6.step (fs' := putF "done" (.ref dn) (putF "fired" (.ref fi) (putF "seen" (.ref se) (putF "tick" (.int 0) (putF "parcels" (.ref D) (putF "plant" (.ref L.pl) [])))))) (o := .lst ((List.replicate p.pushers.length 0).map iV)) hdn
      have ps7 := (pz6.same (Same.new (o := .lst ((List.replicate p.pushers.length 0).map iV)) hdn)).store (o := .ins (cF g "Floor") dx (putF "done" (.ref dn) (putF "fired" (.ref fi) (putF "seen" (.ref se) (putF "tick" (.int 0) (putF "parcels" (.ref D) (putF "plant" (.ref L.pl) []))))))) nps
      generalize upd (upd G6 dn (.lst ((List.replicate p.pushers.length 0).map iV))) fl (.ins (cF g "Floor") dx (putF "done" (.ref dn) (putF "fired" (.ref fi) (putF "seen" (.ref se) (putF "tick" (.int 0) (putF "parcels" (.ref D) (putF "plant" (.ref L.pl) []))))))) = H7 at i7 ps7 ⊢
      -- missed
      refine ⟨by decide, fun z7 hz7 => ?_⟩
      have j7 := i7.same (Same.new (o := .lst [.int 0]) hz7)
      have pz7 := ps7.same (Same.new (o := .lst [.int 0]) hz7)
      have uz7 : (upd H7 z7 (.lst [.int 0])) z7 = some (.lst [.int 0]) := upd_same
      generalize upd H7 z7 (.lst [.int 0]) = G7 at j7 pz7 uz7 ⊢
      have pf7 := hp0.same (frame j7 R0 sR0 nR0)
      obtain ⟨px7, pi7⟩ := pf7.ins
      obtain ⟨us7, hu7, hv7⟩ := pf7.pu
      refine ⟨_, rfl, _, px7, _, _, rfl, pi7, rfl, _, _, rfl, .inl (.inl (.inl hu7)), z7, _, _, rfl, rfl, uz7, by omega, by rw [List.length_map, hv7.len]; have := pok.lim.pu; omega, by rw [List.length_map, hv7.len, sizeLine_eq]; have := pok.lim.pu; show 1 * (((p.pushers.length : Nat) : Int)).toNat ≤ _; omega, fun mi hmi => ?_⟩
      have fl7 : (List.replicate ((((us7.map V.ref).length : Nat) : Int)).toNat [V.int 0]).flatten = (List.replicate p.pushers.length 0).map iV := by
        rw [Int.toNat_natCast, List.length_map, hv7.len, rep_flat]
      rw [fl7]
      refine ⟨_, rfl, fl, dx, _, rfl, (by rw [upd_ne (ne_of_none j7.ins hmi)]; exact j7.ins), (by show 6 < 1000; decide), ?_⟩
      have i8 := j7.step (fs' := putF "missed" (.ref mi) (putF "done" (.ref dn) (putF "fired" (.ref fi) (putF "seen" (.ref se) (putF "tick" (.int 0) (putF "parcels" (.ref D) (putF "plant" (.ref L.pl) []))))))) (o := .lst ((List.replicate p.pushers.length 0).map iV)) hmi
      have ps8 := (pz7.same (Same.new (o := .lst ((List.replicate p.pushers.length 0).map iV)) hmi)).store (o := .ins (cF g "Floor") dx (putF "missed" (.ref mi) (putF "done" (.ref dn) (putF "fired" (.ref fi) (putF "seen" (.ref se) (putF "tick" (.int 0) (putF "parcels" (.ref D) (putF "plant" (.ref L.pl) [])))))))) nps
      generalize upd (upd G7 mi (.lst ((List.replicate p.pushers.length 0).map iV))) fl (.ins (cF g "Floor") dx (putF "missed" (.ref mi) (putF "done" (.ref dn) (putF "fired" (.ref fi) (putF "seen" (.ref se) (putF "tick" (.int 0) (putF "parcels" (.ref D) (putF "plant" (.ref L.pl) [])))))))) = H8 at i8 ps8 ⊢
      -- scheduled
      refine ⟨Nat.zero_le _, fun sc hsc => ⟨_, rfl, fl, dx, _, rfl, (by rw [upd_ne (ne_of_none i8.ins hsc)]; exact i8.ins), (by show 7 < 1000; decide), ?_⟩⟩
      have i9 := i8.step (fs' := putF "scheduled" (.ref sc) (putF "missed" (.ref mi) (putF "done" (.ref dn) (putF "fired" (.ref fi) (putF "seen" (.ref se) (putF "tick" (.int 0) (putF "parcels" (.ref D) (putF "plant" (.ref L.pl) [])))))))) (o := .lst []) hsc
      have ps9 := (ps8.same (Same.new (o := .lst []) hsc)).store (o := .ins (cF g "Floor") dx (putF "scheduled" (.ref sc) (putF "missed" (.ref mi) (putF "done" (.ref dn) (putF "fired" (.ref fi) (putF "seen" (.ref se) (putF "tick" (.int 0) (putF "parcels" (.ref D) (putF "plant" (.ref L.pl) []))))))))) nps
      generalize upd (upd H8 sc (.lst [])) fl (.ins (cF g "Floor") dx (putF "scheduled" (.ref sc) (putF "missed" (.ref mi) (putF "done" (.ref dn) (putF "fired" (.ref fi) (putF "seen" (.ref se) (putF "tick" (.int 0) (putF "parcels" (.ref D) (putF "plant" (.ref L.pl) []))))))))) = H9 at i9 ps9 ⊢
      have mem : ∀ q ∈ ([] ++ [(D, HO.lst (ps.map .ref))] ++ [(se, HO.lst ((List.replicate p.sensors.length 0).map iV))] ++ [(fi, HO.lst ((List.replicate p.rules.length 0).map iV))] ++ [(dn, HO.lst ((List.replicate p.pushers.length 0).map iV))] ++ [(mi, HO.lst ((List.replicate p.pushers.length 0).map iV))] ++ [(sc, HO.lst [])] : List (Addr × HO)), H9 q.1 = some q.2 ∧ H q.1 = none := i9.new
      have hps0 : ∀ a ∈ ps, H a = none := fun a ha => i1.free (hnew a ha)
      have mD := mem (D, HO.lst (ps.map .ref)) (by simp)
      have mse := mem (se, HO.lst ((List.replicate p.sensors.length 0).map iV)) (by simp)
      have mfi := mem (fi, HO.lst ((List.replicate p.rules.length 0).map iV)) (by simp)
      have mdn := mem (dn, HO.lst ((List.replicate p.pushers.length 0).map iV)) (by simp)
      have mmi := mem (mi, HO.lst ((List.replicate p.pushers.length 0).map iV)) (by simp)
      have msc := mem (sc, HO.lst []) (by simp)
      have nd6 : ([D, se, fi, dn, mi] ++ [sc]).Nodup := i9.nd
      refine q H9 ⟨fl, sc, D, se, fi, dn, mi, L, ps⟩ rfl rfl fun R sR nR pR => ⟨frame i9 R sR nR, pR, fun a ha => ?_, (List.perm_append_singleton sc [D, se, fi, dn, mi]).nodup_iff.mp nd6, List.nodup_cons.mpr ⟨fun hm => nps fl hm rfl, nd⟩, ⟨dx, i9.ins⟩, ⟨[], msc.1, F2.nil⟩, mD.1, ?_, mse.1, mfi.1, mdn.1, mmi.1, ?_⟩
      · rcases List.mem_append.mp ha with hl | hi
        · simp only [FL.lists, List.mem_cons, List.not_mem_nil, or_false] at hl
          rcases hl with rfl | rfl | rfl | rfl | rfl | rfl
          · exact sR.free msc.2
          · exact sR.free mD.2
          · exact sR.free mse.2
          · exact sR.free mfi.2
          · exact sR.free mdn.2
          · exact sR.free mmi.2
        · rcases List.mem_cons.mp hi with e | hi
          · rw [e]
            exact nR
          · exact sR.free (hps0 a hi)
      · have hlen : (Xb08.initial p).positions_.length = p.parcels.length := List.length_replicate
        refine ⟨by rw [List.length_range, hlen]; exact ps9.len, fun i a k ha hk => ?_⟩
        have hlt : i < (Xb08.initial p).positions_.length := by
          have := (List.getElem?_eq_some_iff.mp hk).1
          rwa [List.length_range] at this
        rw [List.getElem?_range hlt] at hk
        cases hk
        rw [hlen] at hlt
        have hy : p.parcels[i]? = some p.parcels[i] := List.getElem?_eq_getElem hlt
        obtain ⟨dz, hz⟩ := ps9.at_ i a _ ha hy
        have e1 : parcelOf (Xb08.initial p) i = p.parcels[i] := by
          unfold parcelOf List.getD
          rw [show (Xb08.initial p).plant.parcels = p.parcels from rfl, hy]
          rfl
        have e2 : placeOfParcel (Xb08.initial p) i = .notFed := by
          unfold placeOfParcel List.getD
          rw [show (Xb08.initial p).positions_ = List.replicate p.parcels.length .notFed from rfl, List.getElem?_replicate, if_pos hlt]
          rfl
        rw [e1, e2]
        exact ⟨dz, _, hz, waiting_pl T _⟩
      · have get : ∀ (i b x : Nat), (Xb08.initial p).positions_[i]? = some (.on b x) → False := by
          intro i b x e
          have : (List.replicate p.parcels.length Xb08.Place.notFed)[i]? = some (.on b x) := e
          rw [List.getElem?_replicate] at this
          split at this
          · cases this
          · cases this
        exact ⟨pok, List.length_replicate.symm, List.length_replicate, List.length_replicate, List.length_replicate, List.length_replicate, fun i b x e => (get i b x e).elim, fun i j b x e _ => (get i b x e).elim, fun q hq => absurd hq List.not_mem_nil, Nat.zero_le _⟩
end Tote
/-! # desk.py -/
namespace Tote
open PySem PySem.Spec PyProof.Rows L2 Tq
open SX (S S_inj S_len S_cat)
open Xb08 (Simulation Goal placeOfParcel parcelOf)
variable {g : GG}
/-- a refusal is taken -/
def RFt (g : GG) (E : XK) (R : Hp) (c : Int) : Prop := ∀ d H', Same R H' → H' d = some (.xd [("answer", .int c)]) → E (.ref (cF g "Refused")) (some d) H'
theorem RFt.mono {E : XK} {R R' : Hp} {c : Int} (h : RFt g E R c) (s : Same R R') : RFt g E R' c := fun d H' s' e => h d H' (s.trans s') e
def sp_refuse_unless (g : GG) : Sp := fun vs H Q E => ∃ (b : Bool) (c : Int), vs = [.bl b, .int c] ∧ (b = true → Q .non H) ∧ (b = false → RFt g E H c)
theorem ok_refuse_unless (T : Tx g) : Fn (L2.CX g.P g.w) g 3 "refuse_unless" ["is_so", "answer"] (sp_refuse_unless g) := by
  refine fnC (k := 2) T.gl_refuse_unless T.df_refuse_unless sc_refuse_unless (fun _ _ _ _ _ _ us hl => match us, hl with | [_, _], _ => rfl) ?_ ?_
  · rintro vs H Q E ⟨b, c, rfl, _⟩
    rfl
  · rintro cdv A outer s H vs Q E hr ⟨b, c, rfl, q1, q2⟩
    refine ⟨_, (pss_one (ps_if (pt_not (pt_val (pv 0))) (pss_one (ps_rRF (i := 1) T hr (by decide) rfl (L2.takes_of rfl rfl rfl rfl) rfl (.inl rfl) (by decide) (by decide) rfl rfl)) pss_nil)), ?_⟩
    refine ⟨_, rfl, b, rfl, ?_⟩
    cases b with
    | true => exact iteF (q1 rfl)
    | false => exact iteT ⟨_, rfl, fun d H' s e => q2 rfl d H' s e⟩
def sp_counted (g : GG) : Sp := fun vs H Q _ => ∃ (a : Addr) (l : List Int), vs = [.ref a] ∧ H a = some (.lst (l.map .int)) ∧ l.length ≤ 100000 ∧ ∀ H' p, Same H H' → H p = none → H' p = some (.lst (((l.length : Int) :: l).map .int)) → Q (.ref p) H'
theorem ok_counted (T : Tx g) : Fn CX0 g 1 "counted" ["row"] (sp_counted g) := by
  refine fnZ (k := 0) T.gl_counted T.df_counted sc_counted (fun _ _ _ _ _ _ us hl => match us, hl with | [_], _ => rfl) ?_ ?_
  · rintro vs H Q E ⟨a, l, rfl, _⟩
    rfl
  · rintro cdv A outer s H vs Q E hr ⟨a, l, rfl, ha, hl, q⟩
    refine ⟨_, (pss_one (ps_ret (pe_op op_cat (pe_lst (pa_cons (pe_callB call_lenS (by rfl) T.fr_len bt_len (pa_cons (pv 0) pa_nil)) pa_nil)) (pv 0)))), ?_⟩
    refine ⟨_, rfl, a, _, rfl, .inl (.inl (.inl ha)), (by show 1 ≤ sizeLine; decide), fun p hp => ?_⟩
    have s1 := Same.new (o := .lst [.int ((l.map V.int).length : Nat)]) hp
    refine ⟨_, rfl, p, a, _, _, rfl, rfl, upd_same, s1 _ _ ha, ?_, fun p2 hp2 => ?_⟩
    · rw [List.length_map, sizeLine_eq]
      show 1 + l.length ≤ _
      omega
    · refine q _ p2 (s1.trans (Same.new hp2)) (s1.free hp2) ?_
      rw [upd_same, List.length_map]
      rfl
def dkF (f_floor : V) : List (Str × V) := [("floor", f_floor)]
theorem dkF_get (f_floor : V) : List.lookup ("floor" : Str) (dkF f_floor) = some f_floor ∧ List.lookup ("load" : Str) (dkF f_floor) = none ∧ List.lookup ("want_loaded" : Str) (dkF f_floor) = none ∧ List.lookup ("places" : Str) (dkF f_floor) = none ∧ List.lookup ("run" : Str) (dkF f_floor) = none ∧ List.lookup ("all_parcels" : Str) (dkF f_floor) = none ∧ List.lookup ("belt_told" : Str) (dkF f_floor) = none ∧ List.lookup ("chutes" : Str) (dkF f_floor) = none ∧ List.lookup ("sensors" : Str) (dkF f_floor) = none ∧ List.lookup ("rules_told" : Str) (dkF f_floor) = none ∧ List.lookup ("pushers_told" : Str) (dkF f_floor) = none ∧ List.lookup ("waiting" : Str) (dkF f_floor) = none ∧ List.lookup ("reset" : Str) (dkF f_floor) = none ∧ List.lookup ("feed" : Str) (dkF f_floor) = none ∧ List.lookup ("run_until_done" : Str) (dkF f_floor) = none ∧ (dkF f_floor).length < 1000 := ⟨rfl, rfl, rfl, rfl, rfl, rfl, rfl, rfl, rfl, rfl, rfl, rfl, rfl, rfl, rfl, (show 1 < 1000 by decide)⟩
theorem dkF_put (v f_floor : V) : putF "floor" v (dkF f_floor) = dkF v := rfl
/-- a floor that may be run further -/
def MvOk (h : Simulation) : Prop := ∀ i ∈ h.moved, i < h.positions_.length
structure DeskAt (g : GG) (H R : Hp) (d : Addr) (st : Option Simulation) : Prop where
  same : Same R H
  out : R d = none
  ex : match st with
    | none => ∃ dx, H d = some (.ins (cF g "Desk") dx (dkF .non))
    | some h => ∃ dx F Rf, H d = some (.ins (cF g "Desk") dx (dkF (.ref F.fl))) ∧ FloorAt g H Rf F h ∧ MvOk h ∧ (∀ a ∈ F.foot, a ≠ d ∧ R a = none) ∧ ∀ a ∈ F.L.lists, R a = none
def sp_Desk_init (g : GG) : Sp := fun vs H Q _ => ∃ (d dx : Addr), vs = [.ref d] ∧ H d = some (.ins (cF g "Desk") dx []) ∧ ∀ H', (∀ R, Same R H → R d = none → DeskAt g H' R d none) → Q .non H'
theorem ok_Desk_init (T : Tx g) : Mw g 1 "Desk" ["self"] (sp_Desk_init g) := by
  refine mw0 (k := 0) T.gl_Desk T.mk_Desk T.df_Desk_init sc_Desk_init (fun _ _ _ _ _ _ us hl => match us, hl with | [_], _ => rfl) ?_ ?_
  · rintro vs H Q E ⟨d, dx, rfl, _⟩
    rfl
  · rintro cdv A outer s H vs Q E hr ⟨d, dx, rfl, h1, q⟩
    refine ⟨_, (pss_one (ps_fc T.cl_Desk T.na_Desk_floor (pv 0) pe_non)), ?_⟩
    exact ⟨_, rfl, d, dx, _, rfl, h1, (by show 0 < 1000; decide), q _ fun R sR nR => ⟨Same.upd nR sR, nR, dx, upd_same⟩⟩
def sp_Desk_want_loaded (g : GG) : Sp := fun vs H Q E => ∃ (d : Addr) (R : Hp) (st : Option Simulation), vs = [.ref d] ∧ DeskAt g H R d st ∧ (st.isSome = true → Q .non H) ∧ (st = none → RFt g E H (-7))
theorem ok_Desk_want_loaded (T : Tx g) : Mt (L2.CX g.P g.w) g 4 "Desk" "want_loaded" ["self"] (sp_Desk_want_loaded g) := by
  refine mtC (k := 3) T.cl_Desk T.me_Desk_want_loaded T.df_Desk_want_loaded sc_Desk_want_loaded (fun _ _ _ _ _ _ us hl => match us, hl with | [_], _ => rfl) ?_ ?_
  · rintro vs H Q E ⟨d, R, st, rfl, _⟩
    rfl
  · rintro cdv A outer s H vs Q E hr ⟨d, R, st, rfl, hd, q1, q2⟩
    refine ⟨_, (pss_one (ps_expr (pe_fx (ok_refuse_unless T) hr (by decide) pxC (pa_cons (pe_cmpR op_notN (pe_fc T.cl_Desk T.na_Desk_floor (pv 0)) pe_non (nomark _)) (pa_cons (C8.pe_gc rfl T.in_NOT_LOADED) pa_nil))))), ?_⟩
    cases st with
    | none =>
      obtain ⟨dx, h1⟩ := hd.ex
      refine ⟨_, rfl, _, dx, _, _, rfl, h1, rfl, rfl, ?_⟩
      exact ⟨_, _, rfl, ⟨fun z => (by simp at z), fun _ => q2 rfl⟩⟩
    | some h =>
      obtain ⟨dx, F, Rf, h1, _⟩ := hd.ex
      refine ⟨_, rfl, _, dx, _, _, rfl, h1, rfl, rfl, ?_⟩
      exact ⟨_, _, rfl, ⟨fun _ => q1 rfl, fun z => (by simp at z)⟩⟩
/-- the floor of a desk -/
structure DF (g : GG) (H R : Hp) (d dx : Addr) (F : FL) (Rf : Hp) (h : Simulation) : Prop where
  at_ : H d = some (.ins (cF g "Desk") dx (dkF (.ref F.fl)))
  f : FloorAt g H Rf F h
  mv : MvOk h
  foot : ∀ a ∈ F.foot, a ≠ d ∧ R a = none
  li : ∀ a ∈ F.L.lists, R a = none
theorem DeskAt.df {H R : Hp} {d : Addr} {h : Simulation} (x : DeskAt g H R d (some h)) : ∃ dx F Rf, DF g H R d dx F Rf h := by
  obtain ⟨dx, F, Rf, h1, h2, h3, h4, h5⟩ := x.ex
  exact ⟨dx, F, Rf, h1, h2, h3, h4, h5⟩
theorem DeskAt.mono {H H' R : Hp} {d : Addr} {st : Option Simulation} (x : DeskAt g H R d st) (s : Same H H') : DeskAt g H' R d st := by
  refine ⟨x.same.trans s, x.out, ?_⟩
  cases st with
  | none =>
    obtain ⟨dx, h1⟩ := x.ex
    exact ⟨dx, s _ _ h1⟩
  | some h =>
    obtain ⟨dx, F, Rf, h1, h2, h3, h4⟩ := x.ex
    exact ⟨dx, F, Rf, s _ _ h1, h2.mono s, h3, h4⟩
theorem count_kind (h : Simulation) : ((List.range h.positions_.length).filter fun i => decide (kindN (placeOfParcel h i) = 1)).length = Xb08.countOnBelts h ∧ ((List.range h.positions_.length).filter fun i => decide (kindN (placeOfParcel h i) = 2)).length = Xb08.countInChutes h := by
  constructor
  · unfold Xb08.countOnBelts
    have := filter_range h.positions_ .notFed (fun p => match p with
      | .on _ _ => true
      | _ => false)
    refine Eq.trans ?_ this
    congr 1
    refine List.filter_congr fun i _ => ?_
    show decide (kindN (h.positions_.getD i .notFed) = 1) = _
    cases h.positions_.getD i .notFed <;> rfl
  · unfold Xb08.countInChutes
    have := filter_range h.positions_ .notFed (fun p => match p with
      | .chute _ => true
      | _ => false)
    refine Eq.trans ?_ this
    congr 1
    refine List.filter_congr fun i _ => ?_
    show decide (kindN (h.positions_.getD i .notFed) = 2) = _
    cases h.positions_.getD i .notFed <;> rfl
def sp_Desk_places (g : GG) : Sp := fun vs H Q _ => ∃ (d : Addr) (R : Hp) (h : Simulation), vs = [.ref d] ∧ DeskAt g H R d (some h) ∧ ∀ H' p, Same H H' → H p = none → H' p = some (.lst ([(Xb08.countOnBelts h : Int), (Xb08.countInChutes h : Int)].map .int)) → Q (.ref p) H'
theorem ok_Desk_places (T : Tx g) : Mt CX0 g 2 "Desk" "places" ["self"] (sp_Desk_places g) := by
  refine mt0 (k := 1) T.cl_Desk T.me_Desk_places T.df_Desk_places sc_Desk_places (fun _ _ _ _ _ _ us hl => match us, hl with | [_], _ => rfl) ?_ ?_
  · rintro vs H Q E ⟨d, R, h, rfl, _⟩
    rfl
  · rintro cdv A outer s H vs Q E hr ⟨d, R, h, rfl, hd, q⟩
    refine ⟨_, (pss_one (ps_ret (pe_lst (pa_cons (pe_callB call_lenS (by rfl) T.fr_len bt_len (pa_cons (pe_mt (ok_Floor_of_kind T) hr (by decide) (pe_fc T.cl_Desk T.na_Desk_floor (pv 0)) (pa_cons (C8.pe_gc rfl T.in_BELT) pa_nil)) pa_nil)) (pa_cons (pe_callB call_lenS (by rfl) T.fr_len bt_len (pa_cons (pe_mt (ok_Floor_of_kind T) hr (by decide) (pe_fc T.cl_Desk T.na_Desk_floor (pv 0)) (pa_cons (C8.pe_gc rfl T.in_CHUTE) pa_nil)) pa_nil)) pa_nil))))), ?_⟩
    obtain ⟨dx, F, Rf, w⟩ := hd.df
    obtain ⟨fx, hf⟩ := w.f.flo
    refine ⟨_, rfl, _, dx, _, _, rfl, w.at_, rfl, _, fx, _, rfl, hf, rfl, Rf, F, h, 1, rfl, w.f, fun H1 p1 s1 hp10 hp1 => ?_⟩
    obtain ⟨fx1, hf1⟩ := (w.f.mono s1).flo
    refine ⟨_, _, rfl, .inl (.inl (.inl hp1)), _, rfl, _, dx, _, _, rfl, s1 _ _ w.at_, rfl, _, fx1, _, rfl, hf1, rfl, Rf, F, h, 2, rfl, w.f.mono s1, fun H2 p2 s2 hp20 hp2 => ?_⟩
    refine ⟨_, _, rfl, .inl (.inl (.inl hp2)), (by show 2 ≤ sizeLine; decide), fun p hp => ?_⟩
    have s3 := s1.trans (s2.trans (Same.new (o := .lst [.int ((((List.range h.positions_.length).filter fun i => decide (kindN (placeOfParcel h i) = 1)).map iV).length : Nat), .int ((((List.range h.positions_.length).filter fun i => decide (kindN (placeOfParcel h i) = 2)).map iV).length : Nat)]) hp))
    refine q _ p s3 (s1.free (s2.free hp)) ?_
    rw [upd_same, List.length_map, List.length_map, (count_kind h).1, (count_kind h).2]
    rfl
end Tote
/-! # desk.py: what is told -/
namespace Tote
open PySem PySem.Spec PyProof.Rows L2 Tq
open SX (S S_inj S_len S_cat)
open Xb08 (Simulation Goal placeOfParcel parcelOf natInt)
variable {g : GG}
theorem iV_map (l : List Nat) : l.map iV = (l.map natInt).map V.int := by
  rw [List.map_map]
  rfl
/-- a reading operation's promise -/
def RdP (g : GG) (ans : Simulation → List Int) : Sp := fun vs H Q _ => ∃ (d : Addr) (R : Hp) (h : Simulation), vs = [.ref d] ∧ DeskAt g H R d (some h) ∧ ∀ H' p, Same H H' → H p = none → H' p = some (.lst ((ans h).map .int)) → Q (.ref p) H'
def ansSensors (h : Simulation) : List Int := natInt h.seen.length :: h.seen.map natInt
def ansRules (h : Simulation) : List Int := natInt h.fired.length :: h.fired.map natInt
def sp_Desk_sensors (g : GG) : Sp := RdP g ansSensors
theorem ok_Desk_sensors (T : Tx g) : Mt CX0 g 2 "Desk" "sensors" ["self"] (sp_Desk_sensors g) := by
  refine mt0 (k := 1) T.cl_Desk T.me_Desk_sensors T.df_Desk_sensors sc_Desk_sensors (fun _ _ _ _ _ _ us hl => match us, hl with | [_], _ => rfl) ?_ ?_
  · rintro vs H Q E ⟨d, R, h, rfl, _⟩
    rfl
  · rintro cdv A outer s H vs Q E hr ⟨d, R, h, rfl, hd, q⟩
    refine ⟨_, (pss_one (ps_ret (pe_fn (ok_counted T) hr (by decide) (pa_cons (pe_callTy call_list_of (by rfl) T.fr_list bt_list (pa_cons (pe_fc T.cl_Floor T.na_Floor_seen (pe_fc T.cl_Desk T.na_Desk_floor (pv 0))) pa_nil)) pa_nil)))), ?_⟩
    obtain ⟨dx, F, Rf, w⟩ := hd.df
    obtain ⟨fx, hf⟩ := w.f.flo
    refine ⟨_, rfl, _, dx, _, _, rfl, w.at_, rfl, _, fx, _, _, rfl, hf, rfl, F.se, _, rfl, .inl (.inl (.inl w.f.se)), fun l hl => ?_⟩
    have s1 := Same.new (o := .lst (h.seen.map iV)) hl
    refine ⟨l, h.seen.map natInt, rfl, by rw [upd_same, iV_map], ?_, fun H2 p s2 hp0 hp => q H2 p (s1.trans s2) (s1.free hp0) ?_⟩
    · rw [List.length_map, w.f.ok.se]
      have := w.f.ok.pl.lim.se
      omega
    · rw [hp, List.length_map]
      rfl
def sp_Desk_rules_told (g : GG) : Sp := RdP g ansRules
theorem ok_Desk_rules_told (T : Tx g) : Mt CX0 g 2 "Desk" "rules_told" ["self"] (sp_Desk_rules_told g) := by
  refine mt0 (k := 1) T.cl_Desk T.me_Desk_rules_told T.df_Desk_rules_told sc_Desk_rules_told (fun _ _ _ _ _ _ us hl => match us, hl with | [_], _ => rfl) ?_ ?_
  · rintro vs H Q E ⟨d, R, h, rfl, _⟩
    rfl
  · rintro cdv A outer s H vs Q E hr ⟨d, R, h, rfl, hd, q⟩
    refine ⟨_, (pss_one (ps_ret (pe_fn (ok_counted T) hr (by decide) (pa_cons (pe_callTy call_list_of (by rfl) T.fr_list bt_list (pa_cons (pe_fc T.cl_Floor T.na_Floor_fired (pe_fc T.cl_Desk T.na_Desk_floor (pv 0))) pa_nil)) pa_nil)))), ?_⟩
    obtain ⟨dx, F, Rf, w⟩ := hd.df
    obtain ⟨fx, hf⟩ := w.f.flo
    refine ⟨_, rfl, _, dx, _, _, rfl, w.at_, rfl, _, fx, _, _, rfl, hf, rfl, F.fi, _, rfl, .inl (.inl (.inl w.f.fi)), fun l hl => ?_⟩
    have s1 := Same.new (o := .lst (h.fired.map iV)) hl
    refine ⟨l, h.fired.map natInt, rfl, by rw [upd_same, iV_map], ?_, fun H2 p s2 hp0 hp => q H2 p (s1.trans s2) (s1.free hp0) ?_⟩
    · rw [List.length_map, w.f.ok.fi]
      have := w.f.ok.pl.lim.ru
      omega
    · rw [hp, List.length_map]
      rfl
def ansChutes (h : Simulation) : List Int := natInt h.plant.chutes.length :: (List.range h.plant.chutes.length).map fun k => natInt (Xb08.contentsOf h k)
def sp_Desk_chutes (g : GG) : Sp := RdP g ansChutes
theorem ok_Desk_chutes (T : Tx g) : Mt CX0 g 2 "Desk" "chutes" ["self"] (sp_Desk_chutes g) := by
  refine mt0 (k := 1) T.cl_Desk T.me_Desk_chutes T.df_Desk_chutes sc_Desk_chutes (fun _ _ _ _ _ _ us hl => match us, hl with | [_], _ => rfl) ?_ ?_
  · rintro vs H Q E ⟨d, R, h, rfl, _⟩
    rfl
  · rintro cdv A outer s H vs Q E hr ⟨d, R, h, rfl, hd, q⟩
    refine ⟨_, (pss_one (ps_ret (pe_fn (ok_counted T) hr (by decide) (pa_cons (pe_lc (own := [("chute", 1)]) (g := (gName 1)) (te := (tCB (rLenS g.K) (tCons (tMt (cF g "Floor") "at_place" (sp_Floor_at_place g) E0 (tFc (cF g "Desk") "floor" (tVar 0)) (tCons (tTup (tCons (tC (.int 2)) (tCons (tVar 1) (tCons (tC (.int 0)) tNil)))) tNil)) tNil))) rfl sc_Desk_chutes.nd (pi_range1 rfl T.fr_range (pa_cons (pe_callB call_lenS (by rfl) T.fr_len bt_len (pa_cons (pe_fc T.cl_Plant T.na_Plant_rooms (pe_fc T.cl_Floor T.na_Floor_plant (pe_fc T.cl_Desk T.na_Desk_floor (pv 0)))) pa_nil)) pa_nil)) (blkOk_by (N := ["self", "chute"]) (sc := defScope s_Desk_chutes) (by decide +kernel)) (fun _ _ _ _ _ => (pg_name (i := 1) sc_Desk_chutes.nd rfl (.inl rfl))) (fun _ _ _ _ _ => pts_nil) (fun _ _ _ _ _ => (pe_callB call_lenS (by rfl) T.fr_len bt_len (pa_cons (pe_mt (ok_Floor_at_place T) hr (by decide) (pe_fc T.cl_Desk T.na_Desk_floor (pv 0)) (pa_cons (pe_tup (pa_cons (C8.pe_gc rfl T.in_CHUTE) (pa_cons (pv 1) (pa_cons pe_int pa_nil)))) pa_nil)) pa_nil)))) pa_nil)))), ?_⟩
    obtain ⟨dx, F, Rf, w⟩ := hd.df
    obtain ⟨fx, hf⟩ := w.f.flo
    obtain ⟨px, pi⟩ := (w.f.pla.same w.f.same).ins
    have hro : RoAt H F.L.ro h.plant.chutes := (w.f.pla.same w.f.same).ro
    have hc := w.f.ok.pl.lim.ch
    refine ⟨_, rfl, _, dx, _, _, rfl, w.at_, rfl, _, fx, _, _, rfl, hf, rfl, _, px, _, _, rfl, pi, rfl, F.L.ro, _, rfl, .inl (.inl (.inl hro)), _, rfl, by rw [List.length_map]; omega, by rw [List.length_map]; omega, fun D hD => ?_⟩
    rw [List.length_map, Int.toNat_natCast]
    refine lc_fm walk_range (fun k => some (V.int (natInt (Xb08.contentsOf h k)))) hD (by omega) (fun _ _ => trivial) ?_ ?_
    · rintro i x H1 H2 Qk Qn hi s1 ⟨rfl, rfl⟩ hk hn
      have f1 := w.f.mono s1
      obtain ⟨fx1, hf1⟩ := f1.flo
      refine ⟨rfl, yesI ?_⟩
      refine ⟨_, rfl, _, dx, _, _, rfl, s1 _ _ w.at_, rfl, _, fx1, _, rfl, hf1, rfl, _, rfl, (by show 3 ≤ sizeLine; decide), fun t ht => ?_⟩
      have s2 := Same.new (o := .tup [.int 2, .int (0 + (i : Nat)), .int 0]) ht
      refine ⟨Rf, F, h, t, .chute i, rfl, f1.mono s2, .inl ?_, fun H3 p s3 hp0 hp => ⟨_, _, rfl, .inl (.inl (.inl hp)), hk _ _ (s2.trans s3) ?_⟩⟩
      · rw [upd_same]
        dsimp only
        rw [Int.zero_add]
        rfl
      · rw [List.length_map, contents_eq]
        rfl
    · intro H1 s1 hD1
      rw [fm_some] at hD1
      refine ⟨D, (List.range h.plant.chutes.length).map fun k => natInt (Xb08.contentsOf h k), rfl, by rw [hD1, List.map_map] <;> rfl, ?_, fun H2 p s2 hp0 hp => q H2 p (s1.trans s2) (s1.free hp0) ?_⟩
      · rw [List.length_map, List.length_range]
        omega
      · rw [hp, List.length_map, List.length_range]
        rfl
def ansParcels (h : Simulation) : List Int := natInt h.positions_.length :: h.positions_.flatMap fun p => match p with
    | .notFed => [0, 0, 0]
    | .on b x => [1, natInt b, natInt x]
    | .chute k => [2, natInt k, 0]
def tri : Xb08.Place → List Int
  | .notFed => [0, 0, 0]
  | .on b x => [1, natInt b, natInt x]
  | .chute k => [2, natInt k, 0]
theorem tri_pla (pl : Xb08.Place) : plaV pl = (tri pl).map V.int := by cases pl <;> rfl
theorem tri_len (pl : Xb08.Place) : (tri pl).length = 3 := by cases pl <;> rfl
theorem ansParcels_eq (h : Simulation) : ansParcels h = natInt h.positions_.length :: h.positions_.flatMap tri := rfl
theorem tri_flat (l : List Xb08.Place) : (l.flatMap tri).length = 3 * l.length := by
  induction l with
  | nil => rfl
  | cons p l ih =>
    rw [List.flatMap_cons, List.length_append, ih, tri_len, List.length_cons]
    omega
def sp_Desk_all_parcels (g : GG) : Sp := RdP g ansParcels
theorem ok_Desk_all_parcels (T : Tx g) : Mt CX0 g 1 "Desk" "all_parcels" ["self"] (sp_Desk_all_parcels g) := by
  refine mt0 (k := 0) T.cl_Desk T.me_Desk_all_parcels T.df_Desk_all_parcels sc_Desk_all_parcels (fun _ _ _ _ _ _ us hl => match us, hl with | [_], _ => rfl) ?_ ?_
  · rintro vs H Q E ⟨d, R, h, rfl, _⟩
    rfl
  · rintro cdv A outer s H vs Q E hr ⟨d, R, h, rfl, hd, q⟩
    refine ⟨_, (pss_cons (ps_set (i := 1) sc_Desk_all_parcels.nd rfl (.inl rfl) (pe_lst (pa_cons (pe_callB call_lenS (by rfl) T.fr_len bt_len (pa_cons (pe_fc T.cl_Floor T.na_Floor_parcels (pe_fc T.cl_Desk T.na_Desk_floor (pv 0))) pa_nil)) pa_nil))) (pss_cons (ps_for PassesOwn.never rfl (pi_list (pe_fc T.cl_Floor T.na_Floor_parcels (pe_fc T.cl_Desk T.na_Desk_floor (pv 0)))) (pg_name (i := 2) sc_Desk_all_parcels.nd rfl (.inl rfl)) (pss_one (ps_expr (pe_bm PySem.F.plainAttrs_list PySem.F.slot_list_extend PySem.F.type_list_extend mt_extend (pv 1) (pa_cons (pe_callTy call_list_of (by rfl) T.fr_list bt_list (pa_cons (pe_fc T.cl_Parcel T.na_Parcel_place (pv 2)) pa_nil)) pa_nil))))) (pss_one (ps_ret (pv 1))))), ?_⟩
    obtain ⟨dx, F, Rf, w⟩ := hd.df
    obtain ⟨fx, hf⟩ := w.f.flo
    have hn := w.f.nLe
    refine ⟨_, rfl, _, dx, _, _, rfl, w.at_, rfl, _, fx, _, _, rfl, hf, rfl, F.pc, _, rfl, .inl (.inl (.inl w.f.pcs)), (by show 1 ≤ sizeLine; decide), fun D hD => ?_⟩
    have s1 := Same.new (o := .lst [.int ((F.ps.map V.ref).length : Nat)]) hD
    have hD1 : (upd H D (.lst [.int ((F.ps.map V.ref).length : Nat)])) D = some (.lst ((natInt h.positions_.length :: (h.positions_.take 0).flatMap tri).map .int)) := by
      rw [upd_same, List.length_map, w.f.psLen]
      rfl
    generalize upd H D (.lst [.int ((F.ps.map V.ref).length : Nat)]) = H1 at s1 hD1
    have f1 := w.f.mono s1
    obtain ⟨fx1, hf1⟩ := f1.flo
    refine ⟨_, rfl, _, dx, _, _, rfl, s1 _ _ w.at_, rfl, _, fx1, _, _, rfl, hf1, rfl, F.pc, rfl, ⟨_, .inl (.inl f1.pcs)⟩, ?_⟩
    refine for_it (walk_list (xs := F.ps.map .ref)) (fun i σ H' => ∃ y, σ = [some (.ref d), some (.ref D), y] ∧ Same H H' ∧ H' D = some (.lst ((natInt h.positions_.length :: (h.positions_.take i).flatMap tri).map .int))) ⟨none, rfl, s1, hD1⟩ ?_ ?_ ?_
    · rintro i σ H' hi ⟨y, rfl, s2, _⟩
      exact .inl (.inl (s2 _ _ w.f.pcs))
    · rintro i x σ H2 H3 hi ⟨y, rfl, s2, hl⟩ ⟨rfl, ex⟩
      rw [List.length_map] at hi
      rw [List.getElem?_map, List.getElem?_eq_getElem hi] at ex
      cases ex
      have f2 := w.f.mono s2
      obtain ⟨hlt, dx2, t2, k1, k2⟩ := f2.parGet (List.getElem?_eq_getElem hi)
      refine ⟨_, rfl, .inl ⟨rfl, _, .inl (.inl hl)⟩, _, rfl, _, dx2, _, _, rfl, k1, rfl, t2, _, rfl, .inr k2.sq, fun l hl2 => ?_⟩
      have s3 := Same.new (o := .lst (plaV (placeOfParcel h i))) hl2
      refine ⟨D, l, _, _, rfl, rfl, s3 _ _ hl, upd_same, ?_, _, rfl, Same.upd hD (s2.trans s3), ?_⟩
      · rw [List.length_map, List.length_cons, tri_flat, tri_pla, List.length_map, tri_len, List.length_take, sizeLine_eq]
        omega
      · rw [upd_same]
        have hp : h.positions_[i]? = some (placeOfParcel h i) := by
          unfold placeOfParcel List.getD
          rw [List.getElem?_eq_getElem hlt]
          rfl
        rw [tri_pla, ← List.map_append, List.cons_append, List.take_add_one, hp, List.flatMap_append]
        simp
    · rintro σ H' ⟨y, rfl, s2, hl⟩
      rw [List.length_map, w.f.psLen, List.take_length] at hl
      exact ⟨_, rfl, q H' D s2 hD hl⟩
def ansPushers (h : Simulation) : List Int := natInt h.pushesDone.length :: (h.pushesDone.zip h.pushesMissed).flatMap fun p => [natInt p.1, natInt p.2]
theorem two_flat (l : List (Nat × Nat)) : (l.flatMap fun p => [natInt p.1, natInt p.2]).length = 2 * l.length := by
  induction l with
  | nil => rfl
  | cons p l ih =>
    rw [List.flatMap_cons, List.length_append, ih, List.length_cons]
    simp
    omega
def sp_Desk_pushers_told (g : GG) : Sp := RdP g ansPushers
theorem ok_Desk_pushers_told (T : Tx g) : Mt CX0 g 1 "Desk" "pushers_told" ["self"] (sp_Desk_pushers_told g) := by
  refine mt0 (k := 0) T.cl_Desk T.me_Desk_pushers_told T.df_Desk_pushers_told sc_Desk_pushers_told (fun _ _ _ _ _ _ us hl => match us, hl with | [_], _ => rfl) ?_ ?_
  · rintro vs H Q E ⟨d, R, h, rfl, _⟩
    rfl
  · rintro cdv A outer s H vs Q E hr ⟨d, R, h, rfl, hd, q⟩
    refine ⟨_, (pss_cons (ps_set (i := 1) sc_Desk_pushers_told.nd rfl (.inl rfl) (pe_lst (pa_cons (pe_callB call_lenS (by rfl) T.fr_len bt_len (pa_cons (pe_fc T.cl_Floor T.na_Floor_done (pe_fc T.cl_Desk T.na_Desk_floor (pv 0))) pa_nil)) pa_nil))) (pss_cons (ps_for PassesOwn.never rfl (pi_zip (by rfl) T.fr_zip (pa_cons (pe_fc T.cl_Floor T.na_Floor_done (pe_fc T.cl_Desk T.na_Desk_floor (pv 0))) (pa_cons (pe_fc T.cl_Floor T.na_Floor_missed (pe_fc T.cl_Desk T.na_Desk_floor (pv 0))) pa_nil))) (pg_tup rfl (pgs_cons (pg_name (i := 2) sc_Desk_pushers_told.nd rfl (.inl rfl)) (pgs_cons (pg_name (i := 3) sc_Desk_pushers_told.nd rfl (.inl rfl)) pgs_nil))) (pss_one (ps_expr (pe_bm PySem.F.plainAttrs_list PySem.F.slot_list_extend PySem.F.type_list_extend mt_extend (pv 1) (pa_cons (pe_lst (pa_cons (pv 2) (pa_cons (pv 3) pa_nil))) pa_nil))))) (pss_one (ps_ret (pv 1))))), ?_⟩
    obtain ⟨dx, F, Rf, w⟩ := hd.df
    obtain ⟨fx, hf⟩ := w.f.flo
    have hn := w.f.ok.pl.lim.pu
    have hdn := w.f.ok.dn
    have hmi := w.f.ok.mi
    refine ⟨_, rfl, _, dx, _, _, rfl, w.at_, rfl, _, fx, _, _, rfl, hf, rfl, F.dn, _, rfl, .inl (.inl (.inl w.f.dn)), (by show 1 ≤ sizeLine; decide), fun D hD => ?_⟩
    have s1 := Same.new (o := .lst [.int ((h.pushesDone.map iV).length : Nat)]) hD
    have hD1 : (upd H D (.lst [.int ((h.pushesDone.map iV).length : Nat)])) D = some (.lst ((natInt h.pushesDone.length :: ((h.pushesDone.zip h.pushesMissed).take 0).flatMap fun p => [natInt p.1, natInt p.2]).map .int)) := by
      rw [upd_same, List.length_map]
      rfl
    generalize upd H D (.lst [.int ((h.pushesDone.map iV).length : Nat)]) = H1 at s1 hD1
    have f1 := w.f.mono s1
    obtain ⟨fx1, hf1⟩ := f1.flo
    refine ⟨_, rfl, _, dx, _, _, rfl, s1 _ _ w.at_, rfl, _, fx1, _, _, rfl, hf1, rfl, _, rfl, _, dx, _, _, rfl, s1 _ _ w.at_, rfl, _, fx1, _, _, rfl, hf1, rfl, F.dn, F.mi, _, _, rfl, .inl (.inl f1.dn), .inl (.inl f1.mi), ?_⟩
    refine for_it (walk_zip (n := h.plant.pushers.length) (xs := h.pushesDone.map iV) (ys := h.pushesMissed.map iV) (by rw [List.length_map, List.length_map, hdn, hmi, Nat.min_self])) (fun i σ H' => ∃ y y2, σ = [some (.ref d), some (.ref D), y, y2] ∧ Same H H' ∧ H' D = some (.lst ((natInt h.pushesDone.length :: ((h.pushesDone.zip h.pushesMissed).take i).flatMap fun p => [natInt p.1, natInt p.2]).map .int))) ⟨none, none, rfl, s1, hD1⟩ ?_ ?_ ?_
    · rintro i σ H' hi ⟨y, y2, rfl, s2, _⟩
      exact ⟨.inl (.inl (s2 _ _ w.f.dn)), .inl (.inl (s2 _ _ w.f.mi))⟩
    · rintro i x σ H2 H3 hi ⟨y, y2, rfl, s2, hl⟩ ⟨T1, v1, v2, rfl, hT1, rfl, e1, e2⟩
      change (h.pushesDone.map iV)[i]? = some v1 at e1
      change (h.pushesMissed.map iV)[i]? = some v2 at e2
      have h1 : i < h.pushesDone.length := by omega
      have h2 : i < h.pushesMissed.length := by omega
      rw [List.getElem?_map, List.getElem?_eq_getElem h1] at e1
      rw [List.getElem?_map, List.getElem?_eq_getElem h2] at e2
      cases e1
      cases e2
      have s3 := Same.new (o := .tup [iV h.pushesDone[i], iV h.pushesMissed[i]]) hT1
      refine ⟨T1, _, rfl, .inl (.inl upd_same), rfl, _, _, rfl, _, _, rfl, rfl, ?_⟩
      refine ⟨_, rfl, .inl ⟨rfl, _, .inl (.inl (s3 _ _ hl))⟩, _, rfl, _, rfl, (by show 2 ≤ sizeLine; decide), fun l hl2 => ?_⟩
      have s4 := s3.trans (Same.new (o := .lst [iV h.pushesDone[i], iV h.pushesMissed[i]]) hl2)
      refine ⟨D, l, _, _, rfl, rfl, s4 _ _ hl, upd_same, ?_, _, _, rfl, Same.upd hD (s2.trans s4), ?_⟩
      · rw [List.length_map, List.length_cons, two_flat, List.length_take, sizeLine_eq]
        show _ + 2 ≤ _
        omega
      · rw [upd_same]
        have hz : (h.pushesDone.zip h.pushesMissed)[i]? = some (h.pushesDone[i], h.pushesMissed[i]) := by
          rw [List.getElem?_zip_eq_some]
          exact ⟨List.getElem?_eq_getElem h1, List.getElem?_eq_getElem h2⟩
        rw [List.take_add_one, hz, List.flatMap_append]
        simp [iV, natInt]
    · rintro σ H' ⟨y, y2, rfl, s2, hl⟩
      rw [List.take_of_length_le (by rw [List.length_zip, hdn, hmi, Nat.min_self]; exact Nat.le_refl _)] at hl
      exact ⟨_, rfl, q H' D s2 hD hl⟩
end Tote
/-! # desk.py: waiting, belt -/
namespace Tote
open PySem PySem.Spec PyProof.Rows L2 Tq
open SX (S S_inj S_len S_cat)
open Xb08 (Simulation Goal placeOfParcel parcelOf natInt parcelsOnBelt)
variable {g : GG}
def waitL (h : Simulation) : List Nat := (List.range h.positions_.length).filter fun m => match placeOfParcel h m with
      | .on _ _ => !h.moved.contains m
      | _ => false
def ansWaiting (h : Simulation) : List Int := natInt (waitL h).length :: (waitL h).map natInt
theorem wait_eq (h : Simulation) : ((List.range h.positions_.length).filter fun i => decide (kindN (placeOfParcel h i) = 1)).filter (fun m => !h.moved.contains m) = waitL h := by
  unfold waitL
  rw [List.filter_filter]
  refine List.filter_congr fun m _ => ?_
  cases placeOfParcel h m <;> simp [kindN]
theorem fm_filter2 (l : List Nat) (p : Nat → Bool) : l.filterMap (fun m => if p m = true then some (V.int m) else none) = (l.filter p).map iV := by
  induction l with
  | nil => rfl
  | cons m l ih =>
    rw [List.filterMap_cons, List.filter_cons]
    cases e : p m with
    | true =>
      rw [if_pos rfl, if_pos rfl, List.map_cons, ih]
      rfl
    | false =>
      rw [if_neg (by decide), if_neg (by decide), ih]
def sp_Desk_waiting (g : GG) : Sp := RdP g ansWaiting
theorem ok_Desk_waiting (T : Tx g) : Mt CX0 g 2 "Desk" "waiting" ["self"] (sp_Desk_waiting g) := by
  refine mt0 (k := 1) T.cl_Desk T.me_Desk_waiting T.df_Desk_waiting sc_Desk_waiting (fun _ _ _ _ _ _ us hl => match us, hl with | [_], _ => rfl) ?_ ?_
  · rintro vs H Q E ⟨d, R, h, rfl, _⟩
    rfl
  · rintro cdv A outer s H vs Q E hr ⟨d, R, h, rfl, hd, q⟩
    refine ⟨_, (pss_one (ps_ret (pe_fn (ok_counted T) hr (by decide) (pa_cons (pe_lc (own := [("number", 1)]) (g := (gName 1)) (tt := (tNot (tB (tFc (cF g "Parcel") "has_moved" (tOp (rIxL g.K) (tFc (cF g "Floor") "parcels" (tFc (cF g "Desk") "floor" (tVar 0))) (tVar 1)))))) (te := (tVar 1)) rfl sc_Desk_waiting.nd (pi_list (pe_mt (ok_Floor_of_kind T) hr (by decide) (pe_fc T.cl_Desk T.na_Desk_floor (pv 0)) (pa_cons (C8.pe_gc rfl T.in_BELT) pa_nil))) (blkOk_by (N := ["self", "number"]) (sc := defScope s_Desk_waiting) (by decide +kernel)) (fun _ _ _ _ _ => (pg_name (i := 1) sc_Desk_waiting.nd rfl (.inl rfl))) (fun _ _ _ _ _ => pts_one (pt_not (pt_val (pe_fc T.cl_Parcel T.na_Parcel_has_moved (pe_ix ix_list (pe_fc T.cl_Floor T.na_Floor_parcels (pe_fc T.cl_Desk T.na_Desk_floor (pv 0))) (pv 1) (fun _ _ => rfl)))))) (fun _ _ _ _ _ => (pv 1))) pa_nil)))), ?_⟩
    obtain ⟨dx, F, Rf, w⟩ := hd.df
    obtain ⟨fx, hf⟩ := w.f.flo
    have hn := w.f.nLe
    refine ⟨_, rfl, _, dx, _, _, rfl, w.at_, rfl, _, fx, _, rfl, hf, rfl, Rf, F, h, 1, rfl, w.f, fun H1 p1 s1 hp10 hp1 => ⟨p1, rfl, ⟨_, .inl (.inl hp1)⟩, fun D hD => ?_⟩⟩
    generalize hl : ((List.range h.positions_.length).filter fun i => decide (kindN (placeOfParcel h i) = 1)) = l at hp1
    have hll : l.length ≤ 40 := by
      rw [← hl]
      have := List.length_filter_le (fun i => decide (kindN (placeOfParcel h i) = 1)) (List.range h.positions_.length)
      rw [List.length_range] at this
      omega
    refine lc_fm (walk_list (xs := l.map iV)) (fun i => (l[i]?).bind fun m => if (!h.moved.contains m) = true then some (V.int m) else none) hD (by rw [List.length_map]; omega) (fun H' s' => .inl (.inl (s' _ _ hp1))) ?_ ?_
    · rintro i x H5 H6 Qk Qn hi s6 ⟨rfl, ex⟩ hk' hn'
      rw [List.length_map] at hi
      have em : l[i]? = some l[i] := List.getElem?_eq_getElem hi
      rw [List.getElem?_map, em] at ex
      cases ex
      rw [em] at hk' hn'
      have hm : l[i] ∈ l := List.getElem_mem hi
      have hml : l[i] < h.positions_.length := by
        have hm' : l[i] ∈ (List.range h.positions_.length).filter fun i => decide (kindN (placeOfParcel h i) = 1) := by
          rw [hl]
          exact hm
        exact List.mem_range.mp (List.mem_filter.mp hm').1
      generalize l[i] = m at hk' hn' hml ⊢
      have f6 := w.f.mono (s1.trans s6)
      obtain ⟨dx6, hf6⟩ := f6.flo
      have hps : m < F.ps.length := by rw [w.f.psLen]; exact hml
      obtain ⟨_, dx7, t7, k1, k2⟩ := f6.parGet (List.getElem?_eq_getElem hps)
      refine ⟨rfl, ?_⟩
      refine ⟨_, rfl, _, dx, _, _, rfl, (s1.trans s6) _ _ w.at_, rfl, _, dx6, _, _, rfl, hf6, rfl, _, rfl, F.pc, _, _, _, rfl, rfl, .inl (.inl f6.pcs), atI_nat (by rw [List.getElem?_map, List.getElem?_eq_getElem hps]; rfl), _, dx7, _, _, rfl, k1, rfl, _, rfl, ?_⟩
      cases eb : h.moved.contains m with
      | true => exact iteF (hn' _ (.refl _) (by show (if (!h.moved.contains m) = true then some (V.int m) else none) = none; rw [eb]; rfl))
      | false => exact iteT ⟨_, rfl, hk' _ _ (.refl _) (by show (if (!h.moved.contains m) = true then some (V.int m) else none) = some (V.int m); rw [eb]; rfl)⟩
    · intro H2 s2 hD2
      rw [List.length_map, fm_bind, fm_filter2, ← hl, wait_eq] at hD2
      refine ⟨D, (waitL h).map natInt, rfl, by rw [hD2, iV_map], ?_, fun H3 p s3 hp0 hp => q H3 p (s1.trans (s2.trans s3)) (s1.free (s2.free hp0)) ?_⟩
      · rw [List.length_map]
        have := List.length_filter_le (fun m => match placeOfParcel h m with
          | .on _ _ => !h.moved.contains m
          | _ => false) (List.range h.positions_.length)
        rw [List.length_range] at this
        have e : (waitL h).length ≤ h.positions_.length := this
        omega
      · rw [hp, List.length_map]
        rfl
/-- the ways of an operation: an answer or a refusal -/
def OpP (g : GG) (H : Hp) (Q : VK) (E : XK) (d : Addr) (R : Hp) (r : Simulation × Except Int (List Int)) : Prop := match r.2 with
  | .ok l => ∀ H' p, DeskAt g H' R d (some r.1) → H' p = some (.lst (l.map .int)) → R p = none → Q (.ref p) H'
  | .error c => RFt g E H c
def frontN (h : Simulation) (m : Nat) : Int := match placeOfParcel h m with
  | .on _ x => natInt x
  | _ => 0
theorem two_flat' {f1 f2 : Nat → Int} (l : List Nat) : (l.flatMap fun m => [f1 m, f2 m]).length = 2 * l.length := by
  induction l with
  | nil => rfl
  | cons p l ih =>
    rw [List.flatMap_cons, List.length_append, ih, List.length_cons]
    simp
    omega
def ansBelt (h : Simulation) (b : Nat) : List Int := natInt (parcelsOnBelt h b).length :: (parcelsOnBelt h b).flatMap fun m => [natInt m, frontN h m]
def sp_Desk_belt_told (g : GG) : Sp := fun vs H Q E => ∃ (d : Addr) (R : Hp) (h : Simulation) (k : Int), vs = [.ref d, .int k] ∧ DeskAt g H R d (some h) ∧
  (Xb08.inRange 0 (natInt h.plant.belts.length - 1) k = false → RFt g E H (-2)) ∧ (Xb08.inRange 0 (natInt h.plant.belts.length - 1) k = true → ∀ H' p, Same H H' → H p = none → H' p = some (.lst ((ansBelt h k.toNat).map .int)) → Q (.ref p) H')
theorem ok_Desk_belt_told (T : Tx g) : Mt (L2.CX g.P g.w) g 4 "Desk" "belt_told" ["self", "belt"] (sp_Desk_belt_told g) := by
  refine mtC (k := 3) T.cl_Desk T.me_Desk_belt_told T.df_Desk_belt_told sc_Desk_belt_told (fun _ _ _ _ _ _ us hl => match us, hl with | [_, _], _ => rfl) ?_ ?_
  · rintro vs H Q E ⟨d, R, h, k, rfl, _⟩
    rfl
  · rintro cdv A outer s H vs Q E hr ⟨d, R, h, k, rfl, hd, q1, q2⟩
    refine ⟨_, (pss_cons (ps_expr (pe_fx (ok_refuse_unless T) hr (by decide) pxC (pa_cons (pe_chain op_le op_lt pe_int (pv 1) (pe_callB call_lenS (by rfl) T.fr_len bt_len (pa_cons (pe_fc T.cl_Plant T.na_Plant_lengths (pe_fc T.cl_Floor T.na_Floor_plant (pe_fc T.cl_Desk T.na_Desk_floor (pv 0)))) pa_nil))) (pa_cons (C8.pe_gc rfl T.in_OUT_OF_RANGE) pa_nil)))) (pss_cons (ps_set (i := 2) sc_Desk_belt_told.nd rfl (.inl rfl) (pe_mt (ok_Floor_on_belt T) hr (by decide) (pe_fc T.cl_Desk T.na_Desk_floor (pv 0)) (pa_cons (pv 1) pa_nil))) (pss_cons (ps_set (i := 3) sc_Desk_belt_told.nd rfl (.inl rfl) (pe_lst (pa_cons (pe_callB call_lenS (by rfl) T.fr_len bt_len (pa_cons (pv 2) pa_nil)) pa_nil))) (pss_cons (ps_for (passes_of rfl) rfl (pi_list (pv 2)) (pg_name (i := 4) sc_Desk_belt_told.nd rfl (.inl rfl)) (pss_one (ps_expr (pe_bm PySem.F.plainAttrs_list PySem.F.slot_list_extend PySem.F.type_list_extend mt_extend (pv 3) (pa_cons (pe_lst (pa_cons (pv 4) (pa_cons (pe_ix ix_tup (pe_fc T.cl_Parcel T.na_Parcel_place (pe_ix ix_list (pe_fc T.cl_Floor T.na_Floor_parcels (pe_fc T.cl_Desk T.na_Desk_floor (pv 0))) (pv 4) (fun _ _ => rfl))) pe_int (fun _ _ => rfl)) pa_nil))) pa_nil))))) (pss_one (ps_ret (pv 3))))))), ?_⟩
    obtain ⟨dx, F, Rf, w⟩ := hd.df
    obtain ⟨fx, hf⟩ := w.f.flo
    obtain ⟨px, pi⟩ := (w.f.pla.same w.f.same).ins
    have hle : LeAt H F.L.le h.plant.belts := (w.f.pla.same w.f.same).le
    simp only [rIxD, gSub, rSetL, sDPut, tDGet, tDIn, tDNotIn, wipe, rLenS, tBM, rAppend, rExtend, rIn, cx_K, rIxS, rIxL, rIxT, tRet, tIfS, tTest, tChain, rI, rI0, rU, tC, tVar, tOp, tUn, tCB, tCons, tNil, tSeq, tNext, tB, tNot, tAnd, tOr, tAndV, tOrV, tNotV, tFc, sFc, sFcA, tMt, tCl, tNw, tLst, tTup, tDrop, tAsg, tPar, gName, gCons, gNil, tR1, rEq, rNe, rAdd, rSub, tAug, ipI, L2.start, List.map, List.length, List.replicate, List.append, List.set, exists_eq_left', exists_eq_left, exists_eq_right, exists_eq_right', exists_and_left, exists_and_right, exists_eq, exists_eq', Option.some.injEq, List.getElem?_cons_zero, List.getElem?_cons_succ, V.bl.injEq, V.int.injEq, V.str.injEq, V.ref.injEq, List.cons_append, List.nil_append, List.cons.injEq, HO.ins.injEq, HO.lst.injEq, HO.tup.injEq, true_and, and_true, decide_eq_true_eq, Bool.false_eq_true, ↓reduceIte, Bool.not_true, Bool.not_false, Bool.not_eq_true', decide_eq_false_iff_not, List.set_cons_zero, List.set_cons_succ, and_assoc, scal, dec_int, dec_str, forall_const, implies_true, w.at_, dkF_get, hf, flF_get, pi, PL.fs, plF_get]
    have hb := w.f.ok.pl.lim.be
    have hn := w.f.nLe
    have er : ∀ x : Bool, (Xb08.inRange 0 (natInt h.plant.belts.length - 1) k = x) → (0 ≤ k ∧ k < (h.plant.belts.length : Int)) = (x = true) := by
      rintro x rfl
      unfold Xb08.inRange natInt
      rw [Bool.and_eq_true, decide_eq_true_iff, decide_eq_true_iff, eq_iff_iff]
      omega
    by_cases h0 : 0 ≤ k
    · rw [if_pos h0]
      refine ⟨_, .inl (.inl (.inl hle)), ?_⟩
      refine ⟨_, _, rfl, fun h1 => ?_, fun h1 => q1 ?_⟩
      · have h1' : k < (h.plant.belts.length : Int) := by
          have := of_decide_eq_true h1
          rwa [List.length_map] at this
        have hin : Xb08.inRange 0 (natInt h.plant.belts.length - 1) k = true := by
          rw [← er _ rfl]
          exact ⟨h0, h1'⟩
        have q := q2 hin
        obtain ⟨b, rfl⟩ : ∃ b : Nat, k = (b : Int) := ⟨k.toNat, by omega⟩
        rw [Int.toNat_natCast] at q
        refine ⟨dx, _, w.at_, _, rfl, _, rfl, fx, _, hf, rfl, Rf, F, h, b, rfl, w.f, fun H1 n1 s1 hn10 hn1 => ⟨n1, rfl, _, .inl (.inl (.inl hn1)), (by show 1 ≤ sizeLine; decide), fun D hD => ?_⟩⟩
        have hlen : (parcelsOnBelt h b).length ≤ 40 := by
          have e1 := (onBelt_perm w.f.ok b).length_eq
          have e2 : (onIdx h b).length ≤ (List.range h.positions_.length).length := List.length_filter_le _ _
          rw [List.length_range] at e2
          omega
        have s2 := Same.new (o := .lst [.int (((parcelsOnBelt h b).map iV).length : Nat)]) hD
        have hD1 : (upd H1 D (.lst [.int (((parcelsOnBelt h b).map iV).length : Nat)])) D = some (.lst ((natInt (parcelsOnBelt h b).length :: ((parcelsOnBelt h b).take 0).flatMap fun m => [natInt m, frontN h m]).map .int)) := by
          rw [upd_same, List.length_map]
          rfl
        generalize upd H1 D (.lst [.int (((parcelsOnBelt h b).map iV).length : Nat)]) = H2 at s2 hD1
        refine ⟨_, rfl, n1, rfl, ⟨_, .inl (.inl (s2 _ _ hn1))⟩, ?_⟩
        refine for_it (walk_list (xs := (parcelsOnBelt h b).map iV)) (fun i σ H' => ∃ y, σ = [some (.ref d), some (.int b), some (.ref n1), some (.ref D), y] ∧ Same H1 H' ∧ H' D = some (.lst ((natInt (parcelsOnBelt h b).length :: ((parcelsOnBelt h b).take i).flatMap fun m => [natInt m, frontN h m]).map .int))) ⟨none, rfl, s2, hD1⟩ ?_ ?_ ?_
        · rintro i σ H' hi ⟨y, rfl, s3, _⟩
          exact .inl (.inl (s3 _ _ hn1))
        · rintro i x σ H3 H4 hi ⟨y, rfl, s3, hl⟩ ⟨rfl, ex⟩
          rw [List.length_map] at hi
          rw [List.getElem?_map, List.getElem?_eq_getElem hi] at ex
          cases ex
          have hz := List.getElem?_eq_getElem hi
          have hm : (parcelsOnBelt h b)[i] ∈ parcelsOnBelt h b := List.getElem_mem hi
          generalize (parcelsOnBelt h b)[i] = m at hz hm ⊢
          obtain ⟨x, hx⟩ := (mem_onBelt w.f.ok).mp hm
          have f3 := w.f.mono (s1.trans s3)
          obtain ⟨dx3, hf3⟩ := f3.flo
          have hpos := front_pos.mp hx
          have hml : m < h.positions_.length := (List.getElem?_eq_some_iff.mp hpos).1
          have hps : m < F.ps.length := by rw [w.f.psLen]; exact hml
          obtain ⟨_, dx7, t7, k1, k2⟩ := f3.parGet (List.getElem?_eq_getElem hps)
          have epl : placeOfParcel h m = .on b x := by
            unfold placeOfParcel List.getD
            rw [hpos]
            rfl
          rw [epl] at k2
          refine ⟨_, rfl, .inl ⟨rfl, _, .inl (.inl hl)⟩, _, rfl, ?_⟩
          refine ⟨_, rfl, _, dx, _, _, rfl, (s1.trans s3) _ _ w.at_, rfl, _, dx3, _, _, rfl, hf3, rfl, _, rfl, F.pc, _, _, _, rfl, rfl, .inl (.inl f3.pcs), atI_nat (by rw [List.getElem?_map, List.getElem?_eq_getElem hps]; rfl), _, dx7, _, _, rfl, k1, rfl, t7, [.int 1, .int b, .int x], 2, .int x, rfl, rfl, k2.sq, rfl, ?_⟩
          refine ⟨(by show 2 ≤ sizeLine; decide), fun l hl2 => ?_⟩
          have s4 := Same.new (o := .lst [iV m, .int x]) hl2
          refine ⟨D, l, _, _, rfl, rfl, s4 _ _ hl, upd_same, ?_, _, rfl, Same.upd hD (s3.trans s4), ?_⟩
          · rw [List.length_map, List.length_cons, two_flat', List.length_take, sizeLine_eq]
            show _ + 2 ≤ _
            omega
          · rw [upd_same]
            have ef : frontN h m = natInt x := by
              unfold frontN
              rw [epl]
            rw [List.take_add_one, hz, List.flatMap_append]
            simp [iV, natInt, ef]
        · rintro σ H' ⟨y, rfl, s3, hl⟩
          rw [List.length_map, List.take_length] at hl
          exact ⟨_, rfl, q H' D (s1.trans s3) (s1.free hD) hl⟩
      · have h1' := of_decide_eq_false h1
        rw [List.length_map] at h1'
        cases ex : Xb08.inRange 0 (natInt h.plant.belts.length - 1) k with
        | false => rfl
        | true => exact absurd ((er _ ex).mpr rfl).2 h1'
    · rw [if_neg h0]
      refine ⟨_, _, rfl, (fun h1 => absurd h1 (by decide)), fun _ => q1 ?_⟩
      cases ex : Xb08.inRange 0 (natInt h.plant.belts.length - 1) k with
      | false => rfl
      | true => exact absurd ((er _ ex).mpr rfl).1 h0
end Tote
/-! # what a tick keeps of the places that have moved -/
namespace Tote
open PySem PySem.Spec PyProof.Rows L2 Tq
open Xb08 (Simulation Goal placeOfParcel parcelOf natInt parcelsOnBelt stepTick moveTo executePush advance feedParcel senseAt)
def MvIn (h : Simulation) : Prop := ∀ i ∈ h.moved, i < h.positions_.length
/-- the plant, the count of parcels and the tick stay, and so does the promise of the moved -/
structure Kp (h h' : Simulation) : Prop where
  pl : h'.plant = h.plant
  len : h'.positions_.length = h.positions_.length
  tk : h'.tick = h.tick
  mv : MvIn h → MvIn h'
theorem Kp.refl (h : Simulation) : Kp h h := ⟨rfl, rfl, rfl, id⟩
theorem Kp.trans {a b c : Simulation} (x : Kp a b) (y : Kp b c) : Kp a c := ⟨y.pl.trans x.pl, y.len.trans x.len, y.tk.trans x.tk, fun z => y.mv (x.mv z)⟩
theorem Kp.move (h : Simulation) {m : Nat} (gl : Goal) (hm : m < h.positions_.length) : Kp h (moveTo h m gl) := by
  have el : (moveTo h m gl).positions_.length = h.positions_.length := List.length_set
  refine ⟨rfl, el, rfl, fun z i hi => ?_⟩
  rw [el]
  rcases List.mem_cons.mp hi with rfl | hi
  · exact hm
  · exact z i hi
theorem place_lt {h : Simulation} {m b x : Nat} (e : placeOfParcel h m = .on b x) : m < h.positions_.length := by
  by_cases hm : m < h.positions_.length
  · exact hm
  · unfold placeOfParcel List.getD at e
    rw [List.getElem?_eq_none (by omega)] at e
    cases e
theorem Kp.exec (h : Simulation) (k : Nat) : Kp h (executePush h k) := by
  unfold executePush
  split
  · exact .refl h
  split
  · exact ⟨rfl, rfl, rfl, id⟩
  · rename_i m e
    have hm : m < h.positions_.length := (List.findIdx?_eq_some_iff_getElem.mp e).1
    split
    · have w := Kp.move h (by assumption : Xb08.Pusher).goal hm
      exact ⟨w.pl, w.len, w.tk, w.mv⟩
    · exact ⟨rfl, rfl, rfl, id⟩
theorem Kp.adv (h : Simulation) (m : Nat) : Kp h (advance h m) := by
  unfold advance
  split
  · exact .refl h
  split
  · rename_i e
    have hm := place_lt e
    split
    · exact .refl h
    split
    · split
      · exact Kp.move h _ hm
      · exact .refl h
    split
    · exact .refl h
    split
    · exact Kp.move h _ hm
    · exact .refl h
  · exact .refl h
theorem Kp.feed (h : Simulation) {m : Nat} (hm : m < h.positions_.length) : Kp h (feedParcel h m) := by
  unfold feedParcel
  split
  · split
    · exact Kp.move h _ hm
    · exact .refl h
  · exact .refl h
theorem Kp.sense (h : Simulation) (e : Nat) : Kp h (senseAt h e) := by
  unfold senseAt
  split
  · exact .refl h
  split
  · exact .refl h
  split
  · exact .refl h
  dsimp only
  split
  · exact ⟨rfl, rfl, rfl, id⟩
  split
  · exact ⟨rfl, rfl, rfl, id⟩
  · exact ⟨rfl, rfl, rfl, id⟩
theorem Kp.fold {α : Type} {f : Simulation → α → Simulation} (l : List α) (n : Nat) (hf : ∀ h a, a ∈ l → h.positions_.length = n → Kp h (f h a)) : ∀ h, h.positions_.length = n → Kp h (l.foldl f h) := by
  induction l with
  | nil => exact fun h _ => .refl h
  | cons a l ih =>
    intro h hn
    have w := hf h a List.mem_cons_self hn
    exact w.trans (ih (fun h' b hb => hf h' b (List.mem_cons_of_mem _ hb)) (f h a) (w.len.trans hn))
theorem step_keep (h : Simulation) : (stepTick h).plant = h.plant ∧ (stepTick h).positions_.length = h.positions_.length ∧ (stepTick h).tick = h.tick + 1 ∧ MvIn (stepTick h) := by
  have h1 : MvIn { h with tick := h.tick + 1, moved := [], scheduled := h.scheduled.filter fun d => d.1 != h.tick + 1 } := fun i hi => nomatch hi
  have k1 := Kp.fold (f := fun g (d : Nat × Nat) => executePush g d.2) (h.scheduled.filter fun d => d.1 == h.tick + 1) h.positions_.length (fun g d _ _ => Kp.exec g d.2) { h with tick := h.tick + 1, moved := [], scheduled := h.scheduled.filter fun d => d.1 != h.tick + 1 } rfl
  have k2 := Kp.fold (f := fun g b => (parcelsOnBelt g b).foldl advance g) (List.range (List.foldl (fun g (d : Nat × Nat) => executePush g d.2) { h with tick := h.tick + 1, moved := [], scheduled := h.scheduled.filter fun d => d.1 != h.tick + 1 } (h.scheduled.filter fun d => d.1 == h.tick + 1)).plant.belts.length) h.positions_.length
    (fun g b _ hn => Kp.fold _ _ (fun g' m _ _ => Kp.adv g' m) g hn) _ k1.len
  have k3 := (k1.trans k2)
  have k4 := Kp.fold (f := feedParcel) (List.range h.positions_.length) h.positions_.length (fun g m hm hn => Kp.feed g (by rw [hn]; exact List.mem_range.mp hm)) _ k3.len
  have k5 := k3.trans k4
  have k7 : Kp { h with tick := h.tick + 1, moved := [], scheduled := h.scheduled.filter fun d => d.1 != h.tick + 1 } (stepTick h) := by
    unfold stepTick
    dsimp only
    rw [k3.len]
    exact k5.trans (Kp.fold (f := senseAt) _ h.positions_.length (fun g m _ _ => Kp.sense g m) _ k5.len)
  exact ⟨k7.pl, k7.len, k7.tk, k7.mv h1⟩
end Tote
/-! # desk.py: run, run_until_done -/
namespace Tote
open PySem PySem.Spec PyProof.Rows L2 Tq
open SX (S S_inj S_len S_cat)
open Xb08 (Simulation Goal placeOfParcel parcelOf natInt parcelsOnBelt stepTick runTicks runUntilDone allDone)
variable {g : GG}
theorem DF.next {H H' R Rf : Hp} {d dx sc' : Addr} {F : FL} {h h' : Simulation} (w : DF g H R d dx F Rf h) (hs : Same R H) (f' : FloorAt g H' (F.wide H) { F with sc := sc' } h') (mv : MvOk h') : DF g H' R d dx { F with sc := sc' } (F.wide H) h' ∧ Same R H' := by
  have hw : Same R (F.wide H) := fun b o e => by
    unfold FL.wide
    rw [if_neg fun hm => by rw [(w.foot b hm).2] at e; cases e]
    exact hs b o e
  have hd : F.wide H d = some (.ins (cF g "Desk") dx (dkF (.ref F.fl))) := by
    unfold FL.wide
    rw [if_neg fun hm => (w.foot d hm).1 rfl]
    exact w.at_
  refine ⟨⟨f'.same _ _ hd, f', mv, fun a ha => ?_, w.li⟩, hw.trans f'.same⟩
  have := f'.out a ha
  refine ⟨?_, hw.free this⟩
  rintro rfl
  rw [hd] at this
  cases this
theorem DF.desk {H R Rf : Hp} {d dx : Addr} {F : FL} {h : Simulation} (w : DF g H R d dx F Rf h) (hs : Same R H) (ho : R d = none) : DeskAt g H R d (some h) := ⟨hs, ho, dx, F, Rf, w.at_, w.f, w.mv, w.foot, w.li⟩
theorem runTicks_succ (n : Nat) : ∀ h, runTicks (n + 1) h = stepTick (runTicks n h) := by
  induction n with
  | zero => exact fun h => rfl
  | succ n ih => exact fun h => ih (stepTick h)
theorem runTicks_keep (n : Nat) (h : Simulation) : (runTicks n h).plant = h.plant ∧ (runTicks n h).positions_.length = h.positions_.length ∧ (runTicks n h).tick = h.tick + n := by
  induction n with
  | zero => exact ⟨rfl, rfl, rfl⟩
  | succ n ih =>
    rw [runTicks_succ]
    obtain ⟨e1, e2, e3, _⟩ := step_keep (runTicks n h)
    exact ⟨e1.trans ih.1, e2.trans ih.2.1, by rw [e3, ih.2.2]; omega⟩
def ansRun (h : Simulation) : List Int := [natInt h.tick, natInt (Xb08.countOnBelts h), natInt (Xb08.countInChutes h), natInt h.scheduled.length]
def opRun (h : Simulation) (k : Int) : Simulation × Except Int (List Int) := if !Xb08.inRange 1 200 k then (h, .error (-2)) else (runTicks k.toNat h, .ok (ansRun (runTicks k.toNat h)))
def sp_Desk_run (g : GG) : Sp := fun vs H Q E => ∃ (d : Addr) (R : Hp) (h : Simulation) (k : Int), vs = [.ref d, .int k] ∧ DeskAt g H R d (some h) ∧ h.tick ≤ 90000 ∧ OpP g H Q E d R (opRun h k)
theorem in_of {a b z : Int} : (a ≤ z ∧ z ≤ b) = (Xb08.inRange a b z = true) := by
  unfold Xb08.inRange
  rw [Bool.and_eq_true, decide_eq_true_iff, decide_eq_true_iff]
theorem ref_chain {E : XK} {H : Hp} {a b : Prop} [Decidable a] [Decidable b] {x : Bool} (e : (a ∧ b) = (x = true)) {c : Int} {Qk : VK} (h1 : x = true → Qk .non H) (h2 : x = false → RFt g E H c) :
    if a then sp_refuse_unless g [.bl (decide b), .int c] H Qk E else sp_refuse_unless g [.bl false, .int c] H Qk E := by
  by_cases ha : a
  · rw [if_pos ha]
    refine ⟨_, _, rfl, fun z => h1 ?_, fun z => h2 ?_⟩
    · rw [← e]
      exact ⟨ha, of_decide_eq_true z⟩
    · cases x with
      | false => rfl
      | true => exact absurd (e.mpr rfl).2 (of_decide_eq_false z)
  · rw [if_neg ha]
    refine ⟨_, _, rfl, (fun z => absurd z (by decide)), fun z => h2 ?_⟩
    cases x with
    | false => rfl
    | true => exact absurd (e.mpr rfl).1 ha
theorem MvOk.run {h : Simulation} (m : MvOk h) : ∀ n, MvOk (runTicks n h)
  | 0 => m
  | n + 1 => by
    rw [runTicks_succ]
    exact (step_keep (runTicks n h)).2.2.2
theorem ok_Desk_run (T : Tx g) : Mt (L2.CX g.P g.w) g 8 "Desk" "run" ["self", "ticks"] (sp_Desk_run g) := by
  refine mtC (k := 7) T.cl_Desk T.me_Desk_run T.df_Desk_run sc_Desk_run (fun _ _ _ _ _ _ us hl => match us, hl with | [_, _], _ => rfl) ?_ ?_
  · rintro vs H Q E ⟨d, R, h, k, rfl, _⟩
    rfl
  · rintro cdv A outer s H vs Q E hr ⟨d, R, h, k, rfl, hd, ht, q⟩
    refine ⟨_, (pss_cons (ps_expr (pe_fx (ok_refuse_unless T) hr (by decide) pxC (pa_cons (pe_chain op_le op_le pe_int (pv 1) (C8.pe_gc rfl T.in_MOST_TICKS)) (pa_cons (C8.pe_gc rfl T.in_OUT_OF_RANGE) pa_nil)))) (pss_cons (ps_for (passes_of rfl) rfl (pi_range1 rfl T.fr_range (pa_cons (pv 1) pa_nil)) (pg_name (i := 2) sc_Desk_run.nd rfl (.inl rfl)) (pss_one (ps_expr (pe_mt0 (ok_Floor_do_tick T) hr (by decide) (pe_fc T.cl_Desk T.na_Desk_floor (pv 0)))))) (pss_one (ps_ret (pe_op op_cat (pe_op op_cat (pe_lst (pa_cons (pe_fc T.cl_Floor T.na_Floor_tick (pe_fc T.cl_Desk T.na_Desk_floor (pv 0))) pa_nil)) (pe_mt0 (ok_Desk_places T) hr (by decide) (pv 0))) (pe_lst (pa_cons (pe_callB call_lenS (by rfl) T.fr_len bt_len (pa_cons (pe_fc T.cl_Floor T.na_Floor_scheduled (pe_fc T.cl_Desk T.na_Desk_floor (pv 0))) pa_nil)) pa_nil))))))), ?_⟩
    obtain ⟨dx, F, Rf, w⟩ := hd.df
    simp only [rIxD, gSub, rSetL, sDPut, tDGet, tDIn, tDNotIn, wipe, rLenS, tBM, rAppend, rExtend, rIn, cx_K, rIxS, rIxL, rIxT, tRet, tIfS, tTest, tChain, rI, rI0, rU, tC, tVar, tOp, tUn, tCB, tCons, tNil, tSeq, tNext, tB, tNot, tAnd, tOr, tAndV, tOrV, tNotV, tFc, sFc, sFcA, tMt, tCl, tNw, tLst, tTup, tDrop, tAsg, tPar, gName, gCons, gNil, tR1, rEq, rNe, rAdd, rSub, tAug, ipI, L2.start, List.map, List.length, List.replicate, List.append, List.set, exists_eq_left', exists_eq_left, exists_eq_right, exists_eq_right', exists_and_left, exists_and_right, exists_eq, exists_eq', Option.some.injEq, List.getElem?_cons_zero, List.getElem?_cons_succ, V.bl.injEq, V.int.injEq, V.str.injEq, V.ref.injEq, List.cons_append, List.nil_append, List.cons.injEq, HO.ins.injEq, HO.lst.injEq, HO.tup.injEq, true_and, and_true, decide_eq_true_eq, Bool.false_eq_true, ↓reduceIte, Bool.not_true, Bool.not_false, Bool.not_eq_true', decide_eq_false_iff_not, List.set_cons_zero, List.set_cons_succ, and_assoc, scal, dec_int, dec_str, forall_const, implies_true, w.at_, dkF_get]
    refine ref_chain in_of (fun hx => ?_) fun hx => ?_
    · have hk : 1 ≤ k ∧ k ≤ 200 := by rw [in_of]; exact hx
      have q' : OpP g H Q E d R (runTicks k.toNat h, .ok (ansRun (runTicks k.toNat h))) := by
        unfold opRun at q
        rw [hx] at q
        exact q
      clear q
      obtain ⟨n, rfl⟩ : ∃ n : Nat, k = (n : Int) := ⟨k.toNat, by omega⟩
      rw [Int.toNat_natCast] at q'
      refine ⟨_, rfl, n, rfl, by omega, by omega, ?_⟩
      rw [Int.toNat_natCast]
      refine for_it walk_range (fun i σ H' => ∃ y sc, σ = [some (.ref d), some (.int n), y] ∧ ∃ Rf, DF g H' R d dx { F with sc := sc } Rf (runTicks i h) ∧ Same R H') ⟨none, F.sc, rfl, Rf, w, hd.same⟩ (fun _ _ _ _ _ => trivial) ?_ ?_
      · rintro i x σ H1 H' hi ⟨y, sc, rfl, Rf1, w1, s1⟩ ⟨rfl, rfl⟩
        obtain ⟨k1, k2, k3⟩ := runTicks_keep i h
        refine ⟨_, rfl, _, dx, _, _, rfl, w1.at_, rfl, _, w1.f.flo.choose, _, rfl, w1.f.flo.choose_spec, rfl, _, _, _, rfl, w1.f.full, by omega, fun H2 sc2 f2 => ?_⟩
        obtain ⟨w2, s2⟩ := w1.next s1 f2 (step_keep (runTicks i h)).2.2.2
        refine ⟨_, sc2, rfl, FL.wide { F with sc := sc } H', ?_, s2⟩
        rw [runTicks_succ]
        exact w2
      · rintro σ H1 ⟨y, sc, rfl, Rf1, w1, s1⟩
        obtain ⟨k1, k2, k3⟩ := runTicks_keep n h
        generalize runTicks n h = h1 at *
        obtain ⟨fx, hf⟩ := w1.f.flo
        refine ⟨_, rfl, _, dx, _, _, rfl, w1.at_, rfl, _, fx, _, _, rfl, hf, rfl, (by show 1 ≤ sizeLine; decide), fun l hl => ?_⟩
        have t1 := Same.new (o := .lst [.int (h1.tick : Nat)]) hl
        have hl1 : (upd H1 l (.lst [.int (h1.tick : Nat)])) l = some (.lst [.int (h1.tick : Nat)]) := upd_same
        generalize upd H1 l (.lst [.int (h1.tick : Nat)]) = H2 at t1 hl1
        have d1 := w1.desk s1 hd.out
        refine ⟨_, rfl, _, dx, _, rfl, t1 _ _ w1.at_, rfl, d, R, h1, rfl, d1.mono t1, fun H3 p t2 hp0 hp => ?_⟩
        refine ⟨l, p, _, _, rfl, rfl, t2 _ _ hl1, hp, (by show 3 ≤ sizeLine; decide), fun p2 hp2 => ?_⟩
        have t3 := Same.new (o := .lst ([.int (h1.tick : Nat)] ++ [(Xb08.countOnBelts h1 : Int), (Xb08.countInChutes h1 : Int)].map V.int)) hp2
        have t13 := (t1.trans t2).trans t3
        have w4 := w1.f.mono t13
        obtain ⟨fx4, hf4⟩ := w4.flo
        obtain ⟨ts, hsc, hf2⟩ := w4.sc
        have el : ts.length = h1.scheduled.length := hf2.len
        have hp2' : (upd H3 p2 (.lst ([.int (h1.tick : Nat)] ++ [(Xb08.countOnBelts h1 : Int), (Xb08.countInChutes h1 : Int)].map V.int))) p2 = some (.lst ([.int (h1.tick : Nat)] ++ [(Xb08.countOnBelts h1 : Int), (Xb08.countInChutes h1 : Int)].map V.int)) := upd_same
        generalize upd H3 p2 (.lst ([.int (h1.tick : Nat)] ++ [(Xb08.countOnBelts h1 : Int), (Xb08.countInChutes h1 : Int)].map V.int)) = H4 at *
        refine ⟨_, rfl, _, dx, _, _, rfl, t13 _ _ w1.at_, rfl, _, fx4, _, _, rfl, hf4, rfl, _, _, rfl, .inl (.inl (.inl hsc)), (by show 1 ≤ sizeLine; decide), fun l5 hl5 => ?_⟩
        have t5 := Same.new (o := .lst [.int ((ts.map V.ref).length : Nat)]) hl5
        refine ⟨p2, l5, _, _, rfl, rfl, t5 _ _ hp2', upd_same, (by show 4 ≤ sizeLine; decide), fun p6 hp6 => ?_⟩
        have t6 := Same.new (o := .lst (([.int (h1.tick : Nat)] ++ [(Xb08.countOnBelts h1 : Int), (Xb08.countInChutes h1 : Int)].map V.int) ++ [.int ((ts.map V.ref).length : Nat)])) hp6
        refine q' _ p6 (d1.mono (t13.trans (t5.trans t6))) ?_ ?_
        · rw [upd_same, List.length_map, el]
          rfl
        · exact (s1.trans (t13.trans t5)).free hp6
    · unfold opRun at q
      rw [hx] at q
      exact q
end Tote
/-! # desk.py: run_until_done -/
namespace Tote
open PySem PySem.Spec PyProof.Rows L2 Tq
open SX (S S_inj S_len S_cat)
open Xb08 (Simulation Goal placeOfParcel parcelOf natInt parcelsOnBelt stepTick runTicks runUntilDone allDone)
variable {g : GG}
theorem until_keep (n : Nat) : ∀ h : Simulation, (runUntilDone n h).plant = h.plant ∧ (runUntilDone n h).positions_.length = h.positions_.length ∧ (runUntilDone n h).tick ≤ h.tick + n := by
  induction n with
  | zero => exact fun h => ⟨rfl, rfl, Nat.le_refl _⟩
  | succ n ih =>
    intro h
    unfold runUntilDone
    split
    · exact ⟨rfl, rfl, by omega⟩
    · obtain ⟨e1, e2, e3, _⟩ := step_keep h
      obtain ⟨k1, k2, k3⟩ := ih (stepTick h)
      exact ⟨k1.trans e1, k2.trans e2, by omega⟩
theorem DF.mono {H H' R Rf : Hp} {d dx : Addr} {F : FL} {h : Simulation} (w : DF g H R d dx F Rf h) (s : Same H H') : DF g H' R d dx F Rf h := ⟨s _ _ w.at_, w.f.mono s, w.mv, w.foot, w.li⟩
theorem wh_it2 {c : TT} {tb : TS} {D : Ends} {σ : L2.St} {H : Hp} (W : Nat → L2.St → Hp → Prop) (Dn : L2.St → Hp → Prop) (m : Nat) (h0 : W m σ H) (tail : ∀ σ H, Dn σ H → D.nx σ H)
    (turn : ∀ m σ H, W m σ H → ∀ K : L2.St → Hp → Prop, (∀ σ H, Dn σ H → K σ H) → c σ H fun b H1 => if b = true then ∃ N : L2.St → Hp → Prop, (∀ σ' H', N σ' H' → ∃ m', m' < m ∧ W m' σ' H') ∧ tb { D with nx := N, ct := N, bk := D.nx } σ H1 else K σ H1) : tWhile c tb D σ H :=
  ⟨W, ⟨m, h0⟩, fun m σ H1 w => turn m σ H1 w D.nx tail⟩
def ansUntil (h : Simulation) : List Int := [if allDone h then 1 else 0, natInt h.tick, natInt (Xb08.countOnBelts h), natInt (Xb08.countInChutes h)]
def opUntil (h : Simulation) (k : Int) : Simulation × Except Int (List Int) := if !Xb08.inRange 1 200 k then (h, .error (-2)) else (runUntilDone k.toNat h, .ok (ansUntil (runUntilDone k.toNat h)))
def sp_Desk_run_until_done (g : GG) : Sp := fun vs H Q E => ∃ (d : Addr) (R : Hp) (h : Simulation) (k : Int), vs = [.ref d, .int k] ∧ DeskAt g H R d (some h) ∧ h.tick ≤ 90000 ∧ OpP g H Q E d R (opUntil h k)
theorem ok_Desk_run_until_done (T : Tx g) : Mt (L2.CX g.P g.w) g 8 "Desk" "run_until_done" ["self", "ticks"] (sp_Desk_run_until_done g) := by
  refine mtC (k := 7) T.cl_Desk T.me_Desk_run_until_done T.df_Desk_run_until_done sc_Desk_run_until_done (fun _ _ _ _ _ _ us hl => match us, hl with | [_, _], _ => rfl) ?_ ?_
  · rintro vs H Q E ⟨d, R, h, k, rfl, _⟩
    rfl
  · rintro cdv A outer s H vs Q E hr ⟨d, R, h, k, rfl, hd, ht, q⟩
    refine ⟨_, (pss_cons (ps_expr (pe_fx (ok_refuse_unless T) hr (by decide) pxC (pa_cons (pe_chain op_le op_le pe_int (pv 1) (C8.pe_gc rfl T.in_MOST_TICKS)) (pa_cons (C8.pe_gc rfl T.in_OUT_OF_RANGE) pa_nil)))) (pss_cons (ps_set (i := 2) sc_Desk_run_until_done.nd rfl (.inl rfl) (pv 1)) (pss_cons (ps_while (passes_of rfl) (PW.pt (pw_and (pt_cmpR op_gt (pv 2) pe_int (nomark _)) (pw_and1 (pt_not (pt_val (pe_mt0 (ok_Floor_is_done T) hr (by decide) (pe_fc T.cl_Desk T.na_Desk_floor (pv 0)))))))) (pss_cons (ps_expr (pe_mt0 (ok_Floor_do_tick T) hr (by decide) (pe_fc T.cl_Desk T.na_Desk_floor (pv 0)))) (pss_one (ps_aug (i := 2) sc_Desk_run_until_done.nd rfl (.inl rfl) pe_int ip_sub)))) (pss_one (ps_ret (pe_op op_cat (pe_lst (pa_cons (pe_callTy call_int1 (by rfl) T.fr_int bt_int (pa_cons (pe_mt0 (ok_Floor_is_done T) hr (by decide) (pe_fc T.cl_Desk T.na_Desk_floor (pv 0))) pa_nil)) (pa_cons (pe_fc T.cl_Floor T.na_Floor_tick (pe_fc T.cl_Desk T.na_Desk_floor (pv 0))) pa_nil))) (pe_mt0 (ok_Desk_places T) hr (by decide) (pv 0)))))))), ?_⟩
    obtain ⟨dx, F, Rf, w⟩ := hd.df
    simp only [rIxD, gSub, rSetL, sDPut, tDGet, tDIn, tDNotIn, wipe, rLenS, tBM, rAppend, rExtend, rIn, cx_K, rIxS, rIxL, rIxT, tRet, tIfS, tTest, tChain, rI, rI0, rU, tC, tVar, tOp, tUn, tCB, tCons, tNil, tSeq, tNext, tB, tNot, tAnd, tOr, tAndV, tOrV, tNotV, tFc, sFc, sFcA, tMt, tCl, tNw, tLst, tTup, tDrop, tAsg, tPar, gName, gCons, gNil, tR1, rEq, rNe, rAdd, rSub, tAug, ipI, L2.start, List.map, List.length, List.replicate, List.append, List.set, exists_eq_left', exists_eq_left, exists_eq_right, exists_eq_right', exists_and_left, exists_and_right, exists_eq, exists_eq', Option.some.injEq, List.getElem?_cons_zero, List.getElem?_cons_succ, V.bl.injEq, V.int.injEq, V.str.injEq, V.ref.injEq, List.cons_append, List.nil_append, List.cons.injEq, HO.ins.injEq, HO.lst.injEq, HO.tup.injEq, true_and, and_true, decide_eq_true_eq, Bool.false_eq_true, ↓reduceIte, Bool.not_true, Bool.not_false, Bool.not_eq_true', decide_eq_false_iff_not, List.set_cons_zero, List.set_cons_succ, and_assoc, scal, dec_int, dec_str, forall_const, implies_true, w.at_, dkF_get]
    refine ref_chain in_of (fun hx => ?_) fun hx => ?_
    · have hk : 1 ≤ k ∧ k ≤ 200 := by rw [in_of]; exact hx
      have q' : OpP g H Q E d R (runUntilDone k.toNat h, .ok (ansUntil (runUntilDone k.toNat h))) := by
        unfold opUntil at q
        rw [hx] at q
        exact q
      clear q
      obtain ⟨n, rfl⟩ : ∃ n : Nat, k = (n : Int) := ⟨k.toNat, by omega⟩
      rw [Int.toNat_natCast] at q'
      refine wh_it2 (fun m σ H' => ∃ h' sc Rf, σ = [some (.ref d), some (.int n), some (.int (m : Nat))] ∧ DF g H' R d dx { F with sc := sc } Rf h' ∧ Same R H' ∧ h'.tick + m ≤ h.tick + n ∧ runUntilDone m h' = runUntilDone n h)
        (fun σ H' => ∃ sc Rf v, σ = [some (.ref d), some (.int n), v] ∧ DF g H' R d dx { F with sc := sc } Rf (runUntilDone n h) ∧ Same R H') n ⟨h, F.sc, Rf, rfl, w, hd.same, Nat.le_refl _, rfl⟩ ?_ ?_
      · rintro σ H1 ⟨sc, Rf1, v, rfl, w1, s1⟩
        have hu := until_keep n h
        generalize runUntilDone n h = h1 at *
        simp only [rIxD, gSub, rSetL, sDPut, tDGet, tDIn, tDNotIn, wipe, rLenS, tBM, rAppend, rExtend, rIn, cx_K, rIxS, rIxL, rIxT, tRet, tIfS, tTest, tChain, rI, rI0, rU, tC, tVar, tOp, tUn, tCB, tCons, tNil, tSeq, tNext, tB, tNot, tAnd, tOr, tAndV, tOrV, tNotV, tFc, sFc, sFcA, tMt, tCl, tNw, tLst, tTup, tDrop, tAsg, tPar, gName, gCons, gNil, tR1, rEq, rNe, rAdd, rSub, tAug, ipI, L2.start, List.map, List.length, List.replicate, List.append, List.set, exists_eq_left', exists_eq_left, exists_eq_right, exists_eq_right', exists_and_left, exists_and_right, exists_eq, exists_eq', Option.some.injEq, List.getElem?_cons_zero, List.getElem?_cons_succ, V.bl.injEq, V.int.injEq, V.str.injEq, V.ref.injEq, List.cons_append, List.nil_append, List.cons.injEq, HO.ins.injEq, HO.lst.injEq, HO.tup.injEq, true_and, and_true, decide_eq_true_eq, Bool.false_eq_true, ↓reduceIte, Bool.not_true, Bool.not_false, Bool.not_eq_true', decide_eq_false_iff_not, List.set_cons_zero, List.set_cons_succ, and_assoc, scal, dec_int, dec_str, forall_const, implies_true, w1.at_, dkF_get]
        obtain ⟨fx, hf⟩ := w1.f.flo
        have d1 := w1.desk s1 hd.out
        refine ⟨fx, _, hf, rfl, Rf1, { F with sc := sc }, h1, rfl, w1.f, fun H2 t2 => .inr ⟨_, rfl, dx, _, t2 _ _ w1.at_, _, rfl, _, rfl, fx, _, t2 _ _ hf, _, rfl, (by show 2 ≤ sizeLine; decide), fun l hl => ?_⟩⟩
        have t3 := t2.trans (Same.new (o := .lst [.int (if allDone h1 = true then 1 else 0), .int (h1.tick : Nat)]) hl)
        have hl3 : (upd H2 l (.lst [.int (if allDone h1 = true then 1 else 0), .int (h1.tick : Nat)])) l = some (.lst [.int (if allDone h1 = true then 1 else 0), .int (h1.tick : Nat)]) := upd_same
        generalize upd H2 l (.lst [.int (if allDone h1 = true then 1 else 0), .int (h1.tick : Nat)]) = H3 at t3 hl3
        refine ⟨dx, _, t3 _ _ w1.at_, rfl, d, R, h1, rfl, d1.mono t3, fun H4 p t4 hp0 hp => ?_⟩
        refine ⟨l, p, _, _, rfl, rfl, t4 _ _ hl3, hp, (by show 4 ≤ sizeLine; decide), fun p2 hp2 => ?_⟩
        have t5 := (t3.trans t4).trans (Same.new (o := .lst ([.int (if allDone h1 = true then 1 else 0), .int (h1.tick : Nat)] ++ [(Xb08.countOnBelts h1 : Int), (Xb08.countInChutes h1 : Int)].map V.int)) hp2)
        refine q' _ p2 (d1.mono t5) ?_ ?_
        · rw [upd_same]
          rfl
        · exact (s1.trans (t3.trans t4)).free hp2
      · rintro m σ H1 ⟨h1, sc, Rf1, rfl, w1, s1, htm, er⟩ K hK
        simp only [rIxD, gSub, rSetL, sDPut, tDGet, tDIn, tDNotIn, wipe, rLenS, tBM, rAppend, rExtend, rIn, cx_K, rIxS, rIxL, rIxT, tRet, tIfS, tTest, tChain, rI, rI0, rU, tC, tVar, tOp, tUn, tCB, tCons, tNil, tSeq, tNext, tB, tNot, tAnd, tOr, tAndV, tOrV, tNotV, tFc, sFc, sFcA, tMt, tCl, tNw, tLst, tTup, tDrop, tAsg, tPar, gName, gCons, gNil, tR1, rEq, rNe, rAdd, rSub, tAug, ipI, L2.start, List.map, List.length, List.replicate, List.append, List.set, exists_eq_left', exists_eq_left, exists_eq_right, exists_eq_right', exists_and_left, exists_and_right, exists_eq, exists_eq', Option.some.injEq, List.getElem?_cons_zero, List.getElem?_cons_succ, V.bl.injEq, V.int.injEq, V.str.injEq, V.ref.injEq, List.cons_append, List.nil_append, List.cons.injEq, HO.ins.injEq, HO.lst.injEq, HO.tup.injEq, true_and, and_true, decide_eq_true_eq, Bool.false_eq_true, ↓reduceIte, Bool.not_true, Bool.not_false, Bool.not_eq_true', decide_eq_false_iff_not, List.set_cons_zero, List.set_cons_succ, and_assoc, scal, dec_int, dec_str, forall_const, implies_true, w1.at_, dkF_get]
        obtain ⟨fx, hf⟩ := w1.f.flo
        cases m with
        | zero =>
          rw [if_neg (by omega)]
          refine hK _ _ ⟨sc, Rf1, _, rfl, ?_, s1⟩
          rw [← er]
          exact w1
        | succ m =>
          rw [if_pos (by omega)]
          rw [show runUntilDone (m + 1) h1 = (if allDone h1 = true then h1 else runUntilDone m (stepTick h1)) from rfl] at er
          refine ⟨fx, _, hf, rfl, Rf1, { F with sc := sc }, h1, rfl, w1.f, fun H2 t2 => ⟨_, rfl, ?_⟩⟩
          have w2 := w1.mono t2
          cases ha : allDone h1 with
          | true =>
            rw [if_neg (by decide)]
            rw [ha, if_pos rfl] at er
            refine hK _ _ ⟨sc, Rf1, _, rfl, ?_, s1.trans t2⟩
            rw [← er]
            exact w2
          | false =>
            rw [if_pos rfl]
            rw [ha, if_neg (by decide)] at er
            refine ⟨fun σ' H' => ∃ sc, σ' = [some (.ref d), some (.int n), some (.int (m : Nat))] ∧ (∃ Rf, DF g H' R d dx { F with sc := sc } Rf (stepTick h1)) ∧ Same R H', ?_, dx, _, w2.at_, _, rfl, _, rfl, fx, _, t2 _ _ hf, rfl, _, { F with sc := sc }, _, rfl, w2.f.full, by omega, fun H3 sc3 f3 => ?_⟩
            · rintro σ' H' ⟨sc', rfl, ⟨Rf', w'⟩, s'⟩
              refine ⟨m, by omega, rfl, _, ⟨sc', Rf', w'⟩, s', ?_, er⟩
              rw [(step_keep h1).2.2.1]
              omega
            · obtain ⟨w3, s3⟩ := w2.next (s1.trans t2) f3 (step_keep h1).2.2.2
              refine ⟨sc3, ?_, ⟨_, w3⟩, s3⟩
              rw [(by omega : ((m + 1 : Nat) : Int) - 1 = (m : Nat))]
    · unfold opUntil at q
      rw [hx] at q
      exact q
end Tote
/-! # desk.py: feed -/
namespace Tote
open PySem PySem.Spec PyProof.Rows L2 Tq
open SX (S S_inj S_len S_cat)
open Xb08 (Simulation Goal placeOfParcel parcelOf natInt parcelsOnBelt stepTick inRange)
variable {g : GG}
theorem ref_chainL {E : XK} {H : Hp} {a : Prop} [Decidable a] {p : Addr} {xs : List V} (hs : SqL g.K H p xs) {b : Int} {x : Bool} (e : (a ∧ b < (xs.length : Int)) = (x = true)) {c : Int} {Qk : VK} (h1 : x = true → Qk .non H) (h2 : x = false → RFt g E H c) :
    if a then ∃ l, (SqL g.K H p l ∨ SqT g.K H p l) ∧ sp_refuse_unless g [.bl (decide (b < (l.length : Int))), .int c] H Qk E else sp_refuse_unless g [.bl false, .int c] H Qk E := by
  have := ref_chain (g := g) (E := E) (H := H) (Qk := Qk) (c := c) e h1 h2
  split at this
  · rename_i ha
    rw [if_pos ha]
    exact ⟨xs, .inl hs, this⟩
  · rename_i ha
    rw [if_neg ha]
    exact this
theorem DF.next2 {H H' R Rf : Hp} {d dx : Addr} {F F' : FL} {h h' : Simulation} (w : DF g H R d dx F Rf h) (hs : Same R H) (e : F'.fl = F.fl) (eL : F'.L = F.L) (f' : FloorAt g H' (F.wide H) F' h') (mv : MvOk h') : DF g H' R d dx F' (F.wide H) h' ∧ Same R H' := by
  have hw : Same R (F.wide H) := fun b o e => by
    unfold FL.wide
    rw [if_neg fun hm => by rw [(w.foot b hm).2] at e; cases e]
    exact hs b o e
  have hd : F.wide H d = some (.ins (cF g "Desk") dx (dkF (.ref F.fl))) := by
    unfold FL.wide
    rw [if_neg fun hm => (w.foot d hm).1 rfl]
    exact w.at_
  refine ⟨⟨by rw [e]; exact f'.same _ _ hd, f', mv, fun a ha => ?_, by rw [eL]; exact w.li⟩, hw.trans f'.same⟩
  have := f'.out a ha
  refine ⟨?_, hw.free this⟩
  rintro rfl
  rw [hd] at this
  cases this
def fedS (h : Simulation) (y : Xb08.Parcel) : Simulation := { h with plant := { h.plant with parcels := h.plant.parcels ++ [y] }, positions_ := h.positions_ ++ [.notFed] }
def opFeed (h : Simulation) (b c x t : Int) : Simulation × Except Int (List Int) := if !inRange 0 (natInt h.plant.belts.length - 1) b || !inRange 0 9999 c || !inRange 1 5 x || !inRange 0 9999 t then (h, .error (-2)) else if 40 ≤ h.plant.parcels.length then (h, .error (-5)) else
  (fedS h ⟨c.toNat, x.toNat, b.toNat, t.toNat⟩, .ok [natInt h.plant.parcels.length])
def sp_Desk_feed (g : GG) : Sp := fun vs H Q E => ∃ (d : Addr) (R : Hp) (h : Simulation) (b c x t : Int), vs = [.ref d, .int b, .int c, .int x, .int t] ∧ DeskAt g H R d (some h) ∧ OpP g H Q E d R (opFeed h b c x t)
theorem ok_Desk_feed (T : Tx g) : Mt (L2.CX g.P g.w) g 4 "Desk" "feed" ["self", "belt", "code", "length", "tick"] (sp_Desk_feed g) := by
  refine mtC (k := 3) T.cl_Desk T.me_Desk_feed T.df_Desk_feed sc_Desk_feed (fun _ _ _ _ _ _ us hl => match us, hl with | [_, _, _, _, _], _ => rfl) ?_ ?_
  · rintro vs H Q E ⟨d, R, h, b, c, x, t, rfl, _⟩
    rfl
  · rintro cdv A outer s H vs Q E hr ⟨d, R, h, b, c, x, t, rfl, hd, q⟩
    refine ⟨_, (pss_cons (ps_expr (pe_fx (ok_refuse_unless T) hr (by decide) pxC (pa_cons (pe_chain op_le op_lt pe_int (pv 1) (pe_callB call_lenS (by rfl) T.fr_len bt_len (pa_cons (pe_fc T.cl_Plant T.na_Plant_lengths (pe_fc T.cl_Floor T.na_Floor_plant (pe_fc T.cl_Desk T.na_Desk_floor (pv 0)))) pa_nil))) (pa_cons (C8.pe_gc rfl T.in_OUT_OF_RANGE) pa_nil)))) (pss_cons (ps_expr (pe_fx (ok_refuse_unless T) hr (by decide) pxC (pa_cons (pe_chain op_le op_le pe_int (pv 2) (C8.pe_gc rfl T.in_MOST_NUMBER)) (pa_cons (C8.pe_gc rfl T.in_OUT_OF_RANGE) pa_nil)))) (pss_cons (ps_expr (pe_fx (ok_refuse_unless T) hr (by decide) pxC (pa_cons (pe_chain op_le op_le pe_int (pv 3) (C8.pe_gc rfl T.in_LONGEST_PARCEL)) (pa_cons (C8.pe_gc rfl T.in_OUT_OF_RANGE) pa_nil)))) (pss_cons (ps_expr (pe_fx (ok_refuse_unless T) hr (by decide) pxC (pa_cons (pe_chain op_le op_le pe_int (pv 4) (C8.pe_gc rfl T.in_MOST_NUMBER)) (pa_cons (C8.pe_gc rfl T.in_OUT_OF_RANGE) pa_nil)))) (pss_cons (ps_set (i := 5) sc_Desk_feed.nd rfl (.inl rfl) (pe_callB call_lenS (by rfl) T.fr_len bt_len (pa_cons (pe_fc T.cl_Floor T.na_Floor_parcels (pe_fc T.cl_Desk T.na_Desk_floor (pv 0))) pa_nil))) (pss_cons (ps_expr (pe_fx (ok_refuse_unless T) hr (by decide) pxC (pa_cons (pe_cmpR op_lt (pv 5) (C8.pe_gc rfl T.in_MOST_PARCELS) (nomark _)) (pa_cons (C8.pe_gc rfl T.in_NO_ROOM) pa_nil)))) (pss_cons (ps_expr (pe_mt (ok_Floor_put_parcel T) hr (by decide) (pe_fc T.cl_Desk T.na_Desk_floor (pv 0)) (pa_cons (pe_tup (pa_cons (pv 1) (pa_cons (pv 2) (pa_cons (pv 3) (pa_cons (pv 4) pa_nil))))) pa_nil))) (pss_one (ps_ret (pe_lst (pa_cons (pv 5) pa_nil))))))))))), ?_⟩
    obtain ⟨dx, F, Rf, w⟩ := hd.df
    obtain ⟨fx, hf⟩ := w.f.flo
    obtain ⟨px, pi⟩ := (w.f.pla.same w.f.same).ins
    have hle : LeAt H F.L.le h.plant.belts := (w.f.pla.same w.f.same).le
    have eb : (0 ≤ b ∧ b < (h.plant.belts.length : Int)) = (inRange 0 (natInt h.plant.belts.length - 1) b = true) := by
      rw [← in_of, natInt, eq_iff_iff]
      omega
    simp only [rIxD, gSub, rSetL, sDPut, tDGet, tDIn, tDNotIn, wipe, rLenS, tBM, rAppend, rExtend, rIn, cx_K, rIxS, rIxL, rIxT, tRet, tIfS, tTest, tChain, rI, rI0, rU, tC, tVar, tOp, tUn, tCB, tCons, tNil, tSeq, tNext, tB, tNot, tAnd, tOr, tAndV, tOrV, tNotV, tFc, sFc, sFcA, tMt, tCl, tNw, tLst, tTup, tDrop, tAsg, tPar, gName, gCons, gNil, tR1, rEq, rNe, rAdd, rSub, tAug, ipI, L2.start, List.map, List.length, List.replicate, List.append, List.set, exists_eq_left', exists_eq_left, exists_eq_right, exists_eq_right', exists_and_left, exists_and_right, exists_eq, exists_eq', Option.some.injEq, List.getElem?_cons_zero, List.getElem?_cons_succ, V.bl.injEq, V.int.injEq, V.str.injEq, V.ref.injEq, List.cons_append, List.nil_append, List.cons.injEq, HO.ins.injEq, HO.lst.injEq, HO.tup.injEq, true_and, and_true, decide_eq_true_eq, Bool.false_eq_true, ↓reduceIte, Bool.not_true, Bool.not_false, Bool.not_eq_true', decide_eq_false_iff_not, List.set_cons_zero, List.set_cons_succ, and_assoc, scal, dec_int, dec_str, forall_const, implies_true, w.at_, dkF_get, hf, flF_get, pi, PL.fs, plF_get]
    refine ref_chainL (.inl (.inl hle)) (by rw [List.length_map]; exact eb) (fun h1 => ?_) fun h1 => ?_
    rotate_left
    · unfold opFeed at q
      rw [h1] at q
      exact q
    refine ref_chain in_of (fun h2 => ?_) fun h2 => ?_
    rotate_left
    · unfold opFeed at q
      rw [h1, h2] at q
      exact q
    refine ref_chain in_of (fun h3 => ?_) fun h3 => ?_
    rotate_left
    · unfold opFeed at q
      rw [h1, h2, h3] at q
      exact q
    refine ref_chain in_of (fun h4 => ?_) fun h4 => ?_
    rotate_left
    · unfold opFeed at q
      rw [h1, h2, h3, h4] at q
      exact q
    unfold opFeed at q
    rw [h1, h2, h3, h4, if_neg (by decide)] at q
    rw [← eb] at h1
    rw [← in_of] at h2 h3 h4
    have hpl : F.ps.length = h.plant.parcels.length := w.f.psLen.trans w.f.ok.len.symm
    refine ⟨dx, _, w.at_, _, rfl, _, rfl, fx, _, hf, _, rfl, F.pc, rfl, _, .inl (.inl (.inl w.f.pcs)), ?_⟩
    refine ⟨_, _, rfl, fun h5 => ?_, fun h5 => ?_⟩
    rotate_left
    · have h6 := of_decide_eq_false h5
      rw [List.length_map, hpl] at h6
      rw [if_pos (by omega)] at q
      exact q
    · have h6 := of_decide_eq_true h5
      rw [List.length_map, hpl] at h6
      rw [if_neg (by omega)] at q
      simp only [rIxD, gSub, rSetL, sDPut, tDGet, tDIn, tDNotIn, wipe, rLenS, tBM, rAppend, rExtend, rIn, cx_K, rIxS, rIxL, rIxT, tRet, tIfS, tTest, tChain, rI, rI0, rU, tC, tVar, tOp, tUn, tCB, tCons, tNil, tSeq, tNext, tB, tNot, tAnd, tOr, tAndV, tOrV, tNotV, tFc, sFc, sFcA, tMt, tCl, tNw, tLst, tTup, tDrop, tAsg, tPar, gName, gCons, gNil, tR1, rEq, rNe, rAdd, rSub, tAug, ipI, L2.start, List.map, List.length, List.replicate, List.append, List.set, exists_eq_left', exists_eq_left, exists_eq_right, exists_eq_right', exists_and_left, exists_and_right, exists_eq, exists_eq', Option.some.injEq, List.getElem?_cons_zero, List.getElem?_cons_succ, V.bl.injEq, V.int.injEq, V.str.injEq, V.ref.injEq, List.cons_append, List.nil_append, List.cons.injEq, HO.ins.injEq, HO.lst.injEq, HO.tup.injEq, true_and, and_true, decide_eq_true_eq, Bool.false_eq_true, ↓reduceIte, Bool.not_true, Bool.not_false, Bool.not_eq_true', decide_eq_false_iff_not, List.set_cons_zero, List.set_cons_succ, and_assoc, scal, dec_int, dec_str, forall_const, implies_true, w.at_, dkF_get, hf, flF_get, pi, PL.fs, plF_get]
      obtain ⟨b, rfl⟩ : ∃ n : Nat, b = (n : Int) := ⟨b.toNat, by omega⟩
      obtain ⟨c, rfl⟩ : ∃ n : Nat, c = (n : Int) := ⟨c.toNat, by omega⟩
      obtain ⟨x, rfl⟩ : ∃ n : Nat, x = (n : Int) := ⟨x.toNat, by omega⟩
      obtain ⟨t, rfl⟩ : ∃ n : Nat, t = (n : Int) := ⟨t.toNat, by omega⟩
      simp only [Int.toNat_natCast] at q
      refine ⟨(by show 4 ≤ sizeLine; decide), fun p hp => ?_⟩
      have s1 := Same.new (o := .tup [.int (b : Nat), .int (c : Nat), .int (x : Nat), .int (t : Nat)]) hp
      have hp1 : (upd H p (.tup [.int (b : Nat), .int (c : Nat), .int (x : Nat), .int (t : Nat)])) p = some (.tup [.int (b : Nat), .int (c : Nat), .int (x : Nat), .int (t : Nat)]) := upd_same
      generalize upd H p (.tup [.int (b : Nat), .int (c : Nat), .int (x : Nat), .int (t : Nat)]) = H1 at s1 hp1
      have w1 := w.mono s1
      have hn : h.positions_.length = h.plant.parcels.length := w.f.ok.len.symm
      refine ⟨F.wide H1, F, h, p, ⟨c, x, b, t⟩, rfl, w1.f.full, hp1, by omega, w.mv, (by show b < _; omega), (by show 1 ≤ x; omega), (by show x ≤ 5; omega), fun H2 a f2 => ⟨(by show 1 ≤ sizeLine; decide), fun p2 hp2 => ?_⟩⟩
      obtain ⟨w2, s2⟩ := w1.next2 (F' := { F with ps := F.ps ++ [a] }) (h' := fedS h ⟨c, x, b, t⟩) (hd.same.trans s1) rfl rfl f2 (fun i hi => by
        have := w.mv i hi
        show i < (h.positions_ ++ [Xb08.Place.notFed]).length
        rw [List.length_append]
        omega)
      have t3 := Same.new (o := .lst [.int ((F.ps.map V.ref).length : Nat)]) hp2
      refine q _ p2 ((w2.desk s2 hd.out).mono t3) ?_ (s2.free hp2)
      rw [upd_same, List.length_map, hpl]
      rfl
end Tote
/-! # desk.py: a store into the desk -/
namespace Tote
open PySem PySem.Spec PyProof.Rows L2 Tq
open SX (S S_inj S_len S_cat)
open Xb08 (Simulation Goal placeOfParcel parcelOf natInt parcelsOnBelt stepTick inRange)
variable {g : GG}
/-- lists and tuples stay -/
def Lts (H H' : Hp) : Prop := (∀ b xs, H b = some (.lst xs) → H' b = some (.lst xs)) ∧ ∀ b xs, H b = some (.tup xs) → H' b = some (.tup xs)
theorem PlantF.cut {H H' : Hp} {L : PL} {p : Xb08.Plant} (h : PlantF g H L p) (s : Lts H H') (hp : ∀ dx, H L.pl = some (.ins (cF g "Plant") dx L.fs) → H' L.pl = some (.ins (cF g "Plant") dx L.fs)) : PlantF g H' L p := by
  obtain ⟨sl, st⟩ := s
  refine ⟨?_, sl _ _ h.le, ?_, sl _ _ h.ro, ?_, ?_, ?_⟩
  · obtain ⟨dx, e⟩ := h.ins
    exact ⟨dx, hp dx e⟩
  · obtain ⟨vs, e1, e2⟩ := h.go
    refine ⟨vs, sl _ _ e1, e2.imp fun v b _ _ r => ?_⟩
    cases e : b.goal with
    | none => rw [e] at r; exact r
    | some gl =>
      rw [e] at r
      obtain ⟨t, e3, e4⟩ := r
      exact ⟨t, e3, st _ _ e4⟩
  · obtain ⟨ts, e1, e2⟩ := h.ey
    exact ⟨ts, sl _ _ e1, e2.imp fun _ _ _ _ r => st _ _ r⟩
  · obtain ⟨ts, e1, e2⟩ := h.pu
    refine ⟨ts, sl _ _ e1, e2.imp fun _ _ _ _ r => ?_⟩
    obtain ⟨t2, r1, r2⟩ := r
    exact ⟨t2, st _ _ r1, st _ _ r2⟩
  · obtain ⟨ts, e1, e2⟩ := h.ru
    refine ⟨ts, sl _ _ e1, e2.imp fun _ _ _ _ r => ?_⟩
    obtain ⟨l, r1, r2, qs, r3, r4⟩ := r
    exact ⟨l, r1, st _ _ r2, qs, sl _ _ r3, r4.imp fun _ _ _ _ r => st _ _ r⟩
theorem dk_pl {L : PL} {v : V} : ¬ (L.fs = dkF v) := by
  unfold PL.fs plF dkF
  intro e
  have := congrArg List.length e
  revert this
  simp
/-- a store into the desk keeps a plant -/
theorem PlantF.desk {H : Hp} {L : PL} {p : Xb08.Plant} {d : Addr} {C dx : Addr} {v : V} {o : HO} (h : PlantF g H L p) (hd : H d = some (.ins C dx (dkF v))) : PlantF g (upd H d o) L p := by
  refine h.cut ⟨fun b xs e => ?_, fun b xs e => ?_⟩ fun dy e => ?_
  · rw [upd_ne (by rintro rfl; rw [hd] at e; cases e)]
    exact e
  · rw [upd_ne (by rintro rfl; rw [hd] at e; cases e)]
    exact e
  · rw [upd_ne]
    · exact e
    · intro z
      rw [z, hd] at e
      have e2 := Option.some.inj e
      injection e2 with _ _ e3
      exact dk_pl e3.symm
/-- a store into the desk keeps a floor -/
theorem FloorAt.desk {H R : Hp} {F : FL} {h : Simulation} {d : Addr} {C dx : Addr} {v : V} {o : HO} (f : FloorAt g H R F h) (hd : H d = some (.ins C dx (dkF v))) (hn : d ∉ F.foot) : FloorAt g (upd H d o) (upd R d o) F h := by
  have s' : Sta (fun b => b = d) H (upd H d o) := Sta.of_upd
  have n : NoT (fun b => b = d) H := fun b ys e => by
    subst e
    rw [hd]
    intro z
    cases z
  have nl : ∀ a ∈ F.lists, ¬ a = d := fun a ha e => hn (e ▸ List.mem_append_left _ ha)
  have ni : ∀ a ∈ F.inss, ¬ a = d := fun a ha e => hn (e ▸ List.mem_append_right _ ha)
  obtain ⟨l1, l2, l3, l4, l5, l6⟩ := FL.in_lists (F := F)
  have hp : PlantF g (upd R d o) F.L h.plant := by
    cases e : R d with
    | none => exact f.pla.same (Same.new e)
    | some o' =>
      have := f.same _ _ e
      rw [hd] at this
      exact f.pla.desk (e.trans this.symm)
  refine ⟨fun b u e => ?_, hp, fun a ha => ?_, f.ndl, f.ndi, f.flo.st s' n (ni _ List.mem_cons_self), f.sc.st s' n (nl _ l1), s' _ _ (nl _ l2) f.pcs, f.par.st s' n (fun a ha => ni a (List.mem_cons_of_mem _ ha)), f.se.st s' n (nl _ l3), f.fi.st s' n (nl _ l4), f.dn.st s' n (nl _ l5), f.mi.st s' n (nl _ l6), f.ok⟩
  · by_cases eb : b = d
    · subst eb
      rw [upd_same] at e ⊢
      exact e
    · rw [upd_ne eb] at e ⊢
      exact f.same _ _ e
  · rw [upd_ne (by rintro rfl; exact hn ha)]
    exact f.out a ha
end Tote
/-! # desk.py: reset -/
namespace Tote
open PySem PySem.Spec PyProof.Rows L2 Tq
open SX (S S_inj S_len S_cat)
open Xb08 (Simulation Goal placeOfParcel parcelOf natInt parcelsOnBelt stepTick inRange)
variable {g : GG}
def opReset (h : Simulation) : Simulation × Except Int (List Int) := (Xb08.initial h.plant, .ok [natInt h.plant.parcels.length])
def sp_Desk_reset (g : GG) : Sp := fun vs H Q E => ∃ (d : Addr) (R : Hp) (h : Simulation), vs = [.ref d] ∧ DeskAt g H R d (some h) ∧ OpP g H Q E d R (opReset h)
theorem ok_Desk_reset (T : Tx g) : Mt CX0 g 5 "Desk" "reset" ["self"] (sp_Desk_reset g) := by
  refine mt0 (k := 4) T.cl_Desk T.me_Desk_reset T.df_Desk_reset sc_Desk_reset (fun _ _ _ _ _ _ us hl => match us, hl with | [_], _ => rfl) ?_ ?_
  · rintro vs H Q E ⟨d, R, h, rfl, _⟩
    rfl
  · rintro cdv A outer s H vs Q E hr ⟨d, R, h, rfl, hd, q⟩
    refine ⟨_, (pss_cons (ps_setLc (i := 1) (own := [("parcel", 2)]) (g := (gName 2)) (te := (tMt (cF g "Parcel") "told" (sp_Parcel_told g) E0 (tVar 2) tNil)) rfl sc_Desk_reset.nd rfl rfl (sw_true rfl rfl rfl (by decide +kernel)) (pi_list (pe_fc T.cl_Floor T.na_Floor_parcels (pe_fc T.cl_Desk T.na_Desk_floor (pv 0)))) (blkOk_by (N := ["self", "rows", "parcel"]) (sc := defScope s_Desk_reset) (by decide +kernel)) (fun _ _ _ _ _ => (pg_name (i := 2) sc_Desk_reset.nd rfl (.inl rfl))) (fun _ _ _ _ _ => pts_nil) (fun _ _ _ _ _ => (pe_mt0 (ok_Parcel_told T) hr (by decide) (pv 2)))) (pss_cons (ps_fc T.cl_Desk T.na_Desk_floor (pv 0) (pe_nw (ok_Floor_init T) hr (by decide) (pa_cons (pe_fc T.cl_Floor T.na_Floor_plant (pe_fc T.cl_Desk T.na_Desk_floor (pv 0))) (pa_cons (pv 1) pa_nil)))) (pss_one (ps_ret (pe_lst (pa_cons (pe_callB call_lenS (by rfl) T.fr_len bt_len (pa_cons (pv 1) pa_nil)) pa_nil)))))), ?_⟩
    obtain ⟨dx, F, Rf, w⟩ := hd.df
    obtain ⟨fx, hf⟩ := w.f.flo
    have hn := w.f.nLe
    simp only [rIxD, gSub, rSetL, sDPut, tDGet, tDIn, tDNotIn, wipe, rLenS, tBM, rAppend, rExtend, rIn, cx_K, rIxS, rIxL, rIxT, tRet, tIfS, tTest, tChain, rI, rI0, rU, tC, tVar, tOp, tUn, tCB, tCons, tNil, tSeq, tNext, tB, tNot, tAnd, tOr, tAndV, tOrV, tNotV, tFc, sFc, sFcA, tMt, tCl, tNw, tLst, tTup, tDrop, tAsg, tPar, gName, gCons, gNil, tR1, rEq, rNe, rAdd, rSub, tAug, ipI, L2.start, List.map, List.length, List.replicate, List.append, List.set, exists_eq_left', exists_eq_left, exists_eq_right, exists_eq_right', exists_and_left, exists_and_right, exists_eq, exists_eq', Option.some.injEq, List.getElem?_cons_zero, List.getElem?_cons_succ, V.bl.injEq, V.int.injEq, V.str.injEq, V.ref.injEq, List.cons_append, List.nil_append, List.cons.injEq, HO.ins.injEq, HO.lst.injEq, HO.tup.injEq, true_and, and_true, decide_eq_true_eq, Bool.false_eq_true, ↓reduceIte, Bool.not_true, Bool.not_false, Bool.not_eq_true', decide_eq_false_iff_not, List.set_cons_zero, List.set_cons_succ, and_assoc, scal, dec_int, dec_str, forall_const, implies_true, w.at_, dkF_get, hf, flF_get]
    have epl : h.plant.parcels.length = h.positions_.length := w.f.ok.len
    refine ⟨_, rfl, _, dx, _, _, rfl, w.at_, rfl, _, fx, _, _, rfl, hf, rfl, F.pc, rfl, ⟨_, .inl (.inl w.f.pcs)⟩, fun D hD => ?_⟩
    refine lc_it (walk_list (xs := F.ps.map .ref)) (fun i H' => ∃ us : List Addr, Same H H' ∧ H' D = some (.lst (us.map .ref)) ∧ F2 (fun t (y : Xb08.Parcel) => H' t = some (.tup (parT y))) us (h.plant.parcels.take i)) ⟨[], Same.new hD, upd_same, F2.nil⟩ ?_ ?_ ?_
    · rintro i H' hi ⟨us, s2, _⟩
      exact .inl (.inl (s2 _ _ w.f.pcs))
    · rintro i x H5 H6 hi ⟨us, s2, hl, hF⟩ ⟨rfl, ex⟩
      rw [List.length_map] at hi
      rw [List.getElem?_map, List.getElem?_eq_getElem hi] at ex
      cases ex
      have f6 := w.f.mono s2
      obtain ⟨hlt, k⟩ := f6.parGet (List.getElem?_eq_getElem hi)
      have hy : h.plant.parcels[i]? = some (parcelOf h i) := by
        unfold parcelOf List.getD
        rw [List.getElem?_eq_getElem (by omega)]
        rfl
      obtain ⟨dx7, t7, k1, k2⟩ := k
      refine ⟨rfl, yesI ?_⟩
      refine ⟨_, rfl, _, dx7, _, rfl, k1, rfl, _, _, _, _, rfl, ⟨dx7, t7, k1, k2⟩, fun H7 t s7 ht => ⟨_, s7 _ _ hl, ?_, us ++ [t], ?_, ?_, ?_⟩⟩
      · rw [List.length_map, hF.len]
        have := List.length_take_le i h.plant.parcels
        rw [sizeLine_eq]
        omega
      · exact Same.upd hD (s2.trans s7)
      · rw [upd_same, List.map_append]
        rfl
      · have nt : NoT (fun b => b = D) H7 := NoT.lst (s7 _ _ hl)
        have st := Sta.of_upd (H := H7) (a := D) (o := .lst ((us.map V.ref) ++ [.ref t]))
        rw [List.take_add_one, hy]
        exact (hF.imp fun _ _ _ _ r => st.tup nt (s7 _ _ r)).snoc (st.tup nt ht)
    · rintro H1 ⟨us, s1, hl, hF⟩
      rw [List.length_map, w.f.psLen, ← epl, List.take_length] at hF
      have w1 := w.mono s1
      obtain ⟨fx1, hf1⟩ := w1.f.flo
      refine ⟨dx, _, w1.at_, _, rfl, _, rfl, fx1, _, hf1, _, rfl, fun fl dy hfl hdy hne => ?_⟩
      have s2 : Same H1 (upd (upd H1 dy (.own fl)) fl (.ins (cF g "Floor") dy [])) := (Same.new hdy).trans (Same.new (by rw [upd_ne (fun z => hne z.symm)]; exact hfl))
      have hfl2 : (upd (upd H1 dy (.own fl)) fl (.ins (cF g "Floor") dy [])) fl = some (.ins (cF g "Floor") dy []) := upd_same
      generalize upd (upd H1 dy (.own fl)) fl (.ins (cF g "Floor") dy []) = H2 at s2 hfl2 ⊢
      have w2 := w1.mono s2
      refine ⟨fl, dy, D, F.L, h.plant, us, rfl, hfl2, ⟨H1, s2, hfl, w1.f.pla.same w1.f.same⟩, s2 _ _ hl, hF.imp fun _ _ _ _ r => s2 _ _ r, w.f.ok.pl, fun H3 F3 e1 e2 f3 => ⟨rfl, ?_⟩⟩
      have f4 := f3 H1 s2 hfl (w1.f.pla.same w1.f.same)
      have hd3 : H3 d = some (.ins (cF g "Desk") dx (dkF (.ref F.fl))) := f4.same _ _ w1.at_
      have hnd : d ∉ F3.foot := fun z => by
        have := f4.out d z
        rw [w1.at_] at this
        cases this
      refine ⟨dx, _, hd3, (by show 1 < 1000; decide), D, rfl, ?_⟩
      have f5 := f4.desk (o := .ins (cF g "Desk") dx (dkF (.ref F3.fl))) hd3 hnd
      subst e1
      have hD3 : H3 D = some (.lst (us.map .ref)) := f4.same _ _ hl
      have nD : D ≠ d := by
        rintro rfl
        rw [w.at_] at hD
        cases hD
      have sR : Same R H1 := hd.same.trans s1
      have sR3 : Same R (upd H3 d (.ins (cF g "Desk") dx (dkF (.ref F3.fl)))) := fun b o e => by
        rw [upd_ne (by rintro rfl; rw [hd.out] at e; cases e)]
        exact f4.same _ _ (sR _ _ e)
      have d5 : DeskAt g (upd H3 d (.ins (cF g "Desk") dx (dkF (.ref F3.fl)))) R d (some (Xb08.initial h.plant)) :=
        ⟨sR3, hd.out, dx, F3, _, upd_same, f5, (fun i hi => nomatch hi), (fun a ha => ⟨(by rintro rfl; exact hnd ha), sR.free (f4.out a ha)⟩), fun a ha => w.li a (e2 ▸ ha)⟩
      refine ⟨us.map .ref, .inl (.inl (.inl ?_)), (by show 1 ≤ sizeLine; decide), fun p hp => ?_⟩
      · show upd H3 d _ D = _
        rw [upd_ne nD]
        exact hD3
      · have el : us.length = h.plant.parcels.length := hF.len
        refine q _ p (d5.mono (Same.new hp)) ?_ (sR3.free hp)
        rw [upd_same, List.length_map, el]
        rfl
end Tote
/-! # the plain law of reading: words -/
namespace Tote
open Xb08 (ascii TermForm LineForm)
abbrev sg (w : W) : W := w.map sgn
theorem sgn_let {n c : Nat} (hc : 97 ≤ c ∧ c ≤ 122) : sgn n = c ↔ n = c := by
  unfold sgn
  split
  · rfl
  · split
    · omega
    · omega
theorem sgn_dig {n c : Nat} (hc : 48 ≤ c ∧ c ≤ 57) : sgn n = c ↔ n = c := by
  unfold sgn
  split
  · rfl
  · split
    · rfl
    · omega
theorem sg_eq {k : W} (hk : ∀ c ∈ k, 97 ≤ c ∧ c ≤ 122) : ∀ w : W, sg w = k ↔ w = k := by
  induction k with
  | nil =>
    intro w
    cases w <;> simp [sg]
  | cons c k ih =>
    intro w
    cases w with
    | nil => simp [sg]
    | cons a w =>
      show sgn a :: sg w = c :: k ↔ _
      rw [List.cons.injEq, List.cons.injEq, sgn_let (hk c List.mem_cons_self), ih (fun c hc => hk c (List.mem_cons_of_mem _ hc))]
theorem low_all {s : String} (h : ((ascii s).all fun c => decide (97 ≤ c) && decide (c ≤ 122)) = true) : ∀ c ∈ ascii s, 97 ≤ c ∧ c ≤ 122 := fun c hc => by
  have := List.all_eq_true.mp h c hc
  rw [Bool.and_eq_true, decide_eq_true_iff, decide_eq_true_iff] at this
  exact this
theorem isLetD (n : Nat) : (decide (97 ≤ sgn n) && decide (sgn n ≤ 122)) = (decide (97 ≤ n) && decide (n ≤ 122)) := by
  unfold sgn
  split
  · rfl
  · split
    · rw [decide_eq_false (by omega : ¬ 97 ≤ n)]
    · have : ¬ (97 ≤ n ∧ n ≤ 122) := by omega
      have h2 : (decide (97 ≤ n) && decide (n ≤ 122)) = false := by
        rw [← Bool.not_eq_true, Bool.and_eq_true, decide_eq_true_iff, decide_eq_true_iff]
        exact this
      rw [h2]
      decide
theorem isDigD (n : Nat) : (decide (48 ≤ sgn n) && decide (sgn n ≤ 57)) = (decide (48 ≤ n) && decide (n ≤ 57)) := by
  unfold sgn
  split
  · rfl
  · split
    · rfl
    · have : ¬ (48 ≤ n ∧ n ≤ 57) := by omega
      have h2 : (decide (48 ≤ n) && decide (n ≤ 57)) = false := by
        rw [← Bool.not_eq_true, Bool.and_eq_true, decide_eq_true_iff, decide_eq_true_iff]
        exact this
      rw [h2]
      decide
theorem isName_sg (w : W) : Xb08.isName (sg w) = Xb08.isName w := by
  unfold Xb08.isName sg
  rw [List.length_map, List.all_map]
  congr 2
  exact congrArg (fun f => w.all f) (funext fun n => isLetD n)
theorem name_sg {w : W} (h : Xb08.isName w = true) : sg w = w := by
  unfold Xb08.isName at h
  rw [Bool.and_eq_true, Bool.and_eq_true, List.all_eq_true] at h
  unfold sg
  rw [List.map_congr_left (g := id), List.map_id]
  intro c hc
  have := h.2.2 c hc
  rw [Bool.and_eq_true, decide_eq_true_iff, decide_eq_true_iff] at this
  exact (sgn_let this).mpr rfl
theorem parseNat_sg (w : W) : Xb08.parseNat? (sg w) = Xb08.parseNat? w := by
  have h3 : ((sg w).all fun b => decide (48 ≤ b) && decide (b ≤ 57)) = w.all fun b => decide (48 ≤ b) && decide (b ≤ 57) := by
    unfold sg
    rw [List.all_map]
    exact congrArg (fun f => w.all f) (funext fun n => isDigD n)
  by_cases hd : (w.all fun b => decide (48 ≤ b) && decide (b ≤ 57)) = true
  · have : sg w = w := by
      rw [List.all_eq_true] at hd
      unfold sg
      rw [List.map_congr_left (g := id), List.map_id]
      intro c hc
      have := hd c hc
      rw [Bool.and_eq_true, decide_eq_true_iff, decide_eq_true_iff] at this
      exact (sgn_dig this).mpr rfl
    rw [this]
  · rw [Bool.not_eq_true] at hd
    unfold Xb08.parseNat?
    rw [if_pos (.inr (.inr (.inl (h3.trans hd)))), if_pos (.inr (.inr (.inl hd)))]
theorem inRange_sg (a b : Nat) (w : W) : Xb08.parseInRange? a b (sg w) = Xb08.parseInRange? a b w := by
  unfold Xb08.parseInRange?
  rw [parseNat_sg]
theorem dig_fold : ∀ (w : W) (m : Nat), (∀ b ∈ w, b ≤ 57) → w.foldl (fun n b => n * 10 + (b - 48)) m + 1 ≤ (m + 1) * 10 ^ w.length
  | [], m, _ => by simp
  | b :: w, m, h => by
    rw [List.foldl_cons, List.length_cons, Nat.pow_succ]
    have ih := dig_fold w (m * 10 + (b - 48)) fun c hc => h c (List.mem_cons_of_mem _ hc)
    have hb := h b List.mem_cons_self
    have : m * 10 + (b - 48) + 1 ≤ (m + 1) * 10 := by omega
    calc _ ≤ (m * 10 + (b - 48) + 1) * 10 ^ w.length := ih
      _ ≤ (m + 1) * 10 * 10 ^ w.length := Nat.mul_le_mul_right _ this
      _ = (m + 1) * (10 ^ w.length * 10) := by rw [Nat.mul_assoc, Nat.mul_comm 10]
theorem parseNat_le {w : W} {n : Nat} (h : Xb08.parseNat? w = some n) : n ≤ 9999 := by
  unfold Xb08.parseNat? at h
  split at h
  · cases h
  · rename_i hn
    cases h
    have hl : w.length ≤ 4 := by
      have : ¬ 4 < w.length := fun z => hn (.inr (.inl z))
      omega
    have ha : (w.all fun b => decide (48 ≤ b) && decide (b ≤ 57)) = true := by
      rw [← Bool.not_eq_false]
      exact fun z => hn (.inr (.inr (.inl z)))
    rw [List.all_eq_true] at ha
    have := dig_fold w 0 fun b hb => by
      have := ha b hb
      rw [Bool.and_eq_true, decide_eq_true_iff, decide_eq_true_iff] at this
      exact this.2
    have h2 : 10 ^ w.length ≤ 10 ^ 4 := Nat.pow_le_pow_right (by decide) hl
    omega
theorem nat_range (w : W) : Xb08.parseInRange? 0 9999 w = Xb08.parseNat? w := by
  unfold Xb08.parseInRange?
  cases h : Xb08.parseNat? w with
  | none => rfl
  | some n =>
    have := parseNat_le h
    show (if 0 ≤ n ∧ n ≤ 9999 then some n else none) = some n
    rw [if_pos ⟨Nat.zero_le _, this⟩]
/-! ## the lines -/
theorem splitOn_ne (c : Nat) : ∀ l, Xb08.splitOn c l ≠ []
  | [] => by simp [Xb08.splitOn]
  | b :: l => by
    unfold Xb08.splitOn
    split
    · simp
    · split
      · simp
      · simp
/-- what the spec's words of a line are, behind what has been read -/
def wordsOn (cu : List W) (w : W) (l : List Nat) : List W := match Xb08.splitOn 32 l with
  | [] => endW cu w
  | r :: rs => endW cu (w ++ sg r) ++ (rs.filter fun w => !w.isEmpty).map sg
theorem wordsOn_nil (cu : List W) (w : W) : wordsOn cu w [] = endW cu w := by
  unfold wordsOn Xb08.splitOn
  simp
theorem wordsOn_blank (cu : List W) (w : W) (l : List Nat) : wordsOn cu w (32 :: l) = wordsOn (endW cu w) [] l := by
  unfold wordsOn
  rw [show Xb08.splitOn 32 (32 :: l) = [] :: Xb08.splitOn 32 l by rw [Xb08.splitOn, if_pos rfl]]
  cases h : Xb08.splitOn 32 l with
  | nil => exact absurd h (splitOn_ne _ _)
  | cons r rs =>
    dsimp only
    rw [List.filter_cons]
    cases r with
    | nil => simp [endW]
    | cons a r => simp [endW]
theorem wordsOn_sign (cu : List W) (w : W) {b : Nat} (hb : b ≠ 32) (l : List Nat) : wordsOn cu w (b :: l) = wordsOn cu (w ++ [sgn b]) l := by
  unfold wordsOn
  rw [show Xb08.splitOn 32 (b :: l) = _ by rw [Xb08.splitOn, if_neg hb]]
  cases h : Xb08.splitOn 32 l with
  | nil => exact absurd h (splitOn_ne _ _)
  | cons r rs => simp
theorem wordsOn_all (l : List Nat) : wordsOn [] [] l = (Xb08.lineWords l).map sg := by
  unfold wordsOn Xb08.lineWords
  cases h : Xb08.splitOn 32 l with
  | nil => exact absurd h (splitOn_ne _ _)
  | cons r rs =>
    dsimp only
    rw [List.filter_cons]
    cases r with
    | nil => simp [endW]
    | cons a r => simp [endW]
theorem lines_go (t : List Nat) : ∀ (dn : List (List W)) (cu : List W) (w : W),
    (let x := t.foldl lnStep (dn, cu, w); x.1 ++ [endW x.2.1 x.2.2]) = dn ++ (match Xb08.splitOn 10 t with
      | [] => []
      | l :: ls => wordsOn cu w l :: ls.map fun l => (Xb08.lineWords l).map sg) := by
  induction t with
  | nil =>
    intro dn cu w
    simp [Xb08.splitOn, wordsOn_nil]
  | cons b t ih =>
    intro dn cu w
    rw [List.foldl_cons]
    by_cases h1 : b = 10
    · subst h1
      have e1 : lnStep (dn, cu, w) 10 = (dn ++ [endW cu w], [], []) := rfl
      rw [e1, ih, show Xb08.splitOn 10 (10 :: t) = [] :: Xb08.splitOn 10 t by rw [Xb08.splitOn, if_pos rfl]]
      cases h : Xb08.splitOn 10 t with
      | nil => exact absurd h (splitOn_ne _ _)
      | cons r rs => simp [wordsOn_nil, wordsOn_all]
    · rw [show Xb08.splitOn 10 (b :: t) = _ by rw [Xb08.splitOn, if_neg h1]]
      by_cases h2 : b = 32
      · subst h2
        have e1 : lnStep (dn, cu, w) 32 = (dn, endW cu w, []) := rfl
        rw [e1, ih]
        cases h : Xb08.splitOn 10 t with
        | nil => exact absurd h (splitOn_ne _ _)
        | cons r rs => simp [wordsOn_blank]
      · have e1 : lnStep (dn, cu, w) b = (dn, cu, w ++ [sgn b]) := by
          unfold lnStep
          rw [if_neg h1, if_neg h2]
        rw [e1, ih]
        cases h : Xb08.splitOn 10 t with
        | nil => exact absurd h (splitOn_ne _ _)
        | cons r rs => simp [wordsOn_sign _ _ h2]
/-- the program's lines are the document's, each byte by its sign -/
theorem linesW_eq (t : List Nat) : linesW t = (Xb08.splitOn 10 t).map fun l => (Xb08.lineWords l).map sg := by
  unfold linesW
  rw [lines_go]
  cases h : Xb08.splitOn 10 t with
  | nil => exact absurd h (splitOn_ne _ _)
  | cons r rs => simp [wordsOn_all]
end Tote
/-! # the plain law of reading: a line's form -/
namespace Tote
open Xb08 (ascii TermForm LineForm isName parseNat? parseInRange? parseGoal parseCondition)
/-- one term, as the document reads it -/
def oneT (l : List W) : Option (TermForm × List W) := match l with
      | k :: x :: r => if k = ascii "code" then (match r with
          | y :: r => (parseNat? x).bind fun a => (parseNat? y).map fun b => (.code a b, r)
          | [] => none)
        else if k = ascii "long" then (parseInRange? 1 5 x).map fun a => (.length a, r)
        else if k = ascii "each" then (parseInRange? 1 99 x).map fun a => (.each a, r)
        else if k = ascii "full" then (if isName x then some (.full x, r) else none)
        else if k = ascii "free" then (if isName x then some (.free x, r) else none)
        else none
      | _ => none
def condN (f : Nat) (y : TermForm × List W) : Option (List TermForm × List W) := match y.2 with
      | k :: q => if k = ascii "and" then (parseCondition f q).map fun x => (y.1 :: x.1, x.2) else some ([y.1], y.2)
      | [] => none
theorem cond_succ (f : Nat) (l : List W) : parseCondition (f + 1) l = (oneT l).bind (condN f) := rfl
/-! ## the form by the words -/
def f_chute (ws : List W) : Option LineForm := match ws with
      | [n, r] => if isName n then (parseInRange? 1 99 r).map fun r => .chute n r else none
      | _ => none
def f_belt (ws : List W) : Option LineForm := match ws with
      | [n, x] => if isName n then (parseInRange? 1 40 x).map fun x => .belt n x none else none
      | n :: x :: t :: g => if isName n ∧ t = ascii "to" then (parseInRange? 1 40 x).bind fun x => (parseGoal g).map fun g => .belt n x (some g) else none
      | _ => none
def f_lead (ws : List W) : Option LineForm := match ws with
      | n :: t :: g => if isName n ∧ t = ascii "to" then (parseGoal g).map fun g => .lead n g else none
      | _ => none
def f_eye (ws : List W) : Option LineForm := match ws with
      | [n, o, b, a] => if isName n ∧ o = ascii "on" ∧ isName b then (parseNat? a).map fun a => .sensor n b a else none
      | _ => none
def f_push (ws : List W) : Option LineForm := match ws with
      | n :: o :: b :: a :: t :: g => if isName n ∧ o = ascii "on" ∧ isName b ∧ t = ascii "to" then (parseNat? a).bind fun a => (parseGoal g).map fun g => .push n b a g else none
      | _ => none
def f_when (ws : List W) : Option LineForm := match ws with
      | e :: r => if isName e then (parseCondition 4 r).bind fun x => (match x.2 with
          | [u, n, a, d] => if u = ascii "push" ∧ isName n ∧ a = ascii "after" then (parseInRange? 1 99 d).map fun d => .rule e x.1 n d else none
          | _ => none) else none
      | _ => none
def f_feed (ws : List W) : Option LineForm := match ws with
      | b :: c :: x :: t :: r => if isName b then (parseNat? c).bind fun c => (parseInRange? 1 5 x).bind fun x => (parseNat? t).bind fun t => (match r with
          | [] => some (.feed b c x t 1 1)
          | [e, d, s, n] => if e = ascii "every" ∧ s = ascii "times" then (parseInRange? 1 99 d).bind fun d => (parseInRange? 1 40 n).map fun n => .feed b c x t d n else none
          | _ => none) else none
      | _ => none
def formOf (l : List W) : Option LineForm := match l with
  | [] => some .nothing
  | k :: ws => if k = ascii "chute" then f_chute ws else if k = ascii "belt" then f_belt ws else if k = ascii "lead" then f_lead ws else if k = ascii "eye" then f_eye ws else if k = ascii "push" then f_push ws else if k = ascii "when" then f_when ws else if k = ascii "feed" then f_feed ws else none
theorem form_eq (l : List Nat) : Xb08.parseLineForm l = formOf (Xb08.lineWords l) := rfl
/-! ## the form looks at no more than the signs -/
theorem kw (s : String) (h : ((ascii s).all fun c => decide (97 ≤ c) && decide (c ≤ 122)) = true) (w : W) : (sg w = ascii s) = (w = ascii s) := propext (sg_eq (low_all h) w)
theorem name_if {α : Type} (w : W) (f : W → Option α) : (if isName (sg w) = true then f (sg w) else none) = if isName w = true then f w else none := by
  rw [isName_sg]
  by_cases h : isName w = true
  · rw [if_pos h, if_pos h, name_sg h]
  · rw [if_neg h, if_neg h]
theorem goal_sg (l : List W) : parseGoal (l.map sg) = parseGoal l := by
  match l with
  | [] => rfl
  | [n] =>
    show (if isName (sg n) = true then some (sg n, none) else none) = if isName n = true then some (n, none) else none
    exact name_if n fun n => some (n, none)
  | [n, a] =>
    show (if isName (sg n) = true then (parseNat? (sg a)).map fun x => (sg n, some x) else none) = if isName n = true then (parseNat? a).map fun x => (n, some x) else none
    rw [parseNat_sg]
    exact name_if n fun n => (parseNat? a).map fun x => (n, some x)
  | _ :: _ :: _ :: _ => rfl
theorem one_sg (l : List W) : oneT (l.map sg) = (oneT l).map fun y => (y.1, y.2.map sg) := by
  match l with
  | [] => rfl
  | [k] => rfl
  | k :: x :: r =>
    simp only [List.map_cons, oneT, kw "code" (by decide), kw "long" (by decide), kw "each" (by decide), kw "full" (by decide), kw "free" (by decide), inRange_sg, parseNat_sg]
    split
    · cases r with
      | nil => rfl
      | cons y r =>
        simp only [List.map_cons, parseNat_sg]
        cases parseNat? x with
        | none => rfl
        | some a =>
          cases parseNat? y with
          | none => rfl
          | some b => rfl
    split
    · cases parseInRange? 1 5 x <;> rfl
    split
    · cases parseInRange? 1 99 x <;> rfl
    split
    · rw [name_if x fun x => some (TermForm.full x, r.map sg)]
      split <;> rfl
    split
    · rw [name_if x fun x => some (TermForm.free x, r.map sg)]
      split <;> rfl
    · rfl
theorem cond_sg : ∀ (f : Nat) (l : List W), parseCondition f (l.map sg) = (parseCondition f l).map fun y => (y.1, y.2.map sg)
  | 0, l => by rw [parseCondition, parseCondition]; rfl
  | f + 1, l => by
    rw [cond_succ, cond_succ, one_sg]
    cases oneT l with
    | none => rfl
    | some y =>
      obtain ⟨y1, y2⟩ := y
      cases y2 with
      | nil => rfl
      | cons k q =>
        simp only [condN, Option.map_some, Option.bind_some, List.map_cons, kw "and" (by decide)]
        split
        · rw [cond_sg f q]
          cases parseCondition f q <;> rfl
        · rfl
theorem and_if {α : Type} (w : W) (q : Prop) [Decidable q] (f : W → Option α) : (if isName (sg w) = true ∧ q then f (sg w) else none) = if isName w = true ∧ q then f w else none := by
  rw [isName_sg]
  by_cases h : isName w = true ∧ q
  · rw [if_pos h, if_pos h, name_sg h.1]
  · rw [if_neg h, if_neg h]
theorem sg_chute (ws : List W) : f_chute (ws.map sg) = f_chute ws := by
  match ws with
  | [] => rfl
  | [_] => rfl
  | [n, r] =>
    simp only [f_chute, List.map_cons, List.map_nil, inRange_sg]
    exact name_if n fun n => (parseInRange? 1 99 r).map fun r => LineForm.chute n r
  | _ :: _ :: _ :: _ => rfl
theorem sg_belt (ws : List W) : f_belt (ws.map sg) = f_belt ws := by
  match ws with
  | [] => rfl
  | [_] => rfl
  | [n, x] =>
    simp only [f_belt, List.map_cons, List.map_nil, inRange_sg]
    exact name_if n fun n => (parseInRange? 1 40 x).map fun x => LineForm.belt n x none
  | n :: x :: t :: g =>
    simp only [f_belt, List.map_cons, inRange_sg, goal_sg, kw "to" (by decide)]
    exact and_if n _ fun n => (parseInRange? 1 40 x).bind fun x => (parseGoal g).map fun g => LineForm.belt n x (some g)
theorem sg_lead (ws : List W) : f_lead (ws.map sg) = f_lead ws := by
  match ws with
  | [] => rfl
  | [_] => rfl
  | n :: t :: g =>
    simp only [f_lead, List.map_cons, inRange_sg, goal_sg, kw "to" (by decide)]
    exact and_if n _ fun n => (parseGoal g).map fun g => LineForm.lead n g
theorem sg_eye (ws : List W) : f_eye (ws.map sg) = f_eye ws := by
  match ws with
  | [] => rfl
  | [_] => rfl
  | [_, _] => rfl
  | [_, _, _] => rfl
  | [n, o, b, a] =>
    simp only [f_eye, List.map_cons, List.map_nil, parseNat_sg, kw "on" (by decide)]
    rw [and_if n _ fun n => (parseNat? a).map fun a => LineForm.sensor n (sg b) a]
    rw [isName_sg]
    split
    · rename_i h
      rw [name_sg h.2.2]
    · rfl
  | _ :: _ :: _ :: _ :: _ :: _ => rfl
theorem sg_push (ws : List W) : f_push (ws.map sg) = f_push ws := by
  match ws with
  | [] => rfl
  | [_] => rfl
  | [_, _] => rfl
  | [_, _, _] => rfl
  | [_, _, _, _] => rfl
  | n :: o :: b :: a :: t :: g =>
    simp only [f_push, List.map_cons, List.map_nil, parseNat_sg, goal_sg, kw "on" (by decide), kw "to" (by decide)]
    rw [and_if n _ fun n => (parseNat? a).bind fun a => (parseGoal g).map fun g => LineForm.push n (sg b) a g]
    rw [isName_sg]
    split
    · rename_i h
      rw [name_sg h.2.2.1]
    · rfl
theorem sg_when (ws : List W) : f_when (ws.map sg) = f_when ws := by
  cases ws with
  | nil => rfl
  | cons e r =>
    simp only [f_when, List.map_cons]
    rw [name_if e fun e => (parseCondition 4 (r.map sg)).bind fun x => (match x.2 with
      | [u, n, a, d] => if u = ascii "push" ∧ isName n ∧ a = ascii "after" then (parseInRange? 1 99 d).map fun d => LineForm.rule e x.1 n d else none
      | _ => none)]
    split
    · rw [cond_sg]
      cases parseCondition 4 r with
      | none => rfl
      | some x =>
        obtain ⟨x1, x2⟩ := x
        match x2 with
        | [] => rfl
        | [_] => rfl
        | [_, _] => rfl
        | [_, _, _] => rfl
        | [u, n, a, d] =>
          simp only [f_when, Option.map_some, Option.bind_some, List.map_cons, List.map_nil, inRange_sg, kw "push" (by decide), kw "after" (by decide), isName_sg]
          split
          · rename_i h
            rw [name_sg h.2.1]
          · rfl
        | _ :: _ :: _ :: _ :: _ :: _ => rfl
    · rfl
theorem sg_feed (ws : List W) : f_feed (ws.map sg) = f_feed ws := by
  match ws with
  | [] => rfl
  | [_] => rfl
  | [_, _] => rfl
  | [_, _, _] => rfl
  | b :: c :: x :: t :: r =>
    simp only [f_feed, List.map_cons, parseNat_sg, inRange_sg]
    rw [isName_sg]
    split
    · rename_i h
      rw [name_sg h]
      cases parseNat? c with
      | none => rfl
      | some c =>
        cases parseInRange? 1 5 x with
        | none => rfl
        | some x =>
          cases parseNat? t with
          | none => rfl
          | some t =>
            match r with
            | [] => rfl
            | [_] => rfl
            | [_, _] => rfl
            | [_, _, _] => rfl
            | [e, d, s, n] =>
              simp only [f_feed, Option.bind_some, List.map_cons, List.map_nil, inRange_sg, kw "every" (by decide), kw "times" (by decide)]
            | _ :: _ :: _ :: _ :: _ :: _ => rfl
    · rfl
theorem form_sg (l : List W) : formOf (l.map sg) = formOf l := by
  cases l with
  | nil => rfl
  | cons k ws =>
    show (if sg k = ascii "chute" then f_chute (ws.map sg) else if sg k = ascii "belt" then f_belt (ws.map sg) else if sg k = ascii "lead" then f_lead (ws.map sg) else if sg k = ascii "eye" then f_eye (ws.map sg) else if sg k = ascii "push" then f_push (ws.map sg) else if sg k = ascii "when" then f_when (ws.map sg) else if sg k = ascii "feed" then f_feed (ws.map sg) else none) = if k = ascii "chute" then f_chute ws else if k = ascii "belt" then f_belt ws else if k = ascii "lead" then f_lead ws else if k = ascii "eye" then f_eye ws else if k = ascii "push" then f_push ws else if k = ascii "when" then f_when ws else if k = ascii "feed" then f_feed ws else none
    simp only [kw "chute" (by decide), kw "belt" (by decide), kw "lead" (by decide), kw "eye" (by decide), kw "push" (by decide), kw "when" (by decide), kw "feed" (by decide), sg_chute, sg_belt, sg_lead, sg_eye, sg_push, sg_when, sg_feed]
end Tote
/-! # the plain law of reading: names -/
namespace Tote
open Xb08 (ascii TermForm LineForm isName parseNat? parseInRange? parseGoal parseCondition)
theorem KnOk.mem {ks : List KN} {p : Xb08.Plant} (h : KnOk ks p) {n : W} {k i : Nat} : (⟨n, k, i⟩ : KN) ∈ ks ↔ (namesOf p k)[i]? = some n := by
  constructor
  · exact fun m => h.at_ m
  · intro e
    have : (⟨n, k, i⟩ : KN) ∈ ks.filter fun e => decide (e.k = k) := by
      rw [h.each]
      exact List.mem_map.mpr ⟨(n, i), List.mem_zipIdx_iff_getElem?.mpr e, rfl⟩
    exact (List.mem_filter.mp this).1
theorem nodup_uniq : ∀ {l : List KN}, (l.map KN.n).Nodup → ∀ {e f : KN}, e ∈ l → f ∈ l → e.n = f.n → e = f
  | [], _, _, _, he, _, _ => absurd he List.not_mem_nil
  | x :: l, h, e, f, he, hf, en => by
    rw [List.map_cons, List.nodup_cons] at h
    rcases List.mem_cons.mp he with e1 | e1
    · rcases List.mem_cons.mp hf with e2 | e2
      · rw [e1, e2]
      · exact absurd (List.mem_map.mpr ⟨f, e2, by rw [← en, e1]⟩) h.1
    · rcases List.mem_cons.mp hf with e2 | e2
      · exact absurd (List.mem_map.mpr ⟨e, e1, by rw [en, e2]⟩) h.1
      · exact nodup_uniq h.2 e1 e2 en
theorem KnOk.uniq {ks : List KN} {p : Xb08.Plant} (h : KnOk ks p) {e f : KN} (he : e ∈ ks) (hf : f ∈ ks) (en : e.n = f.n) : e = f := nodup_uniq h.nodup he hf en
theorem look_none {ks : List KN} {n : W} (h : lookN ks n = none) : ∀ e ∈ ks, e.n ≠ n := fun e he => by
  have := List.find?_eq_none.mp h e he
  rw [decide_eq_true_iff] at this
  exact this
theorem find_iff {l : List W} {n : W} : l.findIdx? (· == n) = none ↔ n ∉ l := by
  rw [List.findIdx?_eq_none_iff]
  constructor
  · intro h m
    have := h n m
    simp at this
  · intro h x hx
    exact beq_eq_false_iff_ne.mpr fun e => h (e ▸ hx)
theorem KnOk.find {ks : List KN} {p : Xb08.Plant} (h : KnOk ks p) (k : Nat) (n : W) : numberE ks k n = match (namesOf p k).findIdx? (· == n) with | some i => .ok i | none => .error 2 := by
  cases hf : (namesOf p k).findIdx? (· == n) with
  | some i =>
    obtain ⟨hi, e, _⟩ := List.findIdx?_eq_some_iff_getElem.mp hf
    have e' : (namesOf p k)[i]? = some n := by rw [List.getElem?_eq_getElem hi, beq_iff_eq.mp e]
    have m := h.mem.mpr e'
    unfold numberE
    cases hl : lookN ks n with
    | none => exact absurd rfl (look_none hl _ m)
    | some f =>
      obtain ⟨m2, e2⟩ := lookN_mem hl
      have := h.uniq m m2 e2.symm
      subst this
      show (if k = k then Except.ok i else Except.error 2) = Except.ok i
      rw [if_pos rfl]
  | none =>
    rw [find_iff] at hf
    unfold numberE
    cases hl : lookN ks n with
    | none => rfl
    | some f =>
      obtain ⟨m2, e2⟩ := lookN_mem hl
      dsimp only
      rw [if_neg]
      rintro rfl
      have := h.at_ m2
      rw [e2] at this
      exact hf (List.mem_of_getElem? this)
theorem KnOk.belt {ks : List KN} {p : Xb08.Plant} (h : KnOk ks p) (n : W) : numberE ks 1 n = match Xb08.findBelt p n with | some i => .ok i | none => .error 2 := by
  rw [h.find]
  show (match (p.belts.map (·.name)).findIdx? (· == n) with | some i => Except.ok i | none => Except.error 2) = _
  rw [List.findIdx?_map]
  rfl
theorem KnOk.chute {ks : List KN} {p : Xb08.Plant} (h : KnOk ks p) (n : W) : numberE ks 2 n = match Xb08.findChute p n with | some i => .ok i | none => .error 2 := by
  rw [h.find]
  show (match (p.chutes.map (·.name)).findIdx? (· == n) with | some i => Except.ok i | none => Except.error 2) = _
  rw [List.findIdx?_map]
  rfl
theorem KnOk.sensor {ks : List KN} {p : Xb08.Plant} (h : KnOk ks p) (n : W) : numberE ks 3 n = match Xb08.findSensor p n with | some i => .ok i | none => .error 2 := by
  rw [h.find]
  show (match (p.sensors.map (·.name)).findIdx? (· == n) with | some i => Except.ok i | none => Except.error 2) = _
  rw [List.findIdx?_map]
  rfl
theorem KnOk.pusher {ks : List KN} {p : Xb08.Plant} (h : KnOk ks p) (n : W) : numberE ks 4 n = match Xb08.findPusher p n with | some i => .ok i | none => .error 2 := by
  rw [h.find]
  show (match (p.pushers.map (·.name)).findIdx? (· == n) with | some i => Except.ok i | none => Except.error 2) = _
  rw [List.findIdx?_map]
  rfl
theorem find_some {α : Type} (l : List α) (f : α → W) (n : W) : (l.findIdx? fun x => f x == n).isSome = true ↔ n ∈ l.map f := by
  rw [List.findIdx?_isSome, List.any_eq_true]
  constructor
  · rintro ⟨x, hx, e⟩
    exact List.mem_map.mpr ⟨x, hx, beq_iff_eq.mp e⟩
  · intro m
    obtain ⟨x, hx, e⟩ := List.mem_map.mp m
    exact ⟨x, hx, beq_iff_eq.mpr e⟩
theorem KnOk.declared {ks : List KN} {p : Xb08.Plant} (h : KnOk ks p) (n : W) : (lookN ks n).isSome = Xb08.isDeclared p n := by
  rw [Bool.eq_iff_iff]
  unfold Xb08.isDeclared Xb08.findBelt Xb08.findChute Xb08.findSensor Xb08.findPusher
  rw [Bool.or_eq_true, Bool.or_eq_true, Bool.or_eq_true, find_some, find_some, find_some, find_some]
  constructor
  · intro e
    cases hl : lookN ks n with
    | none => rw [hl] at e; cases e
    | some f =>
      obtain ⟨m2, e2⟩ := lookN_mem hl
      have := List.mem_of_getElem? (h.at_ m2)
      rw [e2] at this
      unfold namesOf at this
      split at this
      · exact .inl this
      split at this
      · exact .inr (.inl this)
      split at this
      · exact .inr (.inr (.inl this))
      split at this
      · exact .inr (.inr (.inr this))
      · cases this
  · intro e
    have g : ∀ k, n ∈ namesOf p k → (lookN ks n).isSome = true := fun k m => by
      obtain ⟨i, hi⟩ := List.getElem?_of_mem m
      cases hl : lookN ks n with
      | some f => rfl
      | none => exact absurd rfl (look_none hl _ (h.mem.mpr hi))
    rcases e with m | m | m | m
    · exact g 1 m
    · exact g 2 m
    · exact g 3 m
    · exact g 4 m
abbrev EP := Except Nat (Xb08.Plant × List KN)
abbrev fstE (x : EP) : Except Nat Xb08.Plant := x.map Prod.fst
theorem KnOk.declare {ks : List KN} {p : Xb08.Plant} (h : KnOk ks p) (k : Nat) (n : W) (X : EP) : fstE (wantNew ks k n >>= fun _ => X) = Xb08.declare p n (namesOf p k).length (fstE X) := by
  unfold wantNew Xb08.declare
  rw [h.declared, h.cnt]
  by_cases h1 : Xb08.isDeclared p n = true
  · rw [if_pos h1, if_pos h1]
    rfl
  · rw [if_neg h1, if_neg h1]
    by_cases h2 : 12 ≤ (namesOf p k).length
    · rw [if_pos h2, if_pos (show Xb08.MAX_EACH ≤ _ from h2)]
      rfl
    · rw [if_neg h2, if_neg (show ¬ Xb08.MAX_EACH ≤ _ from h2)]
      rfl
theorem KnOk.goal {ks : List KN} {p : Xb08.Plant} (h : KnOk ks p) (o : W × Option Nat) : goalE p ks o = Xb08.resolveGoal p o := by
  obtain ⟨n, o⟩ := o
  cases o with
  | none =>
    show (numberE ks 2 n >>= fun k => Except.ok (Xb08.Goal.chute k)) = match Xb08.findChute p n with | some k => Except.ok (Xb08.Goal.chute k) | none => Except.error 2
    rw [h.chute]
    cases Xb08.findChute p n <;> rfl
  | some x =>
    show ((numberE ks 1 n >>= fun k => if x < Xb08.beltLength p k then Except.ok k else Except.error 3) >>= fun k => Except.ok (Xb08.Goal.belt k x)) = match Xb08.findBelt p n with | none => Except.error 2 | some k => if x < Xb08.beltLength p k then Except.ok (Xb08.Goal.belt k x) else Except.error 3
    rw [h.belt]
    cases Xb08.findBelt p n with
    | none => rfl
    | some k =>
      show ((if x < Xb08.beltLength p k then Except.ok k else Except.error 3) >>= fun k => Except.ok (Xb08.Goal.belt k x)) = _
      dsimp only
      split <;> rfl
theorem KnOk.position {ks : List KN} {p : Xb08.Plant} (h : KnOk ks p) (n : W) (x : Nat) : Xb08.resolvePosition p n x = (beltWith p ks n x).map fun k => (k, x) := by
  unfold beltWith Xb08.resolvePosition
  rw [h.belt]
  cases Xb08.findBelt p n with
  | none => rfl
  | some k =>
    show (if x < Xb08.beltLength p k then _ else _) = Except.map _ (if x < Xb08.beltLength p k then _ else _)
    split <;> rfl
theorem KnOk.term {ks : List KN} {p : Xb08.Plant} (h : KnOk ks p) (f : TermForm) : knownE ks f = Xb08.resolveTerm p f := by
  cases f with
  | code a b => rfl
  | length n => rfl
  | each n => rfl
  | full c =>
    show (numberE ks 2 c >>= fun k => Except.ok (Xb08.Cond.full k)) = match Xb08.findChute p c with | some k => Except.ok (Xb08.Cond.full k) | none => Except.error 2
    rw [h.chute]
    cases Xb08.findChute p c <;> rfl
  | free c =>
    show (numberE ks 1 c >>= fun k => Except.ok (Xb08.Cond.free k)) = match Xb08.findBelt p c with | some k => Except.ok (Xb08.Cond.free k) | none => Except.error 2
    rw [h.belt]
    cases Xb08.findBelt p c <;> rfl
theorem KnOk.terms {ks : List KN} {p : Xb08.Plant} (h : KnOk ks p) : ∀ l : List TermForm, knownAll ks l = l.mapM (Xb08.resolveTerm p)
  | [] => rfl
  | f :: r => by
    rw [List.mapM_cons, ← h.terms r, ← h.term f]
    rfl
end Tote
/-! # the plain law of reading: a line's deed -/
namespace Tote
open Xb08 (ascii TermForm LineForm isName parseNat? parseInRange? parseGoal parseCondition declare findBelt findSensor findPusher resolveGoal resolvePosition resolveTerm MAX_EACH)
def formDo (p : Xb08.Plant) : Option LineForm → Except Nat Xb08.Plant
  | none => .error 1
  | some .nothing => .ok p
  | some (.chute n r) => declare p n p.chutes.length (.ok { p with chutes := p.chutes ++ [⟨n, r⟩] })
  | some (.belt n x none) => declare p n p.belts.length (.ok { p with belts := p.belts ++ [⟨n, x, none⟩] })
  | some (.belt n x (some g)) => declare p n p.belts.length ((resolveGoal p g).map fun g => { p with belts := p.belts ++ [⟨n, x, some g⟩] })
  | some (.lead n g) => (match findBelt p n with
    | none => .error 2
    | some b => (resolveGoal p g).map fun g => { p with belts := p.belts.modify b fun x => { x with goal := some g } })
  | some (.sensor n b a) => declare p n p.sensors.length ((resolvePosition p b a).map fun x => { p with sensors := p.sensors ++ [⟨n, x.1, x.2⟩] })
  | some (.push n b a g) => declare p n p.pushers.length (match resolvePosition p b a with
    | .error e => .error e
    | .ok x => (resolveGoal p g).map fun g => { p with pushers := p.pushers ++ [⟨n, x.1, x.2, g⟩] })
  | some (.rule e l u d) => (match findSensor p e with
    | none => .error 2
    | some e => match l.mapM (resolveTerm p) with
      | .error f => .error f
      | .ok cs => match findPusher p u with
        | none => .error 2
        | some u => if MAX_EACH ≤ p.rules.length then .error 4 else .ok { p with rules := p.rules ++ [⟨e, cs, u, d⟩] })
  | some (.feed b c x t d n) => (match findBelt p b with
    | none => .error 2
    | some b => if 40 < p.parcels.length + n then .error 4 else .ok { p with parcels := p.parcels ++ (List.range n).map fun i => ⟨c, x, b, t + i * d⟩ })
theorem line_eq (p : Xb08.Plant) (l : List Nat) : Xb08.parseLine p l = formDo p (Xb08.parseLineForm l) := by
  unfold Xb08.parseLine formDo
  rfl
theorem eb_ok {α β : Type} (a : α) (f : α → Except Nat β) : ((Except.ok a : Except Nat α) >>= f) = f a := rfl
theorem eb_err {α β : Type} (e : Nat) (f : α → Except Nat β) : ((Except.error e : Except Nat α) >>= f) = Except.error e := rfl
theorem tn_ok {z : W} {r : List W} (h : isName z = true) : takeName (z :: r) = .ok (z, r) := if_pos h
theorem tn_no {z : W} {r : List W} (h : ¬ isName z = true) : takeName (z :: r) = .error 1 := if_neg h
theorem tu_ok {a b n : Nat} {z : W} {r : List W} (h : parseInRange? a b z = some n) : takeNumber a b (z :: r) = .ok (n, r) := by
  unfold takeNumber
  dsimp only
  rw [h]
theorem tu_no {a b : Nat} {z : W} {r : List W} (h : parseInRange? a b z = none) : takeNumber a b (z :: r) = .error 1 := by
  unfold takeNumber
  dsimp only
  rw [h]
theorem tt_ok {k z : W} {r : List W} (h : z = k) : takeTold k (z :: r) = .ok r := if_pos h
theorem tt_no {k z : W} {r : List W} (h : ¬ z = k) : takeTold k (z :: r) = .error 1 := if_neg h
theorem goal_read (l : List W) : readGoal l = match parseGoal l with | some x => .ok x | none => .error 1 := by
  unfold readGoal
  match l with
  | [] => rfl
  | [n] =>
    by_cases hn : isName n = true
    · rw [tn_ok hn, show parseGoal [n] = some (n, none) from if_pos hn]
      rfl
    · rw [tn_no hn, show parseGoal [n] = none from if_neg hn]
      rfl
  | n :: a :: r =>
    by_cases hn : isName n = true
    · rw [tn_ok hn]
      show (takeNumber 0 9999 (a :: r) >>= fun b => takeEnd b.2 >>= fun _ => Except.ok (n, some b.1)) = _
      cases ha : parseNat? a with
      | none =>
        rw [tu_no (by rw [nat_range]; exact ha)]
        cases r with
        | nil => rw [show parseGoal [n, a] = none by unfold parseGoal; dsimp only; rw [if_pos hn, ha]; rfl]; rfl
        | cons _ _ => rfl
      | some x =>
        rw [tu_ok (by rw [nat_range]; exact ha)]
        cases r with
        | nil => rw [show parseGoal [n, a] = some (n, some x) by unfold parseGoal; dsimp only; rw [if_pos hn, ha]; rfl]; rfl
        | cons _ _ => rfl
    · rw [tn_no hn]
      cases r with
      | nil => rw [show parseGoal [n, a] = none from if_neg hn]; rfl
      | cons _ _ => rfl
variable {p : Xb08.Plant} {ks : List KN}
theorem do_chute_eq (h : KnOk ks p) (ws : List W) : fstE (doChute p ks ws) = formDo p (f_chute ws) := by
  match ws with
  | [] => rfl
  | [n] =>
    unfold doChute
    by_cases hn : isName n = true
    · rw [tn_ok hn]; rfl
    · rw [tn_no hn]; rfl
  | n :: r :: l =>
    unfold doChute
    by_cases hn : isName n = true
    · rw [tn_ok hn, eb_ok]
      cases hr : parseInRange? 1 99 r with
      | none =>
        rw [tu_no hr]
        cases l with
        | nil => simp only [f_chute, hn, hr]; rfl
        | cons _ _ => rfl
      | some x =>
        rw [tu_ok hr, eb_ok]
        cases l with
        | nil =>
          rw [show f_chute [n, r] = some (.chute n x) by unfold f_chute; simp_all]
          show fstE (wantNew ks 2 n >>= fun _ => _) = declare p n p.chutes.length _
          rw [h.declare 2 n]
          show declare p n ((p.chutes.map (·.name)).length) _ = _
          rw [List.length_map]
          rfl
        | cons _ _ => rfl
    · rw [tn_no hn]
      cases l with
      | nil => simp only [f_chute, hn]; rfl
      | cons _ _ => rfl
theorem do_eye_eq (h : KnOk ks p) (ws : List W) : fstE (doEye p ks ws) = formDo p (f_eye ws) := by
  match ws with
  | [] => rfl
  | n :: ws =>
  by_cases hn : isName n = true
  case neg =>
    unfold doEye
    rw [tn_no hn, eb_err, show f_eye (n :: ws) = none by unfold f_eye; split <;> simp_all]
    rfl
  match ws with
  | [] => unfold doEye; rw [tn_ok hn]; rfl
  | o :: ws =>
  by_cases ho : o = ascii "on"
  case neg =>
    unfold doEye
    rw [tn_ok hn, eb_ok, tt_no ho, eb_err, show f_eye (n :: o :: ws) = none by unfold f_eye; split <;> simp_all]
    rfl
  match ws with
  | [] => unfold doEye; rw [tn_ok hn, eb_ok, tt_ok ho]; rfl
  | b :: ws =>
  by_cases hb : isName b = true
  case neg =>
    unfold doEye
    rw [tn_ok hn, eb_ok, tt_ok ho, eb_ok, tn_no hb, eb_err, show f_eye (n :: o :: b :: ws) = none by unfold f_eye; split <;> simp_all]
    rfl
  match ws with
  | [] => unfold doEye; rw [tn_ok hn, eb_ok, tt_ok ho, eb_ok, tn_ok hb]; rfl
  | a :: ws =>
  cases ha : parseNat? a with
  | none =>
    unfold doEye
    rw [tn_ok hn, eb_ok, tt_ok ho, eb_ok, tn_ok hb, eb_ok, tu_no (by rw [nat_range]; exact ha), eb_err, show f_eye (n :: o :: b :: a :: ws) = none by unfold f_eye; split <;> simp_all]
    rfl
  | some x =>
    unfold doEye
    rw [tn_ok hn, eb_ok, tt_ok ho, eb_ok, tn_ok hb, eb_ok, tu_ok (by rw [nat_range]; exact ha), eb_ok]
    match ws with
    | _ :: _ => rfl
    | [] =>
      rw [show f_eye [n, o, b, a] = some (.sensor n b x) by unfold f_eye; simp_all]
      show fstE (wantNew ks 3 n >>= fun _ => beltWith p ks b x >>= fun k => _) = declare p n p.sensors.length _
      rw [h.declare 3 n, h.position]
      show declare p n ((p.sensors.map (·.name)).length) _ = _
      rw [List.length_map]
      cases beltWith p ks b x <;> rfl
theorem do_lead_eq (h : KnOk ks p) (ws : List W) : fstE (doLead p ks ws) = formDo p (f_lead ws) := by
  match ws with
  | [] => rfl
  | n :: ws =>
  by_cases hn : isName n = true
  case neg =>
    unfold doLead
    rw [tn_no hn, eb_err, show f_lead (n :: ws) = none by unfold f_lead; split <;> simp_all]
    rfl
  match ws with
  | [] => unfold doLead; rw [tn_ok hn]; rfl
  | o :: ws =>
  by_cases ho : o = ascii "to"
  case neg =>
    unfold doLead
    rw [tn_ok hn, eb_ok, tt_no ho, eb_err, show f_lead (n :: o :: ws) = none by unfold f_lead; split <;> simp_all]
    rfl
  unfold doLead
  rw [tn_ok hn, eb_ok, tt_ok ho, eb_ok, goal_read, show f_lead (n :: o :: ws) = (parseGoal ws).map fun g => .lead n g by unfold f_lead; exact if_pos ⟨hn, ho⟩]
  cases parseGoal ws with
  | none => rfl
  | some gl =>
    show fstE (numberE ks 1 n >>= fun k => goalE p ks gl >>= fun g => _) = match findBelt p n with | none => _ | some b => _
    rw [h.belt, h.goal]
    cases findBelt p n with
    | none => rfl
    | some b =>
      dsimp only
      rw [eb_ok]
      cases resolveGoal p gl <;> rfl
theorem do_push_eq (h : KnOk ks p) (ws : List W) : fstE (doPusher p ks ws) = formDo p (f_push ws) := by
  match ws with
  | [] => rfl
  | n :: ws =>
  by_cases hn : isName n = true
  case neg =>
    unfold doPusher
    rw [tn_no hn, eb_err, show f_push (n :: ws) = none by unfold f_push; split <;> simp_all]
    rfl
  match ws with
  | [] => unfold doPusher; rw [tn_ok hn]; rfl
  | o :: ws =>
  by_cases ho : o = ascii "on"
  case neg =>
    unfold doPusher
    rw [tn_ok hn, eb_ok, tt_no ho, eb_err, show f_push (n :: o :: ws) = none by unfold f_push; split <;> simp_all]
    rfl
  match ws with
  | [] => unfold doPusher; rw [tn_ok hn, eb_ok, tt_ok ho]; rfl
  | b :: ws =>
  by_cases hb : isName b = true
  case neg =>
    unfold doPusher
    rw [tn_ok hn, eb_ok, tt_ok ho, eb_ok, tn_no hb, eb_err, show f_push (n :: o :: b :: ws) = none by unfold f_push; split <;> simp_all]
    rfl
  match ws with
  | [] => unfold doPusher; rw [tn_ok hn, eb_ok, tt_ok ho, eb_ok, tn_ok hb]; rfl
  | a :: ws =>
  cases ha : parseNat? a with
  | none =>
    unfold doPusher
    rw [tn_ok hn, eb_ok, tt_ok ho, eb_ok, tn_ok hb, eb_ok, tu_no (by rw [nat_range]; exact ha), eb_err, show f_push (n :: o :: b :: a :: ws) = none by unfold f_push; split <;> simp_all]
    rfl
  | some x =>
    unfold doPusher
    rw [tn_ok hn, eb_ok, tt_ok ho, eb_ok, tn_ok hb, eb_ok, tu_ok (by rw [nat_range]; exact ha), eb_ok]
    match ws with
    | [] => rfl
    | t :: ws =>
      by_cases ht : t = ascii "to"
      case neg =>
        rw [tt_no ht, eb_err, show f_push (n :: o :: b :: a :: t :: ws) = none by unfold f_push; simp_all]
        rfl
      rw [tt_ok ht, eb_ok, goal_read, show f_push (n :: o :: b :: a :: t :: ws) = (parseGoal ws).map fun g => .push n b x g by unfold f_push; simp_all]
      cases parseGoal ws with
      | none => rfl
      | some gl =>
        show fstE (wantNew ks 4 n >>= fun _ => beltWith p ks b x >>= fun k => goalE p ks gl >>= fun g => _) = declare p n p.pushers.length _
        rw [h.declare 4 n, h.position, h.goal]
        show declare p n ((p.pushers.map (·.name)).length) _ = _
        rw [List.length_map]
        cases beltWith p ks b x with
        | error e => rfl
        | ok k => 
          cases resolveGoal p gl <;> rfl
theorem do_belt_eq (h : KnOk ks p) (ws : List W) : fstE (doBelt p ks ws) = formDo p (f_belt ws) := by
  match ws with
  | [] => rfl
  | n :: ws =>
  by_cases hn : isName n = true
  case neg =>
    unfold doBelt
    rw [tn_no hn, eb_err, show f_belt (n :: ws) = none by unfold f_belt; split <;> simp_all]
    rfl
  match ws with
  | [] => unfold doBelt; rw [tn_ok hn]; rfl
  | r :: ws =>
  cases hr : parseInRange? 1 40 r with
  | none =>
    unfold doBelt
    rw [tn_ok hn, eb_ok, tu_no hr, eb_err, show f_belt (n :: r :: ws) = none by unfold f_belt; split <;> simp_all]
    rfl
  | some x =>
    unfold doBelt
    rw [tn_ok hn, eb_ok, tu_ok hr, eb_ok]
    match ws with
    | [] =>
      rw [show f_belt [n, r] = some (.belt n x none) by unfold f_belt; simp_all]
      show fstE (wantNew ks 1 n >>= fun _ => Except.ok none >>= fun g => _) = declare p n p.belts.length _
      rw [h.declare 1 n]
      show declare p n ((p.belts.map (·.name)).length) _ = _
      rw [List.length_map]
      rfl
    | t :: ws =>
      unfold toldE
      rw [if_neg (by simp)]
      by_cases ht : t = ascii "to"
      case neg =>
        rw [tt_no ht, eb_err, show f_belt (n :: r :: t :: ws) = none by unfold f_belt; simp_all]
        rfl
      rw [tt_ok ht, eb_ok, goal_read, show f_belt (n :: r :: t :: ws) = (parseGoal ws).map fun g => .belt n x (some g) by unfold f_belt; simp_all]
      cases parseGoal ws with
      | none => rfl
      | some gl =>
        show fstE (wantNew ks 1 n >>= fun _ => (goalE p ks gl >>= fun g => Except.ok (some g)) >>= fun g => _) = declare p n p.belts.length _
        rw [h.declare 1 n, h.goal]
        show declare p n ((p.belts.map (·.name)).length) _ = _
        rw [List.length_map]
        cases resolveGoal p gl <;> rfl
theorem do_feed_eq (h : KnOk ks p) (ws : List W) : fstE (doFeed p ks ws) = formDo p (f_feed ws) := by
  have hend : ∀ (b c x t d n : Nat) (z : W), fstE (numberE ks 1 z >>= fun k => if p.parcels.length + n ≤ 40 then Except.ok ({ p with parcels := p.parcels ++ fed k c x t d n }, ks) else Except.error 4) =
      match findBelt p z with | none => .error 2 | some b => if 40 < p.parcels.length + n then .error 4 else .ok { p with parcels := p.parcels ++ (List.range n).map fun i => ⟨c, x, b, t + i * d⟩ } := by
    intro b c x t d n z
    rw [h.belt]
    cases findBelt p z with
    | none => rfl
    | some b =>
      dsimp only
      rw [eb_ok]
      by_cases hl : p.parcels.length + n ≤ 40
      · rw [if_pos hl, if_neg (by omega)]
        rfl
      · rw [if_neg hl, if_pos (by omega)]
        rfl
  match ws with
  | [] => rfl
  | n :: ws =>
  by_cases hn : isName n = true
  case neg =>
    unfold doFeed
    rw [tn_no hn, eb_err, show f_feed (n :: ws) = none by unfold f_feed; split <;> simp_all]
    rfl
  unfold doFeed
  rw [tn_ok hn, eb_ok]
  match ws with
  | [] => rfl
  | c :: ws =>
  cases hc : parseNat? c with
  | none =>
    rw [tu_no (by rw [nat_range]; exact hc), eb_err, show f_feed (n :: c :: ws) = none by unfold f_feed; split <;> simp_all]
    rfl
  | some c' =>
  rw [tu_ok (by rw [nat_range]; exact hc), eb_ok]
  match ws with
  | [] => rfl
  | x :: ws =>
  cases hx : parseInRange? 1 5 x with
  | none =>
    rw [tu_no hx, eb_err, show f_feed (n :: c :: x :: ws) = none by unfold f_feed; split <;> simp_all]
    rfl
  | some x' =>
  rw [tu_ok hx, eb_ok]
  match ws with
  | [] => rfl
  | t :: ws =>
  cases ht : parseNat? t with
  | none =>
    rw [tu_no (by rw [nat_range]; exact ht), eb_err, show f_feed (n :: c :: x :: t :: ws) = none by unfold f_feed; simp_all]
    rfl
  | some t' =>
  rw [tu_ok (by rw [nat_range]; exact ht), eb_ok]
  have hf : ∀ r, f_feed (n :: c :: x :: t :: r) = (match r with
          | [] => some (.feed n c' x' t' 1 1)
          | [e, d, s, m] => if e = ascii "every" ∧ s = ascii "times" then (parseInRange? 1 99 d).bind fun d => (parseInRange? 1 40 m).map fun m => .feed n c' x' t' d m else none
          | _ => none) := by
    intro r
    unfold f_feed
    dsimp only
    rw [if_pos hn, hc, hx, ht]
    rfl
  rw [hf]
  match ws with
  | [] =>
    show fstE (numberE ks 1 n >>= fun k => if p.parcels.length + 1 ≤ 40 then Except.ok ({ p with parcels := p.parcels ++ fed k c' x' t' 0 1 }, ks) else Except.error 4) = _
    rw [hend 0]
    rfl
  | e :: ws =>
  unfold everyE
  rw [if_neg (by simp)]
  by_cases he : e = ascii "every"
  case neg =>
    rw [tt_no he, eb_err]
    dsimp only
    split <;> simp_all
    all_goals rfl
  rw [tt_ok he, eb_ok]
  match ws with
  | [] => rfl
  | d :: ws =>
  cases hd : parseInRange? 1 99 d with
  | none =>
    rw [tu_no hd, eb_err]
    dsimp only
    split <;> simp_all
    all_goals rfl
  | some d' =>
  rw [tu_ok hd, eb_ok]
  match ws with
  | [] => rfl
  | s :: ws =>
  by_cases hs : s = ascii "times"
  case neg =>
    rw [tt_no hs, eb_err]
    dsimp only
    split <;> simp_all
    all_goals rfl
  rw [tt_ok hs, eb_ok]
  match ws with
  | [] => rfl
  | m :: ws =>
  cases hm : parseInRange? 1 40 m with
  | none =>
    rw [tu_no hm, eb_err]
    dsimp only
    split <;> simp_all
    all_goals rfl
  | some m' =>
  rw [tu_ok hm, eb_ok]
  match ws with
  | _ :: _ => rfl
  | [] =>
    dsimp only
    rw [if_pos ⟨he, hs⟩, hd, hm]
    exact hend 0 c' x' t' d' m' n
end Tote
/-! # the plain law of reading: a text -/
namespace Tote
open Xb08 (ascii TermForm LineForm isName parseNat? parseInRange? parseGoal parseCondition declare findBelt findSensor findPusher resolveGoal resolvePosition resolveTerm MAX_EACH)
theorem readTerm_eq (ws : List W) : readTerm ws = match oneT ws with | some y => .ok y | none => .error 1 := by
  match ws with
  | [] => rfl
  | [k] =>
    unfold readTerm
    show (if k = ascii "code" then _ else if k = ascii "long" then _ else if k = ascii "each" then _ else if k = ascii "full" then _ else if k = ascii "free" then _ else _) = Except.error 1
    split
    · rfl
    split
    · rfl
    split
    · rfl
    split
    · rfl
    split <;> rfl
  | k :: x :: r =>
    unfold readTerm oneT
    show (if k = ascii "code" then _ else if k = ascii "long" then _ else if k = ascii "each" then _ else if k = ascii "full" then _ else if k = ascii "free" then _ else _) = _
    dsimp only
    split
    · cases hx : parseNat? x with
      | none =>
        rw [tu_no (by rw [nat_range]; exact hx)]
        cases r <;> rfl
      | some a =>
        rw [tu_ok (by rw [nat_range]; exact hx), eb_ok]
        cases r with
        | nil => rfl
        | cons y r =>
          dsimp only
          cases hy : parseNat? y with
          | none =>
            rw [tu_no (by rw [nat_range]; exact hy)]
            rfl
          | some b =>
            rw [tu_ok (by rw [nat_range]; exact hy)]
            rfl
    split
    · cases hx : parseInRange? 1 5 x with
      | none => rw [tu_no hx]; rfl
      | some a => rw [tu_ok hx]; rfl
    split
    · cases hx : parseInRange? 1 99 x with
      | none => rw [tu_no hx]; rfl
      | some a => rw [tu_ok hx]; rfl
    split
    · by_cases hx : isName x = true
      · rw [tn_ok hx, if_pos hx]; rfl
      · rw [tn_no hx, if_neg hx]; rfl
    split
    · by_cases hx : isName x = true
      · rw [tn_ok hx, if_pos hx]; rfl
      · rw [tn_no hx, if_neg hx]; rfl
    · rfl
theorem condRest_len : ∀ (g : Nat) (acc : List TermForm) (r : List W), (∃ y, condRest g acc r = .ok y ∧ acc.length ≤ y.1.length) ∨ condRest g acc r = .error 1
  | 0, acc, r => .inr rfl
  | g + 1, acc, r => by
    unfold condRest
    by_cases h : r.head? = some (ascii "and")
    · rw [if_pos h, readTerm_eq]
      cases oneT r.tail with
      | none => exact .inr rfl
      | some x =>
        dsimp only
        rw [eb_ok]
        rcases condRest_len g (acc ++ [x.1]) x.2 with ⟨y, h1, h2⟩ | h1
        · refine .inl ⟨y, h1, ?_⟩
          rw [List.length_append] at h2
          omega
        · exact .inr h1
    · rw [if_neg h]
      exact .inl ⟨_, rfl, Nat.le_refl _⟩
def condX (f : Nat) (acc : List TermForm) (r : List W) : Option (List TermForm × List W) := match r with
  | k :: q => if k = ascii "and" then (parseCondition f q).map (fun x => (acc ++ x.1, x.2)) else some (acc, r)
  | [] => none
def fourQ (y : List TermForm × List W) : Except Nat (List TermForm × List W) := if y.1.length ≤ 4 then .ok y else .error 1
theorem condRest_eq : ∀ (g f : Nat) (acc : List TermForm) (r : List W), r.length < g → acc.length + f = 4 →
    match condX f acc r with
    | some x => (condRest g acc r >>= fourQ) = .ok x
    | none => (condRest g acc r >>= fourQ) = .error 1 ∨ ∃ y, (condRest g acc r >>= fourQ) = .ok (y, [])
  | 0, _, _, _, h, _ => absurd h (Nat.not_lt_zero _)
  | g + 1, f, acc, r, h, hf => by
    match r with
    | [] =>
      refine .inr ⟨acc, ?_⟩
      show fourQ (acc, []) = _
      exact if_pos (show acc.length ≤ 4 by omega)
    | k :: q =>
      by_cases hk : k = ascii "and"
      case neg =>
        rw [show condX f acc (k :: q) = some (acc, k :: q) from if_neg hk]
        dsimp only
        rw [show condRest (g + 1) acc (k :: q) = .ok (acc, k :: q) from if_neg (by rw [List.head?_cons]; exact fun e => hk (Option.some.inj e))]
        exact if_pos (show acc.length ≤ 4 by omega)
      rw [show condX f acc (k :: q) = (parseCondition f q).map fun x => (acc ++ x.1, x.2) from if_pos hk,
        show condRest (g + 1) acc (k :: q) = (readTerm q >>= fun x => condRest g (acc ++ [x.1]) x.2) from if_pos (by rw [List.head?_cons, hk]), readTerm_eq]
      match f, hf with
      | 0, hf =>
        rw [show parseCondition 0 q = none from rfl]
        dsimp only [Option.map_none]
        cases oneT q with
        | none => exact .inl rfl
        | some x =>
          dsimp only
          rw [eb_ok]
          rcases condRest_len g (acc ++ [x.1]) x.2 with ⟨y, h1, h2⟩ | h1
          · rw [h1, eb_ok]
            refine .inl (if_neg ?_)
            rw [List.length_append, List.length_singleton] at h2
            omega
          · rw [h1]
            exact .inl rfl
      | f + 1, hf =>
        rw [cond_succ]
        cases hq : oneT q with
        | none => exact .inl rfl
        | some x =>
          have hl := readTerm_len (ws := q) (x := x) (by rw [readTerm_eq, hq])
          rw [List.length_cons] at h
          have ih := condRest_eq g f (acc ++ [x.1]) x.2 (by omega) (by rw [List.length_append, List.length_singleton]; omega)
          dsimp only [Option.bind_some]
          rw [eb_ok]
          have e : condX f (acc ++ [x.1]) x.2 = Option.map (fun y => (acc ++ y.1, y.2)) (condN f x) := by
            unfold condX condN
            cases x.2 with
            | nil => rfl
            | cons k2 q2 =>
              dsimp only
              split
              · rw [Option.map_map]
                congr 1
                funext y
                simp
              · rfl
          rw [← e]
          exact ih
theorem readCond_eq (ws : List W) : match parseCondition 4 ws with
    | some x => readCond ws = .ok x
    | none => readCond ws = .error 1 ∨ ∃ y, readCond ws = .ok (y, []) := by
  have hr : readCond ws = (readTerm ws >>= fun x => condRest (x.2.length + 1) [x.1] x.2 >>= fourQ) := rfl
  rw [hr, readTerm_eq, cond_succ]
  cases hq : oneT ws with
  | none => exact .inl rfl
  | some x =>
    have ih := condRest_eq (x.2.length + 1) 3 [x.1] x.2 (Nat.lt_succ_self _) rfl
    dsimp only [Option.bind_some]
    rw [eb_ok]
    exact ih
variable {p : Xb08.Plant} {ks : List KN}
theorem do_rule_eq (h : KnOk ks p) (ws : List W) : fstE (doRule p ks ws) = formDo p (f_when ws) := by
  match ws with
  | [] => rfl
  | n :: ws =>
  unfold doRule f_when
  dsimp only
  by_cases hn : isName n = true
  case neg =>
    rw [tn_no hn, eb_err, if_neg hn]
    rfl
  rw [tn_ok hn, eb_ok, if_pos hn]
  dsimp only
  have hc := readCond_eq ws
  cases hp : parseCondition 4 ws with
  | none =>
    rw [hp] at hc
    rcases hc with e | ⟨y, e⟩
    · rw [e]
      rfl
    · rw [e]
      rfl
  | some x =>
    rw [hp] at hc
    dsimp only at hc
    rw [hc, eb_ok, Option.bind_some]
    obtain ⟨x1, x2⟩ := x
    dsimp only
    match x2 with
    | [] => rfl
    | u :: ws =>
    by_cases hu : u = ascii "push"
    case neg =>
      rw [tt_no hu, eb_err]
      split <;> simp_all
      all_goals rfl
    rw [tt_ok hu, eb_ok]
    match ws with
    | [] => rfl
    | m :: ws =>
    by_cases hm : isName m = true
    case neg =>
      rw [tn_no hm, eb_err]
      split <;> simp_all
      all_goals rfl
    rw [tn_ok hm, eb_ok]
    match ws with
    | [] => rfl
    | a :: ws =>
    by_cases ha : a = ascii "after"
    case neg =>
      rw [tt_no ha, eb_err]
      split <;> simp_all
      all_goals rfl
    rw [tt_ok ha, eb_ok]
    match ws with
    | [] => rfl
    | d :: ws =>
    cases hd : parseInRange? 1 99 d with
    | none =>
      rw [tu_no hd, eb_err]
      split <;> simp_all
      all_goals rfl
    | some d' =>
    rw [tu_ok hd, eb_ok]
    match ws with
    | _ :: _ => rfl
    | [] =>
      dsimp only
      rw [if_pos ⟨hu, hm, ha⟩, hd]
      show fstE (numberE ks 3 n >>= fun y => knownAll ks x1 >>= fun cs => numberE ks 4 m >>= fun u => _) = match findSensor p n with | none => _ | some e => _
      rw [h.sensor, h.terms, h.pusher]
      cases findSensor p n with
      | none => rfl
      | some y =>
        dsimp only
        rw [eb_ok]
        cases x1.mapM (resolveTerm p) with
        | error e => rfl
        | ok cs =>
          dsimp only
          rw [eb_ok]
          cases findPusher p m with
          | none => rfl
          | some u =>
            dsimp only
            rw [eb_ok]
            by_cases hl : p.rules.length < 12
            · rw [if_pos hl, if_neg (show ¬ MAX_EACH ≤ p.rules.length from fun z => absurd (show 12 ≤ p.rules.length from z) (by omega))]
              rfl
            · rw [if_neg hl, if_pos (show MAX_EACH ≤ p.rules.length from (by omega : 12 ≤ p.rules.length))]
              rfl
theorem doLine_eq (h : KnOk ks p) (k : W) (ws : List W) : fstE (doLine p ks (k :: ws)) = formDo p (formOf (k :: ws)) := by
  unfold doLine
  show fstE (if k = ascii "chute" then doChute p ks ws else if k = ascii "belt" then doBelt p ks ws else if k = ascii "lead" then doLead p ks ws else if k = ascii "eye" then doEye p ks ws
    else if k = ascii "push" then doPusher p ks ws else if k = ascii "when" then doRule p ks ws else if k = ascii "feed" then doFeed p ks ws else .error 1) =
    formDo p (if k = ascii "chute" then f_chute ws else if k = ascii "belt" then f_belt ws else if k = ascii "lead" then f_lead ws else if k = ascii "eye" then f_eye ws
    else if k = ascii "push" then f_push ws else if k = ascii "when" then f_when ws else if k = ascii "feed" then f_feed ws else none)
  split
  · exact do_chute_eq h ws
  split
  · exact do_belt_eq h ws
  split
  · exact do_lead_eq h ws
  split
  · exact do_eye_eq h ws
  split
  · exact do_push_eq h ws
  split
  · exact do_rule_eq h ws
  split
  · exact do_feed_eq h ws
  · rfl
theorem readAll_eq : ∀ (ls : List (List Nat)) (n : Nat) (p : Xb08.Plant) (ks : List KN), KnOk ks p → Lim p →
    (readAll n p ks (ls.map fun l => (Xb08.lineWords l).map sg)).map Prod.fst = Xb08.parseLines n p ls
  | [], n, p, ks, _, _ => rfl
  | l :: ls, n, p, ks, h, hl => by
    rw [List.map_cons]
    unfold Xb08.parseLines
    rw [line_eq, form_eq, ← form_sg]
    cases hw : (Xb08.lineWords l).map sg with
    | nil => exact readAll_eq ls (n + 1) p ks h hl
    | cons k ws =>
      have e := doLine_eq h k ws
      rw [← e]
      show Except.map Prod.fst (match doLine p ks (k :: ws) with | .ok r => readAll (n + 1) r.1 r.2 _ | .error c => .error (c, n)) = _
      cases hd : doLine p ks (k :: ws) with
      | error c => rfl
      | ok r =>
        obtain ⟨h2, hl2⟩ := doLine_ok hd h hl
        exact readAll_eq ls (n + 1) r.1 r.2 h2 hl2
theorem noPlant_ok : KnOk [] noPlant := by
  refine ⟨List.nodup_nil, fun k => ?_⟩
  unfold namesOf
  split
  · rfl
  split
  · rfl
  split
  · rfl
  split
  · rfl
  · rfl
theorem noPlant_lim : Lim noPlant := ⟨Nat.zero_le _, Nat.zero_le _, Nat.zero_le _, Nat.zero_le _, Nat.zero_le _, Nat.zero_le _⟩
/-- **what the program reads is what the document reads** -/
theorem read_eq (t : List Nat) : (readAll 1 noPlant [] (linesW t)).map Prod.fst = Xb08.parseText t := by
  rw [linesW_eq]
  exact readAll_eq _ _ _ _ noPlant_ok noPlant_lim
end Tote
/-! # what a text has told is sound -/
namespace Tote
open Xb08 (ascii TermForm LineForm isName parseNat? parseInRange? beltLength Goal)
structure Ext (p p' : Xb08.Plant) : Prop where
  be : p.belts.length ≤ p'.belts.length
  le : ∀ k, k < p.belts.length → beltLength p' k = beltLength p k
  ch : p.chutes.length ≤ p'.chutes.length
theorem GoalOk.ext {p p' : Xb08.Plant} (e : Ext p p') {gl : Goal} (h : GoalOk p gl) : GoalOk p' gl := by
  cases gl with
  | belt k x =>
    obtain ⟨h1, h2⟩ := h
    exact ⟨Nat.lt_of_lt_of_le h1 e.be, by rw [e.le k h1]; exact h2⟩
  | chute k => exact Nat.lt_of_lt_of_le (show k < _ from h) e.ch
theorem CondOk.ext {p p' : Xb08.Plant} (e : Ext p p') {c : Xb08.Cond} (h : CondOk p c) : CondOk p' c := by
  cases c with
  | code a b => trivial
  | length n => trivial
  | each n => exact h
  | full k => exact Nat.lt_of_lt_of_le (show k < _ from h) e.ch
  | free k => exact Nat.lt_of_lt_of_le (show k < _ from h) e.be
theorem Ext.refl (p : Xb08.Plant) : Ext p p := ⟨Nat.le_refl _, fun _ _ => rfl, Nat.le_refl _⟩
theorem tu_le {a b : Nat} {ws : List W} {x : Nat × List W} (h : takeNumber a b ws = .ok x) : a ≤ x.1 ∧ x.1 ≤ b := by
  cases ws with
  | nil => cases h
  | cons z r =>
    unfold takeNumber at h
    dsimp only at h
    cases e : parseInRange? a b z with
    | none => rw [e] at h; cases h
    | some n =>
      rw [e] at h
      cases h
      unfold parseInRange? at e
      cases e2 : parseNat? z with
      | none => rw [e2] at e; cases e
      | some m =>
        rw [e2] at e
        change (if a ≤ m ∧ m ≤ b then some m else none) = some n at e
        split at e
        · cases e; assumption
        · cases e
variable {p : Xb08.Plant} {ks : List KN}
theorem KnOk.lt {k i : Nat} {n : W} (ok : KnOk ks p) (h : numberE ks k n = .ok i) : i < (namesOf p k).length := by
  have := ok.number h
  rw [List.getElem?_eq_some_iff] at this
  exact this.1
theorem beltWith_ok {n : W} {x i : Nat} (ok : KnOk ks p) (h : beltWith p ks n x = .ok i) : i < p.belts.length ∧ x < beltLength p i := by
  unfold beltWith at h
  obtain ⟨k, e, h⟩ := ok_bind h
  split at h
  · cases h
    exact ⟨ok.belt_lt e, by assumption⟩
  · cases h
theorem goalE_ok {o : W × Option Nat} {gl : Goal} (ok : KnOk ks p) (h : goalE p ks o = .ok gl) : GoalOk p gl := by
  obtain ⟨n, o⟩ := o
  cases o with
  | none =>
    change (numberE ks 2 n >>= fun k => Except.ok (Goal.chute k)) = _ at h
    obtain ⟨k, e, h⟩ := ok_bind h
    cases h
    have := ok.lt e
    rw [show namesOf p 2 = p.chutes.map (·.name) from rfl, List.length_map] at this
    exact this
  | some x =>
    change (beltWith p ks n x >>= fun k => Except.ok (Goal.belt k x)) = _ at h
    obtain ⟨k, e, h⟩ := ok_bind h
    cases h
    exact beltWith_ok ok e
def TfOk (f : TermForm) : Prop := ∀ n, f = .each n → 1 ≤ n
theorem readTerm_tf {ws : List W} {x : TermForm × List W} (h : readTerm ws = .ok x) : TfOk x.1 := by
  unfold readTerm at h
  obtain ⟨a, _, h⟩ := ok_bind h
  intro n e
  split at h
  · obtain ⟨b, _, h⟩ := ok_bind h
    obtain ⟨c, _, h⟩ := ok_bind h
    cases h
    cases e
  split at h
  · obtain ⟨b, _, h⟩ := ok_bind h
    cases h
    cases e
  split at h
  · obtain ⟨b, eb, h⟩ := ok_bind h
    cases h
    cases e
    exact (tu_le eb).1
  split at h
  · obtain ⟨b, eb, h⟩ := ok_bind h
    cases h
    cases e
  split at h
  · obtain ⟨b, eb, h⟩ := ok_bind h
    cases h
    cases e
  · cases h
theorem condRest_tf : ∀ (g : Nat) (acc : List TermForm) (r : List W) (y : List TermForm × List W), condRest g acc r = .ok y → (∀ f ∈ acc, TfOk f) → ∀ f ∈ y.1, TfOk f
  | 0, _, _, _, h, _ => by cases h
  | g + 1, acc, r, y, h, ha => by
    unfold condRest at h
    split at h
    · obtain ⟨x, ex, h⟩ := ok_bind h
      refine condRest_tf g _ _ y h fun f hf => ?_
      rcases List.mem_append.mp hf with hf | hf
      · exact ha f hf
      · rw [List.mem_singleton.mp hf]
        exact readTerm_tf ex
    · cases h
      exact ha
theorem readCond_tf {ws : List W} {y : List TermForm × List W} (h : readCond ws = .ok y) : (∀ f ∈ y.1, TfOk f) ∧ y.1.length ≤ 4 := by
  unfold readCond at h
  obtain ⟨x, ex, h⟩ := ok_bind h
  obtain ⟨z, ez, h⟩ := ok_bind h
  split at h
  · cases h
    refine ⟨condRest_tf _ _ _ _ ez fun f hf => ?_, by assumption⟩
    rw [List.mem_singleton.mp hf]
    exact readTerm_tf ex
  · cases h
theorem knownE_ok {f : TermForm} {c : Xb08.Cond} (ok : KnOk ks p) (hf : TfOk f) (h : knownE ks f = .ok c) : CondOk p c := by
  cases f with
  | code a b => cases h; trivial
  | length n => cases h; trivial
  | each n => cases h; exact hf n rfl
  | full n =>
    change (numberE ks 2 n >>= fun k => Except.ok (Xb08.Cond.full k)) = _ at h
    obtain ⟨k, e, h⟩ := ok_bind h
    cases h
    have := ok.lt e
    rw [show namesOf p 2 = p.chutes.map (·.name) from rfl, List.length_map] at this
    exact this
  | free n =>
    change (numberE ks 1 n >>= fun k => Except.ok (Xb08.Cond.free k)) = _ at h
    obtain ⟨k, e, h⟩ := ok_bind h
    cases h
    exact ok.belt_lt e
theorem knownAll_ok (ok : KnOk ks p) : ∀ {l : List TermForm} {cs : List Xb08.Cond}, (∀ f ∈ l, TfOk f) → knownAll ks l = .ok cs → cs.length = l.length ∧ ∀ c ∈ cs, CondOk p c
  | [], cs, _, h => by
    cases h
    exact ⟨rfl, fun c hc => absurd hc List.not_mem_nil⟩
  | f :: r, cs, hf, h => by
    change (knownE ks f >>= fun c => knownAll ks r >>= fun cs => Except.ok (c :: cs)) = _ at h
    obtain ⟨c, e, h⟩ := ok_bind h
    obtain ⟨cs', e', h⟩ := ok_bind h
    cases h
    obtain ⟨h1, h2⟩ := knownAll_ok ok (fun f hf' => hf f (List.mem_cons_of_mem _ hf')) e'
    refine ⟨by rw [List.length_cons, List.length_cons, h1], fun d hd => ?_⟩
    rcases List.mem_cons.mp hd with rfl | hd
    · exact knownE_ok ok (hf f List.mem_cons_self) e
    · exact h2 d hd
theorem PlOk.ext {p' : Xb08.Plant} (h : PlOk p) (l : Lim p') (e : Ext p p') (h1 : ∀ b ∈ p'.belts, (1 ≤ b.length ∧ b.length ≤ 40) ∧ ∀ gl, b.goal = some gl → GoalOk p' gl)
    (h2 : ∀ u ∈ p'.pushers, u ∈ p.pushers ∨ GoalOk p' u.goal) (h3 : p.pushers.length ≤ p'.pushers.length) (h4 : ∀ r ∈ p'.rules, r ∈ p.rules ∨ (r.push < p'.pushers.length ∧ r.conds.length ≤ 4 ∧ ∀ c ∈ r.conds, CondOk p' c))
    (h5 : ∀ q ∈ p'.parcels, q ∈ p.parcels ∨ (q.belt < p'.belts.length ∧ 1 ≤ q.length ∧ q.length ≤ 5)) : PlOk p' := by
  refine ⟨l, fun b hb => (h1 b hb).1, fun b hb => (h1 b hb).2, fun u hu => ?_, fun r hr => ?_, fun q hq => ?_⟩
  · rcases h2 u hu with m | m
    · exact (h.pu u m).ext e
    · exact m
  · rcases h4 r hr with m | m
    · obtain ⟨a1, a2, a3⟩ := h.ru r m
      exact ⟨Nat.lt_of_lt_of_le a1 h3, a2, fun c hc => (a3 c hc).ext e⟩
    · exact m
  · rcases h5 q hq with m | m
    · obtain ⟨a1, a2, a3⟩ := h.pa q m
      exact ⟨Nat.lt_of_lt_of_le a1 e.be, a2, a3⟩
    · exact m
theorem PlOk.belt (h : PlOk p) {p' : Xb08.Plant} (e : Ext p p') : ∀ b ∈ p.belts, (1 ≤ b.length ∧ b.length ≤ 40) ∧ ∀ gl, b.goal = some gl → GoalOk p' gl := fun b hb => ⟨h.pos b hb, fun gl e2 => (h.go b hb gl e2).ext e⟩
theorem doLine_pl {ws : List W} {r : Xb08.Plant × List KN} (h : doLine p ks ws = .ok r) (ok : KnOk ks p) (lim : Lim p) (pl : PlOk p) : PlOk r.1 := by
  obtain ⟨ok', lim'⟩ := doLine_ok h ok lim
  clear ok'
  unfold doLine at h
  obtain ⟨a, ea, h⟩ := ok_bind h
  split at h
  · unfold doChute at h
    obtain ⟨x, ex, h⟩ := ok_bind h
    obtain ⟨y, ey, h⟩ := ok_bind h
    obtain ⟨_, _, h⟩ := ok_bind h
    obtain ⟨_, en, h⟩ := ok_bind h
    cases h
    have e : Ext p { p with chutes := p.chutes ++ [⟨x.1, y.1⟩] } := ⟨Nat.le_refl _, fun _ _ => rfl, by simp⟩
    exact pl.ext lim' e (pl.belt e) (fun u hu => .inl hu) (Nat.le_refl _) (fun r hr => .inl hr) (fun q hq => .inl hq)
  split at h
  · unfold doBelt at h
    obtain ⟨x, ex, h⟩ := ok_bind h
    obtain ⟨y, ey, h⟩ := ok_bind h
    obtain ⟨o, _, h⟩ := ok_bind h
    obtain ⟨_, en, h⟩ := ok_bind h
    obtain ⟨gl, eg, h⟩ := ok_bind h
    cases h
    have e : Ext p { p with belts := p.belts ++ [⟨x.1, y.1, gl⟩] } := ⟨by simp, fun k hk => by
      unfold beltLength
      rw [List.getElem?_append_left hk], Nat.le_refl _⟩
    refine pl.ext lim' e (fun b hb => ?_) (fun u hu => .inl hu) (Nat.le_refl _) (fun r hr => .inl hr) (fun q hq => .inl hq)
    rcases List.mem_append.mp hb with hb | hb
    · exact pl.belt e b hb
    · rw [List.mem_singleton.mp hb]
      refine ⟨tu_le ey, fun g2 e2 => ?_⟩
      change gl = some g2 at e2
      subst e2
      cases o with
      | none => cases eg
      | some o =>
        change (goalE p ks o >>= fun gl => Except.ok (some gl)) = _ at eg
        obtain ⟨g3, e3, eg⟩ := ok_bind eg
        cases eg
        exact (goalE_ok ok e3).ext e
  split at h
  · unfold doLead at h
    obtain ⟨x, ex, h⟩ := ok_bind h
    obtain ⟨y, ey, h⟩ := ok_bind h
    obtain ⟨_, _, h⟩ := ok_bind h
    obtain ⟨k, _, h⟩ := ok_bind h
    obtain ⟨gl, eg, h⟩ := ok_bind h
    cases h
    have e : Ext p { p with belts := p.belts.modify k fun x => { x with goal := some gl } } := ⟨by simp, fun i hi => by
      unfold beltLength
      rw [List.getElem?_modify]
      cases p.belts[i]? with
      | none => rfl
      | some b =>
        by_cases e : k = i
        · simp [e]
        · simp [e], Nat.le_refl _⟩
    refine pl.ext lim' e (fun b hb => ?_) (fun u hu => .inl hu) (Nat.le_refl _) (fun r hr => .inl hr) (fun q hq => .inl hq)
    obtain ⟨i, hi⟩ := List.getElem?_of_mem hb
    change (p.belts.modify k fun x => { x with goal := some gl })[i]? = some b at hi
    rw [List.getElem?_modify] at hi
    cases hb2 : p.belts[i]? with
    | none => rw [hb2] at hi; cases hi
    | some c =>
      have hc := pl.belt e c (List.mem_of_getElem? hb2)
      rw [hb2] at hi
      change some (if k = i then { c with goal := some gl } else c) = some b at hi
      by_cases e2 : k = i
      · rw [if_pos e2] at hi
        cases hi
        exact ⟨hc.1, fun g2 e3 => by cases e3; exact (goalE_ok ok eg).ext e⟩
      · rw [if_neg e2] at hi
        cases hi
        exact hc
  split at h
  · unfold doEye at h
    obtain ⟨x, ex, h⟩ := ok_bind h
    obtain ⟨y, ey, h⟩ := ok_bind h
    obtain ⟨c, _, h⟩ := ok_bind h
    obtain ⟨d, _, h⟩ := ok_bind h
    obtain ⟨_, _, h⟩ := ok_bind h
    obtain ⟨_, en, h⟩ := ok_bind h
    obtain ⟨k, _, h⟩ := ok_bind h
    cases h
    have e : Ext p { p with sensors := p.sensors ++ [⟨x.1, k, d.1⟩] } := ⟨Nat.le_refl _, fun _ _ => rfl, Nat.le_refl _⟩
    exact pl.ext lim' e (pl.belt e) (fun u hu => .inl hu) (Nat.le_refl _) (fun r hr => .inl hr) (fun q hq => .inl hq)
  split at h
  · unfold doPusher at h
    obtain ⟨x, ex, h⟩ := ok_bind h
    obtain ⟨y, ey, h⟩ := ok_bind h
    obtain ⟨c, _, h⟩ := ok_bind h
    obtain ⟨d, _, h⟩ := ok_bind h
    obtain ⟨_, _, h⟩ := ok_bind h
    obtain ⟨o, _, h⟩ := ok_bind h
    obtain ⟨_, en, h⟩ := ok_bind h
    obtain ⟨k, _, h⟩ := ok_bind h
    obtain ⟨gl, eg, h⟩ := ok_bind h
    cases h
    have e : Ext p { p with pushers := p.pushers ++ [⟨x.1, k, d.1, gl⟩] } := ⟨Nat.le_refl _, fun _ _ => rfl, Nat.le_refl _⟩
    refine pl.ext lim' e (pl.belt e) (fun u hu => ?_) (by simp) (fun r hr => .inl hr) (fun q hq => .inl hq)
    rcases List.mem_append.mp hu with hu | hu
    · exact .inl hu
    · rw [List.mem_singleton.mp hu]
      exact .inr ((goalE_ok ok eg).ext e)
  split at h
  · unfold doRule at h
    obtain ⟨x, ex, h⟩ := ok_bind h
    obtain ⟨y, ey, h⟩ := ok_bind h
    obtain ⟨_, _, h⟩ := ok_bind h
    obtain ⟨d, _, h⟩ := ok_bind h
    obtain ⟨_, _, h⟩ := ok_bind h
    obtain ⟨f, _, h⟩ := ok_bind h
    obtain ⟨_, _, h⟩ := ok_bind h
    obtain ⟨s, _, h⟩ := ok_bind h
    obtain ⟨cs, ec, h⟩ := ok_bind h
    obtain ⟨u, eu, h⟩ := ok_bind h
    split at h
    · cases h
      have e : Ext p { p with rules := p.rules ++ [⟨s, cs, u, f.1⟩] } := ⟨Nat.le_refl _, fun _ _ => rfl, Nat.le_refl _⟩
      refine pl.ext lim' e (pl.belt e) (fun u hu => .inl hu) (Nat.le_refl _) (fun r hr => ?_) (fun q hq => .inl hq)
      rcases List.mem_append.mp hr with hr | hr
      · exact .inl hr
      · rw [List.mem_singleton.mp hr]
        obtain ⟨t1, t2⟩ := readCond_tf ey
        obtain ⟨k1, k2⟩ := knownAll_ok ok t1 ec
        have := ok.lt eu
        rw [show namesOf p 4 = p.pushers.map (·.name) from rfl, List.length_map] at this
        exact .inr ⟨this, by dsimp only; omega, fun c hc => (k2 c hc).ext e⟩
    · cases h
  split at h
  · unfold doFeed at h
    obtain ⟨x, ex, h⟩ := ok_bind h
    obtain ⟨y, ey, h⟩ := ok_bind h
    obtain ⟨z, ez, h⟩ := ok_bind h
    obtain ⟨w, _, h⟩ := ok_bind h
    obtain ⟨v, _, h⟩ := ok_bind h
    obtain ⟨k, ek, h⟩ := ok_bind h
    split at h
    · cases h
      have e : Ext p { p with parcels := p.parcels ++ fed k y.1 z.1 w.1 v.1 v.2 } := ⟨Nat.le_refl _, fun _ _ => rfl, Nat.le_refl _⟩
      refine pl.ext lim' e (pl.belt e) (fun u hu => .inl hu) (Nat.le_refl _) (fun r hr => .inl hr) (fun q hq => ?_)
      rcases List.mem_append.mp hq with hq | hq
      · exact .inl hq
      · obtain ⟨i, _, rfl⟩ := List.mem_map.mp hq
        exact .inr ⟨ok.belt_lt ek, tu_le ez⟩
    · cases h
  · cases h
theorem readAll_pl : ∀ {rows : List (List W)} {n : Nat} {p : Xb08.Plant} {ks : List KN} {r : Xb08.Plant × List KN}, readAll n p ks rows = .ok r → KnOk ks p → Lim p → PlOk p → PlOk r.1
  | [], n, p, ks, r, h, _, _, pl => by
    cases h
    exact pl
  | row :: rows, n, p, ks, r, h, ok, lim, pl => by
    unfold readAll at h
    split at h
    · exact readAll_pl h ok lim pl
    · cases hd : doLine p ks row with
      | error c => rw [hd] at h; cases h
      | ok s =>
        rw [hd] at h
        obtain ⟨ok2, lim2⟩ := doLine_ok hd ok lim
        exact readAll_pl h ok2 lim2 (doLine_pl hd ok lim pl)
theorem noPlant_pl : PlOk noPlant := ⟨noPlant_lim, fun _ h => absurd h List.not_mem_nil, fun _ h => absurd h List.not_mem_nil, fun _ h => absurd h List.not_mem_nil, fun _ h => absurd h List.not_mem_nil, fun _ h => absurd h List.not_mem_nil⟩
theorem read_pl {t : List Nat} {r : Xb08.Plant × List KN} (h : readAll 1 noPlant [] (linesW t) = .ok r) : PlOk r.1 := readAll_pl h noPlant_ok noPlant_lim noPlant_pl
end Tote
/-! # desk.py: load -/
namespace Tote
open PySem PySem.Spec PyProof.Rows L2 Tq
open SX (S S_inj S_len S_cat)
open Xb08 (Simulation Goal placeOfParcel parcelOf natInt parcelsOnBelt stepTick inRange)
variable {g : GG}
theorem mk_read1 {K : PySem.W.Frag} {C : Addr} {f : Str} {H : Hp} {Q : XK} {v : V} (q : ∀ d H', Same H H' → H' d = some (.xd [(f, v)]) → Q (.ref C) (some d) H') : tMkO C (spV1 K C f) [] (tCons (tC v) tNil) [] H Q := by
  obtain ⟨v', e, h⟩ := mk_read (K := K) (C := C) (σ := [some v]) (i := 0) (Q := Q) ⟨v, rfl, q⟩
  cases e
  exact h
def ansLoad (p : Xb08.Plant) : List Int := [natInt p.belts.length, natInt p.chutes.length, natInt p.sensors.length, natInt p.pushers.length, natInt p.rules.length, natInt p.parcels.length]
def sp_Desk_load (g : GG) : Sp := fun vs H Q E => ∃ (d : Addr) (R : Hp) (st : Option Simulation) (a : Addr) (ns : List Int), vs = [.ref d, .ref a] ∧ DeskAt g H R d st ∧ SqL g.K H a (ns.map .int) ∧ ns.length ≤ 1000000 ∧
  (Xb08.isValidText ns = false → RFt g E H (-2)) ∧
  (Xb08.isValidText ns = true → match Xb08.parseText (Xb08.toBytes ns) with
    | .error e => RFt g E H (-(100 * natInt e.2 + natInt e.1 + 10))
    | .ok p => ∀ H' q, DeskAt g H' R d (some (Xb08.initial p)) → H' q = some (.lst ((ansLoad p).map .int)) → R q = none → Q (.ref q) H')
theorem ok_Desk_load (T : Tx g) : Mt (L2.CX g.P g.w) g 12 "Desk" "load" ["self", "text"] (sp_Desk_load g) := by
  refine mtC (k := 11) T.cl_Desk T.me_Desk_load T.df_Desk_load sc_Desk_load (fun _ _ _ _ _ _ us hl => match us, hl with | [_, _], _ => rfl) ?_ ?_
  · rintro vs H Q E ⟨d, R, st, a, ns, rfl, _⟩
    rfl
  · rintro cdv A outer s H vs Q E hr ⟨d, R, st, a, ns, rfl, hd, ha, hn, q1, q2⟩
    obtain ⟨fd, fb, FA⟩ := ih_Refused T
    refine ⟨_, (pss_cons (ps_expr (pe_fx (ok_refuse_unless T) hr (by decide) pxC (pa_cons (pe_fn (ok_is_text T) hr (by decide) (pa_cons (pv 1) pa_nil)) (pa_cons (C8.pe_gc rfl T.in_OUT_OF_RANGE) pa_nil)))) (pss_cons (ps_tryR (i := 3) (R := RCh) (P := fun _ => True) (C := cF g "TextFault") RCh.ok (fun _ _ _ h => h) (fun _ _ _ _ => trivial) rfl rfl rfl sc_Desk_load.nd rfl rfl ⟨rfl, by decide, .inl T.gl_TextFault⟩ T.xm_TextFault (raises_own T.x_TextFault.o.exC T.x_TextFault.o.tyC)
      (L2H.passesAt_of rfl) (out_any (L2.takes_of rfl rfl rfl rfl))
      (fun W pn xe tk hpo => pss_one (ps_set (i := 2) sc_Desk_load.nd rfl (.inl rfl) (pe_fxS (ok_read_plant T) hr (by decide) (passAtR tk) (pa_cons (pv 1) pa_nil))))
      (fun a oe d pn h1 h2 h3 => pmk_hot T.x_Refused.o T.x_Refused.i T.x_Refused.t FA (L2H.roomH_mark (hr.mono (by decide)) _) fb List.mem_cons_self C8.pass0 rfl T.gl_Refused (pa_cons (pe_un un_neg (pe_op op_add (pe_op op_add (pe_op op_mul pe_int (pe_xf T.x_TextFault.x T.na_TextFault_line ⟨h1, h2⟩ h3 (pv 3))) (pe_xf T.x_TextFault.x T.na_TextFault_code ⟨h1, h2⟩ h3 (pv 3))) pe_int)) pa_nil))) (pss_cons (ps_fc T.cl_Desk T.na_Desk_floor (pv 0) (pe_nw (ok_Floor_init T) hr (by decide) (pa_cons (pv 2) (pa_cons (pe_fc T.cl_Plant T.na_Plant_parcels (pv 2)) pa_nil)))) (pss_cons (ps_set (i := 4) sc_Desk_load.nd rfl (.inl rfl) (pe_lst (pa_cons (pe_callB call_lenS (by rfl) T.fr_len bt_len (pa_cons (pe_fc T.cl_Plant T.na_Plant_lengths (pv 2)) pa_nil)) (pa_cons (pe_callB call_lenS (by rfl) T.fr_len bt_len (pa_cons (pe_fc T.cl_Plant T.na_Plant_rooms (pv 2)) pa_nil)) (pa_cons (pe_callB call_lenS (by rfl) T.fr_len bt_len (pa_cons (pe_fc T.cl_Plant T.na_Plant_eyes (pv 2)) pa_nil)) (pa_cons (pe_callB call_lenS (by rfl) T.fr_len bt_len (pa_cons (pe_fc T.cl_Plant T.na_Plant_pushers (pv 2)) pa_nil)) pa_nil)))))) (pss_one (ps_ret (pe_op op_cat (pv 4) (pe_lst (pa_cons (pe_callB call_lenS (by rfl) T.fr_len bt_len (pa_cons (pe_fc T.cl_Plant T.na_Plant_rules (pv 2)) pa_nil)) (pa_cons (pe_callB call_lenS (by rfl) T.fr_len bt_len (pa_cons (pe_fc T.cl_Plant T.na_Plant_parcels (pv 2)) pa_nil)) pa_nil)))))))))), ?_⟩
    refine ⟨_, rfl, a, ns, rfl, ha, hn, fun H1 s1 => ⟨_, _, rfl, fun hv => ?_, fun hv => (q1 hv).mono s1⟩⟩
    have hlen : ns.length ≤ 4000 := by
      unfold Xb08.isValidText at hv
      rw [Bool.and_eq_true, decide_eq_true_iff] at hv
      exact hv.1
    have hnn : (ns.map Int.toNat).map iV = ns.map .int := by
      unfold Xb08.isValidText at hv
      rw [Bool.and_eq_true, List.all_eq_true] at hv
      rw [List.map_map]
      refine List.map_congr_left fun z hz => ?_
      have := hv.2 z hz
      rw [Bool.or_eq_true, beq_iff_eq, ← in_of] at this
      show V.int (z.toNat : Int) = V.int z
      rw [Int.toNat_of_nonneg (by omega)]
    have q := q2 hv
    refine ⟨_, rfl, a, ns.map Int.toNat, rfl, by rw [hnn]; exact s1.seq ha, by rw [List.length_map]; exact hlen, ?_⟩
    have hrd := read_eq (ns.map Int.toNat)
    rw [show Xb08.toBytes ns = ns.map Int.toNat from rfl, ← hrd] at q
    cases hra : readAll 1 noPlant [] (linesW (ns.map Int.toNat)) with
    | error e =>
      rw [hra] at q
      change RFt g E H (-(100 * natInt e.2 + natInt e.1 + 10)) at q
      show TF _ _ _ _ _
      intro dx H2 s2 hdx
      refine ⟨rfl, fun x hx => ⟨_, rfl, rfl, rfl, dx, _, _, rfl, hdx, rfl, _, _, rfl, rfl, .inl (by decide), _, rfl, rfl, rfl, dx, _, _, rfl, hdx, rfl, _, _, rfl, rfl, _, _, rfl, rfl, _, rfl, mk_read1 fun d2 H3 s3 hd2 => ?_⟩⟩
      exact q d2 H3 (s1.trans (s2.trans s3)) hd2
    | ok r =>
      rw [hra] at q
      change ∀ H' q, DeskAt g H' R d (some (Xb08.initial r.1)) → H' q = some (.lst ((ansLoad r.1).map .int)) → R q = none → Q (.ref q) H' at q
      show KnOk r.2 r.1 → Lim r.1 → _
      intro ok lim H2 L hp
      have plok := read_pl hra
      obtain ⟨lx, hL⟩ := hp.ins
      change H2 L.pl = some (.ins (cF g "Plant") lx (plF (.ref L.kn) (.ref L.le) (.ref L.go) (.ref L.ro) (.ref L.ey) (.ref L.pu) (.ref L.ru) (.ref L.pa))) at hL
      simp only [rIxD, gSub, rSetL, sDPut, tDGet, tDIn, tDNotIn, wipe, rLenS, tBM, rAppend, rExtend, rIn, cx_K, rIxS, rIxL, rIxT, tRet, tIfS, tTest, tChain, rI, rI0, rU, tC, tVar, tOp, tUn, tCB, tCons, tNil, tSeq, tNext, tB, tNot, tAnd, tOr, tAndV, tOrV, tNotV, tFc, sFc, sFcA, tMt, tCl, tNw, tLst, tTup, tDrop, tAsg, tPar, gName, gCons, gNil, tR1, rEq, rNe, rAdd, rSub, tAug, ipI, L2.start, List.map, List.length, List.replicate, List.append, List.set, exists_eq_left', exists_eq_left, exists_eq_right, exists_eq_right', exists_and_left, exists_and_right, exists_eq, exists_eq', Option.some.injEq, List.getElem?_cons_zero, List.getElem?_cons_succ, V.bl.injEq, V.int.injEq, V.str.injEq, V.ref.injEq, List.cons_append, List.nil_append, List.cons.injEq, HO.ins.injEq, HO.lst.injEq, HO.tup.injEq, true_and, and_true, decide_eq_true_eq, Bool.false_eq_true, ↓reduceIte, Bool.not_true, Bool.not_false, Bool.not_eq_true', decide_eq_false_iff_not, List.set_cons_zero, List.set_cons_succ, and_assoc, scal, dec_int, dec_str, forall_const, implies_true, plF_get, hL]
      intro fl dy hfl hdy hne
      have s2 : Same H2 (upd (upd H2 dy (.own fl)) fl (.ins (cF g "Floor") dy [])) := (Same.new hdy).trans (Same.new (by rw [upd_ne (fun z => hne z.symm)]; exact hfl))
      have hfl2 : (upd (upd H2 dy (.own fl)) fl (.ins (cF g "Floor") dy [])) fl = some (.ins (cF g "Floor") dy []) := upd_same
      generalize upd (upd H2 dy (.own fl)) fl (.ins (cF g "Floor") dy []) = H3 at s2 hfl2 ⊢
      obtain ⟨ts, hpa, hts⟩ := hp.parts.pa
      have hpf : PlantF g H2 L r.1 := ⟨hp.ins, hp.parts.le, hp.parts.go, hp.parts.ro, hp.parts.ey, hp.parts.pu, hp.parts.ru⟩
      refine ⟨fl, dy, L.pa, L, r.1, ts, rfl, hfl2, ⟨H2, s2, hfl, hpf⟩, s2 _ _ hpa, hts.imp fun _ _ _ _ r => s2 _ _ r, plok, fun H4 F e1 e2 f3 => ⟨rfl, ?_⟩⟩
      have f4 := f3 H2 s2 hfl hpf
      obtain ⟨dx, v, hdd⟩ : ∃ dx v, H d = some (.ins (cF g "Desk") dx (dkF v)) := by
        cases st with
        | none => obtain ⟨dx, h1⟩ := hd.ex; exact ⟨dx, _, h1⟩
        | some h => obtain ⟨dx, F, Rf, h1, _⟩ := hd.ex; exact ⟨dx, _, h1⟩
      have hd2 : H2 d = some (.ins (cF g "Desk") dx (dkF v)) := hp.same _ _ (s1 _ _ hdd)
      have hd4 := f4.same _ _ hd2
      have hnd : d ∉ F.foot := fun z => by
        have := f4.out d z
        rw [hd2] at this
        cases this
      refine ⟨dx, _, hd4, (by show 1 < 1000; decide), ?_⟩
      have f5 := f4.desk (o := .ins (cF g "Desk") dx (dkF (.ref F.fl))) hd4 hnd
      have np : L.pa ≠ d := by
        rintro rfl
        rw [hpa] at hd2
        cases hd2
      have hpa5 : (upd H4 d (.ins (cF g "Desk") dx (dkF (.ref F.fl)))) L.pa = some (.lst (ts.map .ref)) := by
        rw [upd_ne np]
        exact f4.same _ _ hpa
      have sR : Same R (upd H4 d (.ins (cF g "Desk") dx (dkF (.ref F.fl)))) := fun b o e => by
        rw [upd_ne (by rintro rfl; rw [hd.out] at e; cases e)]
        exact f4.same _ _ (hp.same _ _ (s1 _ _ (hd.same _ _ e)))
      have d5 : DeskAt g (upd H4 d (.ins (cF g "Desk") dx (dkF (.ref F.fl)))) R d (some (Xb08.initial r.1)) :=
        ⟨sR, hd.out, dx, F, _, upd_same, f5, (fun i hi => nomatch hi), (fun a ha => ⟨(by rintro rfl; exact hnd ha), hd.same.free (s1.free (hp.same.free (f4.out a ha)))⟩), fun a ha => hd.same.free (s1.free (hp.out a (List.mem_cons_of_mem _ (e2 ▸ ha))))⟩
      have p5 := f5.pla.same f5.same
      rw [e2] at p5
      subst e1
      change DeskAt g (upd H4 d (.ins (He.ga g.K "Desk") dx (putF "floor" (.ref F.fl) (dkF v)))) R d _ at d5
      change (upd H4 d (.ins (He.ga g.K "Desk") dx (putF "floor" (.ref F.fl) (dkF v)))) L.pa = _ at hpa5
      change Same R (upd H4 d (.ins (He.ga g.K "Desk") dx (putF "floor" (.ref F.fl) (dkF v)))) at sR
      change PlantF g (upd H4 d (.ins (He.ga g.K "Desk") dx (putF "floor" (.ref F.fl) (dkF v)))) L (Xb08.initial r.1).plant at p5
      change PlantF g _ L r.1 at p5
      generalize upd H4 d (.ins (He.ga g.K "Desk") dx (putF "floor" (.ref F.fl) (dkF v))) = H5 at d5 hpa5 sR p5 ⊢
      obtain ⟨l5, hL5⟩ := p5.ins
      have hle := p5.le
      have hro := p5.ro
      obtain ⟨t1, hey, hey2⟩ := p5.ey
      obtain ⟨t2, hpu, hpu2⟩ := p5.pu
      obtain ⟨t3, hru, hru2⟩ := p5.ru
      change H5 L.pl = some (.ins (He.ga g.K "Plant") l5 (plF (.ref L.kn) (.ref L.le) (.ref L.go) (.ref L.ro) (.ref L.ey) (.ref L.pu) (.ref L.ru) (.ref L.pa))) at hL5
      simp only [rIxD, gSub, rSetL, sDPut, tDGet, tDIn, tDNotIn, wipe, rLenS, tBM, rAppend, rExtend, rIn, cx_K, rIxS, rIxL, rIxT, tRet, tIfS, tTest, tChain, rI, rI0, rU, tC, tVar, tOp, tUn, tCB, tCons, tNil, tSeq, tNext, tB, tNot, tAnd, tOr, tAndV, tOrV, tNotV, tFc, sFc, sFcA, tMt, tCl, tNw, tLst, tTup, tDrop, tAsg, tPar, gName, gCons, gNil, tR1, rEq, rNe, rAdd, rSub, tAug, ipI, L2.start, List.map, List.length, List.replicate, List.append, List.set, exists_eq_left', exists_eq_left, exists_eq_right, exists_eq_right', exists_and_left, exists_and_right, exists_eq, exists_eq', Option.some.injEq, List.getElem?_cons_zero, List.getElem?_cons_succ, V.bl.injEq, V.int.injEq, V.str.injEq, V.ref.injEq, List.cons_append, List.nil_append, List.cons.injEq, HO.ins.injEq, HO.lst.injEq, HO.tup.injEq, true_and, and_true, decide_eq_true_eq, Bool.false_eq_true, ↓reduceIte, Bool.not_true, Bool.not_false, Bool.not_eq_true', decide_eq_false_iff_not, List.set_cons_zero, List.set_cons_succ, and_assoc, scal, dec_int, dec_str, forall_const, implies_true, plF_get, hL5]
      refine ⟨_, .inl (.inl (.inl hle)), _, .inl (.inl (.inl hro)), _, .inl (.inl (.inl hey)), _, .inl (.inl (.inl hpu)), ?_⟩
      clear f5 f4 f3 hd4 hdd hd2 hfl2 hpf hp hL q1 q2 FA fb hra hrd hr
      refine ⟨(show 4 ≤ sizeLine by decide), fun p hp5 => ?_⟩
      have e1 : [V.int ((List.map (fun b : Xb08.Belt => V.int b.length) r.1.belts).length : Nat), V.int ((List.map (fun c : Xb08.Chute => V.int c.room) r.1.chutes).length : Nat), V.int ((List.map V.ref t1).length : Nat), V.int ((List.map V.ref t2).length : Nat)]
          = [natInt r.1.belts.length, natInt r.1.chutes.length, natInt r.1.sensors.length, natInt r.1.pushers.length].map .int := by
        simp only [List.length_map, hey2.len, hpu2.len]
        rfl
      rw [e1]
      have s5 : Same H5 (upd H5 p (.lst ([natInt r.1.belts.length, natInt r.1.chutes.length, natInt r.1.sensors.length, natInt r.1.pushers.length].map .int))) := Same.new hp5
      have ap : (upd H5 p (.lst ([natInt r.1.belts.length, natInt r.1.chutes.length, natInt r.1.sensors.length, natInt r.1.pushers.length].map .int))) p = some (.lst ([natInt r.1.belts.length, natInt r.1.chutes.length, natInt r.1.sensors.length, natInt r.1.pushers.length].map .int)) := upd_same
      generalize upd H5 p (.lst ([natInt r.1.belts.length, natInt r.1.chutes.length, natInt r.1.sensors.length, natInt r.1.pushers.length].map .int)) = H6 at s5 ap ⊢
      refine ⟨l5, _, s5 _ _ hL5, _, rfl, _, rfl, _, .inl (.inl (.inl (s5 _ _ hru))), l5, _, s5 _ _ hL5, _, rfl, _, rfl, _, .inl (.inl (.inl (s5 _ _ hpa5))), (show 2 ≤ sizeLine by decide), fun p2 hp2 => ?_⟩
      have s6 : Same H6 (upd H6 p2 (.lst [V.int ((List.map V.ref t3).length : Nat), V.int ((List.map V.ref ts).length : Nat)])) := Same.new hp2
      have ap2 : (upd H6 p2 (.lst [V.int ((List.map V.ref t3).length : Nat), V.int ((List.map V.ref ts).length : Nat)])) p2 = some (.lst ([natInt r.1.rules.length, natInt r.1.parcels.length].map .int)) := by
        rw [upd_same]
        simp only [List.length_map, hru2.len, hts.len]
        rfl
      refine ⟨p, p2, _, _, rfl, rfl, s6 _ _ ap, ap2, (show 4 + 2 ≤ sizeLine by decide), fun p3 hp3 => ?_⟩
      refine q _ p3 (d5.mono (s5.trans (s6.trans (Same.new hp3)))) ?_ ((sR.trans (s5.trans s6)).free hp3)
      rw [upd_same]
      rfl
end Tote
/-! # sorting.py: told -/
namespace Tote
open PySem PySem.Spec PyProof.Rows L2 Tq
open SX (S S_inj S_len S_cat)
open Xb08 (Simulation Goal placeOfParcel parcelOf natInt parcelsOnBelt stepTick inRange)
variable {g : GG}
/-! ## a method's call whose exceptions a try takes -/
def tMtS (C : Addr) (m : Str) (sp : Sp) (E : L2.St → XK) (ta : TE) (t : TA) : TE := fun σ H Q => ta σ H fun x H1 => ∃ a dx fs, x = .ref a ∧ H1 a = some (.ins C dx fs) ∧ fs.lookup m = none ∧ t σ H1 fun vs H2 => sp (x :: vs) H2 Q (E σ)
theorem pe_mxS {X : Cx} {CX : CXT} {j k : Nat} {ps : List Str} {sp : Sp} {E : L2.St → XK} {C m : Str} {pos apos : Pos} {o e : Expr} {es : List Expr} {ta : TE} {t : TA} {g : GG} {pl : Sem Bool} (F : Mt CX g k C m ps sp) (hr : Room j X.A) (hk : k ≤ j) (hx : ∀ σ, PassesAt CX X σ (E σ)) (he : PE X o ta) (ha : PA X (e :: es) t)
    (hst : starEach (e :: es) X.env = (false, eval e X.env) :: starEach es X.env := by rfl) (hpl : (backTo pos (starEach es X.env)).any (·.1) = false := by rfl)
    (ht : eval (.Call (.Attribute o m apos) (e :: es) [] pos) X.env = (do let ov ← eval o X.env; standAt apos.atName; let (f, first) ← holding [ov] (getMethod ov m pl); callWith pos f first (backTo pos (starEach (e :: es) X.env)) (backToKw pos (keywordEach [] X.env))) := by rfl) (eg : gg X = g := by rfl) :
    PE X (.Call (.Attribute o m apos) (e :: es) [] pos) (tMtS (cF g C) m sp E ta t) := by
  subst eg
  obtain ⟨f, fd, cl, mh, bi, ok⟩ := F.ex
  refine ⟨fun pins s σ H Q I want => PySem.W.methodCall_KW (pl := pl) (thn (he.run pins s σ H _ I want) fun u s1 st1 => ?_) ht⟩
  obtain ⟨x, H1, I1, rx, a, dx, fs, ex, ea, lk, q⟩ := st1
  subst ex
  obtain rfl : u = Value.ref a := rx
  refine getmeth_ok I1 ea cl mh lk (PySem.W.callWith_K (first := [.ref a]) (h₀ := X.base) I1.ok.mod.kin mh.kp (thn (ha.run pos pins s1 σ H1 _ I1 q) fun us s2 st2 => ?_) hst hpl)
  obtain ⟨vs, H2, I2, r, q2⟩ := st2
  exact ⟨I2.kIn, run_fnS (us := .ref a :: us) (vs := .ref a :: vs) ok (hr.mono hk) bi (hx σ) I2 (.cons rfl r) q2⟩
/-! ## an operation's state and answer -/
def opOf (h : Simulation) : Xb08.Call → Simulation × Except Int (List Int)
  | .run n => opRun h n
  | .parcels => (h, .ok (ansParcels h))
  | .belt k => (h, if inRange 0 (natInt h.plant.belts.length - 1) k = true then .ok (ansBelt h k.toNat) else .error (-2))
  | .chutes => (h, .ok (ansChutes h))
  | .sensors => (h, .ok (ansSensors h))
  | .rules => (h, .ok (ansRules h))
  | .pushers => (h, .ok (ansPushers h))
  | .waiting => (h, .ok (ansWaiting h))
  | .reset => opReset h
  | .feed b c x t => opFeed h b c x t
  | .runUntilDone n => opUntil h n
  | .load _ => (h, .error (-2))
def listOf : Except Int (List Int) → List Int
  | .ok l => l
  | .error c => [c]
theorem op_run (h : Simulation) (q : Xb08.Call) : (opOf h q).1 = (Xb08.runCall h q).1 ∧ listOf (opOf h q).2 = (Xb08.runCall h q).2.v :: (Xb08.runCall h q).2.l ∧ ((∃ c, (opOf h q).2 = .error c) → (opOf h q).1 = h) := by
  cases q with
  | load t => exact ⟨rfl, rfl, fun _ => rfl⟩
  | run n =>
    unfold opOf opRun Xb08.runCall
    dsimp only
    split
    · exact ⟨rfl, rfl, fun _ => rfl⟩
    · exact ⟨rfl, rfl, fun ⟨c, e⟩ => nomatch e⟩
  | parcels => exact ⟨rfl, rfl, fun _ => rfl⟩
  | belt k =>
    unfold opOf Xb08.runCall
    dsimp only
    cases inRange 0 (natInt h.plant.belts.length - 1) k with
    | true => exact ⟨rfl, rfl, fun _ => rfl⟩
    | false => exact ⟨rfl, rfl, fun _ => rfl⟩
  | chutes =>
    refine ⟨rfl, ?_, fun _ => rfl⟩
    rfl
  | sensors => exact ⟨rfl, rfl, fun _ => rfl⟩
  | rules => exact ⟨rfl, rfl, fun _ => rfl⟩
  | pushers => exact ⟨rfl, rfl, fun _ => rfl⟩
  | waiting => exact ⟨rfl, rfl, fun _ => rfl⟩
  | reset => exact ⟨rfl, rfl, fun ⟨c, e⟩ => nomatch e⟩
  | feed b c x t =>
    unfold opOf opFeed Xb08.runCall
    dsimp only
    split
    · exact ⟨rfl, rfl, fun _ => rfl⟩
    · split
      · exact ⟨rfl, rfl, fun _ => rfl⟩
      · exact ⟨rfl, rfl, fun ⟨c, e⟩ => nomatch e⟩
  | runUntilDone n =>
    unfold opOf opUntil Xb08.runCall
    dsimp only
    split
    · exact ⟨rfl, rfl, fun _ => rfl⟩
    · exact ⟨rfl, rfl, fun ⟨c, e⟩ => nomatch e⟩
def sp_told (g : GG) : Sp := fun vs H Q E => ∃ (d : Addr) (R : Hp) (st : Option Simulation) (c : Int) (b : Addr) (ns : List Int) (q : Xb08.Call), vs = [.ref d, .int c, .ref b] ∧ DeskAt g H R d st ∧ SqL g.K H b (ns.map .int) ∧ Xb08Neutral.parseCall (c :: ns) = some q ∧ c ≠ 1 ∧
  match st with
  | none => RFt g E H (-7)
  | some h => h.tick ≤ 90000 ∧ OpP g H Q E d R (opOf h q)
theorem parse_ways {c : Int} {ns : List Int} {q : Xb08.Call} (h : Xb08Neutral.parseCall (c :: ns) = some q) (h1 : c ≠ 1) :
    (∃ n, c = 2 ∧ ns = [n] ∧ q = .run n) ∨ (c = 3 ∧ ns = [] ∧ q = .parcels) ∨ (∃ n, c = 4 ∧ ns = [n] ∧ q = .belt n) ∨ (c = 5 ∧ ns = [] ∧ q = .chutes) ∨ (c = 6 ∧ ns = [] ∧ q = .sensors) ∨ (c = 7 ∧ ns = [] ∧ q = .rules) ∨
    (c = 8 ∧ ns = [] ∧ q = .pushers) ∨ (c = 9 ∧ ns = [] ∧ q = .waiting) ∨ (c = 10 ∧ ns = [] ∧ q = .reset) ∨ (∃ x0 x1 x2 x3, c = 11 ∧ ns = [x0, x1, x2, x3] ∧ q = .feed x0 x1 x2 x3) ∨ (∃ n, c = 12 ∧ ns = [n] ∧ q = .runUntilDone n) := by
  unfold Xb08Neutral.parseCall at h
  split at h
  all_goals (first | (cases h; done) | skip)
  all_goals (rename_i e; obtain ⟨e1, e2⟩ := List.cons.inj e; have e3 := Option.some.inj h; subst e1; subst e2; subst e3)
  · exact absurd rfl h1
  · exact .inl ⟨_, rfl, rfl, rfl⟩
  · exact .inr (.inl ⟨rfl, rfl, rfl⟩)
  · exact .inr (.inr (.inl ⟨_, rfl, rfl, rfl⟩))
  · exact .inr (.inr (.inr (.inl ⟨rfl, rfl, rfl⟩)))
  · exact .inr (.inr (.inr (.inr (.inl ⟨rfl, rfl, rfl⟩))))
  · exact .inr (.inr (.inr (.inr (.inr (.inl ⟨rfl, rfl, rfl⟩)))))
  · exact .inr (.inr (.inr (.inr (.inr (.inr (.inl ⟨rfl, rfl, rfl⟩))))))
  · exact .inr (.inr (.inr (.inr (.inr (.inr (.inr (.inl ⟨rfl, rfl, rfl⟩)))))))
  · exact .inr (.inr (.inr (.inr (.inr (.inr (.inr (.inr (.inl ⟨rfl, rfl, rfl⟩))))))))
  · exact .inr (.inr (.inr (.inr (.inr (.inr (.inr (.inr (.inr (.inl ⟨_, _, _, _, rfl, rfl, rfl⟩)))))))))
  · exact .inr (.inr (.inr (.inr (.inr (.inr (.inr (.inr (.inr (.inr ⟨_, rfl, rfl, rfl⟩)))))))))
theorem ok_told (T : Tx g) : Fn (L2.CX g.P g.w) g 9 "told" ["desk", "call", "numbers"] (sp_told g) := by
  refine fnC (k := 8) T.gl_told T.df_told sc_told (fun _ _ _ _ _ _ us hl => match us, hl with | [_, _, _], _ => rfl) ?_ ?_
  · rintro vs H Q E ⟨d, R, st, c, b, ns, q, rfl, _⟩
    rfl
  · rintro cdv A outer s H vs Q E hr ⟨d, R, st, c, b, ns, q, rfl, hd, hb, hq, h1, w⟩
    refine ⟨_, (pss_cons (ps_expr (pe_mx0 (ok_Desk_want_loaded T) hr (by decide) pxC (pv 0))) (pss_cons (ps_if (pt_cmpR op_eq (pv 1) pe_int (nomark _)) (pss_one (ps_ret (pe_mx (ok_Desk_run T) hr (by decide) pxC (pv 0) (pa_cons (pe_ix ix_list (pv 2) pe_int (fun _ _ => rfl)) pa_nil)))) pss_nil) (pss_cons (ps_if (pt_cmpR op_eq (pv 1) pe_int (nomark _)) (pss_one (ps_ret (pe_mt0 (ok_Desk_all_parcels T) hr (by decide) (pv 0)))) pss_nil) (pss_cons (ps_if (pt_cmpR op_eq (pv 1) pe_int (nomark _)) (pss_one (ps_ret (pe_mx (ok_Desk_belt_told T) hr (by decide) pxC (pv 0) (pa_cons (pe_ix ix_list (pv 2) pe_int (fun _ _ => rfl)) pa_nil)))) pss_nil) (pss_cons (ps_if (pt_cmpR op_eq (pv 1) pe_int (nomark _)) (pss_one (ps_ret (pe_mt0 (ok_Desk_chutes T) hr (by decide) (pv 0)))) pss_nil) (pss_cons (ps_if (pt_cmpR op_eq (pv 1) pe_int (nomark _)) (pss_one (ps_ret (pe_mt0 (ok_Desk_sensors T) hr (by decide) (pv 0)))) pss_nil) (pss_cons (ps_if (pt_cmpR op_eq (pv 1) pe_int (nomark _)) (pss_one (ps_ret (pe_mt0 (ok_Desk_rules_told T) hr (by decide) (pv 0)))) pss_nil) (pss_cons (ps_if (pt_cmpR op_eq (pv 1) pe_int (nomark _)) (pss_one (ps_ret (pe_mt0 (ok_Desk_pushers_told T) hr (by decide) (pv 0)))) pss_nil) (pss_cons (ps_if (pt_cmpR op_eq (pv 1) pe_int (nomark _)) (pss_one (ps_ret (pe_mt0 (ok_Desk_waiting T) hr (by decide) (pv 0)))) pss_nil) (pss_cons (ps_if (pt_cmpR op_eq (pv 1) pe_int (nomark _)) (pss_one (ps_ret (pe_mt0 (ok_Desk_reset T) hr (by decide) (pv 0)))) pss_nil) (pss_cons (ps_if (pt_cmpR op_eq (pv 1) pe_int (nomark _)) (pss_one (ps_ret (pe_mx (ok_Desk_feed T) hr (by decide) pxC (pv 0) (pa_cons (pe_ix ix_list (pv 2) pe_int (fun _ _ => rfl)) (pa_cons (pe_ix ix_list (pv 2) pe_int (fun _ _ => rfl)) (pa_cons (pe_ix ix_list (pv 2) pe_int (fun _ _ => rfl)) (pa_cons (pe_ix ix_list (pv 2) pe_int (fun _ _ => rfl)) pa_nil))))))) pss_nil) (pss_one (ps_ret (pe_mx (ok_Desk_run_until_done T) hr (by decide) pxC (pv 0) (pa_cons (pe_ix ix_list (pv 2) pe_int (fun _ _ => rfl)) pa_nil))))))))))))))), ?_⟩
    simp only [rIxD, gSub, rSetL, sDPut, tDGet, tDIn, tDNotIn, wipe, rLenS, tBM, rAppend, rExtend, rIn, cx_K, rIxS, rIxL, rIxT, tRet, tIfS, tTest, tChain, rI, rI0, rU, tC, tVar, tOp, tUn, tCB, tCons, tNil, tSeq, tNext, tB, tNot, tAnd, tOr, tAndV, tOrV, tNotV, tFc, sFc, sFcA, tMt, tCl, tNw, tLst, tTup, tDrop, tAsg, tPar, gName, gCons, gNil, tR1, rEq, rNe, rAdd, rSub, tAug, ipI, L2.start, List.map, List.length, List.replicate, List.append, List.set, exists_eq_left', exists_eq_left, exists_eq_right, exists_eq_right', exists_and_left, exists_and_right, exists_eq, exists_eq', Option.some.injEq, List.getElem?_cons_zero, List.getElem?_cons_succ, V.bl.injEq, V.int.injEq, V.str.injEq, V.ref.injEq, List.cons_append, List.nil_append, List.cons.injEq, HO.ins.injEq, HO.lst.injEq, HO.tup.injEq, true_and, and_true, decide_eq_true_eq, Bool.false_eq_true, ↓reduceIte, Bool.not_true, Bool.not_false, Bool.not_eq_true', decide_eq_false_iff_not, List.set_cons_zero, List.set_cons_succ, and_assoc, scal, dec_int, dec_str, forall_const, implies_true]
    obtain ⟨dx, v, hdd⟩ : ∃ dx v, H d = some (.ins (cF g "Desk") dx (dkF v)) := by
      cases st with
      | none => obtain ⟨dx, h1⟩ := hd.ex; exact ⟨dx, _, h1⟩
      | some h => obtain ⟨dx, F, Rf, h1, _⟩ := hd.ex; exact ⟨dx, _, h1⟩
    refine ⟨dx, _, hdd, rfl, d, R, st, rfl, hd, fun hs => ?_, fun hs => ?_⟩
    rotate_left
    · subst hs
      exact w
    cases st with
    | none => cases hs
    | some h =>
    obtain ⟨ht, w⟩ := w
    have rd : ∀ ans : List Int, OpP g H Q E d R (h, .ok ans) → ∀ H' p, Same H H' → H p = none → H' p = some (.lst (ans.map .int)) → Q (.ref p) H' := fun ans w H' p s hp e => w H' p (hd.mono s) e (hd.same.free hp)
    rcases parse_ways hq h1 with ⟨n, rfl, rfl, rfl⟩ | ⟨rfl, rfl, rfl⟩ | ⟨n, rfl, rfl, rfl⟩ | ⟨rfl, rfl, rfl⟩ | ⟨rfl, rfl, rfl⟩ | ⟨rfl, rfl, rfl⟩ | ⟨rfl, rfl, rfl⟩ | ⟨rfl, rfl, rfl⟩ | ⟨rfl, rfl, rfl⟩ | ⟨x0, x1, x2, x3, rfl, rfl, rfl⟩ | ⟨n, rfl, rfl, rfl⟩
    · rw [if_pos rfl]
      exact ⟨dx, _, hdd, rfl, _, hb, _, rfl, d, R, h, n, rfl, hd, ht, w⟩
    · rw [if_neg (by decide), if_pos rfl]
      exact ⟨dx, _, hdd, rfl, d, R, h, rfl, hd, rd _ w⟩
    · rw [if_neg (by decide), if_neg (by decide), if_pos rfl]
      have w' : OpP g H Q E d R (h, if inRange 0 (natInt h.plant.belts.length - 1) n = true then .ok (ansBelt h n.toNat) else .error (-2)) := w
      refine ⟨dx, _, hdd, rfl, _, hb, _, rfl, d, R, h, n, rfl, hd, fun hi => ?_, fun hi => ?_⟩
      · rw [hi, if_neg (by decide)] at w'
        exact w'
      · rw [hi, if_pos rfl] at w'
        exact rd _ w'
    · rw [if_neg (by decide), if_neg (by decide), if_neg (by decide), if_pos rfl]
      exact ⟨dx, _, hdd, rfl, d, R, h, rfl, hd, rd _ w⟩
    · rw [if_neg (by decide), if_neg (by decide), if_neg (by decide), if_neg (by decide), if_pos rfl]
      exact ⟨dx, _, hdd, rfl, d, R, h, rfl, hd, rd _ w⟩
    · rw [if_neg (by decide), if_neg (by decide), if_neg (by decide), if_neg (by decide), if_neg (by decide), if_pos rfl]
      exact ⟨dx, _, hdd, rfl, d, R, h, rfl, hd, rd _ w⟩
    · rw [if_neg (by decide), if_neg (by decide), if_neg (by decide), if_neg (by decide), if_neg (by decide), if_neg (by decide), if_pos rfl]
      exact ⟨dx, _, hdd, rfl, d, R, h, rfl, hd, rd _ w⟩
    · rw [if_neg (by decide), if_neg (by decide), if_neg (by decide), if_neg (by decide), if_neg (by decide), if_neg (by decide), if_neg (by decide), if_pos rfl]
      exact ⟨dx, _, hdd, rfl, d, R, h, rfl, hd, rd _ w⟩
    · rw [if_neg (by decide), if_neg (by decide), if_neg (by decide), if_neg (by decide), if_neg (by decide), if_neg (by decide), if_neg (by decide), if_neg (by decide), if_pos rfl]
      exact ⟨dx, _, hdd, rfl, d, R, h, rfl, hd, w⟩
    · rw [if_neg (by decide), if_neg (by decide), if_neg (by decide), if_neg (by decide), if_neg (by decide), if_neg (by decide), if_neg (by decide), if_neg (by decide), if_neg (by decide), if_pos rfl]
      exact ⟨dx, _, hdd, rfl, _, hb, _, rfl, _, hb, _, rfl, _, hb, _, rfl, _, hb, _, rfl, d, R, h, x0, x1, x2, x3, rfl, hd, w⟩
    · rw [if_neg (by decide), if_neg (by decide), if_neg (by decide), if_neg (by decide), if_neg (by decide), if_neg (by decide), if_neg (by decide), if_neg (by decide), if_neg (by decide), if_neg (by decide)]
      exact ⟨dx, _, hdd, rfl, _, hb, _, rfl, d, R, h, n, rfl, hd, ht, w⟩
end Tote
/-! # sorting.py: answered -/
namespace Tote
open PySem PySem.Spec PyProof.Rows L2 Tq
open SX (S S_inj S_len S_cat)
open Xb08 (Simulation Goal placeOfParcel parcelOf natInt parcelsOnBelt stepTick inRange)
variable {g : GG}
/-- what the operation's answer is, by the document -/
def ansQ (st : Option Simulation) (q : Xb08.Call) : List Int := (Xb08.step ⟨st⟩ q).2.v :: (Xb08.step ⟨st⟩ q).2.l
def nextQ (st : Option Simulation) (q : Xb08.Call) : Option Simulation := (Xb08.step ⟨st⟩ q).1.simulation
def sp_answered (g : GG) : Sp := fun vs H Q _ => ∃ (d : Addr) (R : Hp) (st : Option Simulation) (c : Int) (b a : Addr) (ns ts : List Int) (q : Xb08.Call), vs = [.ref d, .int c, .ref b, .ref a] ∧ DeskAt g H R d st ∧ SqL g.K H b (ns.map .int) ∧ SqL g.K H a (ts.map .int) ∧ ts.length ≤ 1000000 ∧
  ((c = 1 ∧ q = .load ts) ∨ (c ≠ 1 ∧ Xb08Neutral.parseCall (c :: ns) = some q)) ∧ (∀ h, st = some h → h.tick ≤ 90000) ∧
  ∀ H' p, DeskAt g H' R d (nextQ st q) → H' p = some (.lst ((ansQ st q).map .int)) → R p = none → Q (.ref p) H'
theorem parse_load {c : Int} {ns : List Int} {q : Xb08.Call} (h : Xb08Neutral.parseCall (c :: ns) = some q) (h1 : c ≠ 1) : ∀ t, q ≠ .load t := by
  rcases parse_ways h h1 with ⟨n, _, _, rfl⟩ | ⟨_, _, rfl⟩ | ⟨n, _, _, rfl⟩ | ⟨_, _, rfl⟩ | ⟨_, _, rfl⟩ | ⟨_, _, rfl⟩ | ⟨_, _, rfl⟩ | ⟨_, _, rfl⟩ | ⟨_, _, rfl⟩ | ⟨x0, x1, x2, x3, _, _, rfl⟩ | ⟨n, _, _, rfl⟩
  all_goals (intro t z; cases z)
theorem step_none {q : Xb08.Call} (h : ∀ t, q ≠ .load t) : nextQ none q = none ∧ ansQ none q = [-7] := by
  cases q with
  | load t => exact absurd rfl (h t)
  | _ => exact ⟨rfl, rfl⟩
theorem step_some {q : Xb08.Call} {h : Simulation} (hq : ∀ t, q ≠ .load t) : nextQ (some h) q = some (opOf h q).1 ∧ ansQ (some h) q = listOf (opOf h q).2 := by
  obtain ⟨e1, e2, _⟩ := op_run h q
  rw [e1, e2]
  cases q with
  | load t => exact absurd rfl (hq t)
  | _ => exact ⟨rfl, rfl⟩
theorem ok_answered (T : Tx g) : Fn CX0 g 13 "answered" ["desk", "call", "numbers", "text"] (sp_answered g) := by
  refine fnZ (k := 12) T.gl_answered T.df_answered sc_answered (fun _ _ _ _ _ _ us hl => match us, hl with | [_, _, _, _], _ => rfl) ?_ ?_
  · rintro vs H Q E ⟨d, R, st, c, b, a, ns, ts, q, rfl, _⟩
    rfl
  · rintro cdv A outer s H vs Q E hr ⟨d, R, st, c, b, a, ns, ts, q, rfl, hd, hb, ha, hts, hq, ht, w⟩
    refine ⟨_, (pss_cons (ps_try_as (i := 5) (c := .ref (cF g "Refused")) (Wout := fun _ _ _ _ => False) rfl rfl sc_answered.nd rfl rfl ⟨rfl, by decide, .inl T.gl_Refused⟩ takes0
      (fun W pn xe tk _ => pss_one (ps_if (pt_cmpR op_eq (pv 1) (C8.pe_gc rfl T.in_LOAD) (nomark _))
        (pss_one (ps_set (i := 4) sc_answered.nd rfl (.inl rfl) (pe_mxS (ok_Desk_load T) hr (by decide) (fun σ => passAt tk σ) (pv 0) (pa_cons (pv 3) pa_nil))))
        (pss_one (ps_set (i := 4) sc_answered.nd rfl (.inl rfl) (pe_fxS (ok_told T) hr (by decide) (fun σ => passAt tk σ) (pa_cons (pv 0) (pa_cons (pv 1) (pa_cons (pv 2) pa_nil))))))))
      (fun x oe cls dd pn hz hf => pss_one (ps_set (i := 4) sc_answered.nd rfl (.inl rfl) (pe_lst (pa_cons (pe_xf T.x_Refused.x T.na_Refused_answer hz hf (pv 5)) pa_nil))))) (pss_one (ps_ret (pv 4)))), ?_⟩
    simp only [rIxD, gSub, rSetL, sDPut, tDGet, tDIn, tDNotIn, wipe, rLenS, tBM, rAppend, rExtend, rIn, cx_K, rIxS, rIxL, rIxT, tRet, tIfS, tTest, tChain, rI, rI0, rU, tC, tVar, tOp, tUn, tCB, tCons, tNil, tSeq, tNext, tB, tNot, tAnd, tOr, tAndV, tOrV, tNotV, tFc, sFc, sFcA, tMt, tCl, tNw, tLst, tTup, tDrop, tAsg, tPar, gName, gCons, gNil, tR1, rEq, rNe, rAdd, rSub, tAug, ipI, L2.start, List.map, List.length, List.replicate, List.append, List.set, exists_eq_left', exists_eq_left, exists_eq_right, exists_eq_right', exists_and_left, exists_and_right, exists_eq, exists_eq', Option.some.injEq, List.getElem?_cons_zero, List.getElem?_cons_succ, V.bl.injEq, V.int.injEq, V.str.injEq, V.ref.injEq, List.cons_append, List.nil_append, List.cons.injEq, HO.ins.injEq, HO.lst.injEq, HO.tup.injEq, true_and, and_true, decide_eq_true_eq, Bool.false_eq_true, ↓reduceIte, Bool.not_true, Bool.not_false, Bool.not_eq_true', decide_eq_false_iff_not, List.set_cons_zero, List.set_cons_succ, and_assoc, scal, dec_int, dec_str, forall_const, implies_true]
    have ref : ∀ c2, nextQ st q = st → ansQ st q = [c2] → RFt g (WE (wAs g.K (.ref (cF g "Refused")) 5 (fun x cls dd => tAsg (tLst (tCons (tXf x cls dd (He.ga g.K "Refused") "answer" (tVar 5)) tNil)) (gName 4)) (fun _ _ _ _ => False) { nx := tRet (tVar 4) { nx := fun _ H' => Q .non H', rt := Q }, rt := Q }) [some (.ref d), some (.int c), some (.ref b), some (.ref a), none, none]) H c2 := by
      intro c2 e1 e2 dx H' s hdx
      refine ⟨true, T.xm_Refused, fun _ x hx => ?_, fun z => nomatch z⟩
      refine ⟨_, rfl, rfl, rfl, dx, _, _, rfl, hdx, rfl, (show 1 ≤ sizeLine by decide), fun p hp => ⟨_, rfl, ?_⟩⟩
      exact w _ p (by rw [e1]; exact hd.mono (s.trans (Same.new hp))) (by rw [upd_same, e2]; rfl) (hd.same.free (s.free hp))
    by_cases h1 : c = 1
    · rw [if_pos h1]
      obtain ⟨_, rfl⟩ | ⟨h2, _⟩ := hq
      rotate_left
      · exact absurd h1 h2
      obtain ⟨dx, v, hdd⟩ : ∃ dx v, H d = some (.ins (cF g "Desk") dx (dkF v)) := by
        cases st with
        | none => obtain ⟨dx, h1⟩ := hd.ex; exact ⟨dx, _, h1⟩
        | some h => obtain ⟨dx, F, Rf, h1, _⟩ := hd.ex; exact ⟨dx, _, h1⟩
      refine ⟨_, rfl, d, dx, _, rfl, hdd, rfl, _, rfl, d, R, st, a, ts, rfl, hd, ha, hts, fun hv => ?_, fun hv => ?_⟩
      · refine ref (-2) ?_ ?_
        · unfold nextQ Xb08.step
          dsimp only
          rw [hv]
          rfl
        · unfold ansQ Xb08.step
          dsimp only
          rw [hv]
          rfl
      · have e1 : Xb08.step ⟨st⟩ (.load ts) = match Xb08.parseText (Xb08.toBytes ts) with
            | .error e => (⟨st⟩, Xb08.errorAnswer e)
            | .ok p => (⟨some (Xb08.initial p)⟩, ⟨natInt p.belts.length, [natInt p.chutes.length, natInt p.sensors.length, natInt p.pushers.length, natInt p.rules.length, natInt p.parcels.length]⟩) := by
          unfold Xb08.step
          dsimp only
          rw [hv]
          rfl
        cases hp : Xb08.parseText (Xb08.toBytes ts) with
        | error e =>
          rw [hp] at e1
          refine ref (-(100 * natInt e.2 + natInt e.1 + 10)) ?_ ?_
          · unfold nextQ
            rw [e1]
          · unfold ansQ
            rw [e1]
            rfl
        | ok p =>
          rw [hp] at e1
          intro H' x hd' hx hn
          refine w H' x ?_ ?_ hn
          · unfold nextQ
            rw [e1]
            exact hd'
          · unfold ansQ
            rw [e1, hx]
            rfl
    · rw [if_neg h1]
      obtain ⟨h2, _⟩ | ⟨_, hq⟩ := hq
      · exact absurd h2 h1
      have hl := parse_load hq h1
      refine ⟨_, rfl, _, rfl, _, rfl, d, R, st, c, b, ns, q, rfl, hd, hb, hq, h1, ?_⟩
      cases st with
      | none =>
        obtain ⟨e1, e2⟩ := step_none hl
        exact ref (-7) e1 e2
      | some h =>
        obtain ⟨e1, e2⟩ := step_some (h := h) hl
        refine ⟨ht h rfl, ?_⟩
        unfold OpP
        cases ho : (opOf h q).2 with
        | ok l =>
          intro H' x hd' hx hn
          refine w H' x (by rw [e1]; exact hd') (by rw [e2, ho, hx]; rfl) hn
        | error c2 =>
          refine ref c2 ?_ (by rw [e2, ho]; rfl)
          rw [e1, (op_run h q).2.2 ⟨c2, ho⟩]
end Tote
/-! # sorting.py: what stays from call to call -/
namespace Tote
open PySem PySem.Spec PyProof.Rows L2 Tq
open SX (S S_inj S_len S_cat)
open Xb08 (Simulation Goal placeOfParcel parcelOf natInt parcelsOnBelt stepTick inRange)
variable {g : GG}
/-! ## no rule is without terms -/
def NeR (p : Xb08.Plant) : Prop := ∀ r ∈ p.rules, r.conds ≠ []
theorem condRest_ne : ∀ (f : Nat) (acc : List Xb08.TermForm) (r : List W) (y : List Xb08.TermForm × List W), condRest f acc r = .ok y → acc ≠ [] → y.1 ≠ []
  | 0, _, _, _, h, _ => by cases h
  | f + 1, acc, r, y, h, ha => by
    unfold condRest at h
    split at h
    · obtain ⟨x, ex, h⟩ := ok_bind h
      exact condRest_ne f _ _ y h (by simp)
    · cases h
      exact ha
theorem readCond_ne {ws : List W} {y : List Xb08.TermForm × List W} (h : readCond ws = .ok y) : y.1 ≠ [] := by
  unfold readCond at h
  obtain ⟨x, ex, h⟩ := ok_bind h
  obtain ⟨z, ez, h⟩ := ok_bind h
  split at h
  · cases h
    exact condRest_ne _ _ _ _ ez (by simp)
  · cases h
theorem knownAll_ne {ks : List KN} : ∀ {l : List Xb08.TermForm} {cs : List Xb08.Cond}, knownAll ks l = .ok cs → l ≠ [] → cs ≠ []
  | [], _, _, h => absurd rfl h
  | f :: r, cs, h, _ => by
    change (knownE ks f >>= fun c => knownAll ks r >>= fun cs => Except.ok (c :: cs)) = _ at h
    obtain ⟨c, e, h⟩ := ok_bind h
    obtain ⟨cs', e', h⟩ := ok_bind h
    cases h
    simp
theorem doLine_ne {p : Xb08.Plant} {ks : List KN} {ws : List W} {r : Xb08.Plant × List KN} (h : doLine p ks ws = .ok r) (ne : NeR p) : NeR r.1 := by
  unfold doLine at h
  obtain ⟨a, ea, h⟩ := ok_bind h
  split at h
  · unfold doChute at h
    obtain ⟨_, _, h⟩ := ok_bind h
    obtain ⟨_, _, h⟩ := ok_bind h
    obtain ⟨_, _, h⟩ := ok_bind h
    obtain ⟨_, _, h⟩ := ok_bind h
    cases h
    exact ne
  split at h
  · unfold doBelt at h
    obtain ⟨_, _, h⟩ := ok_bind h
    obtain ⟨_, _, h⟩ := ok_bind h
    obtain ⟨_, _, h⟩ := ok_bind h
    obtain ⟨_, _, h⟩ := ok_bind h
    obtain ⟨_, _, h⟩ := ok_bind h
    cases h
    exact ne
  split at h
  · unfold doLead at h
    obtain ⟨_, _, h⟩ := ok_bind h
    obtain ⟨_, _, h⟩ := ok_bind h
    obtain ⟨_, _, h⟩ := ok_bind h
    obtain ⟨_, _, h⟩ := ok_bind h
    obtain ⟨_, _, h⟩ := ok_bind h
    cases h
    exact ne
  split at h
  · unfold doEye at h
    obtain ⟨_, _, h⟩ := ok_bind h
    obtain ⟨_, _, h⟩ := ok_bind h
    obtain ⟨_, _, h⟩ := ok_bind h
    obtain ⟨_, _, h⟩ := ok_bind h
    obtain ⟨_, _, h⟩ := ok_bind h
    obtain ⟨_, _, h⟩ := ok_bind h
    obtain ⟨_, _, h⟩ := ok_bind h
    cases h
    exact ne
  split at h
  · unfold doPusher at h
    obtain ⟨_, _, h⟩ := ok_bind h
    obtain ⟨_, _, h⟩ := ok_bind h
    obtain ⟨_, _, h⟩ := ok_bind h
    obtain ⟨_, _, h⟩ := ok_bind h
    obtain ⟨_, _, h⟩ := ok_bind h
    obtain ⟨_, _, h⟩ := ok_bind h
    obtain ⟨_, _, h⟩ := ok_bind h
    obtain ⟨_, _, h⟩ := ok_bind h
    obtain ⟨_, _, h⟩ := ok_bind h
    cases h
    exact ne
  split at h
  · unfold doRule at h
    obtain ⟨_, _, h⟩ := ok_bind h
    obtain ⟨_, ey, h⟩ := ok_bind h
    obtain ⟨_, _, h⟩ := ok_bind h
    obtain ⟨_, _, h⟩ := ok_bind h
    obtain ⟨_, _, h⟩ := ok_bind h
    obtain ⟨_, _, h⟩ := ok_bind h
    obtain ⟨_, _, h⟩ := ok_bind h
    obtain ⟨_, _, h⟩ := ok_bind h
    obtain ⟨_, ec, h⟩ := ok_bind h
    obtain ⟨_, _, h⟩ := ok_bind h
    split at h
    · cases h
      intro q hq
      rcases List.mem_append.mp hq with hq | hq
      · exact ne q hq
      · rw [List.mem_singleton.mp hq]
        exact knownAll_ne ec (readCond_ne ey)
    · cases h
  split at h
  · unfold doFeed at h
    obtain ⟨_, _, h⟩ := ok_bind h
    obtain ⟨_, _, h⟩ := ok_bind h
    obtain ⟨_, _, h⟩ := ok_bind h
    obtain ⟨_, _, h⟩ := ok_bind h
    obtain ⟨_, _, h⟩ := ok_bind h
    obtain ⟨_, _, h⟩ := ok_bind h
    split at h
    · cases h
      exact ne
    · cases h
  · cases h
theorem readAll_ne : ∀ {rows : List (List W)} {n : Nat} {p : Xb08.Plant} {ks : List KN} {r : Xb08.Plant × List KN}, readAll n p ks rows = .ok r → NeR p → NeR r.1
  | [], n, p, ks, r, h, ne => by
    cases h
    exact ne
  | row :: rows, n, p, ks, r, h, ne => by
    unfold readAll at h
    split at h
    · exact readAll_ne h ne
    · cases hd : doLine p ks row with
      | error c => rw [hd] at h; cases h
      | ok s =>
        rw [hd] at h
        exact readAll_ne h (doLine_ne hd ne)
theorem parse_ne {t : List Nat} {p : Xb08.Plant} (h : Xb08.parseText t = .ok p) : NeR p := by
  rw [← read_eq] at h
  cases hr : readAll 1 noPlant [] (linesW t) with
  | error e => rw [hr] at h; cases h
  | ok r =>
    rw [hr] at h
    cases h
    exact readAll_ne hr fun _ z => absurd z List.not_mem_nil
/-! ## the tick's bound -/
/-- n calls are still to come -/
def StI (st : Option Simulation) (n : Nat) : Prop := ∀ h, st = some h → NeR h.plant ∧ h.tick + 200 * n ≤ 6000
theorem step_sti {st : Option Simulation} {q : Xb08.Call} {n : Nat} (i : StI st (n + 1)) (hn : n ≤ 30) : StI (nextQ st q) n := by
  have same : StI st n := fun h e => by
    obtain ⟨i1, i2⟩ := i h e
    exact ⟨i1, by omega⟩
  by_cases hl : ∃ t, q = .load t
  · obtain ⟨t, rfl⟩ := hl
    unfold nextQ Xb08.step
    dsimp only
    split
    · exact same
    · cases hp : Xb08.parseText (Xb08.toBytes t) with
      | error e => exact same
      | ok p =>
        intro h e
        cases e
        refine ⟨parse_ne hp, ?_⟩
        show 0 + 200 * n ≤ 6000
        omega
  · have hl' : ∀ t, q ≠ .load t := fun t e => hl ⟨t, e⟩
    cases st with
    | none =>
      rw [(step_none hl').1]
      exact fun _ e => nomatch e
    | some h =>
      rw [(step_some hl').1]
      obtain ⟨i1, i2⟩ := i h rfl
      have keep : ∀ h' : Simulation, h'.plant = h.plant → h'.tick ≤ h.tick + 200 → StI (some h') n := fun h' e1 e2 h2 e => by
        cases e
        exact ⟨by rw [e1]; exact i1, by omega⟩
      cases q with
      | load t => exact absurd rfl (hl' t)
      | run k =>
        show StI (some (opRun h k).1) n
        unfold opRun
        split
        · exact keep h rfl (by omega)
        · rename_i hk
          have hk2 : inRange 1 200 k = true := by simpa using hk
          rw [← in_of] at hk2
          obtain ⟨k1, k2, k3⟩ := runTicks_keep k.toNat h
          exact keep _ k1 (by show (Xb08.runTicks k.toNat h).tick ≤ _; rw [k3]; omega)
      | runUntilDone k =>
        show StI (some (opUntil h k).1) n
        unfold opUntil
        split
        · exact keep h rfl (by omega)
        · rename_i hk
          have hk2 : inRange 1 200 k = true := by simpa using hk
          rw [← in_of] at hk2
          obtain ⟨k1, k2, k3⟩ := until_keep k.toNat h
          exact keep _ k1 (by show (Xb08.runUntilDone k.toNat h).tick ≤ _; omega)
      | feed b c x t =>
        show StI (some (opFeed h b c x t).1) n
        unfold opFeed
        split
        · exact keep h rfl (by omega)
        · split
          · exact keep h rfl (by omega)
          · intro h2 e
            cases e
            exact ⟨i1, by show h.tick + 200 * n ≤ 6000; omega⟩
      | reset =>
        intro h2 e
        cases e
        exact ⟨i1, by show 0 + 200 * n ≤ 6000; omega⟩
      | _ => exact keep h rfl (by omega)
/-! ## a store into a list of numbers beside the desk -/
theorem PlantF.put {H : Hp} {L : PL} {p : Xb08.Plant} {f : Addr} {xs : List Int} {o : HO} (h : PlantF g H L p) (hf : H f = some (.lst (xs.map .int))) (hn : f ∉ L.lists) (ne : NeR p) : PlantF g (upd H f o) L p := by
  have s : Sta (fun b => b = f) H (upd H f o) := Sta.of_upd
  have n : NoT (fun b => b = f) H := NoT.lst hf
  have nl : ∀ a ∈ L.lists, ¬ a = f := fun a ha e => hn (e ▸ ha)
  have m1 : L.le ∈ L.lists := by simp [PL.lists]
  have m2 : L.go ∈ L.lists := by simp [PL.lists]
  have m3 : L.ro ∈ L.lists := by simp [PL.lists]
  have m4 : L.ey ∈ L.lists := by simp [PL.lists]
  have m5 : L.pu ∈ L.lists := by simp [PL.lists]
  have m6 : L.ru ∈ L.lists := by simp [PL.lists]
  refine ⟨?_, h.le.st s n (nl _ m1), h.go.st s n (nl _ m2), h.ro.st s n (nl _ m3), h.ey.st s n (nl _ m4), h.pu.st s n (nl _ m5), ?_⟩
  · obtain ⟨dx, e⟩ := h.ins
    refine ⟨dx, ?_⟩
    rw [upd_ne (by rintro rfl; rw [hf] at e; cases e)]
    exact e
  · obtain ⟨ts, e1, e2⟩ := h.ru
    refine ⟨ts, s _ _ (nl _ m6) e1, e2.imp fun t r _ hr w => ?_⟩
    obtain ⟨l, w1, w2, w3⟩ := w
    have nlf : ¬ l = f := by
      rintro rfl
      obtain ⟨us, w4, w5⟩ := w3
      rw [hf] at w4
      cases us with
      | nil =>
        have := w5.len
        exact ne r hr (List.eq_nil_of_length_eq_zero this.symm)
      | cons u us =>
        cases xs with
        | nil => cases w4
        | cons x xs => cases w4
    exact ⟨l, w1, s.tup n w2, w3.st s n nlf⟩
theorem DeskAt.put {H R : Hp} {d : Addr} {st : Option Simulation} {f : Addr} {xs : List Int} {o : HO} (x : DeskAt g H R d st) (hf : R f = some (.lst (xs.map .int))) (ne : ∀ h, st = some h → NeR h.plant) : DeskAt g (upd H f o) (upd R f o) d st := by
  have nd : d ≠ f := by
    rintro rfl
    rw [x.out] at hf
    cases hf
  have hH := x.same _ _ hf
  refine ⟨fun b u e => ?_, by rw [upd_ne nd]; exact x.out, ?_⟩
  · by_cases eb : b = f
    · subst eb
      rw [upd_same] at e ⊢
      exact e
    · rw [upd_ne eb] at e ⊢
      exact x.same _ _ e
  · cases st with
    | none =>
      obtain ⟨dx, h1⟩ := x.ex
      exact ⟨dx, by rw [upd_ne nd]; exact h1⟩
    | some h =>
      obtain ⟨dx, F, Rf, h1, f1, h3, h4, h5⟩ := x.ex
      have nf : ∀ a ∈ F.foot, ¬ a = f := fun a ha e => by
        have := (h4 a ha).2
        rw [e, hf] at this
        cases this
      have nl2 : f ∉ F.L.lists := fun ha => by
        have := h5 f ha
        rw [hf] at this
        cases this
      have s' : Sta (fun b => b = f) H (upd H f o) := Sta.of_upd
      have n : NoT (fun b => b = f) H := NoT.lst hH
      have nl : ∀ a ∈ F.lists, ¬ a = f := fun a ha => nf a (List.mem_append_left _ ha)
      have ni : ∀ a ∈ F.inss, ¬ a = f := fun a ha => nf a (List.mem_append_right _ ha)
      obtain ⟨l1, l2, l3, l4, l5, l6⟩ := FL.in_lists (F := F)
      have hp : PlantF g (upd Rf f o) F.L h.plant := by
        cases e : Rf f with
        | none => exact f1.pla.same (Same.new e)
        | some o' =>
          have e2 := f1.same _ _ e
          rw [hH] at e2
          exact f1.pla.put (e.trans e2.symm) nl2 (ne h rfl)
      have up : ∀ {G : Hp} {a : Addr}, a ≠ f → G a = none → (upd G f o) a = none := fun na e => by rw [upd_ne na]; exact e
      refine ⟨dx, F, upd Rf f o, by rw [upd_ne nd]; exact h1, ⟨fun b u e => ?_, hp, fun a ha => up (nf a ha) (f1.out a ha), f1.ndl, f1.ndi, f1.flo.st s' n (ni _ List.mem_cons_self), f1.sc.st s' n (nl _ l1), s' _ _ (nl _ l2) f1.pcs, f1.par.st s' n (fun a ha => ni a (List.mem_cons_of_mem _ ha)), f1.se.st s' n (nl _ l3), f1.fi.st s' n (nl _ l4), f1.dn.st s' n (nl _ l5), f1.mi.st s' n (nl _ l6), f1.ok⟩, h3, fun a ha => ⟨(h4 a ha).1, up (nf a ha) (h4 a ha).2⟩, fun a ha => up (fun e => nl2 (e ▸ ha)) (h5 a ha)⟩
      by_cases eb : b = f
      · subst eb
        rw [upd_same] at e ⊢
        exact e
      · rw [upd_ne eb] at e ⊢
        exact f1.same _ _ e
end Tote
/-! # sorting.py: answers -/
namespace Tote
open PySem PySem.Spec PyProof.Rows L2 Tq
open SX (S S_inj S_len S_cat)
open Xb08 (Simulation Goal placeOfParcel parcelOf natInt parcelsOnBelt stepTick inRange)
variable {g : GG}
theorem shape_ways {p : Int} {n k : Nat} (h : PyXb08.shape p = some (n, k)) : (p = 1 ∧ n = 0 ∧ k = 1) ∨ (p ≠ 1 ∧ k = 0 ∧ (∀ K : PySem.W.Frag, atI (numVals.map (He.Dv.v K)) p = some (.int n)) ∧ ∀ args : List Int, args.length = n → ∃ q, Xb08Neutral.parseCall (p :: args) = some q) := by
  unfold PyXb08.shape at h
  split at h
  · rename_i e
    subst e
    cases h
    exact .inl ⟨rfl, rfl, rfl⟩
  split at h
  · rename_i e
    subst e
    cases h
    exact .inr ⟨by decide, rfl, fun K => rfl, fun args ha => match args, ha with | [_], _ => ⟨_, rfl⟩⟩
  split at h
  · rename_i e
    subst e
    cases h
    exact .inr ⟨by decide, rfl, fun K => rfl, fun args ha => match args, ha with | [], _ => ⟨_, rfl⟩⟩
  split at h
  · rename_i e
    subst e
    cases h
    exact .inr ⟨by decide, rfl, fun K => rfl, fun args ha => match args, ha with | [_], _ => ⟨_, rfl⟩⟩
  split at h
  · rename_i e
    subst e
    cases h
    exact .inr ⟨by decide, rfl, fun K => rfl, fun args ha => match args, ha with | [], _ => ⟨_, rfl⟩⟩
  split at h
  · rename_i e
    subst e
    cases h
    exact .inr ⟨by decide, rfl, fun K => rfl, fun args ha => match args, ha with | [], _ => ⟨_, rfl⟩⟩
  split at h
  · rename_i e
    subst e
    cases h
    exact .inr ⟨by decide, rfl, fun K => rfl, fun args ha => match args, ha with | [], _ => ⟨_, rfl⟩⟩
  split at h
  · rename_i e
    subst e
    cases h
    exact .inr ⟨by decide, rfl, fun K => rfl, fun args ha => match args, ha with | [], _ => ⟨_, rfl⟩⟩
  split at h
  · rename_i e
    subst e
    cases h
    exact .inr ⟨by decide, rfl, fun K => rfl, fun args ha => match args, ha with | [], _ => ⟨_, rfl⟩⟩
  split at h
  · rename_i e
    subst e
    cases h
    exact .inr ⟨by decide, rfl, fun K => rfl, fun args ha => match args, ha with | [], _ => ⟨_, rfl⟩⟩
  split at h
  · rename_i e
    subst e
    cases h
    exact .inr ⟨by decide, rfl, fun K => rfl, fun args ha => match args, ha with | [_, _, _, _], _ => ⟨_, rfl⟩⟩
  split at h
  · rename_i e
    subst e
    cases h
    exact .inr ⟨by decide, rfl, fun K => rfl, fun args ha => match args, ha with | [_], _ => ⟨_, rfl⟩⟩
  · cases h
theorem whole_one (l : List Int) : PyXb08.whole [l] = [l] := by
  unfold PyXb08.whole
  split <;> first | rfl | (rename_i e; cases e; done) | (rename_i e; cases e; rfl)
/-- what is left to answer: of the calls in l, from st on; acc stands already -/
def Rest (st : Option Simulation) (acc l A : List Int) : Prop := ∃ fuel raw, PyFlat.calls PyXb08.shape fuel l = some raw ∧ raw.length ≤ 30 ∧ StI st raw.length ∧ acc ++ PyFlat.told (PyFlat.played Xb08Neutral.step ⟨st⟩ (raw.map PyXb08.whole)) = A
theorem Rest.nil {st : Option Simulation} {acc A : List Int} (h : Rest st acc [] A) : acc = A := by
  obtain ⟨f, raw, h1, _, _, h2⟩ := h
  have : raw = [] := by
    cases f with
    | zero => cases h1; rfl
    | succ f => cases h1; rfl
  subst this
  rw [← h2]
  show acc = acc ++ []
  rw [List.append_nil]
theorem Rest.le {st : Option Simulation} {acc l A : List Int} (h : Rest st acc l A) : acc.length ≤ A.length := by
  obtain ⟨f, raw, _, _, _, h2⟩ := h
  rw [← h2, List.length_append]
  exact Nat.le_add_right _ _
def addA (acc a : List Int) : List Int := (acc ++ [(a.length : Int)]) ++ a
theorem Rest.turn {st : Option Simulation} {acc r A : List Int} {p : Int} (h : Rest st acc (p :: r) A) : (∀ h, st = some h → NeR h.plant ∧ h.tick ≤ 90000) ∧
    ((p = 1 ∧ ∃ ts t, r = (ts.length : Int) :: (ts ++ t) ∧ Rest (nextQ st (.load ts)) (addA acc (ansQ st (.load ts))) t A) ∨
     (p ≠ 1 ∧ ∃ args t q, r = args ++ t ∧ Xb08Neutral.parseCall (p :: args) = some q ∧ (∀ K : PySem.W.Frag, atI (numVals.map (He.Dv.v K)) p = some (.int args.length)) ∧ Rest (nextQ st q) (addA acc (ansQ st q)) t A)) := by
  obtain ⟨f, raw, h1, h2, h3, h4⟩ := h
  cases f with
  | zero => cases h1
  | succ f =>
    unfold PyFlat.calls at h1
    cases hc : PyFlat.call PyXb08.shape (p :: r) with
    | none => rw [hc] at h1; cases h1
    | some ct =>
      obtain ⟨c, t⟩ := ct
      rw [hc] at h1
      dsimp only at h1
      cases hs : PyFlat.calls PyXb08.shape f t with
      | none => rw [hs] at h1; cases h1
      | some cs =>
        rw [hs] at h1
        cases h1
        rw [List.length_cons] at h2 h3
        have next : ∀ q l, PyXb08.whole c = [l] → Xb08Neutral.parseCall l = some q → Rest (nextQ st q) (addA acc (ansQ st q)) t A := by
          intro q l e1 e2
          refine ⟨f, cs, hs, by omega, step_sti h3 (by omega), ?_⟩
          rw [← h4, List.map_cons, e1]
          have e3 : Xb08Neutral.step ⟨st⟩ [l] = (⟨nextQ st q⟩, ansQ st q) := by
            unfold Xb08Neutral.step
            rw [show ([l] : List (List Int)).headD [] = l from rfl, e2]
            rfl
          rw [show PyFlat.played Xb08Neutral.step ⟨st⟩ ([l] :: cs.map PyXb08.whole) = (Xb08Neutral.step ⟨st⟩ [l]).2 :: PyFlat.played Xb08Neutral.step (Xb08Neutral.step ⟨st⟩ [l]).1 (cs.map PyXb08.whole) from rfl, e3]
          unfold PyFlat.told addA
          rw [List.flatMap_cons]
          simp
        refine ⟨fun h e => ⟨(h3 h e).1, by have := (h3 h e).2; omega⟩, ?_⟩
        unfold PyFlat.call at hc
        dsimp only at hc
        cases hp : PyXb08.shape p with
        | none => rw [hp] at hc; cases hc
        | some nk =>
          obtain ⟨n, k⟩ := nk
          rw [hp] at hc
          dsimp only at hc
          by_cases hl : r.length < n
          · rw [if_pos hl] at hc; cases hc
          rw [if_neg hl] at hc
          rcases shape_ways hp with ⟨rfl, rfl, rfl⟩ | ⟨p1, rfl, p2, p3⟩
          · refine .inl ⟨rfl, ?_⟩
            rw [List.drop_zero, List.take_zero] at hc
            cases r with
            | nil => cases hc
            | cons m r =>
              unfold PyFlat.rows PyFlat.row at hc
              dsimp only at hc
              by_cases hm : 0 ≤ m ∧ m.toNat ≤ r.length
              · rw [if_pos hm] at hc
                change some ([1] :: [List.take m.toNat r], List.drop m.toNat r) = some (c, t) at hc
                cases hc
                refine ⟨r.take m.toNat, r.drop m.toNat, ?_, next _ (1 :: r.take m.toNat) rfl rfl⟩
                rw [List.take_append_drop, List.length_take, Nat.min_eq_left hm.2, Int.toNat_of_nonneg hm.1]
              · rw [if_neg hm] at hc; cases hc
          · refine .inr ⟨p1, ?_⟩
            change some ((p :: r.take n) :: [], r.drop n) = some (c, t) at hc
            cases hc
            have hn : (r.take n).length = n := by
              rw [List.length_take]
              omega
            obtain ⟨q, hq⟩ := p3 _ hn
            refine ⟨r.take n, r.drop n, q, (List.take_append_drop n r).symm, hq, by rw [hn]; exact p2, next q _ (whole_one _) hq⟩
theorem Rest.start {ns : List Int} (h : PyXb08.answers_asked ns = true) : Rest none [] ns (PyXb08.answers ns) ∧ (PyXb08.answers ns).length ≤ 10000000 := by
  unfold PyXb08.answers_asked at h
  cases hc : PyFlat.calls PyXb08.shape ns.length ns with
  | none => rw [hc] at h; cases h
  | some raw =>
    rw [hc] at h
    dsimp only at h
    simp only [Bool.and_eq_true, PyFlat.atMost, PyFlat.short, decide_eq_true_eq] at h
    refine ⟨⟨ns.length, raw, hc, h.1.1.1.2, (fun _ e => nomatch e), ?_⟩, h.2⟩
    unfold PyXb08.answers PyXb08.calls
    rw [hc]
    rfl
theorem cut_nat {xs : List V} {i j : Nat} (hij : i ≤ j) (hj : j ≤ xs.length) : cutV xs (some (i : Int)) (some (j : Int)) = (xs.drop i).take (j - i) := by
  unfold cutV
  rw [HT.sIx_nat, HT.sIx_nat, Nat.min_eq_left hj, Nat.min_eq_left (Nat.le_trans hij hj)]
theorem cut_mid {ns u t : List Int} {i : Nat} (hi : i ≤ ns.length) (h : ns.drop i = u ++ t) : cutV (ns.map V.int) (some (i : Int)) (some ((i + u.length : Nat) : Int)) = u.map V.int ∧ i + u.length ≤ ns.length ∧ ns.drop (i + u.length) = t := by
  have hl : ns.length - i = u.length + t.length := by
    have := congrArg List.length h
    rwa [List.length_drop, List.length_append] at this
  refine ⟨?_, by omega, ?_⟩
  · rw [cut_nat (by omega) (by rw [List.length_map]; omega), ← List.map_drop, h, List.map_append, Nat.add_sub_cancel_left]
    exact List.take_left' (List.length_map _)
  · rw [← List.drop_drop, h, List.drop_left]
theorem Rest.ne {st : Option Simulation} {acc l A : List Int} (h : Rest st acc l A) : ∀ h, st = some h → NeR h.plant := by
  obtain ⟨f, raw, _, _, h3, _⟩ := h
  exact fun h e => (h3 h e).1
theorem addA_map (acc an : List Int) : (acc.map V.int ++ [V.int ((an.map V.int).length : Nat)]) ++ an.map V.int = (addA acc an).map V.int := by
  unfold addA
  rw [List.map_append, List.map_append, List.length_map]
  rfl
def sp_answers (g : GG) : Sp := fun vs H Q _ => ∃ (a : Addr) (ns : List Int), vs = [.ref a] ∧ SqL g.K H a (ns.map .int) ∧ ns.length ≤ 19000 ∧ PyXb08.answers_asked ns = true ∧ ∀ H' p, H' p = some (.lst ((PyXb08.answers ns).map .int)) → Q (.ref p) H'
theorem ok_answersF (T : Tx g) {fd : FuncData} (F : FunD g.K "answers" "answers" (defArgs s_answers) (defBody s_answers) (defScope s_answers) [] [] (He.ga g.K "answers") fd) : FnOk g.P g.w g.K g.mg g.base CX0 14 (He.ga g.K "answers") fd ["calls"] (sp_answers g) := by
  refine F.ok (k := 13) sc_answers ?_ (Body0.out ?_)
  · rintro vs H Q E ⟨a, ns, rfl, _⟩
    rfl
  · rintro cdv A outer s H vs Q E hr ⟨a, ns, rfl, ha, hn, hask, w⟩
    refine ⟨_, (pss_cons (ps_set (i := 1) sc_answers.nd rfl (.inl rfl) (pe_nw0 (ok_Desk_init T) hr (by decide))) (pss_cons (ps_set (i := 2) sc_answers.nd rfl (.inl rfl) (pe_lst pa_nil)) (pss_cons (ps_set (i := 3) sc_answers.nd rfl (.inl rfl) pe_int) (pss_cons (ps_while PassesOwn.never (pt_cmpR op_lt (pv 3) (pe_callB call_lenS (by rfl) T.fr_len bt_len (pa_cons (pv 0) pa_nil)) (nomark _)) (pss_cons (ps_set (i := 4) sc_answers.nd rfl (.inl rfl) (pe_ix ix_list (pv 0) (pv 3) (fun _ _ => rfl))) (pss_cons (ps_set (i := 5) sc_answers.nd rfl (.inl rfl) (pe_op op_add (pe_op op_add (pv 3) pe_int) (pe_ix ix_tup (pe_glob (v := .ref (cF g "NUMBERS")) rfl T.gl_NUMBERS rfl) (pv 4) (fun _ _ => rfl)))) (pss_cons (ps_set (i := 6) sc_answers.nd rfl (.inl rfl) (pe_slice sl_list (pv 0) (po_some (pe_op op_add (pv 3) pe_int)) (po_some (pv 5)))) (pss_cons (ps_set (i := 7) sc_answers.nd rfl (.inl rfl) (pe_lst pa_nil)) (pss_cons (ps_if (pt_cmpR op_eq (pv 4) (C8.pe_gc rfl T.in_LOAD) (nomark _)) (pss_cons (ps_set (i := 8) sc_answers.nd rfl (.inl rfl) (pe_op op_add (pv 5) pe_int)) (pss_cons (ps_set (i := 5) sc_answers.nd rfl (.inl rfl) (pe_op op_add (pv 8) (pe_ix ix_list (pv 0) (pe_op op_add (pv 3) pe_int) (fun _ _ => rfl)))) (pss_one (ps_set (i := 7) sc_answers.nd rfl (.inl rfl) (pe_slice sl_list (pv 0) (po_some (pv 8)) (po_some (pv 5))))))) pss_nil) (pss_cons (ps_set (i := 9) sc_answers.nd rfl (.inl rfl) (pe_fn (ok_answered T) hr (by decide) (pa_cons (pv 1) (pa_cons (pv 4) (pa_cons (pv 6) (pa_cons (pv 7) pa_nil)))))) (pss_cons (ps_expr (pe_bm PySem.F.plainAttrs_list PySem.F.slot_list_append PySem.F.type_list_append mt_append (pv 2) (pa_cons (pe_callB call_lenS (by rfl) T.fr_len bt_len (pa_cons (pv 9) pa_nil)) pa_nil))) (pss_cons (ps_expr (pe_bm PySem.F.plainAttrs_list PySem.F.slot_list_extend PySem.F.type_list_extend mt_extend (pv 2) (pa_cons (pv 9) pa_nil))) (pss_one (ps_set (i := 3) sc_answers.nd rfl (.inl rfl) (pv 5)))))))))))) (pss_one (ps_ret (pv 2))))))), ?_⟩
    obtain ⟨rest, hA⟩ := Rest.start hask
    generalize PyXb08.answers ns = AA at rest hA w
    intro d dx hd hdx ne
    refine ⟨d, dx, rfl, upd_same, fun H1 hD => ⟨rfl, ?_⟩⟩
    have hD1 := hD H (Same.upd hd (Same.new hdx)) hd
    simp only [rIxD, gSub, rSetL, sDPut, tDGet, tDIn, tDNotIn, wipe, rLenS, tBM, rAppend, rExtend, rIn, cx_K, rIxS, rIxL, rIxT, tRet, tIfS, tTest, tChain, rI, rI0, rU, tC, tVar, tOp, tUn, tCB, tCons, tNil, tSeq, tNext, tB, tNot, tAnd, tOr, tAndV, tOrV, tNotV, tFc, sFc, sFcA, tMt, tCl, tNw, tLst, tTup, tDrop, tAsg, tPar, gName, gCons, gNil, tR1, rEq, rNe, rAdd, rSub, tAug, ipI, L2.start, List.map, List.length, List.replicate, List.append, List.set, exists_eq_left', exists_eq_left, exists_eq_right, exists_eq_right', exists_and_left, exists_and_right, exists_eq, exists_eq', Option.some.injEq, List.getElem?_cons_zero, List.getElem?_cons_succ, V.bl.injEq, V.int.injEq, V.str.injEq, V.ref.injEq, List.cons_append, List.nil_append, List.cons.injEq, HO.ins.injEq, HO.lst.injEq, HO.tup.injEq, true_and, and_true, decide_eq_true_eq, Bool.false_eq_true, ↓reduceIte, Bool.not_true, Bool.not_false, Bool.not_eq_true', decide_eq_false_iff_not, List.set_cons_zero, List.set_cons_succ, and_assoc, scal, dec_int, dec_str, forall_const, implies_true]
    refine ⟨Nat.zero_le _, fun f hf => ?_⟩
    have hfH : H f = none := hD1.same.free hf
    obtain ⟨ddx, hdd⟩ := hD1.ex
    have ndf : d ≠ f := by
      rintro rfl
      rw [hf] at hdd
      cases hdd
    have hR0 : DeskAt g (upd H1 f (.lst [])) (upd H f (.lst (([] : List Int).map .int))) d none := by
      refine ⟨fun b u e => ?_, by rw [upd_ne ndf]; exact hD1.out, ddx, by rw [upd_ne ndf]; exact hdd⟩
      by_cases eb : b = f
      · subst eb
        rw [upd_same] at e ⊢
        exact e
      · rw [upd_ne eb] at e ⊢
        exact hD1.same _ _ e
    generalize upd H1 f (.lst []) = H2 at hR0 ⊢
    refine wh_it2 (fun m σ H' => ∃ (k : Nat) (st : Option Simulation) (acc : List Int) (y4 y5 y6 y7 y8 y9 : Option V), σ = [some (.ref a), some (.ref d), some (.ref f), some (.int (k : Nat)), y4, y5, y6, y7, y8, y9] ∧ m = ns.length - k ∧ k ≤ ns.length ∧ DeskAt g H' (upd H f (.lst (acc.map .int))) d st ∧ Rest st acc (ns.drop k) AA)
      (fun σ H' => ∃ (y3 y4 y5 y6 y7 y8 y9 : Option V), σ = [some (.ref a), some (.ref d), some (.ref f), y3, y4, y5, y6, y7, y8, y9] ∧ H' f = some (.lst (AA.map .int))) ns.length ⟨0, none, [], none, none, none, none, none, none, rfl, rfl, Nat.zero_le _, hR0, rest⟩ ?_ ?_
    · rintro σ H3 ⟨y3, y4, y5, y6, y7, y8, y9, rfl, h3⟩
      exact ⟨_, rfl, w _ _ h3⟩
    · rintro m σ H3 ⟨k, st, acc, y4, y5, y6, y7, y8, y9, rfl, rfl, hk, hd3, rs⟩ K hK
      have sR : Same H (upd H f (.lst (acc.map .int))) := Same.new hfH
      have hc3 : ∀ H4, Same H3 H4 → SqL g.K H4 a (ns.map .int) := fun H4 s4 => (sR.trans (hd3.same.trans s4)).seq ha
      have hf3 : H3 f = some (.lst (acc.map .int)) := hd3.same _ _ upd_same
      simp only [rIxD, gSub, rSetL, sDPut, tDGet, tDIn, tDNotIn, wipe, rLenS, tBM, rAppend, rExtend, rIn, cx_K, rIxS, rIxL, rIxT, tRet, tIfS, tTest, tChain, rI, rI0, rU, tC, tVar, tOp, tUn, tCB, tCons, tNil, tSeq, tNext, tB, tNot, tAnd, tOr, tAndV, tOrV, tNotV, tFc, sFc, sFcA, tMt, tCl, tNw, tLst, tTup, tDrop, tAsg, tPar, gName, gCons, gNil, tR1, rEq, rNe, rAdd, rSub, tAug, ipI, L2.start, List.map, List.length, List.replicate, List.append, List.set, exists_eq_left', exists_eq_left, exists_eq_right, exists_eq_right', exists_and_left, exists_and_right, exists_eq, exists_eq', Option.some.injEq, List.getElem?_cons_zero, List.getElem?_cons_succ, V.bl.injEq, V.int.injEq, V.str.injEq, V.ref.injEq, List.cons_append, List.nil_append, List.cons.injEq, HO.ins.injEq, HO.lst.injEq, HO.tup.injEq, true_and, and_true, decide_eq_true_eq, Bool.false_eq_true, ↓reduceIte, Bool.not_true, Bool.not_false, Bool.not_eq_true', decide_eq_false_iff_not, List.set_cons_zero, List.set_cons_succ, and_assoc, scal, dec_int, dec_str, forall_const, implies_true, tSl, rSlL, tPart]
      refine ⟨_, .inl (hc3 _ (.refl _)), ?_⟩
      rw [List.length_map]
      by_cases hlt : k < ns.length
      case neg =>
        rw [if_neg (by omega)]
        have e : ns.drop k = [] := List.drop_eq_nil_of_le (by omega)
        rw [e] at rs
        have := rs.nil
        subst this
        exact hK _ _ ⟨_, _, _, _, _, _, _, rfl, hf3⟩
      rw [if_pos (by omega)]
      refine ⟨fun σ' H' => ∃ (k' : Nat) (st' : Option Simulation) (acc' : List Int) (y4 y5 y6 y7 y8 y9 : Option V), σ' = [some (.ref a), some (.ref d), some (.ref f), some (.int (k' : Nat)), y4, y5, y6, y7, y8, y9] ∧ k < k' ∧ k' ≤ ns.length ∧ DeskAt g H' (upd H f (.lst (acc'.map .int))) d st' ∧ Rest st' acc' (ns.drop k') AA, ?_, ?_⟩
      · rintro σ' H' ⟨k', st', acc', z4, z5, z6, z7, z8, z9, rfl, hk1, hk2, hd', rs'⟩
        exact ⟨_, by omega, k', ⟨_, _, _, _, _, _, rfl⟩, rfl, hk2, st', acc', hd', rs'⟩
      have hdrop := List.drop_eq_getElem_cons hlt
      have hat : atI (ns.map V.int) (k : Nat) = some (.int ns[k]) := atI_nat (by rw [List.getElem?_map, List.getElem?_eq_getElem hlt]; rfl)
      generalize ns[k] = p at hdrop hat
      rw [hdrop] at rs
      obtain ⟨hst, hw⟩ := rs.turn
      rcases hw with ⟨rfl, ts, t, hr2, rs'⟩ | ⟨hp1', args, t, q, hr2, hq, hnum, rs'⟩
      · have hr3 : ns.drop (k + 1 + 1) = ts ++ t := by
          rw [← List.drop_drop, hr2]
          rfl
        have hlt1 : k + 1 < ns.length := by
          have := congrArg List.length hr2
          rw [List.length_drop, List.length_cons] at this
          omega
        have hat1 : atI (ns.map V.int) ((k + 1 : Nat) : Int) = some (.int ts.length) := by
          refine atI_nat ?_
          have := congrArg (fun l => l[0]?) hr2
          rw [List.getElem?_map]
          have e2 : ns[k + 1]? = some (ts.length : Int) := by simpa [List.getElem?_drop] using this
          rw [e2]
          rfl
        obtain ⟨hcut, hk2, hdk⟩ := cut_mid (by omega) hr3
        refine ⟨_, hc3 _ (.refl _), .int 1, hat, _, 1, rfl, T.numbers H3, .int 0, rfl, _, rfl, ?_⟩
        refine ⟨_, hc3 _ (.refl _), fun p1 hp1 => ⟨Nat.zero_le _, fun p2 hp2 => ⟨rfl, ?_⟩⟩⟩
        rw [if_pos rfl]
        have e0 : (k : Int) + 1 + 0 = ((k + 1 : Nat) : Int) := by omega
        have e1 : ((k + 1 : Nat) : Int) + 1 = ((k + 1 + 1 : Nat) : Int) := by omega
        have e2 : ((k + 1 + 1 : Nat) : Int) + (ts.length : Int) = ((k + 1 + 1 + ts.length : Nat) : Int) := by omega
        have e3 : (k : Int) + 1 = ((k + 1 : Nat) : Int) := by omega
        rw [e0, e3] at hp2 ⊢
        have ecut : cutV (ns.map V.int) (some ((k + 1 : Nat) : Int)) (some ((k + 1 : Nat) : Int)) = ([] : List Int).map V.int := by
          rw [cut_nat (Nat.le_refl _) (by rw [List.length_map]; omega), Nat.sub_self]
          rfl
        rw [ecut] at hp2 ⊢
        have s1 := Same.new (o := .lst (([] : List Int).map V.int)) hp1
        have h1 : (upd H3 p1 (.lst (([] : List Int).map V.int))) p1 = some (.lst (([] : List Int).map V.int)) := upd_same
        generalize upd H3 p1 (.lst (([] : List Int).map V.int)) = H4 at s1 h1 hp2 ⊢
        have s2 := s1.trans (Same.new (o := .lst []) hp2)
        have h2 := (Same.new (o := .lst []) hp2) _ _ h1
        generalize upd H4 p2 (.lst []) = H4b at s2 h2 ⊢
        refine ⟨_, hc3 _ s2, _, hat1, _, rfl, _, hc3 _ s2, fun p3 hp3 => ?_⟩
        rw [e1, e2, hcut]
        have s3 := s2.trans (Same.new (o := .lst (ts.map V.int)) hp3)
        refine ⟨d, _, st, 1, p1, p3, [], ts, .load ts, rfl, hd3.mono s3, .inl (.inl ((Same.new hp3) _ _ h2)), .inl (.inl upd_same), by have := congrArg List.length hr3; rw [List.length_drop, List.length_append] at this; omega, .inl ⟨rfl, rfl⟩, fun h e => (hst h e).2, fun H5 x hd5 hx hxn => ?_⟩
        have h5f : H5 f = some (.lst (acc.map .int)) := hd5.same _ _ upd_same
        have nxf : x ≠ f := by
          rintro rfl
          rw [upd_same] at hxn
          cases hxn
        have hle := rs'.le
        unfold addA at hle
        rw [List.length_append, List.length_append, List.length_singleton] at hle
        refine ⟨.inl ⟨rfl, _, .inl (.inl h5f)⟩, x, rfl, _, .inl (.inl (.inl hx)), _, h5f, ?_, .inl ⟨rfl, _, .inl (.inl upd_same)⟩, x, rfl, _, upd_same, _, by rw [upd_ne nxf]; exact hx, ?_, k + 1 + 1 + ts.length, _, _, _, _, _, _, _, _, rfl, by omega, hk2, ?_, by rw [hdk]; exact rs'⟩
        · rw [List.length_map, sizeLine_eq]
          omega
        · rw [List.length_append, List.length_map, List.length_map, List.length_singleton, sizeLine_eq]
          omega
        · rw [upd_upd, addA_map]
          have := hd5.put (o := .lst ((addA acc (ansQ st (.load ts))).map .int)) upd_same rs'.ne
          rw [upd_upd] at this
          exact this
      · obtain ⟨hcut, hk2, hdk⟩ := cut_mid (by omega) hr2
        refine ⟨_, hc3 _ (.refl _), .int p, hat, _, p, rfl, T.numbers H3, .int args.length, hnum g.K, _, rfl, ?_⟩
        refine ⟨_, hc3 _ (.refl _), fun p1 hp1 => ⟨Nat.zero_le _, fun p2 hp2 => ⟨rfl, ?_⟩⟩⟩
        rw [if_neg (fun z => hp1' (V.int.inj z))]
        have e0 : (k : Int) + 1 + (args.length : Int) = ((k + 1 + args.length : Nat) : Int) := by omega
        have e3 : (k : Int) + 1 = ((k + 1 : Nat) : Int) := by omega
        rw [e0, e3, hcut] at hp2 ⊢
        have s1 := Same.new (o := .lst (args.map V.int)) hp1
        have h1 : (upd H3 p1 (.lst (args.map V.int))) p1 = some (.lst (args.map V.int)) := upd_same
        generalize upd H3 p1 (.lst (args.map V.int)) = H4 at s1 h1 hp2 ⊢
        have s2 := s1.trans (Same.new (o := .lst []) hp2)
        refine ⟨d, _, st, p, p1, p2, args, [], q, rfl, hd3.mono s2, .inl (.inl ((Same.new hp2) _ _ h1)), .inl (.inl upd_same), Nat.zero_le _, .inr ⟨hp1', hq⟩, fun h e => (hst h e).2, fun H5 x hd5 hx hxn => ?_⟩
        have h5f : H5 f = some (.lst (acc.map .int)) := hd5.same _ _ upd_same
        have nxf : x ≠ f := by
          rintro rfl
          rw [upd_same] at hxn
          cases hxn
        have hle := rs'.le
        unfold addA at hle
        rw [List.length_append, List.length_append, List.length_singleton] at hle
        refine ⟨.inl ⟨rfl, _, .inl (.inl h5f)⟩, x, rfl, _, .inl (.inl (.inl hx)), _, h5f, ?_, .inl ⟨rfl, _, .inl (.inl upd_same)⟩, x, rfl, _, upd_same, _, by rw [upd_ne nxf]; exact hx, ?_, k + 1 + args.length, _, _, _, _, _, _, _, _, rfl, by omega, hk2, ?_, by rw [hdk]; exact rs'⟩
        · rw [List.length_map, sizeLine_eq]
          omega
        · rw [List.length_append, List.length_map, List.length_map, List.length_singleton, sizeLine_eq]
          omega
        · rw [upd_upd, addA_map]
          have := hd5.put (o := .lst ((addA acc (ansQ st q)).map .int)) upd_same rs'.ne
          rw [upd_upd] at this
          exact this
end Tote
/-! # the end -/
namespace Tote
open PySem PySem.Spec PyProof.Rows L2 Tq
open PySem.W (Codec WData OpenSpec)
theorem bind_answers {K : PySem.W.Frag} {f : Addr} {fd : FuncData} (F : FunD K "answers" "answers" (defArgs s_answers) (defBody s_answers) (defScope s_answers) [] [] f fd) (s : Shared) (us : List Value) (h : us.length = (["calls"] : List Str).length) : BindsTo s fd ⟨us, []⟩ ((["calls"] : List Str).zip us) := by
  obtain ⟨oc, od, dV, kV, doc, pm, an, cdv, ct, osl, rfl, lk, hcd, hD, hK⟩ := F.ex
  rcases hD with ⟨_, rfl⟩ | ⟨e, _⟩
  · match us, h with
    | [_], _ => exact .of_eq rfl
  · exact absurd rfl e
theorem len_in {least most : Nat} {lo hi : Int} {ns : List Int} (h : Codec.within (.list least most (.int lo hi)) ns = true) : ns.length ≤ most := by
  change Codec.inList least most (Codec.within (.int lo hi)) ns = true at h
  unfold Codec.inList Codec.inLen Codec.inNat at h
  simp only [Bool.and_eq_true, decide_eq_true_eq] at h
  exact h.1.2
theorem walkA : PySem.W.WalkOS (PySem.W.view RowT.prog [82]) loose (PySem.W.XL (PySem.W.view RowT.prog [82]) []) hkP.says RowT dA [] (fun f vs => PySem.call f vs) := by
  intro w s₀ s₁ mg mb G Y fa o pm cd doc dV kV ho hd hcd hD hmg hg args vals as hpre hlay hrd hwl hlo
  obtain ⟨K, KX, says⟩ := Y
  obtain ⟨a, e1, e2⟩ := PySem.W.os_pre_some hpre
  obtain ⟨e3, hwi⟩ := Codec.encAll_of_decAll RowT.args args a e1
  subst e3
  have T : ∀ base : Heap, Tx ⟨RowT.prog, w, K, mg, base⟩ := fun base => ⟨s₁.heap, KX, G.T.g, says⟩
  obtain ⟨fd, F⟩ := (T s₁.heap).df_answers
  have hfa : fa = He.ga K "answers" := by
    have e := (T s₁.heap).gl_answers
    have e4 : (some (Value.ref fa) : Option Value) = some (.ref (He.ga K "answers")) := hmg.symm.trans e
    injection e4 with e5
    injection e5
  subst hfa
  have room : Room 14 callerA := ⟨rfl, by decide, by decide⟩
  have ok : ∀ base : Heap, FnOk RowT.prog w K mg base CX0 14 (He.ga K "answers") fd ["calls"] (sp_answers ⟨RowT.prog, w, K, mg, s₁.heap⟩) := fun base => ok_answersF (T base) F
  have call := spec_call (P := RowT.prog) (w := w) (K := K) (CX := CX0) (k := 14) (ps := ["calls"]) (sp := sp_answers ⟨RowT.prog, w, K, mg, s₁.heap⟩) (R := []) (cl := PySem.classAt s₀.heap) (d0 := RowT.ret.enc (Codec.app RowT.args RowT.f a))
    KX G.T.g G.T.b G.T.builtins G.T.nolimit hg hwl (pl_encAll _ _) (layable_weight hlay) room (fun base _ _ => ok base) (bind_answers F) (encAll_len _ _) (fun H xs _ hx => ?_) (fun _ _ _ z => z)
  · refine PySem.W.enter_call (codeAny_mono call fun res sEnd found => ?_)
    obtain ⟨v, bs, rfl, reads, old, os, bare⟩ := found
    refine ⟨.inl ⟨v, _, bs, rfl, fun _ => rfl, reads, (OpenSpec.post_iff said hwi _ _).mpr rfl, ?_⟩, old, os, bare⟩
    intro z
    exact absurd (show false = true from z) (by decide)
  · obtain ⟨ns, un⟩ := a
    have hlen := len_in (Bool.and_eq_true_iff.mp (show (Codec.within _ ns && Codec.withinAll [] un) = true from hwi)).1
    cases hx with
    | cons h1 h2 =>
      cases h2
      cases h1 with
      | lst hs hi =>
        have e := ints_dw ns _ hi
        subst e
        exact ⟨_, ns, rfl, hs, hlen, e2, fun H' p hp => .lst (SqL.of hp) (dw_ints _)⟩
end Tote
open PySem PySem.W PyProof.Rows
set_option maxRecDepth 100000 in
set_option maxHeartbeats 8000000 in
theorem PySem.Challenge.cw_toteplants_s01_answers_holds : PySem.Challenge.rw_toteplants_s01_answers.Holds := by
  exact HandSHeadRun.head_spec (r := PySem.Challenge.rw_toteplants_s01_answers) (q := PySem.W.view Tote.RowT.prog [82]) (H := Tote.hkP) (ob := Tote.obT) (M := 6000) (loose := Tote.loose) (d := Tote.dA) (kwd := []) Tote.obT_eq Tote.opened Tote.fenced Tote.runW Tote.defined Tote.theDefA rfl
    PySem.W.os_shapes Tote.said Tote.chained Tote.bared ⟨[.list [.int 3]], Tote.asked3, by decide +kernel⟩ Tote.walkA
#print axioms PySem.Challenge.cw_toteplants_s01_answers_holds
