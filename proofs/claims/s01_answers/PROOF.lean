import PyProof.Rows.All
import Wide.All
import OpenK.AllK
import Wide.FinOn
import PyProof.EqAt
import PyProof.EqKinds
import PyProof.TupleCall
import Open.SpecLaws
import KE.OsGo
import HandS.ForSpec
import HandS.Comp
import HandS.Iter
import HandS.Walk
import HandS.Evl
import HandS.SortOrd
import HandS.SortRule
import HandS.SortKw
import HandS.ExcInit
import HandS.ExcField
import HandS.CallSlots
import HandS.TupAny
import PySem.Challenge.RW_racestewards_s01_answers
set_option Elab.async false
set_option linter.all false
set_option maxRecDepth 100000
set_option maxHeartbeats 4000000
/-! ### own rules: min(xs, default=d); sorted of triples of ints; xs == [] -/
namespace RsR
open PySem PyProof.Rows
section
variable {prog : Program} {w : World} {A : Around} {R : Result → Shared → Prop} {I : Addr} {fp wr : List Addr} {n : Nat} {P : Nat → Value → Prop} {St : Nat → Heap → Prop}
theorem mnl (kw : List (Str × Value)) (W : Walks prog w A.in1 I fp wr n P St) (bt : Nat → Nat → Bool) (hc : CmpOf prog w A.in1 .Lt P bt) (S : Addr) (hf : S ∉ fp) :
    ∀ (k j : Nat) (s : Shared) (vb : Value) (c : Nat), n - (j + 1) = k → j + 1 ≤ n → St (j + 1) s.heap → P (argBest bt j) vb →
    s.heap.get? S = some { cls := .type "list", dict := none, data := .seq #[vb, vb] c, slots := #[] } →
    (∀ v h' tk, P (argBest bt (n - 1)) v → (∀ b o, b ∉ wr → b ≠ S → s.heap.get? b = some o → h'.get? b = some o) → R (.ok (.ret v)) { s with heap := h', toks := tk }) →
    codeAny (model prog w) A (.builtin "min.loop" ⟨[.ref I, .none, .ref S], kw⟩) R s := by
  have hw : S ∉ wr := fun z => hf (W.sub _ z)
  have hnm : (toString "min" ++ toString ".loop" : String) = "min.loop" := by decide
  intro k
  induction k with
  | zero =>
    intro j s vb c hk hj h0 hPb hS hR
    have hin : j + 1 = n := by omega
    refine codeAny_builtin F.entry_min_loop ?_
    rw [Around.under_plainId F.plain_min_loop _]
    show wpAny _ A.in1 (seqItems? (.ref S) >>= _) _ _ s
    refine wpAny_bind (wpAny_seqItems hS rfl ?_)
    show wpAny _ A.in1 (tryCatch (pyNext (.ref I)) _ >>= _) _ _ s
    refine wpAny_bind (wpAny_tryCatch (W.done s _ _ (hin ▸ h0) fun h1 tk hk1 => ?_))
    have hS1 := hk1 S _ hw hS
    show wpAny _ A.in1 (updateSeq S (fun _ => #[]) >>= _) _ _ _
    refine wpAny_bind ?_
    refine wpAny_updateSeq hS1 rfl (wpAny_bind (wpAny_letGo (wpAny_pure ?_)))
    refine hR vb _ tk (by rw [← hin]; exact hPb) fun b o z1 z2 e => (Heap.get?_update_other _ _ (Ne.symm z2)).trans (hk1 b o z1 e)
  | succ k ih =>
    intro j s vb c hk hj h0 hPb hS hR
    have hlt : j + 1 < n := by omega
    refine codeAny_builtin F.entry_min_loop ?_
    rw [Around.under_plainId F.plain_min_loop _]
    show wpAny _ A.in1 (seqItems? (.ref S) >>= _) _ _ s
    refine wpAny_bind (wpAny_seqItems hS rfl ?_)
    show wpAny _ A.in1 (tryCatch (pyNext (.ref I)) _ >>= _) _ _ s
    refine wpAny_bind (wpAny_tryCatch (W.item (j + 1) s _ _ hlt h0 fun v h1 tk hP hst1 hk1 => ?_))
    have hS1 := hk1 S _ hw hS
    show wpAny _ A.in1 (tryCatch (holding [v, v] (richCompare .Lt v vb >>= _)) _ >>= _) _ _ _
    refine wpAny_bind (wpAny_tryCatch (wpAny_holding (wpAny_bind (hc (j + 1) (argBest bt j) v vb _ _ _ hP hPb ?_))))
    refine wpAny_bind (wpAny_holding (wpAny_truthy_bool ?_))
    refine wpAny_bind (wpAny_letGo (wpAny_pure ?_))
    cases hb : bt (j + 1) (argBest bt j) with
    | true =>
      simp only [if_true]
      refine wpAny_bind ?_
      refine wpAny_updateSeq hS1 rfl (wpAny_bind (wpAny_letGo ?_))
      rw [hnm]
      refine wpAny_pure ⟨plainId_quiet F.plain_min_loop _, ih (j + 1) _ v _ (by omega) hlt (W.frame _ _ _ hst1 fun b zf o e => ?_) (by simp only [argBest, hb, if_true]; exact hP) (Heap.get?_update_self _ hS1 rfl)
        fun v2 h2 tk2 hP2 hk2 => ?_⟩
      · exact (Heap.get?_update_other _ _ (fun z : S = b => hf (by rw [z]; exact zf))).trans e
      · exact hR v2 h2 tk2 hP2 fun b o z1 z2 e => hk2 b o z1 z2 ((Heap.get?_update_other _ _ (Ne.symm z2)).trans (hk1 b o z1 e))
    | false =>
      simp only [Bool.false_eq_true, if_false]
      refine wpAny_bind (wpAny_letGo ?_)
      rw [hnm]
      refine wpAny_pure ⟨plainId_quiet F.plain_min_loop _, ih (j + 1) _ vb c (by omega) hlt hst1 (by simp only [argBest, hb, Bool.false_eq_true, if_false]; exact hPb) hS1 fun v2 h2 tk2 hP2 hk2 => ?_⟩
      exact hR v2 h2 tk2 hP2 fun b o z1 z2 e => hk2 b o z1 z2 (hk1 b o z1 e)
theorem mnl0 (kw : List (Str × Value)) (W : Walks prog w A.in1 I fp wr n P St) (bt : Nat → Nat → Bool) (hc : CmpOf prog w A.in1 .Lt P bt) (S : Addr) (hf : S ∉ fp) (hn : 0 < n) {s : Shared} {c : Nat} (h0 : St 0 s.heap)
    (hS : s.heap.get? S = some { cls := .type "list", dict := none, data := .seq #[] c, slots := #[] })
    (hR : ∀ v h' tk, P (argBest bt (n - 1)) v → (∀ b o, b ∉ wr → b ≠ S → s.heap.get? b = some o → h'.get? b = some o) → R (.ok (.ret v)) { s with heap := h', toks := tk }) :
    codeAny (model prog w) A (.builtin "min.loop" ⟨[.ref I, .none, .ref S], kw⟩) R s := by
  have hw : S ∉ wr := fun z => hf (W.sub _ z)
  have hnm : (toString "min" ++ toString ".loop" : String) = "min.loop" := by decide
  refine codeAny_builtin F.entry_min_loop ?_
  rw [Around.under_plainId F.plain_min_loop _]
  show wpAny _ A.in1 (seqItems? (.ref S) >>= _) _ _ s
  refine wpAny_bind (wpAny_seqItems hS rfl ?_)
  show wpAny _ A.in1 (tryCatch (pyNext (.ref I)) _ >>= _) _ _ s
  refine wpAny_bind (wpAny_tryCatch (W.item 0 s _ _ hn h0 fun v h1 tk hP hst1 hk1 => ?_))
  have hS1 := hk1 S _ hw hS
  show wpAny _ A.in1 (updateSeq S (fun _ => #[v, v]) >>= _) _ _ _
  refine wpAny_bind ?_
  refine wpAny_updateSeq hS1 rfl ?_
  rw [hnm]
  refine wpAny_pure ⟨plainId_quiet F.plain_min_loop _, mnl kw W bt hc S hf _ 0 _ v _ rfl hn (W.frame _ _ _ hst1 fun b zf o e => ?_) hP (Heap.get?_update_self _ hS1 rfl) fun v2 h2 tk2 hP2 hk2 => ?_⟩
  · exact (Heap.get?_update_other _ _ (fun z : S = b => hf (by rw [z]; exact zf))).trans e
  · exact hR v2 h2 tk2 hP2 fun b o z1 z2 e => hk2 b o z1 z2 ((Heap.get?_update_other _ _ (Ne.symm z2)).trans (hk1 b o z1 e))
/-- nothing is given: the default -/
theorem mnlD (d : Value) (W : Walks prog w A.in1 I fp wr n P St) (S : Addr) (hf : S ∉ fp) {s : Shared} {c : Nat} (h0 : St n s.heap)
    (hS : s.heap.get? S = some { cls := .type "list", dict := none, data := .seq #[] c, slots := #[] })
    (hR : ∀ h' tk, (∀ b o, b ∉ wr → b ≠ S → s.heap.get? b = some o → h'.get? b = some o) → R (.ok (.ret d)) { s with heap := h', toks := tk }) :
    codeAny (model prog w) A (.builtin "min.loop" ⟨[.ref I, .none, .ref S], [(Str.ofString "default", d)]⟩) R s := by
  have hw : S ∉ wr := fun z => hf (W.sub _ z)
  refine codeAny_builtin F.entry_min_loop ?_
  rw [Around.under_plainId F.plain_min_loop _]
  show wpAny _ A.in1 (seqItems? (.ref S) >>= _) _ _ s
  refine wpAny_bind (wpAny_seqItems hS rfl ?_)
  show wpAny _ A.in1 (tryCatch (pyNext (.ref I)) _ >>= _) _ _ s
  refine wpAny_bind (wpAny_tryCatch (W.done s _ _ h0 fun h1 tk hk1 => ?_))
  refine wpAny_bind (wpAny_rule (wpAny_pure ?_))
  exact hR h1 tk fun b o z1 _ e => hk1 b o z1 e
theorem args_minD (a d : Value) : argsOk "min" ⟨[a], [(Str.ofString "default", d)]⟩ := by unfold argsOk; kernel_rfl
theorem bind_minD (d : Value) : Builtin.Builtins.bindParams "min" ["key", "default"] 0 ⟨[], [(Str.ofString "default", d)]⟩ = pure [none, some d] := by first | rfl | kernel_rfl
end
section
variable {prog : Program} {w : World} {A : Around} {E : Value → Shared → Prop} {s : Shared}
/-- a built-in function by keywords that goes on in a further call -/
theorem call_tree_kw {id : String} {b : Builtin} {args : List Value} {kw : List (Str × Value)} {Q : Value → Shared → Prop} (hk : builtinKind id = none) (hp : plainId id = true)
    (hb : entryFor table id = some b) (ha : argsOk id ⟨args, kw⟩)
    (hc : wpAny (model prog w) A.in1 (b ⟨args, kw⟩) (fun fin s' => match fin with
      | .done f => (match (Except.ok f : Result) with | .ok (.ret v) => Q v s' | .ok _ => False | .error e => E e s')
      | .again c' => c'.quiet = true ∧ codeAny (model prog w) A c' (fun r s' => match r with | .ok (.ret v) => Q v s' | .ok _ => False | .error e => E e s') s') E s) :
    wpAny (model prog w) A (call (.builtin id) args kw) Q E s := by
  refine wpAny_call (codeAny_call_builtin hp hb ?_)
  simp only [checkBuiltinCall, hk]
  cases hg : Manifest.signature? id with
  | none => exact wpAny_pure hc
  | some sig =>
    have h2 : Bind.checkArgs id sig ⟨args, kw⟩ = pure () := by simpa only [argsOk, hg] using ha
    simp only [h2]
    exact wpAny_pure hc
theorem min_dflt {l : Addr} {its : List Value} {ns : List Int} {d : Value} {Q : Value → Shared → Prop} (hh : A.handled = none) (hl : s.heap.IsList l its.toArray) (hi : IntsAre its ns)
    (h : ∀ h' tk, (∀ b o, s.heap.get? b = some o → h'.get? b = some o) → (ns = [] → Q d { s with heap := h', toks := tk }) ∧ (∀ M t', M ∈ ns → (∀ a, a ∈ ns → M ≤ a) → Q (.int M t') { s with heap := h', toks := tk })) :
    wpAny (model prog w) A (call (.builtin "min") [.ref l] [(Str.ofString "default", d)]) Q E s := by
  obtain ⟨xs, e⟩ := hi.allInts.items
  have hn : numsOf (intItems xs).toList = ns := by rw [← e]; exact hi.numsOf
  rw [nums_intItems] at hn
  subst hn
  rw [e] at hl
  have hnm : (toString "min" ++ toString ".loop" : String) = "min.loop" := by decide
  refine call_tree_kw F.kind_min F.plain_min F.entry_min (args_minD _ _) ?_
  show wpAny _ A.in1 (Builtin.Builtins.bindParams "min" ["key", "default"] 0 ⟨[], [(Str.ofString "default", d)]⟩ >>= _) _ _ s
  refine wpAny_bind (wpAny_of_eq (bind_minD d) ?_)
  refine wpAny_bind (wpAny_pure ?_)
  refine wpAny_bind (iter_intList hl fun s2 e2 st hfp hne => ?_)
  subst e2
  refine wpAny_bind (wpAny_newObj_type ?_)
  rw [hnm]
  have W := Walks.list (prog := prog) (w := w) (A := A.in1) hh s.heap.objs.size l hne (intItems xs)
  have hSf : (s.heap.push { cls := .type "list_iterator", data := .fields #[.ref l, .int 0 0] }).objs.size ∉ [s.heap.objs.size, l] := fun hm => Nat.lt_irrefl _ (hfp _ hm)
  have old : ∀ {h1 : Heap}, (∀ b o, b ∉ [s.heap.objs.size] → b ≠ (s.heap.push { cls := .type "list_iterator", data := .fields #[.ref l, .int 0 0] }).objs.size →
      ((s.heap.push { cls := .type "list_iterator", data := .fields #[.ref l, .int 0 0] }).push { cls := .type "list", data := .seq #[] }).get? b = some o → h1.get? b = some o) → ∀ b o, s.heap.get? b = some o → h1.get? b = some o := fun {h1} hk b o e3 => by
    have e4 := Heap.get?_push_of_some { cls := .type "list_iterator", data := .fields #[.ref l, .int 0 0] } e3
    refine hk b o (fun hm => ?_) (Nat.ne_of_lt (Heap.lt_size e4)) (Heap.get?_push_of_some _ e4)
    have e5 : b = s.heap.objs.size := by simpa using hm
    rw [e5] at e3
    exact absurd (Heap.lt_size e3) (Nat.lt_irrefl _)
  by_cases hz : 0 < (intItems xs).size
  · refine wpAny_pure ⟨plainId_quiet F.plain_min_loop _, mnl0 _ W (fun i j => decide (numAt xs i < numAt xs j)) (CmpOf.ints_lt (numAt xs) (fun _ _ => intItems_at)) _ hSf hz (W.frame _ _ _ st fun b _ o e => Heap.get?_push_of_some _ e) (Heap.get?_push_size _ rfl) fun v h1 tk hP hk => ?_⟩
    have hP' : (intItems xs)[argBest (fun i j => decide (numAt xs i < numAt xs j)) (xs.size - 1)]? = some v := by simpa [intItems] using hP
    obtain ⟨t, rfl⟩ := intItems_at hP'
    obtain ⟨h2, h3⟩ := argBest_lt (numAt xs) (xs.size - 1)
    have hz' : 0 < xs.size := by simpa [intItems] using hz
    refine (h h1 tk (old hk)).2 _ t ?_ fun a ha => ?_
    · rw [numAt_eq]; exact PySem.getD_mem (by rw [List.length_map, Array.length_toList]; omega)
    · obtain ⟨j, hj, rfl⟩ := mem_getD ha
      rw [List.length_map, Array.length_toList] at hj
      rw [← numAt_eq]; exact h3 j (by omega)
  · have hz0 : (intItems xs).size = 0 := by omega
    have hx : xs.size = 0 := by simpa [intItems] using hz0
    refine wpAny_pure ⟨plainId_quiet F.plain_min_loop _, mnlD d W _ hSf (W.frame _ _ _ (by rw [hz0]; exact st) fun b _ o e => Heap.get?_push_of_some _ e) (Heap.get?_push_size _ rfl) fun h1 tk hk => ?_⟩
    refine (h h1 tk (old hk)).1 ?_
    have : xs = #[] := by simpa using hx
    subst this
    rfl
end
end RsR
namespace L2
open PySem PySem.Spec PyProof.Rows
section
variable {X : Cx}
/-- min(xs, default=d), xs a list of ints -/
def rMinD (K : PySem.W.Frag) : List V → List V → Hp → VK → Prop := fun vs zs H Q => ∃ (a : Addr) (ns : List Int) (d : V), vs = [V.ref a] ∧ zs = [d] ∧ SqL K H a (ns.map V.int) ∧ (ns = [] → Q d H) ∧ ∀ m, m ∈ ns → (∀ y, y ∈ ns → m ≤ y) → Q (.int m) H
theorem cr_minD (hc : X.calm = true) : CallRK X (.builtin "min") [Str.ofString "default"] (rMinD X.K) := by
  intro pins s σ H vs zs us ws Q I r rz h
  obtain ⟨a, ns, d, rfl, rfl, hs, q1, q2⟩ := h
  obtain rfl := Vals.ref1 r
  obtain ⟨w1, rfl, e1⟩ := vals1 rz
  obtain ⟨its, rv, hl, _⟩ := I.list hs
  exact RsR.min_dflt (I.ok.hd hc) hl.isList rv.ints fun h1 tk hk => ⟨fun e => ⟨d, H, I.kept hk, e1, q1 e⟩, fun m t hm hle => ⟨.int _, H, I.kept hk, ⟨_, rfl⟩, q2 m hm hle⟩⟩
/-- xs == [] -/
def rEqNil (K : PySem.W.Frag) : R2 := fun x y H Q => ∃ (a b : Addr) (xs : List V), x = .ref a ∧ y = .ref b ∧ SqL K H a xs ∧ SqL K H b [] ∧ Q (.bl xs.isEmpty) H
theorem op_eqNil (hu : X.A.units + 64 < cLine) : OpR X (compareOp .Eq) (rEqNil X.K) := by
  intro pins s σ H x y v u Q I rx ry h
  obtain ⟨a, b, xs, rfl, rfl, h1, h2, q⟩ := h
  cases rx
  cases ry
  obtain ⟨its, rv, hl, _⟩ := I.list h1
  obtain ⟨it2, r2, hl2, _⟩ := I.list h2
  cases r2
  have hu' : X.A.units < cLine := by omega
  cases rv with
  | nil => exact SeqAt.eq_listAt (e := fun _ => true) hl.isList hl2.isList rfl hu' (fun j h1 _ => absurd h1 (by simp)) (show EP X pins σ Q (.bool true) s from ⟨.bl true, H, I, rfl, q⟩)
  | cons r1 rr => exact SeqAt.eq_list_lengthsAt hl.isList hl2.isList (by simp) hu' (show EP X pins σ Q (.bool false) s from ⟨.bl false, H, I, rfl, q⟩)
end
end L2

set_option Elab.async false
set_option linter.all false
set_option maxRecDepth 100000
set_option maxHeartbeats 4000000
namespace RsR
open PySem PyProof.Rows SrtO
/-- triples of ints, by their first, then by the second, then by the third -/
def lex3 (p q : Int × Int × Int) : Bool := if p.1 = q.1 then lexB p.2 q.2 else decide (p.1 < q.1)
theorem lex3_iff {p q : Int × Int × Int} : lex3 p q = true ↔ p.1 < q.1 ∨ (p.1 = q.1 ∧ (p.2.1 < q.2.1 ∨ (p.2.1 = q.2.1 ∧ p.2.2 < q.2.2))) := by
  unfold lex3
  by_cases e : p.1 = q.1
  · rw [if_pos e, lexB_iff]
    omega
  · rw [if_neg e, decide_eq_true_eq]
    omega
theorem lex3_no {p q : Int × Int × Int} : lex3 p q = false ↔ ¬ (p.1 < q.1 ∨ (p.1 = q.1 ∧ (p.2.1 < q.2.1 ∨ (p.2.1 = q.2.1 ∧ p.2.2 < q.2.2)))) := by
  rw [← lex3_iff]
  cases lex3 p q <;> simp
theorem swo_lex3 {α : Type} (k : α → Int × Int × Int) : Swo fun v u => lex3 (k v) (k u) := by
  refine ⟨fun x y h => ?_, fun x y z h1 h2 => ?_⟩
  · have a := lex3_iff.mp h
    refine lex3_no.mpr ?_
    omega
  · have a := lex3_no.mp h1
    have b := lex3_no.mp h2
    refine lex3_no.mpr ?_
    omega
def IsTrip (h : Heap) (v : Value) (k : Int × Int × Int) : Prop := ∃ a o t u r n, v = .ref a ∧ h.get? a = some o ∧ o.cls = .type "tuple" ∧ o.data = .seq #[.int k.1 t, .int k.2.1 u, .int k.2.2 r] n
theorem IsTrip.keeps {h h2 : Heap} {v : Value} {k : Int × Int × Int} (p : IsTrip h v k) (kp : ∀ b o, h.get? b = some o → o.cls = .type "tuple" → h2.get? b = some o) : IsTrip h2 v k := by
  obtain ⟨a, o, t, u, r, n, e, ho, hc, hd⟩ := p
  exact ⟨a, o, t, u, r, n, e, kp a o ho hc, hc, hd⟩
theorem trip_firsts {h : Heap} : ∀ {vs : List Value}, (∀ v ∈ vs, ∃ k, IsTrip h v k) → ∃ fs : List Value, PySem.W.KatTups h vs fs ∧ fs.length = vs.length ∧ ∀ f ∈ fs, ∃ x t, f = Value.int x t
  | [], _ => ⟨[], PySem.W.KatTups.nil, rfl, fun _ hm => by simp at hm⟩
  | v :: vs, hp => by
    obtain ⟨fs, h1, h2, h3⟩ := trip_firsts (vs := vs) fun v2 hm => hp v2 (List.mem_cons_of_mem _ hm)
    obtain ⟨k, a, o, t, u, r, n, rfl, ho, hc, hd⟩ := hp v (List.mem_cons_self ..)
    refine ⟨.int k.1 t :: fs, PySem.W.KatTups.cons ho hc hd rfl h1, by rw [List.length_cons, List.length_cons, h2], fun f hm => ?_⟩
    rcases List.mem_cons.mp hm with rfl | hm
    · exact ⟨_, t, rfl⟩
    · exact h3 f hm
section
variable {prog : Program} {w : World} {A : Around} {E : Value → Shared → Prop} {s : Shared}
theorem trip_cmp {vs : List Value} {k : Value → Int × Int × Int} (hp : ∀ v ∈ vs, IsTrip s.heap v (k v)) : Cmp prog w A s (tuples' true) (fun p => p.1 ∈ vs) (lt2 fun v u => lex3 (k v) (k u)) := by
  intro p q hm hm2
  have h1 := hp _ hm
  have h2 := hp _ hm2
  show wpAny (model prog w) A (keyLt' (tuples' true) p.1 q.1) (fun r s' => s' = s ∧ r = lex3 (k p.1) (k q.1)) (fun _ _ => False) s
  unfold lex3 lexB
  generalize k p.1 = kp at h1 ⊢
  generalize k q.1 = kq at h2 ⊢
  obtain ⟨x, y, z⟩ := kp
  obtain ⟨x2, y2, z2⟩ := kq
  obtain ⟨a, o, t, u, r, n, e, ho, hc, hd⟩ := h1
  obtain ⟨a2, o2, t2, u2, r2, n2, e2, ho2, hc2, hd2⟩ := h2
  rw [e, e2]
  refine PySem.W.kat_lt ho hd ho2 hd2 ?_
  show PySem.W.KatLex prog w A true (decide (3 < 3)) _ [(.int x t, .int x2 t2), (.int y u, .int y2 u2), (.int z r, .int z2 r2)] 0 s
  refine PySem.W.kat_cons (SeqAt.EqAt.int_int x t x2 t2 prog w _ _ ?_)
  refine PySem.W.kat_go (fun e1 => ?_) (fun e1 => ?_)
  · have ex : x = x2 := by simpa using e1
    refine PySem.W.kat_yes (PySem.W.kat_cons (SeqAt.EqAt.int_int y u y2 u2 prog w _ _ ?_))
    refine PySem.W.kat_go (fun e3 => ?_) (fun e3 => ?_)
    · have ey : y = y2 := by simpa using e3
      refine PySem.W.kat_yes (PySem.W.kat_cons (SeqAt.EqAt.int_int z r z2 r2 prog w _ _ ?_))
      refine PySem.W.kat_go (fun e5 => ?_) (fun e5 => ?_)
      · have ez : z = z2 := by simpa using e5
        refine PySem.W.kat_yes (PySem.W.kat_nil ⟨rfl, ?_⟩)
        simp [ex, ey, ez]
      · refine PySem.W.kat_no (PySem.W.kat_one _ _ (PyProof.Rows.lt_int ?_))
        exact (show s = s ∧ decide (z < z2) = _ from ⟨rfl, by simp [ex, ey]⟩)
    · have ey : ¬ y = y2 := by simpa using e3
      refine PySem.W.kat_no (PySem.W.kat_one _ _ (PyProof.Rows.lt_int ?_))
      exact (show s = s ∧ decide (y < y2) = _ from ⟨rfl, by simp [ex, ey]⟩)
  · have ex : ¬ x = x2 := by simpa using e1
    exact PySem.W.kat_no (oneLt_int ⟨rfl, by simp [ex]⟩)
theorem trip_sortable {a : Addr} {vs : List Value} {k : Value → Int × Int × Int} (h0 : 0 < vs.length) (hp : ∀ v ∈ vs, IsTrip s.heap v (k v)) (ha : ∀ o, s.heap.get? a = some o → o.cls ≠ .type "tuple") : SortableO prog w A s a vs fun v u => lex3 (k v) (k u) := by
  intro h2 keep
  have hp2 : ∀ v ∈ vs, IsTrip h2 v (k v) := fun v hm => (hp v hm).keeps fun b o e c => keep b o (fun z => by subst z; exact ha o e c) e
  obtain ⟨fs, f1, f2, f3⟩ := trip_firsts fun v hm => ⟨_, hp2 v hm⟩
  refine ⟨tuples' true, fun Q E hq => ?_, trip_cmp hp2⟩
  refine PySem.W.kat_kind (T := .type "int") f1 (by omega) (fun f hm => ?_) (by rfl) ?_
  · obtain ⟨x, t, rfl⟩ := f3 f hm
    exact PySem.W.Looks.now
  · have e : (Value.type "int" != Value.type "tuple") = true := by first | decide +kernel | rfl | decide
    rw [e]
    exact hq
theorem sorted_trips {l : Addr} {vs : List Value} {k : Value → Int × Int × Int} {Q : Value → Shared → Prop} (hl : s.heap.IsList l vs.toArray) (hz : vs.length ≤ sizeLine) (hp : ∀ v ∈ vs, IsTrip s.heap v (k v))
    (h : ∀ (h2 : Heap) (d : Addr) (out : List Value), Srtd (fun v u => lex3 (k v) (k u)) out → out.Perm vs → (∀ b o, s.heap.get? b = some o → h2.get? b = some o) → s.heap.objs.size ≤ d → (∃ n, h2.get? d = some (seqObj "list" out.toArray n)) → Q (.ref d) { s with heap := h2 }) :
    wpAny (model prog w) A (call (.builtin "sorted") [.ref l]) Q E s := by
  refine sorted_ord (swo_lex3 k) hl hz (fun _ h1 a ha kk => ?_) fun out hs hb => ?_
  · refine trip_sortable (s := { s with heap := h1 }) (by omega) (fun v hm => (hp v hm).keeps fun b o e _ => (kk b o e).2) fun o e => ?_
    have e' : some o = some (seqObj "list" vs.toArray 0) := e.symm.trans ha
    cases e'
    intro c
    exact absurd (Value.type.inj c) (by decide)
  · exact h _ _ out hs hb.perm (fun b o e => sortedAll_old e) (Nat.le_succ _) (sortedAll_at s.heap vs out.toArray)
end
end RsR
namespace L2
open PySem PySem.Spec PyProof.Rows
/-- sorted(xs), xs a list of triples of ints (k says which): a new list of the same, in order -/
def rSorted3 (K : PySem.W.Frag) : List V → Hp → VK → Prop := fun vs H Q => ∃ (a : Addr) (xs : List V) (k : V → Int × Int × Int), vs = [V.ref a] ∧ SqL K H a xs ∧ (∀ x ∈ xs, ∃ t, x = V.ref t ∧ H t = some (.tup [.int (k x).1, .int (k x).2.1, .int (k x).2.2])) ∧
  ∀ (ys : List V) (p : Addr), ys.Perm xs → ys.Pairwise (fun x y => RsR.lex3 (k y) (k x) = false) → H p = none → Q (.ref p) (upd H p (.lst ys))
section
variable {X : Cx}
theorem vals3 {x y z : V} {us : List Value} (r : Vals [x, y, z] us) : ∃ u v w, us = [u, v, w] ∧ RelV x u ∧ RelV y v ∧ RelV z w := by
  cases r with
  | cons a r =>
    cases r with
    | cons b r =>
      cases r with
      | cons c r =>
        cases r
        exact ⟨_, _, _, rfl, a, b, c⟩
theorem cr_sorted3 : CallR X (.builtin "sorted") (rSorted3 X.K) := by
  intro pins s σ H vs us Q I r h
  obtain ⟨a, xs, k, rfl, hs, hx, q⟩ := h
  obtain ⟨its, rv, hl, hz⟩ := I.list hs
  obtain ⟨u, rfl, ru⟩ := vals1 r
  obtain rfl : u = Value.ref a := ru
  obtain ⟨e1, e2⟩ := refs_back rv fun x m => by
    obtain ⟨t, e, _⟩ := hx x m
    exact ⟨t, e⟩
  refine RsR.sorted_trips (k := fun u => k (backV u)) hl.isList (by rw [← rv.length]; exact hz) (fun v hv => ?_) fun h2 d out h1 hp kp hd hn => ?_
  · obtain ⟨t, rfl⟩ := e2 v hv
    have hm : V.ref t ∈ xs := by rw [e1]; exact List.mem_map.mpr ⟨_, hv, rfl⟩
    obtain ⟨t2, e, ht⟩ := hx _ hm
    cases e
    obtain ⟨_, it2, r2, o, ho, hc, n, hd⟩ := I.hok _ _ ht
    obtain ⟨u1, u2, u3, rfl, ri, rj, rk⟩ := vals3 r2
    obtain ⟨t1, rfl⟩ := ri
    obtain ⟨t3, rfl⟩ := rj
    obtain ⟨t4, rfl⟩ := rk
    exact ⟨t, o, t1, t3, t4, n, rfl, ho, hc, hd⟩
  · have h3 : ∀ u ∈ out, ∃ a, u = Value.ref a := fun u hu => e2 u (hp.mem_iff.mp hu)
    obtain ⟨n, hn⟩ := hn
    have hb : (out.map backV).Perm xs := by
      rw [e1]
      exact hp.map backV
    refine ⟨.ref d, upd H d (.lst (out.map backV)), I.laid (t' := s.toks) kp hd ⟨?_, out, n, vals_back h3, hn⟩, rfl, q _ d hb (SrtO.srtd_map h1) (I.hok.fresh hd)⟩
    rw [hb.length_eq]
    exact hz
end
end L2

set_option Elab.async false
set_option linter.all false
set_option maxRecDepth 100000
set_option maxHeartbeats 4000000
namespace L2
open PySem PySem.Spec PyProof.Rows
/-- the i-th statement of the program -/
def top (i : Nat) : Stmt := PySem.Challenge.pw_racestewards_s01_answers.main.body.getD i (.Pass ⟨0, 0, 0, 0⟩)

abbrev s_x_init : Stmt := inClass (top 1) 0
abbrev n_x_init : List Str := ["self", "refusal"]
theorem sc_x_init : FnScope n_x_init ["self", "refusal"] (defScope s_x_init) := ⟨rfl, rfl, rfl, by decide +kernel, rfl, by decide +kernel, by decide +kernel⟩
abbrev s_want : Stmt := top 2
abbrev n_want : List Str := ["is_so", "refusal"]
theorem sc_want : FnScope n_want ["is_so", "refusal"] (defScope s_want) := ⟨rfl, rfl, rfl, by decide +kernel, rfl, by decide +kernel, by decide +kernel⟩
abbrev s_c_init : Stmt := inClass (top 6) 0
abbrev n_c_init : List Str := ["self", "number", "team", "kind"]
theorem sc_c_init : FnScope n_c_init ["self", "number", "team", "kind"] (defScope s_c_init) := ⟨rfl, rfl, rfl, by decide +kernel, rfl, by decide +kernel, by decide +kernel⟩
abbrev s_c_laps : Stmt := inClass (top 6) 1
abbrev n_c_laps : List Str := ["self"]
theorem sc_c_laps : FnScope n_c_laps ["self"] (defScope s_c_laps) := ⟨rfl, rfl, rfl, by decide +kernel, rfl, by decide +kernel, by decide +kernel⟩
abbrev s_c_last_time : Stmt := inClass (top 6) 2
abbrev n_c_last_time : List Str := ["self"]
theorem sc_c_last_time : FnScope n_c_last_time ["self"] (defScope s_c_last_time) := ⟨rfl, rfl, rfl, by decide +kernel, rfl, by decide +kernel, by decide +kernel⟩
abbrev s_c_take_crossing : Stmt := inClass (top 6) 3
abbrev n_c_take_crossing : List Str := ["self", "time"]
theorem sc_c_take_crossing : FnScope n_c_take_crossing ["self", "time"] (defScope s_c_take_crossing) := ⟨rfl, rfl, rfl, by decide +kernel, rfl, by decide +kernel, by decide +kernel⟩
abbrev s_c_take_tyres : Stmt := inClass (top 6) 4
abbrev n_c_take_tyres : List Str := ["self", "kind"]
theorem sc_c_take_tyres : FnScope n_c_take_tyres ["self", "kind"] (defScope s_c_take_tyres) := ⟨rfl, rfl, rfl, by decide +kernel, rfl, by decide +kernel, by decide +kernel⟩
abbrev s_c_pits : Stmt := inClass (top 6) 5
abbrev n_c_pits : List Str := ["self"]
theorem sc_c_pits : FnScope n_c_pits ["self"] (defScope s_c_pits) := ⟨rfl, rfl, rfl, by decide +kernel, rfl, by decide +kernel, by decide +kernel⟩
abbrev s_c_has_one_kind : Stmt := inClass (top 6) 6
abbrev n_c_has_one_kind : List Str := ["self", "kind"]
theorem sc_c_has_one_kind : FnScope n_c_has_one_kind ["self"] (defScope s_c_has_one_kind) := ⟨rfl, rfl, rfl, by decide +kernel, rfl, by decide +kernel, by decide +kernel⟩
abbrev s_c_take_sending : Stmt := inClass (top 6) 7
abbrev n_c_take_sending : List Str := ["self"]
theorem sc_c_take_sending : FnScope n_c_take_sending ["self"] (defScope s_c_take_sending) := ⟨rfl, rfl, rfl, by decide +kernel, rfl, by decide +kernel, by decide +kernel⟩
abbrev s_c_go_through : Stmt := inClass (top 6) 8
abbrev n_c_go_through : List Str := ["self"]
theorem sc_c_go_through : FnScope n_c_go_through ["self"] (defScope s_c_go_through) := ⟨rfl, rfl, rfl, by decide +kernel, rfl, by decide +kernel, by decide +kernel⟩
abbrev s_c_ways : Stmt := inClass (top 6) 9
abbrev n_c_ways : List Str := ["self"]
theorem sc_c_ways : FnScope n_c_ways ["self"] (defScope s_c_ways) := ⟨rfl, rfl, rfl, by decide +kernel, rfl, by decide +kernel, by decide +kernel⟩
abbrev s_c_add_seconds : Stmt := inClass (top 6) 10
abbrev n_c_add_seconds : List Str := ["self", "seconds"]
theorem sc_c_add_seconds : FnScope n_c_add_seconds ["self", "seconds"] (defScope s_c_add_seconds) := ⟨rfl, rfl, rfl, by decide +kernel, rfl, by decide +kernel, by decide +kernel⟩
abbrev s_c_penalty : Stmt := inClass (top 6) 11
abbrev n_c_penalty : List Str := ["self"]
theorem sc_c_penalty : FnScope n_c_penalty ["self"] (defScope s_c_penalty) := ⟨rfl, rfl, rfl, by decide +kernel, rfl, by decide +kernel, by decide +kernel⟩
abbrev s_c_leave : Stmt := inClass (top 6) 12
abbrev n_c_leave : List Str := ["self"]
theorem sc_c_leave : FnScope n_c_leave ["self"] (defScope s_c_leave) := ⟨rfl, rfl, rfl, by decide +kernel, rfl, by decide +kernel, by decide +kernel⟩
abbrev s_c_throw : Stmt := inClass (top 6) 13
abbrev n_c_throw : List Str := ["self"]
theorem sc_c_throw : FnScope n_c_throw ["self"] (defScope s_c_throw) := ⟨rfl, rfl, rfl, by decide +kernel, rfl, by decide +kernel, by decide +kernel⟩
abbrev s_time_of_laps : Stmt := top 8
abbrev n_time_of_laps : List Str := ["cars", "laps", "car"]
theorem sc_time_of_laps : FnScope n_time_of_laps ["cars", "laps"] (defScope s_time_of_laps) := ⟨rfl, rfl, rfl, by decide +kernel, rfl, by decide +kernel, by decide +kernel⟩
abbrev s_many_before : Stmt := top 9
abbrev n_many_before : List Str := ["times", "fall", "time"]
theorem sc_many_before : FnScope n_many_before ["times", "fall"] (defScope s_many_before) := ⟨rfl, rfl, rfl, by decide +kernel, rfl, by decide +kernel, by decide +kernel⟩
abbrev s_r_init : Stmt := inClass (top 10) 0
abbrev n_r_init : List Str := ["self", "many_laps", "is_wet", "teams", "kinds", "number", "team"]
theorem sc_r_init : FnScope n_r_init ["self", "many_laps", "is_wet", "teams", "kinds"] (defScope s_r_init) := ⟨rfl, rfl, rfl, by decide +kernel, rfl, by decide +kernel, by decide +kernel⟩
abbrev s_r_most_laps : Stmt := inClass (top 10) 1
abbrev n_r_most_laps : List Str := ["self", "car"]
theorem sc_r_most_laps : FnScope n_r_most_laps ["self"] (defScope s_r_most_laps) := ⟨rfl, rfl, rfl, by decide +kernel, rfl, by decide +kernel, by decide +kernel⟩
abbrev s_r_fall : Stmt := inClass (top 10) 2
abbrev n_r_fall : List Str := ["self"]
theorem sc_r_fall : FnScope n_r_fall ["self"] (defScope s_r_fall) := ⟨rfl, rfl, rfl, by decide +kernel, rfl, by decide +kernel, by decide +kernel⟩
abbrev s_r_has_fallen : Stmt := inClass (top 10) 3
abbrev n_r_has_fallen : List Str := ["self"]
theorem sc_r_has_fallen : FnScope n_r_has_fallen ["self"] (defScope s_r_has_fallen) := ⟨rfl, rfl, rfl, by decide +kernel, rfl, by decide +kernel, by decide +kernel⟩
abbrev s_r_is_void : Stmt := inClass (top 10) 4
abbrev n_r_is_void : List Str := ["self"]
theorem sc_r_is_void : FnScope n_r_is_void ["self"] (defScope s_r_is_void) := ⟨rfl, rfl, rfl, by decide +kernel, rfl, by decide +kernel, by decide +kernel⟩
abbrev s_r_is_home : Stmt := inClass (top 10) 5
abbrev n_r_is_home : List Str := ["self", "car"]
theorem sc_r_is_home : FnScope n_r_is_home ["self", "car"] (defScope s_r_is_home) := ⟨rfl, rfl, rfl, by decide +kernel, rfl, by decide +kernel, by decide +kernel⟩
abbrev s_r_counting : Stmt := inClass (top 10) 6
abbrev n_r_counting : List Str := ["self", "car"]
theorem sc_r_counting : FnScope n_r_counting ["self", "car"] (defScope s_r_counting) := ⟨rfl, rfl, rfl, by decide +kernel, rfl, by decide +kernel, by decide +kernel⟩
abbrev s_r_is_out : Stmt := inClass (top 10) 7
abbrev n_r_is_out : List Str := ["self", "car"]
theorem sc_r_is_out : FnScope n_r_is_out ["self", "car"] (defScope s_r_is_out) := ⟨rfl, rfl, rfl, by decide +kernel, rfl, by decide +kernel, by decide +kernel⟩
abbrev s_r_take_crossing_of : Stmt := inClass (top 10) 8
abbrev n_r_take_crossing_of : List Str := ["self", "car", "time"]
theorem sc_r_take_crossing_of : FnScope n_r_take_crossing_of ["self", "car", "time"] (defScope s_r_take_crossing_of) := ⟨rfl, rfl, rfl, by decide +kernel, rfl, by decide +kernel, by decide +kernel⟩
abbrev s_r_be_stopped : Stmt := inClass (top 10) 9
abbrev n_r_be_stopped : List Str := ["self"]
theorem sc_r_be_stopped : FnScope n_r_be_stopped ["self"] (defScope s_r_be_stopped) := ⟨rfl, rfl, rfl, by decide +kernel, rfl, by decide +kernel, by decide +kernel⟩
abbrev s_time_with_penalties : Stmt := top 18
abbrev n_time_with_penalties : List Str := ["race", "car"]
theorem sc_time_with_penalties : FnScope n_time_with_penalties ["race", "car"] (defScope s_time_with_penalties) := ⟨rfl, rfl, rfl, by decide +kernel, rfl, by decide +kernel, by decide +kernel⟩
abbrev s_best_lap : Stmt := top 19
abbrev n_best_lap : List Str := ["race", "car", "times", "before", "time"]
theorem sc_best_lap : FnScope n_best_lap ["race", "car"] (defScope s_best_lap) := ⟨rfl, rfl, rfl, by decide +kernel, rfl, by decide +kernel, by decide +kernel⟩
abbrev s_ordered : Stmt := top 20
abbrev n_ordered : List Str := ["race", "some", "car", "rows", "row"]
theorem sc_ordered : FnScope n_ordered ["race"] (defScope s_ordered) := ⟨rfl, rfl, rfl, by decide +kernel, rfl, by decide +kernel, by decide +kernel⟩
abbrev s_classed : Stmt := top 21
abbrev n_classed : List Str := ["race", "some", "first", "car"]
theorem sc_classed : FnScope n_classed ["race"] (defScope s_classed) := ⟨rfl, rfl, rfl, by decide +kernel, rfl, by decide +kernel, by decide +kernel⟩
abbrev s_level_of : Stmt := top 22
abbrev n_level_of : List Str := ["race", "some", "first"]
theorem sc_level_of : FnScope n_level_of ["race", "some"] (defScope s_level_of) := ⟨rfl, rfl, rfl, by decide +kernel, rfl, by decide +kernel, by decide +kernel⟩
abbrev s_fastest_number : Stmt := top 23
abbrev n_fastest_number : List Str := ["race", "some", "laps", "car"]
theorem sc_fastest_number : FnScope n_fastest_number ["race", "some"] (defScope s_fastest_number) := ⟨rfl, rfl, rfl, by decide +kernel, rfl, by decide +kernel, by decide +kernel⟩
abbrev s_points_by_places : Stmt := top 24
abbrev n_points_by_places : List Str := ["level", "many", "found", "points"]
theorem sc_points_by_places : FnScope n_points_by_places ["level", "many"] (defScope s_points_by_places) := ⟨rfl, rfl, rfl, by decide +kernel, rfl, by decide +kernel, by decide +kernel⟩
abbrev s_halves_of : Stmt := top 25
abbrev n_halves_of : List Str := ["race", "some", "level", "found", "fastest", "place", "car"]
theorem sc_halves_of : FnScope n_halves_of ["race", "some"] (defScope s_halves_of) := ⟨rfl, rfl, rfl, by decide +kernel, rfl, by decide +kernel, by decide +kernel⟩
abbrev s_teams_in_order : Stmt := top 26
abbrev n_teams_in_order : List Str := ["race", "found", "car"]
theorem sc_teams_in_order : FnScope n_teams_in_order ["race"] (defScope s_teams_in_order) := ⟨rfl, rfl, rfl, by decide +kernel, rfl, by decide +kernel, by decide +kernel⟩
abbrev s_halves_of_team : Stmt := top 27
abbrev n_halves_of_team : List Str := ["race", "team", "some", "car", "halves"]
theorem sc_halves_of_team : FnScope n_halves_of_team ["race", "team"] (defScope s_halves_of_team) := ⟨rfl, rfl, rfl, by decide +kernel, rfl, by decide +kernel, by decide +kernel⟩
abbrev s_all_within : Stmt := top 39
abbrev n_all_within : List Str := ["numbers", "low", "high", "number"]
theorem sc_all_within : FnScope n_all_within ["numbers", "low", "high"] (defScope s_all_within) := ⟨rfl, rfl, rfl, by decide +kernel, rfl, by decide +kernel, by decide +kernel⟩
abbrev s_d_init : Stmt := inClass (top 40) 0
abbrev n_d_init : List Str := ["self"]
theorem sc_d_init : FnScope n_d_init ["self"] (defScope s_d_init) := ⟨rfl, rfl, rfl, by decide +kernel, rfl, by decide +kernel, by decide +kernel⟩
abbrev s_d_car_of : Stmt := inClass (top 40) 1
abbrev n_d_car_of : List Str := ["self", "number"]
theorem sc_d_car_of : FnScope n_d_car_of ["self", "number"] (defScope s_d_car_of) := ⟨rfl, rfl, rfl, by decide +kernel, rfl, by decide +kernel, by decide +kernel⟩
abbrev s_d_racing_car : Stmt := inClass (top 40) 2
abbrev n_d_racing_car : List Str := ["self", "number", "car"]
theorem sc_d_racing_car : FnScope n_d_racing_car ["self", "number"] (defScope s_d_racing_car) := ⟨rfl, rfl, rfl, by decide +kernel, rfl, by decide +kernel, by decide +kernel⟩
abbrev s_d_want_fallen : Stmt := inClass (top 40) 3
abbrev n_d_want_fallen : List Str := ["self"]
theorem sc_d_want_fallen : FnScope n_d_want_fallen ["self"] (defScope s_d_want_fallen) := ⟨rfl, rfl, rfl, by decide +kernel, rfl, by decide +kernel, by decide +kernel⟩
abbrev s_d_begin : Stmt := inClass (top 40) 4
abbrev n_d_begin : List Str := ["self", "laps", "wet", "teams", "kinds"]
theorem sc_d_begin : FnScope n_d_begin ["self", "laps", "wet", "teams", "kinds"] (defScope s_d_begin) := ⟨rfl, rfl, rfl, by decide +kernel, rfl, by decide +kernel, by decide +kernel⟩
abbrev s_d_cross : Stmt := inClass (top 40) 5
abbrev n_d_cross : List Str := ["self", "number", "time", "car"]
theorem sc_d_cross : FnScope n_d_cross ["self", "number", "time"] (defScope s_d_cross) := ⟨rfl, rfl, rfl, by decide +kernel, rfl, by decide +kernel, by decide +kernel⟩
abbrev s_d_pit : Stmt := inClass (top 40) 6
abbrev n_d_pit : List Str := ["self", "number", "kind", "car"]
theorem sc_d_pit : FnScope n_d_pit ["self", "number", "kind"] (defScope s_d_pit) := ⟨rfl, rfl, rfl, by decide +kernel, rfl, by decide +kernel, by decide +kernel⟩
abbrev s_d_through : Stmt := inClass (top 40) 7
abbrev n_d_through : List Str := ["self", "number", "car"]
theorem sc_d_through : FnScope n_d_through ["self", "number"] (defScope s_d_through) := ⟨rfl, rfl, rfl, by decide +kernel, rfl, by decide +kernel, by decide +kernel⟩
abbrev s_d_seconds : Stmt := inClass (top 40) 8
abbrev n_d_seconds : List Str := ["self", "number", "many", "car"]
theorem sc_d_seconds : FnScope n_d_seconds ["self", "number", "many"] (defScope s_d_seconds) := ⟨rfl, rfl, rfl, by decide +kernel, rfl, by decide +kernel, by decide +kernel⟩
abbrev s_d_send : Stmt := inClass (top 40) 9
abbrev n_d_send : List Str := ["self", "number", "car"]
theorem sc_d_send : FnScope n_d_send ["self", "number"] (defScope s_d_send) := ⟨rfl, rfl, rfl, by decide +kernel, rfl, by decide +kernel, by decide +kernel⟩
abbrev s_d_leaving : Stmt := inClass (top 40) 10
abbrev n_d_leaving : List Str := ["self", "number", "car"]
theorem sc_d_leaving : FnScope n_d_leaving ["self", "number"] (defScope s_d_leaving) := ⟨rfl, rfl, rfl, by decide +kernel, rfl, by decide +kernel, by decide +kernel⟩
abbrev s_d_throwing : Stmt := inClass (top 40) 11
abbrev n_d_throwing : List Str := ["self", "number", "car"]
theorem sc_d_throwing : FnScope n_d_throwing ["self", "number"] (defScope s_d_throwing) := ⟨rfl, rfl, rfl, by decide +kernel, rfl, by decide +kernel, by decide +kernel⟩
abbrev s_d_stop : Stmt := inClass (top 40) 12
abbrev n_d_stop : List Str := ["self"]
theorem sc_d_stop : FnScope n_d_stop ["self"] (defScope s_d_stop) := ⟨rfl, rfl, rfl, by decide +kernel, rfl, by decide +kernel, by decide +kernel⟩
abbrev s_d_now : Stmt := inClass (top 40) 13
abbrev n_d_now : List Str := ["self", "some", "car", "rows", "found", "less", "time", "number"]
theorem sc_d_now : FnScope n_d_now ["self"] (defScope s_d_now) := ⟨rfl, rfl, rfl, by decide +kernel, rfl, by decide +kernel, by decide +kernel⟩
abbrev s_d_card : Stmt := inClass (top 40) 14
abbrev n_d_card : List Str := ["self", "number", "car", "race", "found"]
theorem sc_d_card : FnScope n_d_card ["self", "number"] (defScope s_d_card) := ⟨rfl, rfl, rfl, by decide +kernel, rfl, by decide +kernel, by decide +kernel⟩
abbrev s_d_result : Stmt := inClass (top 40) 15
abbrev n_d_result : List Str := ["self", "race", "some", "found", "car", "halves"]
theorem sc_d_result : FnScope n_d_result ["self"] (defScope s_d_result) := ⟨rfl, rfl, rfl, by decide +kernel, rfl, by decide +kernel, by decide +kernel⟩
abbrev s_d_teams : Stmt := inClass (top 40) 16
abbrev n_d_teams : List Str := ["self", "some", "found", "team"]
theorem sc_d_teams : FnScope n_d_teams ["self"] (defScope s_d_teams) := ⟨rfl, rfl, rfl, by decide +kernel, rfl, by decide +kernel, by decide +kernel⟩
abbrev s_list_at : Stmt := top 44
abbrev n_list_at : List Str := ["calls", "at", "end"]
theorem sc_list_at : FnScope n_list_at ["calls", "at"] (defScope s_list_at) := ⟨rfl, rfl, rfl, by decide +kernel, rfl, by decide +kernel, by decide +kernel⟩
abbrev s_answer_with_car : Stmt := top 45
abbrev n_answer_with_car : List Str := ["desk", "call", "n"]
theorem sc_answer_with_car : FnScope n_answer_with_car ["desk", "call", "n"] (defScope s_answer_with_car) := ⟨rfl, rfl, rfl, by decide +kernel, rfl, by decide +kernel, by decide +kernel⟩
abbrev s_answer_without_lists : Stmt := top 46
abbrev n_answer_without_lists : List Str := ["desk", "call", "n"]
theorem sc_answer_without_lists : FnScope n_answer_without_lists ["desk", "call", "n"] (defScope s_answer_without_lists) := ⟨rfl, rfl, rfl, by decide +kernel, rfl, by decide +kernel, by decide +kernel⟩
abbrev s_answer : Stmt := top 47
abbrev n_answer : List Str := ["desk", "call", "n", "lists", "e"]
theorem sc_answer : FnScope n_answer ["desk", "call", "n", "lists"] (defScope s_answer) := ⟨rfl, rfl, rfl, by decide +kernel, rfl, by decide +kernel, by decide +kernel⟩
abbrev s_answers : Stmt := top 48
abbrev n_answers : List Str := ["calls", "desk", "found", "at", "call", "end", "n", "lists", "teams", "kinds", "told"]
theorem sc_answers : FnScope n_answers ["calls"] (defScope s_answers) := ⟨rfl, rfl, rfl, by decide +kernel, rfl, by decide +kernel, by decide +kernel⟩
/-- where things stand behind the top -/
structure Ad where
  f_x_init : Addr
  fd_x_init : FuncData
  f_want : Addr
  fd_want : FuncData
  f_c_init : Addr
  fd_c_init : FuncData
  f_c_laps : Addr
  fd_c_laps : FuncData
  f_c_last_time : Addr
  fd_c_last_time : FuncData
  f_c_take_crossing : Addr
  fd_c_take_crossing : FuncData
  f_c_take_tyres : Addr
  fd_c_take_tyres : FuncData
  f_c_pits : Addr
  fd_c_pits : FuncData
  f_c_has_one_kind : Addr
  fd_c_has_one_kind : FuncData
  f_c_take_sending : Addr
  fd_c_take_sending : FuncData
  f_c_go_through : Addr
  fd_c_go_through : FuncData
  f_c_ways : Addr
  fd_c_ways : FuncData
  f_c_add_seconds : Addr
  fd_c_add_seconds : FuncData
  f_c_penalty : Addr
  fd_c_penalty : FuncData
  f_c_leave : Addr
  fd_c_leave : FuncData
  f_c_throw : Addr
  fd_c_throw : FuncData
  f_time_of_laps : Addr
  fd_time_of_laps : FuncData
  f_many_before : Addr
  fd_many_before : FuncData
  f_r_init : Addr
  fd_r_init : FuncData
  f_r_most_laps : Addr
  fd_r_most_laps : FuncData
  f_r_fall : Addr
  fd_r_fall : FuncData
  f_r_has_fallen : Addr
  fd_r_has_fallen : FuncData
  f_r_is_void : Addr
  fd_r_is_void : FuncData
  f_r_is_home : Addr
  fd_r_is_home : FuncData
  f_r_counting : Addr
  fd_r_counting : FuncData
  f_r_is_out : Addr
  fd_r_is_out : FuncData
  f_r_take_crossing_of : Addr
  fd_r_take_crossing_of : FuncData
  f_r_be_stopped : Addr
  fd_r_be_stopped : FuncData
  f_time_with_penalties : Addr
  fd_time_with_penalties : FuncData
  f_best_lap : Addr
  fd_best_lap : FuncData
  f_ordered : Addr
  fd_ordered : FuncData
  f_classed : Addr
  fd_classed : FuncData
  f_level_of : Addr
  fd_level_of : FuncData
  f_fastest_number : Addr
  fd_fastest_number : FuncData
  f_points_by_places : Addr
  fd_points_by_places : FuncData
  f_halves_of : Addr
  fd_halves_of : FuncData
  f_teams_in_order : Addr
  fd_teams_in_order : FuncData
  f_halves_of_team : Addr
  fd_halves_of_team : FuncData
  f_all_within : Addr
  fd_all_within : FuncData
  f_d_init : Addr
  fd_d_init : FuncData
  f_d_car_of : Addr
  fd_d_car_of : FuncData
  f_d_racing_car : Addr
  fd_d_racing_car : FuncData
  f_d_want_fallen : Addr
  fd_d_want_fallen : FuncData
  f_d_begin : Addr
  fd_d_begin : FuncData
  f_d_cross : Addr
  fd_d_cross : FuncData
  f_d_pit : Addr
  fd_d_pit : FuncData
  f_d_through : Addr
  fd_d_through : FuncData
  f_d_seconds : Addr
  fd_d_seconds : FuncData
  f_d_send : Addr
  fd_d_send : FuncData
  f_d_leaving : Addr
  fd_d_leaving : FuncData
  f_d_throwing : Addr
  fd_d_throwing : FuncData
  f_d_stop : Addr
  fd_d_stop : FuncData
  f_d_now : Addr
  fd_d_now : FuncData
  f_d_card : Addr
  fd_d_card : FuncData
  f_d_result : Addr
  fd_d_result : FuncData
  f_d_teams : Addr
  fd_d_teams : FuncData
  f_list_at : Addr
  fd_list_at : FuncData
  f_answer_with_car : Addr
  fd_answer_with_car : FuncData
  f_answer_without_lists : Addr
  fd_answer_without_lists : FuncData
  f_answer : Addr
  fd_answer : FuncData
  f_answers : Addr
  fd_answers : FuncData
  cRefused : Addr
  cCar : Addr
  cRace : Addr
  cDesk : Addr
  t_LATE : Tok
  t_SECONDS_A_WAY : Tok
  t_THOUSANDTHS : Tok
  t_NONE : Tok
  t_HALF : Tok
  t_WHOLE : Tok
  t_HALVES_A_POINT : Tok
  a_POINTS : Addr
  t_OUT_OF_RANGE : Tok
  t_NO_RACE : Tok
  t_NOT_NOW : Tok
  t_NOT_SO : Tok
  t_MOST_LAPS : Tok
  t_MOST_CARS : Tok
  t_LAST_TEAM : Tok
  t_LAST_KIND : Tok
  t_LAST_TIME : Tok
  t_MOST_SECONDS : Tok
  t_BEGIN : Tok
  a_NUMBERS : Addr
/-- what the top has written -/
structure Txt (K : PySem.W.Frag) (mg : Str → Option Value) (A : Ad) : Prop where
  F_x_init : Fun K "__init__" "Refused.__init__" s_x_init A.f_x_init A.fd_x_init
  b_x_init : Binds K A.fd_x_init ["self", "refusal"] []
  F_want : Fun K "want" "want" s_want A.f_want A.fd_want
  b_want : Binds K A.fd_want ["is_so", "refusal"] []
  g_want : mg "want" = some (.ref A.f_want)
  F_c_init : Fun K "__init__" "Car.__init__" s_c_init A.f_c_init A.fd_c_init
  b_c_init : Binds K A.fd_c_init ["self", "number", "team", "kind"] []
  F_c_laps : Fun K "laps" "Car.laps" s_c_laps A.f_c_laps A.fd_c_laps
  b_c_laps : Binds K A.fd_c_laps ["self"] []
  m_c_laps : Meth K A.cCar "laps" A.f_c_laps
  F_c_last_time : Fun K "last_time" "Car.last_time" s_c_last_time A.f_c_last_time A.fd_c_last_time
  b_c_last_time : Binds K A.fd_c_last_time ["self"] []
  m_c_last_time : Meth K A.cCar "last_time" A.f_c_last_time
  F_c_take_crossing : Fun K "take_crossing" "Car.take_crossing" s_c_take_crossing A.f_c_take_crossing A.fd_c_take_crossing
  b_c_take_crossing : Binds K A.fd_c_take_crossing ["self", "time"] []
  m_c_take_crossing : Meth K A.cCar "take_crossing" A.f_c_take_crossing
  F_c_take_tyres : Fun K "take_tyres" "Car.take_tyres" s_c_take_tyres A.f_c_take_tyres A.fd_c_take_tyres
  b_c_take_tyres : Binds K A.fd_c_take_tyres ["self", "kind"] []
  m_c_take_tyres : Meth K A.cCar "take_tyres" A.f_c_take_tyres
  F_c_pits : Fun K "pits" "Car.pits" s_c_pits A.f_c_pits A.fd_c_pits
  b_c_pits : Binds K A.fd_c_pits ["self"] []
  m_c_pits : Meth K A.cCar "pits" A.f_c_pits
  F_c_has_one_kind : Fun K "has_one_kind" "Car.has_one_kind" s_c_has_one_kind A.f_c_has_one_kind A.fd_c_has_one_kind
  b_c_has_one_kind : Binds K A.fd_c_has_one_kind ["self"] []
  m_c_has_one_kind : Meth K A.cCar "has_one_kind" A.f_c_has_one_kind
  F_c_take_sending : Fun K "take_sending" "Car.take_sending" s_c_take_sending A.f_c_take_sending A.fd_c_take_sending
  b_c_take_sending : Binds K A.fd_c_take_sending ["self"] []
  m_c_take_sending : Meth K A.cCar "take_sending" A.f_c_take_sending
  F_c_go_through : Fun K "go_through" "Car.go_through" s_c_go_through A.f_c_go_through A.fd_c_go_through
  b_c_go_through : Binds K A.fd_c_go_through ["self"] []
  m_c_go_through : Meth K A.cCar "go_through" A.f_c_go_through
  F_c_ways : Fun K "ways" "Car.ways" s_c_ways A.f_c_ways A.fd_c_ways
  b_c_ways : Binds K A.fd_c_ways ["self"] []
  m_c_ways : Meth K A.cCar "ways" A.f_c_ways
  F_c_add_seconds : Fun K "add_seconds" "Car.add_seconds" s_c_add_seconds A.f_c_add_seconds A.fd_c_add_seconds
  b_c_add_seconds : Binds K A.fd_c_add_seconds ["self", "seconds"] []
  m_c_add_seconds : Meth K A.cCar "add_seconds" A.f_c_add_seconds
  F_c_penalty : Fun K "penalty" "Car.penalty" s_c_penalty A.f_c_penalty A.fd_c_penalty
  b_c_penalty : Binds K A.fd_c_penalty ["self"] []
  m_c_penalty : Meth K A.cCar "penalty" A.f_c_penalty
  F_c_leave : Fun K "leave" "Car.leave" s_c_leave A.f_c_leave A.fd_c_leave
  b_c_leave : Binds K A.fd_c_leave ["self"] []
  m_c_leave : Meth K A.cCar "leave" A.f_c_leave
  F_c_throw : Fun K "throw" "Car.throw" s_c_throw A.f_c_throw A.fd_c_throw
  b_c_throw : Binds K A.fd_c_throw ["self"] []
  m_c_throw : Meth K A.cCar "throw" A.f_c_throw
  F_time_of_laps : Fun K "time_of_laps" "time_of_laps" s_time_of_laps A.f_time_of_laps A.fd_time_of_laps
  b_time_of_laps : Binds K A.fd_time_of_laps ["cars", "laps"] []
  g_time_of_laps : mg "time_of_laps" = some (.ref A.f_time_of_laps)
  F_many_before : Fun K "many_before" "many_before" s_many_before A.f_many_before A.fd_many_before
  b_many_before : Binds K A.fd_many_before ["times", "fall"] []
  g_many_before : mg "many_before" = some (.ref A.f_many_before)
  F_r_init : Fun K "__init__" "Race.__init__" s_r_init A.f_r_init A.fd_r_init
  b_r_init : Binds K A.fd_r_init ["self", "many_laps", "is_wet", "teams", "kinds"] []
  F_r_most_laps : Fun K "most_laps" "Race.most_laps" s_r_most_laps A.f_r_most_laps A.fd_r_most_laps
  b_r_most_laps : Binds K A.fd_r_most_laps ["self"] []
  m_r_most_laps : Meth K A.cRace "most_laps" A.f_r_most_laps
  F_r_fall : Fun K "fall" "Race.fall" s_r_fall A.f_r_fall A.fd_r_fall
  b_r_fall : Binds K A.fd_r_fall ["self"] []
  m_r_fall : Meth K A.cRace "fall" A.f_r_fall
  F_r_has_fallen : Fun K "has_fallen" "Race.has_fallen" s_r_has_fallen A.f_r_has_fallen A.fd_r_has_fallen
  b_r_has_fallen : Binds K A.fd_r_has_fallen ["self"] []
  m_r_has_fallen : Meth K A.cRace "has_fallen" A.f_r_has_fallen
  F_r_is_void : Fun K "is_void" "Race.is_void" s_r_is_void A.f_r_is_void A.fd_r_is_void
  b_r_is_void : Binds K A.fd_r_is_void ["self"] []
  m_r_is_void : Meth K A.cRace "is_void" A.f_r_is_void
  F_r_is_home : Fun K "is_home" "Race.is_home" s_r_is_home A.f_r_is_home A.fd_r_is_home
  b_r_is_home : Binds K A.fd_r_is_home ["self", "car"] []
  m_r_is_home : Meth K A.cRace "is_home" A.f_r_is_home
  F_r_counting : Fun K "counting" "Race.counting" s_r_counting A.f_r_counting A.fd_r_counting
  b_r_counting : Binds K A.fd_r_counting ["self", "car"] []
  m_r_counting : Meth K A.cRace "counting" A.f_r_counting
  F_r_is_out : Fun K "is_out" "Race.is_out" s_r_is_out A.f_r_is_out A.fd_r_is_out
  b_r_is_out : Binds K A.fd_r_is_out ["self", "car"] []
  m_r_is_out : Meth K A.cRace "is_out" A.f_r_is_out
  F_r_take_crossing_of : Fun K "take_crossing_of" "Race.take_crossing_of" s_r_take_crossing_of A.f_r_take_crossing_of A.fd_r_take_crossing_of
  b_r_take_crossing_of : Binds K A.fd_r_take_crossing_of ["self", "car", "time"] []
  m_r_take_crossing_of : Meth K A.cRace "take_crossing_of" A.f_r_take_crossing_of
  F_r_be_stopped : Fun K "be_stopped" "Race.be_stopped" s_r_be_stopped A.f_r_be_stopped A.fd_r_be_stopped
  b_r_be_stopped : Binds K A.fd_r_be_stopped ["self"] []
  m_r_be_stopped : Meth K A.cRace "be_stopped" A.f_r_be_stopped
  F_time_with_penalties : Fun K "time_with_penalties" "time_with_penalties" s_time_with_penalties A.f_time_with_penalties A.fd_time_with_penalties
  b_time_with_penalties : Binds K A.fd_time_with_penalties ["race", "car"] []
  g_time_with_penalties : mg "time_with_penalties" = some (.ref A.f_time_with_penalties)
  F_best_lap : Fun K "best_lap" "best_lap" s_best_lap A.f_best_lap A.fd_best_lap
  b_best_lap : Binds K A.fd_best_lap ["race", "car"] []
  g_best_lap : mg "best_lap" = some (.ref A.f_best_lap)
  F_ordered : Fun K "ordered" "ordered" s_ordered A.f_ordered A.fd_ordered
  b_ordered : Binds K A.fd_ordered ["race"] []
  g_ordered : mg "ordered" = some (.ref A.f_ordered)
  F_classed : Fun K "classed" "classed" s_classed A.f_classed A.fd_classed
  b_classed : Binds K A.fd_classed ["race"] []
  g_classed : mg "classed" = some (.ref A.f_classed)
  F_level_of : Fun K "level_of" "level_of" s_level_of A.f_level_of A.fd_level_of
  b_level_of : Binds K A.fd_level_of ["race", "some"] []
  g_level_of : mg "level_of" = some (.ref A.f_level_of)
  F_fastest_number : Fun K "fastest_number" "fastest_number" s_fastest_number A.f_fastest_number A.fd_fastest_number
  b_fastest_number : Binds K A.fd_fastest_number ["race", "some"] []
  g_fastest_number : mg "fastest_number" = some (.ref A.f_fastest_number)
  F_points_by_places : Fun K "points_by_places" "points_by_places" s_points_by_places A.f_points_by_places A.fd_points_by_places
  b_points_by_places : Binds K A.fd_points_by_places ["level", "many"] []
  g_points_by_places : mg "points_by_places" = some (.ref A.f_points_by_places)
  F_halves_of : Fun K "halves_of" "halves_of" s_halves_of A.f_halves_of A.fd_halves_of
  b_halves_of : Binds K A.fd_halves_of ["race", "some"] []
  g_halves_of : mg "halves_of" = some (.ref A.f_halves_of)
  F_teams_in_order : Fun K "teams_in_order" "teams_in_order" s_teams_in_order A.f_teams_in_order A.fd_teams_in_order
  b_teams_in_order : Binds K A.fd_teams_in_order ["race"] []
  g_teams_in_order : mg "teams_in_order" = some (.ref A.f_teams_in_order)
  F_halves_of_team : Fun K "halves_of_team" "halves_of_team" s_halves_of_team A.f_halves_of_team A.fd_halves_of_team
  b_halves_of_team : Binds K A.fd_halves_of_team ["race", "team"] []
  g_halves_of_team : mg "halves_of_team" = some (.ref A.f_halves_of_team)
  F_all_within : Fun K "all_within" "all_within" s_all_within A.f_all_within A.fd_all_within
  b_all_within : Binds K A.fd_all_within ["numbers", "low", "high"] []
  g_all_within : mg "all_within" = some (.ref A.f_all_within)
  F_d_init : Fun K "__init__" "Desk.__init__" s_d_init A.f_d_init A.fd_d_init
  b_d_init : Binds K A.fd_d_init ["self"] []
  F_d_car_of : Fun K "car_of" "Desk.car_of" s_d_car_of A.f_d_car_of A.fd_d_car_of
  b_d_car_of : Binds K A.fd_d_car_of ["self", "number"] []
  m_d_car_of : Meth K A.cDesk "car_of" A.f_d_car_of
  F_d_racing_car : Fun K "racing_car" "Desk.racing_car" s_d_racing_car A.f_d_racing_car A.fd_d_racing_car
  b_d_racing_car : Binds K A.fd_d_racing_car ["self", "number"] []
  m_d_racing_car : Meth K A.cDesk "racing_car" A.f_d_racing_car
  F_d_want_fallen : Fun K "want_fallen" "Desk.want_fallen" s_d_want_fallen A.f_d_want_fallen A.fd_d_want_fallen
  b_d_want_fallen : Binds K A.fd_d_want_fallen ["self"] []
  m_d_want_fallen : Meth K A.cDesk "want_fallen" A.f_d_want_fallen
  F_d_begin : Fun K "begin" "Desk.begin" s_d_begin A.f_d_begin A.fd_d_begin
  b_d_begin : Binds K A.fd_d_begin ["self", "laps", "wet", "teams", "kinds"] []
  m_d_begin : Meth K A.cDesk "begin" A.f_d_begin
  F_d_cross : Fun K "cross" "Desk.cross" s_d_cross A.f_d_cross A.fd_d_cross
  b_d_cross : Binds K A.fd_d_cross ["self", "number", "time"] []
  m_d_cross : Meth K A.cDesk "cross" A.f_d_cross
  F_d_pit : Fun K "pit" "Desk.pit" s_d_pit A.f_d_pit A.fd_d_pit
  b_d_pit : Binds K A.fd_d_pit ["self", "number", "kind"] []
  m_d_pit : Meth K A.cDesk "pit" A.f_d_pit
  F_d_through : Fun K "through" "Desk.through" s_d_through A.f_d_through A.fd_d_through
  b_d_through : Binds K A.fd_d_through ["self", "number"] []
  m_d_through : Meth K A.cDesk "through" A.f_d_through
  F_d_seconds : Fun K "seconds" "Desk.seconds" s_d_seconds A.f_d_seconds A.fd_d_seconds
  b_d_seconds : Binds K A.fd_d_seconds ["self", "number", "many"] []
  m_d_seconds : Meth K A.cDesk "seconds" A.f_d_seconds
  F_d_send : Fun K "send" "Desk.send" s_d_send A.f_d_send A.fd_d_send
  b_d_send : Binds K A.fd_d_send ["self", "number"] []
  m_d_send : Meth K A.cDesk "send" A.f_d_send
  F_d_leaving : Fun K "leaving" "Desk.leaving" s_d_leaving A.f_d_leaving A.fd_d_leaving
  b_d_leaving : Binds K A.fd_d_leaving ["self", "number"] []
  m_d_leaving : Meth K A.cDesk "leaving" A.f_d_leaving
  F_d_throwing : Fun K "throwing" "Desk.throwing" s_d_throwing A.f_d_throwing A.fd_d_throwing
  b_d_throwing : Binds K A.fd_d_throwing ["self", "number"] []
  m_d_throwing : Meth K A.cDesk "throwing" A.f_d_throwing
  F_d_stop : Fun K "stop" "Desk.stop" s_d_stop A.f_d_stop A.fd_d_stop
  b_d_stop : Binds K A.fd_d_stop ["self"] []
  m_d_stop : Meth K A.cDesk "stop" A.f_d_stop
  F_d_now : Fun K "now" "Desk.now" s_d_now A.f_d_now A.fd_d_now
  b_d_now : Binds K A.fd_d_now ["self"] []
  m_d_now : Meth K A.cDesk "now" A.f_d_now
  F_d_card : Fun K "card" "Desk.card" s_d_card A.f_d_card A.fd_d_card
  b_d_card : Binds K A.fd_d_card ["self", "number"] []
  m_d_card : Meth K A.cDesk "card" A.f_d_card
  F_d_result : Fun K "result" "Desk.result" s_d_result A.f_d_result A.fd_d_result
  b_d_result : Binds K A.fd_d_result ["self"] []
  m_d_result : Meth K A.cDesk "result" A.f_d_result
  F_d_teams : Fun K "teams" "Desk.teams" s_d_teams A.f_d_teams A.fd_d_teams
  b_d_teams : Binds K A.fd_d_teams ["self"] []
  m_d_teams : Meth K A.cDesk "teams" A.f_d_teams
  F_list_at : Fun K "list_at" "list_at" s_list_at A.f_list_at A.fd_list_at
  b_list_at : Binds K A.fd_list_at ["calls", "at"] []
  g_list_at : mg "list_at" = some (.ref A.f_list_at)
  F_answer_with_car : Fun K "answer_with_car" "answer_with_car" s_answer_with_car A.f_answer_with_car A.fd_answer_with_car
  b_answer_with_car : Binds K A.fd_answer_with_car ["desk", "call", "n"] []
  g_answer_with_car : mg "answer_with_car" = some (.ref A.f_answer_with_car)
  F_answer_without_lists : Fun K "answer_without_lists" "answer_without_lists" s_answer_without_lists A.f_answer_without_lists A.fd_answer_without_lists
  b_answer_without_lists : Binds K A.fd_answer_without_lists ["desk", "call", "n"] []
  g_answer_without_lists : mg "answer_without_lists" = some (.ref A.f_answer_without_lists)
  F_answer : Fun K "answer" "answer" s_answer A.f_answer A.fd_answer
  b_answer : Binds K A.fd_answer ["desk", "call", "n", "lists"] []
  g_answer : mg "answer" = some (.ref A.f_answer)
  F_answers : Fun K "answers" "answers" s_answers A.f_answers A.fd_answers
  b_answers : Binds K A.fd_answers ["calls"] []
  g_answers : mg "answers" = some (.ref A.f_answers)
  gRefused : mg "Refused" = some (.ref A.cRefused)
  gCar : mg "Car" = some (.ref A.cCar)
  clCar : Cls K A.cCar
  mk_Car : Mk K A.cCar A.f_c_init
  na_Car_number : NoAttr K A.cCar "number"
  na_Car_team : NoAttr K A.cCar "team"
  na_Car_kinds : NoAttr K A.cCar "kinds"
  na_Car_times : NoAttr K A.cCar "times"
  na_Car_sent : NoAttr K A.cCar "sent"
  na_Car_is_late : NoAttr K A.cCar "is_late"
  na_Car_added : NoAttr K A.cCar "added"
  na_Car_has_left : NoAttr K A.cCar "has_left"
  na_Car_is_thrown : NoAttr K A.cCar "is_thrown"
  gRace : mg "Race" = some (.ref A.cRace)
  clRace : Cls K A.cRace
  mk_Race : Mk K A.cRace A.f_r_init
  na_Race_many_laps : NoAttr K A.cRace "many_laps"
  na_Race_is_wet : NoAttr K A.cRace "is_wet"
  na_Race_cars : NoAttr K A.cRace "cars"
  na_Race_last_told : NoAttr K A.cRace "last_told"
  na_Race_counted_for : NoAttr K A.cRace "counted_for"
  gDesk : mg "Desk" = some (.ref A.cDesk)
  clDesk : Cls K A.cDesk
  mk_Desk : Mk K A.cDesk A.f_d_init
  na_Desk_race : NoAttr K A.cDesk "race"
  oex : OexC K A.cRefused
  xf : XfC K A.cRefused
  no_refusal : PySem.W.findIn K (.ref A.cRefused) "refusal" = some none
  iC : PySem.W.findIn K (.ref A.cRefused) "__init__" = some (some (.ref A.f_x_init))
  tI : PySem.W.typeIn K (.ref A.f_x_init) = some (.type "function")
  te : PySem.W.exmOne K (.ref A.cRefused) (.ref A.cRefused) = some true
  vV : PySem.W.findCls K (.type "ValueError") (.type "type") "__init__" = some (.val (.builtin "ValueError.__init__"))
  n_len : mg "len" = none
  n_min : mg "min" = none
  n_max : mg "max" = none
  n_all : mg "all" = none
  n_sum : mg "sum" = none
  n_sorted : mg "sorted" = none
  n_int : mg "int" = none
  n_enumerate : mg "enumerate" = none
  n_zip : mg "zip" = none
  n_ValueError : mg "ValueError" = none
  c_LATE : mg "LATE" = some (.int 4 A.t_LATE)
  c_SECONDS_A_WAY : mg "SECONDS_A_WAY" = some (.int 20 A.t_SECONDS_A_WAY)
  c_THOUSANDTHS : mg "THOUSANDTHS" = some (.int 1000 A.t_THOUSANDTHS)
  c_NONE : mg "NONE" = some (.int 0 A.t_NONE)
  c_HALF : mg "HALF" = some (.int 1 A.t_HALF)
  c_WHOLE : mg "WHOLE" = some (.int 2 A.t_WHOLE)
  c_HALVES_A_POINT : mg "HALVES_A_POINT" = some (.int 2 A.t_HALVES_A_POINT)
  c_POINTS : mg "POINTS" = some (.ref A.a_POINTS)
  p_POINTS : ∀ H : Hp, SqT K H A.a_POINTS (([25, 18, 15, 12, 10, 8, 6, 4, 2, 1] : List Int).map V.int)
  c_OUT_OF_RANGE : mg "OUT_OF_RANGE" = some (.int (-1) A.t_OUT_OF_RANGE)
  c_NO_RACE : mg "NO_RACE" = some (.int (-2) A.t_NO_RACE)
  c_NOT_NOW : mg "NOT_NOW" = some (.int (-4) A.t_NOT_NOW)
  c_NOT_SO : mg "NOT_SO" = some (.int (-5) A.t_NOT_SO)
  c_MOST_LAPS : mg "MOST_LAPS" = some (.int 100 A.t_MOST_LAPS)
  c_MOST_CARS : mg "MOST_CARS" = some (.int 26 A.t_MOST_CARS)
  c_LAST_TEAM : mg "LAST_TEAM" = some (.int 20 A.t_LAST_TEAM)
  c_LAST_KIND : mg "LAST_KIND" = some (.int 4 A.t_LAST_KIND)
  c_LAST_TIME : mg "LAST_TIME" = some (.int 100000000 A.t_LAST_TIME)
  c_MOST_SECONDS : mg "MOST_SECONDS" = some (.int 60 A.t_MOST_SECONDS)
  c_BEGIN : mg "BEGIN" = some (.int 1 A.t_BEGIN)
  c_NUMBERS : mg "NUMBERS" = some (.ref A.a_NUMBERS)
  p_NUMBERS : ∀ H : Hp, SqT K H A.a_NUMBERS (([0, 2, 2, 2, 1, 2, 1, 1, 1, 0, 0, 1, 0, 0] : List Int).map V.int)
theorem bb_len : bootBuiltins "len" = some (.builtin "len") := by decide +kernel
theorem bb_min : bootBuiltins "min" = some (.builtin "min") := by decide +kernel
theorem bb_max : bootBuiltins "max" = some (.builtin "max") := by decide +kernel
theorem bb_all : bootBuiltins "all" = some (.builtin "all") := by decide +kernel
theorem bb_sum : bootBuiltins "sum" = some (.builtin "sum") := by decide +kernel
theorem bb_sorted : bootBuiltins "sorted" = some (.builtin "sorted") := by decide +kernel
theorem bb_int : bootBuiltins "int" = some (.type "int") := by decide +kernel
end L2

set_option maxRecDepth 100000
set_option maxHeartbeats 1000000
namespace L2
/-! ### words about the specification -/
abbrev KCar := Kg68.Car
abbrev KSt := Kg68.State
/-- what holds of a car behind at most m calls -/
structure GoodC (m : Nat) (s : KSt) (c : KCar) : Prop where
  few : c.laps.length ≤ s.laps
  inc : (0 :: c.laps).Pairwise (· < ·)
  last : ∀ t ∈ c.laps, t ≤ s.time
  srt : c.sent.Pairwise (· ≤ ·)
  sle : ∀ x ∈ c.sent, x ≤ c.laps.length
  smany : c.sent.length ≤ m
  tmany : c.tyres.length = c.pits + 1
  pmany : c.pits ≤ m
/-- what holds of a race -/
structure Good (m : Nat) (s : KSt) : Prop where
  on : s.over = false
  l1 : 1 ≤ s.laps
  l2 : s.laps ≤ 100
  n1 : 1 ≤ s.cars.length
  n2 : s.cars.length ≤ 26
  cs : ∀ c ∈ s.cars, GoodC m s c
  stp : ∀ n, s.stopped = some n → n ≤ s.laps ∧ (n = 0 ∨ ∃ c ∈ s.cars, n ≤ c.laps.length)
def freshCar (tm ki : Nat) : KCar := ⟨tm, [], 0, [], false, [ki], false, false, 0⟩
def minF (m : Option Nat) (t : Nat) : Option Nat := match m with
  | none => some t
  | some u => some (min t u)
/-- when the first has so many laps -/
def flagAt (s : KSt) (n : Nat) : Option Nat := (s.cars.filterMap fun c => c.laps[n - 1]?).foldl minF none
def freshRace (n : Nat) (wet : Bool) (t k : List Nat) : KSt := ⟨n, (t.zip k).map fun x => freshCar x.1 x.2, 0, none, wet, false⟩
def mostLaps (s : KSt) : Nat := (s.cars.map fun c => c.laps.length).foldl max 0
def crossed (s : KSt) (i t : Nat) : KSt := { (Kg68.setCar s i fun c => ({ c with laps := c.laps ++ [t] } : KCar).settle) with time := t }
def fastN (s : KSt) : Int := match s.fastest with
  | some x => (x.1 : Int)
  | none => -1
/-- whether a car doesn't race -/
def isOff (s : KSt) (i : Nat) : Bool := (s.car i).out || ((s.car i).thrown || s.home i)
/-- what is answered -/
def ansL (x : KSt × Kg68.Ans) : List Int := x.2.value :: x.2.out
/-- the numbers of a call -/
def numsOf : Kg68.Call → Int × List Int
  | .begin_ n w _ _ => (1, [n, w])
  | .cross i t => (2, [i, t])
  | .pit i t => (3, [i, t])
  | .through i => (4, [i])
  | .seconds i n => (5, [i, n])
  | .send i => (6, [i])
  | .leave i => (7, [i])
  | .throw_ i => (8, [i])
  | .halt_ => (9, [])
  | .now => (10, [])
  | .card i => (11, [i])
  | .result => (12, [])
  | .teams => (13, [])
end L2

set_option Elab.async false
set_option linter.all false
set_option maxRecDepth 100000
set_option maxHeartbeats 4000000
namespace L2
open PySem PySem.Spec PyProof.Rows
open Evl (Ex RetV RetL)
/-! ### short words for the readings -/
def rPlus : R2 := rI0 fun i j => .int (i + j)
def rMinus : R2 := rI0 fun i j => .int (i - j)
def rTimes : R2 := rI CMul fun i j => .int (i * j)
def rNeg : V → Hp → VK → Prop := rU fun i => .int (-i)
def rLt : R2 := rI0 fun i j => .bl (decide (i < j))
def rLe : R2 := rI0 fun i j => .bl (decide (i ≤ j))
def rGtI : R2 := rI0 fun i j => .bl (decide (j < i))
def rGeI : R2 := rI0 fun i j => .bl (decide (j ≤ i))
def rIsNone : R2 := fun x y H Q => y = .non ∧ Q (.bl (decide (x = .non))) H
def rNotNone : R2 := fun x y H Q => y = .non ∧ Q (.bl (!decide (x = .non))) H
def rMin2 : List V → Hp → VK → Prop := fun xs H Q => ∃ i j, xs = [.int i, .int j] ∧ Q (.int (if j < i then j else i)) H
def rInt1 : List V → Hp → VK → Prop := fun xs H Q => (∃ i, xs = [.int i] ∧ Q (.int i) H) ∨ ∃ k, xs = [.bl k] ∧ Q (.int (if k then 1 else 0)) H
/-- raise Refused(e) -/
def tRaiseR (A : Ad) (sp : Sp) (E : XK) (ta : TA) : TS := fun _ σ H => tMkO A.cRefused sp [] ta σ H fun cls d H' => E cls d H'
theorem passM {X : Cx} {E : XK} (tk : Takes X fun cls d _ H => E cls d H) : Passes (L2.CX X.prog X.w) X E := passes_call tk fun _ _ _ _ h => h
/-- o.m(e, ..) within a try: what it raises is wished for at the slots as they stand -/
def tMethS (C : Addr) (m : Str) (sp : Sp) (E : L2.St → XK) (ta : TE) (t : TA) : TE := fun σ H Q => ta σ H fun x H1 => ∃ a dx fs, x = .ref a ∧ H1 a = some (.ins C dx fs) ∧ fs.lookup m = none ∧ t σ H1 fun vs H2 => sp (x :: vs) H2 Q (E σ)
theorem pe_methS {X : Cx} {CX : CXT} {k : Nat} {f C : Addr} {fd : FuncData} {ps : List Str} {sp : Sp} {E : L2.St → XK} {m : Str} {pos apos : Pos} {e o : Expr} {es : List Expr} {ta : TE} {t : TA} {pl : Sem Bool} (he : PE X o ta) (c : Cls X.K C) (hm : Meth X.K C m f)
    (F : FnOk X.prog X.w X.K X.mg X.base CX k f fd ps sp) (hr : Room k X.A) (hb : Binds X.K fd ps []) (hx : ∀ σ, PassesAt CX X σ (E σ)) (ha : PA X (e :: es) t)
    (hst : starEach (e :: es) X.env = (false, eval e X.env) :: starEach es X.env := by rfl) (hpl : (backTo pos (starEach es X.env)).any (·.1) = false := by rfl)
    (ht : eval (.Call (.Attribute o m apos) (e :: es) [] pos) X.env = (do
      let ov ← eval o X.env
      standAt apos.atName
      let (f, first) ← holding [ov] (getMethod ov m pl)
      callWith pos f first (backTo pos (starEach (e :: es) X.env)) (backToKw pos (keywordEach [] X.env))) := by rfl) :
    PE X (.Call (.Attribute o m apos) (e :: es) [] pos) (tMethS C m sp E ta t) := by
  refine ⟨fun pins s σ H Q I h => ?_⟩
  refine PySem.W.methodCall_KW (pl := pl) (thn (he.run pins s σ H _ I h) fun u s1 ⟨x, H1, I1, rx, a, dx, fs, ex, ea, l, q⟩ => ?_) ht
  subst ex
  obtain rfl : u = Value.ref a := rx
  refine getmeth_ok I1 ea c hm l ?_
  refine PySem.W.callWith_K (first := [.ref a]) (h₀ := X.base) I.ok.mod.kin hm.kp (thn (ha.run pos pins s1 σ H1 _ I1 q) fun us s2 ⟨vs, H2, I2, r, q2⟩ => ⟨I2.kIn, ?_⟩) hst hpl
  exact run_fnS (us := .ref a :: us) (vs := .ref a :: vs) F hr hb (hx σ) I2 (.cons rfl r) q2

/-! ### how a race lies in the heap -/
def nints (l : List Nat) : List V := l.map fun (n : Nat) => V.int (n : Int)
def zints (l : List Int) : List V := l.map V.int
/-- a car's places: itself, its dict, its lists -/
structure CarL where
  a : Addr
  dx : Addr
  ki : Addr
  ti : Addr
  se : Addr
def CarL.lst (L : CarL) : Nat → Addr
  | 0 => L.ki
  | 1 => L.ti
  | _ => L.se
def carF (i : Nat) (L : CarL) (c : KCar) : List (Str × V) :=
  [("number", .int (i : Int)), ("team", .int (c.team : Int)), ("kinds", .ref L.ki), ("times", .ref L.ti), ("sent", .ref L.se), ("is_late", .bl c.late), ("added", .int (c.secs : Int)), ("has_left", .bl c.out), ("is_thrown", .bl c.thrown)]
structure CarAt (A : Ad) (H : Hp) (i : Nat) (L : CarL) (c : KCar) : Prop where
  obj : H L.a = some (.ins A.cCar L.dx (carF i L c))
  kinds : H L.ki = some (.lst (nints c.tyres))
  times : H L.ti = some (.lst (nints c.laps))
  sent : H L.se = some (.lst (nints c.sent))
/-- a race's places: itself, its dict, the list of its cars, the cars -/
structure RaceL where
  r : Addr
  dr : Addr
  ac : Addr
  car : Nat → CarL
def optV : Option Nat → V
  | none => .non
  | some n => .int (n : Int)
def raceF (y : RaceL) (s : KSt) : List (Str × V) :=
  [("many_laps", .int (s.laps : Int)), ("is_wet", .bl s.wet), ("cars", .ref y.ac), ("last_told", .int (s.time : Int)), ("counted_for", optV s.stopped)]
def crefs (y : RaceL) (l : List Nat) : List V := l.map fun i => V.ref (y.car i).a
structure RaceAt (A : Ad) (H : Hp) (y : RaceL) (s : KSt) : Prop where
  obj : H y.r = some (.ins A.cRace y.dr (raceF y s))
  cars : H y.ac = some (.lst (crefs y (List.range s.cars.length)))
  car : ∀ i, i < s.cars.length → CarAt A H i (y.car i) (s.car i)
/-- no two of the cars' lists are one -/
def Sep (y : RaceL) (n : Nat) : Prop := ∀ i j p q, i < n → j < n → p < 3 → q < 3 → (y.car i).lst p = (y.car j).lst q → i = j ∧ p = q
def OwnR (y : RaceL) (n : Nat) (b : Addr) : Prop := b = y.r ∨ b = y.ac ∨ ∃ i, i < n ∧ (b = (y.car i).a ∨ b = (y.car i).ki ∨ b = (y.car i).ti ∨ b = (y.car i).se)
/-- the desk, its race if there is one -/
def DeskAt (A : Ad) (H : Hp) (d dd : Addr) (yo : Option RaceL) (s : KSt) (m : Nat) : Prop := match yo with
  | none => H d = some (.ins A.cDesk dd [("race", .non)]) ∧ s = Kg68.init
  | some y => H d = some (.ins A.cDesk dd [("race", .ref y.r)]) ∧ RaceAt A H y s ∧ Sep y s.cars.length ∧ Good m s
def OwnD (d : Addr) (yo : Option RaceL) (n : Nat) (b : Addr) : Prop := b = d ∨ ∃ y, yo = some y ∧ OwnR y n b

/-! ### the promises -/
/-- the refusal r is raised; all stands as it stood -/
def Refd (A : Ad) (r : Int) (H : Hp) (E : XK) : Prop := ∀ d H', Ex H H' → H' d = some (.xd [("refusal", .int r)]) → E (.ref A.cRefused) (some d) H'
def sp_x_init (K : PySem.W.Frag) (A : Ad) : Sp := fun vs H Q _ => ∃ (a : Addr) (r : Int), vs = [.ref a, .int r] ∧ H a = some (exo a A.cRefused none) ∧
  ∀ dx, H dx = none → dx ≠ a → Q .non (upd (upd H dx (exd dx [("refusal", .int r)])) a (exo a A.cRefused (some dx)))
def sp_want (K : PySem.W.Frag) (A : Ad) : Sp := fun vs H Q E => ∃ (b : Bool) (r : Int), vs = [.bl b, .int r] ∧ (b = true → RetV .non H Q) ∧ (b = false → Refd A r H E)
/-! cars -/
def CarOk (L : CarL) : Prop := L.ki ≠ L.ti ∧ L.ki ≠ L.se ∧ L.ti ≠ L.se
def sp_c_init (K : PySem.W.Frag) (A : Ad) : Sp := fun vs H Q _ => ∃ (p dx : Addr) (i tm ki : Nat), vs = [.ref p, .int (i : Int), .int (tm : Int), .int (ki : Int)] ∧ H p = some (.ins A.cCar dx []) ∧
  ∀ (H' : Hp) (L : CarL), L.a = p → CarAt A H' i L (freshCar tm ki) → CarOk L → H L.ki = none → H L.ti = none → H L.se = none → (∀ b o, H b = some o → b ≠ p → H' b = some o) → Q .non H'
/-- a method that reads -/
def spCar (A : Ad) (f : KCar → V) (ok : KCar → Prop) : Sp := fun vs H Q _ => ∃ (i : Nat) (L : CarL) (c : KCar), vs = [.ref L.a] ∧ CarAt A H i L c ∧ ok c ∧ RetV (f c) H Q
def sp_c_laps (K : PySem.W.Frag) (A : Ad) : Sp := spCar A (fun c => .int (c.laps.length : Nat)) fun _ => True
def sp_c_last_time (K : PySem.W.Frag) (A : Ad) : Sp := spCar A (fun c => .int (c.laps.getLastD 0 : Nat)) fun _ => True
def sp_c_pits (K : PySem.W.Frag) (A : Ad) : Sp := spCar A (fun c => .int (c.pits : Nat)) fun c => c.tyres.length = c.pits + 1
def sp_c_has_one_kind (K : PySem.W.Frag) (A : Ad) : Sp := spCar A (fun c => .bl (decide (c.tyres.eraseDups.length < 2))) fun c => c.tyres.length ≤ 1000
def sp_c_ways (K : PySem.W.Frag) (A : Ad) : Sp := spCar A (fun c => .int (c.sent.length : Nat)) fun _ => True
def sp_c_penalty (K : PySem.W.Frag) (A : Ad) : Sp := spCar A (fun c => .int (c.penalty : Nat)) fun _ => True
/-- what a car's change leaves -/
def FrC (H H' : Hp) (L : CarL) : Prop := ∀ b o, H b = some o → b ≠ L.a → b ≠ L.ki → b ≠ L.ti → b ≠ L.se → H' b = some o
def CarNext (A : Ad) (H : Hp) (i : Nat) (L : CarL) (c2 : KCar) (Q : VK) : Prop := ∀ (H' : Hp) (L' : CarL), L'.a = L.a → L'.ki = L.ki → L'.ti = L.ti → (L'.se = L.se ∨ H L'.se = none) → CarAt A H' i L' c2 → FrC H H' L → Q .non H'
def sp_c_take_crossing (K : PySem.W.Frag) (A : Ad) : Sp := fun vs H Q _ => ∃ (i : Nat) (L : CarL) (c : KCar) (t : Nat), vs = [.ref L.a, .int (t : Int)] ∧ CarAt A H i L c ∧ CarOk L ∧ c.laps.length ≤ 1000 ∧ c.sent.Pairwise (· ≤ ·) ∧
  CarNext A H i L ({ c with laps := c.laps ++ [t] } : KCar).settle Q
def sp_c_take_tyres (K : PySem.W.Frag) (A : Ad) : Sp := fun vs H Q _ => ∃ (i : Nat) (L : CarL) (c : KCar) (k : Nat), vs = [.ref L.a, .int (k : Int)] ∧ CarAt A H i L c ∧ CarOk L ∧ c.tyres.length ≤ 1000 ∧
  CarNext A H i L { c with tyres := c.tyres ++ [k], pits := c.pits + 1 } Q
def sp_c_take_sending (K : PySem.W.Frag) (A : Ad) : Sp := fun vs H Q _ => ∃ (i : Nat) (L : CarL) (c : KCar), vs = [.ref L.a] ∧ CarAt A H i L c ∧ CarOk L ∧ c.sent.length ≤ 1000 ∧
  CarNext A H i L { c with sent := c.sent ++ [c.laps.length] } Q
def sp_c_go_through (K : PySem.W.Frag) (A : Ad) : Sp := fun vs H Q _ => ∃ (i : Nat) (L : CarL) (c : KCar), vs = [.ref L.a] ∧ CarAt A H i L c ∧ CarNext A H i L { c with sent := c.sent.tail } Q
def sp_c_add_seconds (K : PySem.W.Frag) (A : Ad) : Sp := fun vs H Q _ => ∃ (i : Nat) (L : CarL) (c : KCar) (n : Nat), vs = [.ref L.a, .int (n : Int)] ∧ CarAt A H i L c ∧ CarNext A H i L { c with secs := c.secs + n } Q
def sp_c_leave (K : PySem.W.Frag) (A : Ad) : Sp := fun vs H Q _ => ∃ (i : Nat) (L : CarL) (c : KCar), vs = [.ref L.a] ∧ CarAt A H i L c ∧ CarNext A H i L { c with out := true } Q
def sp_c_throw (K : PySem.W.Frag) (A : Ad) : Sp := fun vs H Q _ => ∃ (i : Nat) (L : CarL) (c : KCar), vs = [.ref L.a] ∧ CarAt A H i L c ∧ CarNext A H i L { c with thrown := true } Q
/-! the race -/
def sp_time_of_laps (K : PySem.W.Frag) (A : Ad) : Sp := fun vs H Q _ => ∃ (y : RaceL) (s : KSt) (m n : Nat), vs = [.ref y.ac, .int (n : Int)] ∧ RaceAt A H y s ∧ Good m s ∧ 1 ≤ n ∧ RetV (optV (flagAt s n)) H Q
def sp_many_before (K : PySem.W.Frag) (A : Ad) : Sp := fun vs H Q _ => ∃ (p : Addr) (l : List Nat) (f : Nat), vs = [.ref p, .int (f : Int)] ∧ H p = some (.lst (nints l)) ∧ l.length ≤ 1000 ∧
  RetV (.int ((l.filter fun t => decide (t < f)).length : Nat)) H Q
def sp_r_init (K : PySem.W.Frag) (A : Ad) : Sp := fun vs H Q _ => ∃ (p dx tl kl : Addr) (n : Nat) (wet : Bool) (t k : List Nat), vs = [.ref p, .int (n : Int), .bl wet, .ref tl, .ref kl] ∧ H p = some (.ins A.cRace dx []) ∧
  H tl = some (.lst (nints t)) ∧ H kl = some (.lst (nints k)) ∧ k.length = t.length ∧ t.length ≤ 26 ∧
  ∀ (H' : Hp) (y : RaceL), y.r = p → RaceAt A H' y (freshRace n wet t k) → Sep y t.length → (∀ b, OwnR y t.length b → b = p ∨ H b = none) → (∀ b o, H b = some o → b ≠ p → H' b = some o) → Q .non H'
def spRace (A : Ad) (f : KSt → V) : Sp := fun vs H Q _ => ∃ (y : RaceL) (s : KSt) (m : Nat), vs = [.ref y.r] ∧ RaceAt A H y s ∧ Good m s ∧ m ≤ 900 ∧ RetV (f s) H Q
def spRaceCar (A : Ad) (f : KSt → Nat → V) (ok : KSt → Nat → Prop) : Sp := fun vs H Q _ => ∃ (y : RaceL) (s : KSt) (m i : Nat), vs = [.ref y.r, .ref (y.car i).a] ∧ RaceAt A H y s ∧ Good m s ∧ m ≤ 900 ∧ i < s.cars.length ∧ ok s i ∧ RetV (f s i) H Q
def sp_r_most_laps (K : PySem.W.Frag) (A : Ad) : Sp := spRace A fun s => .int (mostLaps s : Nat)
def sp_r_fall (K : PySem.W.Frag) (A : Ad) : Sp := spRace A fun s => optV s.flag
def sp_r_has_fallen (K : PySem.W.Frag) (A : Ad) : Sp := spRace A fun s => .bl s.flag.isSome
def sp_r_is_void (K : PySem.W.Frag) (A : Ad) : Sp := spRace A fun s => .bl (s.flagLap == 0)
def sp_r_is_home (K : PySem.W.Frag) (A : Ad) : Sp := spRaceCar A (fun s i => .bl (s.home i)) fun _ _ => True
def sp_r_counting (K : PySem.W.Frag) (A : Ad) : Sp := spRaceCar A (fun s i => .int ((s.crossings i).length : Nat)) fun _ _ => True
def sp_r_is_out (K : PySem.W.Frag) (A : Ad) : Sp := spRaceCar A (fun s i => .bl (s.isThrown i)) fun _ _ => True
def KeepR (H : Hp) (y : RaceL) (H' : Hp) (y' : RaceL) (n : Nat) : Prop := ∀ b o, H b = some o → ¬ OwnR y n b → H' b = some o ∧ ¬ OwnR y' n b
def RaceNext (A : Ad) (H : Hp) (y : RaceL) (s2 : KSt) (n : Nat) (Q : VK) : Prop := ∀ (H' : Hp) (y' : RaceL), y'.r = y.r → (∀ i, (y'.car i).a = (y.car i).a) → RaceAt A H' y' s2 → Sep y' n → KeepR H y H' y' n → Q .non H'
def sp_r_take_crossing_of (K : PySem.W.Frag) (A : Ad) : Sp := fun vs H Q _ => ∃ (y : RaceL) (s : KSt) (m i t : Nat), vs = [.ref y.r, .ref (y.car i).a, .int (t : Int)] ∧ RaceAt A H y s ∧ Sep y s.cars.length ∧ Good m s ∧ m ≤ 900 ∧ i < s.cars.length ∧
  RaceNext A H y (crossed s i t) s.cars.length Q
def sp_r_be_stopped (K : PySem.W.Frag) (A : Ad) : Sp := fun vs H Q _ => ∃ (y : RaceL) (s : KSt) (m : Nat), vs = [.ref y.r] ∧ RaceAt A H y s ∧ Sep y s.cars.length ∧ Good m s ∧ m ≤ 900 ∧
  RaceNext A H y { s with stopped := some (mostLaps s - 1), over := false } s.cars.length Q
/-! standings -/
def sp_time_with_penalties (K : PySem.W.Frag) (A : Ad) : Sp := spRaceCar A (fun s i => .int ((s.crossings i).getLastD 0 + 1000 * (s.car i).penalty : Nat)) fun s i => 0 < (s.crossings i).length
def sp_best_lap (K : PySem.W.Frag) (A : Ad) : Sp := spRaceCar A (fun s i => .int ((Kg68.bestLap (s.crossings i)).getD 0 : Nat)) fun _ _ => True
def spRaceL (A : Ad) (f : RaceL → KSt → List V) : Sp := fun vs H Q _ => ∃ (y : RaceL) (s : KSt) (m : Nat), vs = [.ref y.r] ∧ RaceAt A H y s ∧ Good m s ∧ m ≤ 900 ∧ RetL (f y s) H Q
def sp_ordered (K : PySem.W.Frag) (A : Ad) : Sp := spRaceL A fun y s => crefs y s.order
def sp_classed (K : PySem.W.Frag) (A : Ad) : Sp := spRaceL A fun y s => crefs y s.classed
def spRaceSome (A : Ad) (f : KSt → V) : Sp := fun vs H Q _ => ∃ (y : RaceL) (s : KSt) (m : Nat) (p : Addr), vs = [.ref y.r, .ref p] ∧ RaceAt A H y s ∧ Good m s ∧ m ≤ 900 ∧ H p = some (.lst (crefs y s.classed)) ∧ RetV (f s) H Q
def sp_level_of (K : PySem.W.Frag) (A : Ad) : Sp := spRaceSome A fun s => .int (s.worth : Nat)
def sp_fastest_number (K : PySem.W.Frag) (A : Ad) : Sp := spRaceSome A fun s => .int (fastN s)
def sp_points_by_places (K : PySem.W.Frag) (A : Ad) : Sp := fun vs H Q _ => ∃ (l n : Nat), vs = [.int (l : Int), .int (n : Int)] ∧ l ≤ 2 ∧ n ≤ 26 ∧ RetL (nints ((List.range n).map fun p => Kg68.TABLE.getD p 0 * l)) H Q
def sp_halves_of (K : PySem.W.Frag) (A : Ad) : Sp := fun vs H Q _ => ∃ (y : RaceL) (s : KSt) (m : Nat) (p : Addr), vs = [.ref y.r, .ref p] ∧ RaceAt A H y s ∧ Good m s ∧ m ≤ 900 ∧ H p = some (.lst (crefs y s.classed)) ∧
  RetL (nints (s.classed.map fun i => s.points i)) H Q
def sp_teams_in_order (K : PySem.W.Frag) (A : Ad) : Sp := spRaceL A fun _ s => nints (s.cars.map Kg68.Car.team).eraseDups
def sp_halves_of_team (K : PySem.W.Frag) (A : Ad) : Sp := fun vs H Q _ => ∃ (y : RaceL) (s : KSt) (m t : Nat), vs = [.ref y.r, .int (t : Int)] ∧ RaceAt A H y s ∧ Good m s ∧ m ≤ 900 ∧ RetV (.int (s.teamPoints t : Nat)) H Q
/-! the desk -/
def sp_all_within (K : PySem.W.Frag) (A : Ad) : Sp := fun vs H Q _ => ∃ (p : Addr) (ns : List Int) (lo hi : Int), vs = [.ref p, .int lo, .int hi] ∧ SqL K H p (zints ns) ∧ ns.length ≤ 1000 ∧ RetV (.bl (ns.all fun z => Kg68.within z lo hi)) H Q
def sp_d_init (K : PySem.W.Frag) (A : Ad) : Sp := fun vs H Q _ => ∃ (p dx : Addr), vs = [.ref p] ∧ H p = some (.ins A.cDesk dx []) ∧ ∀ H' : Hp, H' p = some (.ins A.cDesk dx [("race", .non)]) → (∀ b o, H b = some o → b ≠ p → H' b = some o) → Q .non H'
def sp_d_car_of (K : PySem.W.Frag) (A : Ad) : Sp := fun vs H Q E => ∃ (d dd : Addr) (yo : Option RaceL) (s : KSt) (m : Nat) (z : Int), vs = [.ref d, .int z] ∧ DeskAt A H d dd yo s m ∧ m ≤ 900 ∧
  (Kg68.isCar s z = false → Refd A (-1) H E) ∧ (Kg68.isCar s z = true → ∀ y, yo = some y → RetV (.ref (y.car z.toNat).a) H Q)
def sp_d_racing_car (K : PySem.W.Frag) (A : Ad) : Sp := fun vs H Q E => ∃ (d dd : Addr) (yo : Option RaceL) (s : KSt) (m : Nat) (z : Int), vs = [.ref d, .int z] ∧ DeskAt A H d dd yo s m ∧ m ≤ 900 ∧
  (Kg68.isCar s z = false → Refd A (-1) H E) ∧ (Kg68.isCar s z = true → isOff s z.toNat = true → Refd A (-4) H E) ∧
  (Kg68.isCar s z = true → isOff s z.toNat = false → ∀ y, yo = some y → RetV (.ref (y.car z.toNat).a) H Q)
def sp_d_want_fallen (K : PySem.W.Frag) (A : Ad) : Sp := fun vs H Q E => ∃ (d dd : Addr) (yo : Option RaceL) (s : KSt) (m : Nat), vs = [.ref d] ∧ DeskAt A H d dd yo s m ∧ m ≤ 900 ∧
  (yo = none → Refd A (-2) H E) ∧ (yo.isSome = true → s.flag.isNone = true → Refd A (-4) H E) ∧ (yo.isSome = true → s.flag.isNone = false → RetV .non H Q)
def KeepD (d : Addr) (H : Hp) (yo : Option RaceL) (n : Nat) (H' : Hp) (yo' : Option RaceL) (n' : Nat) : Prop := ∀ b o, H b = some o → ¬ OwnD d yo n b → H' b = some o ∧ ¬ OwnD d yo' n' b
/-- a call's answer, a new list -/
def DeskRet (A : Ad) (H : Hp) (d dd : Addr) (yo : Option RaceL) (s : KSt) (m : Nat) (x : KSt × Kg68.Ans) (Q : VK) : Prop :=
  ∀ (H' : Hp) (yo' : Option RaceL) (p : Addr), DeskAt A H' d dd yo' x.1 (m + 1) → KeepD d H yo s.cars.length H' yo' x.1.cars.length → (∀ b o, H b = some o → ¬ OwnD d yo s.cars.length b → b ≠ p) → ¬ OwnD d yo' x.1.cars.length p → H' p = some (.lst (zints (ansL x))) → Q (.ref p) H'
def spDesk (A : Ad) (args : List V) (k : Kg68.Call) : List V → Hp → VK → XK → Prop := fun vs H Q E => ∃ (d dd : Addr) (yo : Option RaceL) (s : KSt) (m : Nat), vs = .ref d :: args ∧ DeskAt A H d dd yo s m ∧ m ≤ 800 ∧
  (∀ r, Kg68.spec s k = (s, Kg68.num r) → Refd A r H E) ∧ DeskRet A H d dd yo s m (Kg68.spec s k) Q
def sp_d_begin (K : PySem.W.Frag) (A : Ad) : Sp := fun vs H Q E => ∃ (n w : Int) (tl kl : Addr) (t y : List Int), H tl = some (.lst (zints t)) ∧ H kl = some (.lst (zints y)) ∧ t.length ≤ 1000 ∧ y.length ≤ 1000 ∧ spDesk A [.int n, .int w, .ref tl, .ref kl] (.begin_ n w t y) vs H Q E
def sp_d_cross (K : PySem.W.Frag) (A : Ad) : Sp := fun vs H Q E => ∃ i t : Int, spDesk A [.int i, .int t] (.cross i t) vs H Q E
def sp_d_pit (K : PySem.W.Frag) (A : Ad) : Sp := fun vs H Q E => ∃ i t : Int, spDesk A [.int i, .int t] (.pit i t) vs H Q E
def sp_d_through (K : PySem.W.Frag) (A : Ad) : Sp := fun vs H Q E => ∃ i : Int, spDesk A [.int i] (.through i) vs H Q E
def sp_d_seconds (K : PySem.W.Frag) (A : Ad) : Sp := fun vs H Q E => ∃ i t : Int, spDesk A [.int i, .int t] (.seconds i t) vs H Q E
def sp_d_send (K : PySem.W.Frag) (A : Ad) : Sp := fun vs H Q E => ∃ i : Int, spDesk A [.int i] (.send i) vs H Q E
def sp_d_leaving (K : PySem.W.Frag) (A : Ad) : Sp := fun vs H Q E => ∃ i : Int, spDesk A [.int i] (.leave i) vs H Q E
def sp_d_throwing (K : PySem.W.Frag) (A : Ad) : Sp := fun vs H Q E => ∃ i : Int, spDesk A [.int i] (.throw_ i) vs H Q E
def sp_d_stop (K : PySem.W.Frag) (A : Ad) : Sp := fun vs H Q E => spDesk A [] .halt_ vs H Q E
def sp_d_now (K : PySem.W.Frag) (A : Ad) : Sp := fun vs H Q E => ∃ (d dd : Addr) (yo : Option RaceL) (s : KSt) (m : Nat), vs = [.ref d] ∧ DeskAt A H d dd yo s m ∧ m ≤ 800 ∧ RetL (zints (ansL (Kg68.spec s .now))) H Q
def sp_d_card (K : PySem.W.Frag) (A : Ad) : Sp := fun vs H Q E => ∃ i : Int, spDesk A [.int i] (.card i) vs H Q E
def sp_d_result (K : PySem.W.Frag) (A : Ad) : Sp := fun vs H Q E => spDesk A [] .result vs H Q E
def sp_d_teams (K : PySem.W.Frag) (A : Ad) : Sp := fun vs H Q E => spDesk A [] .teams vs H Q E
/-! the calls -/
def sp_list_at (K : PySem.W.Frag) (A : Ad) : Sp := fun vs H Q _ => ∃ (p : Addr) (l : List Int) (at_ n : Nat), vs = [.ref p, .int (at_ : Int)] ∧ SqL K H p (zints l) ∧ l[at_]? = some (n : Int) ∧ at_ + 1 + n ≤ l.length ∧
  ∀ (H' : Hp) (q u : Addr), Ex H H' → H q = none → H u = none → H' q = some (.lst (zints ((l.drop (at_ + 1)).take n))) → H' u = some (.tup [.ref q, .int ((at_ + 1 + n : Nat) : Int)]) → Q (.ref u) H'
def spAns (A : Ad) (ok : Kg68.Call → Prop) (vs0 : Addr → Int → Addr → List V) : Sp := fun vs H Q E => ∃ (d dd p : Addr) (yo : Option RaceL) (s : KSt) (m : Nat) (k : Kg68.Call), vs = vs0 d (numsOf k).1 p ∧ H p = some (.lst (zints (numsOf k).2)) ∧ ok k ∧ DeskAt A H d dd yo s m ∧ m ≤ 800 ∧
  (∀ r, Kg68.spec s k = (s, Kg68.num r) → Refd A r H E) ∧ DeskRet A H d dd yo s m (Kg68.spec s k) Q
def sp_answer_with_car (K : PySem.W.Frag) (A : Ad) : Sp := spAns A (fun k => 2 ≤ (numsOf k).1 ∧ (numsOf k).1 < 9) fun d c p => [.ref d, .int c, .ref p]
def sp_answer_without_lists (K : PySem.W.Frag) (A : Ad) : Sp := spAns A (fun k => 2 ≤ (numsOf k).1) fun d c p => [.ref d, .int c, .ref p]
/-- the lists of a call -/
def ListsAt (H : Hp) (q : Addr) : Kg68.Call → Prop
  | .begin_ _ _ t y => ∃ tl kl : Addr, H q = some (.lst [.ref tl, .ref kl]) ∧ H tl = some (.lst (zints t)) ∧ H kl = some (.lst (zints y)) ∧ t.length ≤ 1000 ∧ y.length ≤ 1000
  | _ => True
def sp_answer (K : PySem.W.Frag) (A : Ad) : Sp := fun vs H Q E => ∃ (d dd p q : Addr) (yo : Option RaceL) (s : KSt) (m : Nat) (k : Kg68.Call), vs = [.ref d, .int (numsOf k).1, .ref p, .ref q] ∧ H p = some (.lst (zints (numsOf k).2)) ∧ ListsAt H q k ∧
  DeskAt A H d dd yo s m ∧ m ≤ 800 ∧ DeskRet A H d dd yo s m (Kg68.spec s k) Q
def sp_answers0 (K : PySem.W.Frag) : Sp := fun vs H Q _ => ∃ (a : Addr) (ns : List Int), vs = [.ref a] ∧ SqL K H a (ns.map V.int) ∧ PyKg68.answers_asked ns = true ∧ ns.length ≤ 17000 ∧
  ∀ (H' : Hp) (p : Addr), H' p = some (.lst ((PyKg68.answers ns).map V.int)) → Q (.ref p) H'
def sp_answers (K : PySem.W.Frag) (A : Ad) : Sp := sp_answers0 K
end L2

set_option Elab.async false
set_option linter.all false
set_option maxRecDepth 100000
set_option maxHeartbeats 4000000
namespace L2
open PySem PySem.Spec PyProof.Rows
/-- Refused.__init__ -/
def t_x_init (K : PySem.W.Frag) (A : Ad) : TS := (tSeq (tDrop (tVeI K (tCons (tVar 0) (tCons (tC (.str "refused")) tNil))))
    (tOst K "refusal" (tVar 0) (tVar 1)))
/-- Car.__init__ -/
def t_c_init (K : PySem.W.Frag) (A : Ad) : TS := (tSeq (sFld K (tVar 0) (tVar 1) "number")
    (tSeq (sFld K (tVar 0) (tVar 2) "team")
    (tSeq (sFld K (tVar 0) (tLst (tCons (tVar 3) tNil)) "kinds")
    (tSeq (sFld K (tVar 0) (tLst tNil) "times")
    (tSeq (sFld K (tVar 0) (tLst tNil) "sent")
    (tSeq (sFld K (tVar 0) (tC (.bl false)) "is_late")
    (tSeq (sFld K (tVar 0) (tC (.int 0)) "added")
    (tSeq (sFld K (tVar 0) (tC (.bl false)) "has_left")
    (sFld K (tVar 0) (tC (.bl false)) "is_thrown")))))))))
/-- Car.laps -/
def t_c_laps (K : PySem.W.Frag) (A : Ad) : TS := (tRet (tCB (Evl.rLenS K) (tCons (tFld K (tVar 0) "times") tNil)))
/-- Car.last_time -/
def t_c_last_time (K : PySem.W.Frag) (A : Ad) : TS := (tSeq (tIfS (tTest (tOp (rEqNil K) (tFld K (tVar 0) "times") (tLst tNil))) (tRet (tC (.int 0))) tNext)
    (tRet (tOp (rIxL K) (tFld K (tVar 0) "times") (tUn rNeg (tC (.int 1))))))
/-- Car.take_tyres -/
def t_c_take_tyres (K : PySem.W.Frag) (A : Ad) : TS := (tDrop (tBM K "list" rAppend (tFld K (tVar 0) "kinds") (tCons (tVar 1) tNil)))
/-- Car.pits -/
def t_c_pits (K : PySem.W.Frag) (A : Ad) : TS := (tRet (tOp rMinus (tCB (Evl.rLenS K) (tCons (tFld K (tVar 0) "kinds") tNil)) (tC (.int 1))))
/-- Car.has_one_kind -/
def t_c_has_one_kind (K : PySem.W.Frag) (A : Ad) : TS := (tRet (tCB (rAll K) (tCons (tLc (iList K (tFld K (tVar 0) "kinds")) (gName 1) tYes (tOp rEq (tVar 1) (tOp (rIxL K) (tFld K (tVar 0) "kinds") (tC (.int 0)))) [1]) tNil)))
/-- Car.go_through -/
def t_c_go_through (K : PySem.W.Frag) (A : Ad) : TS := (sFld K (tVar 0) (tSl (rSlL K) (tFld K (tVar 0) "sent") (tPart (tC (.int 1))) tNoPart) "sent")
/-- Car.ways -/
def t_c_ways (K : PySem.W.Frag) (A : Ad) : TS := (tRet (tCB (Evl.rLenS K) (tCons (tFld K (tVar 0) "sent") tNil)))
/-- Car.add_seconds -/
def t_c_add_seconds (K : PySem.W.Frag) (A : Ad) : TS := (sFld K (tVar 0) (tOp rPlus (tFld K (tVar 0) "added") (tVar 1)) "added")
/-- Car.leave -/
def t_c_leave (K : PySem.W.Frag) (A : Ad) : TS := (sFld K (tVar 0) (tC (.bl true)) "has_left")
/-- Car.throw -/
def t_c_throw (K : PySem.W.Frag) (A : Ad) : TS := (sFld K (tVar 0) (tC (.bl true)) "is_thrown")
/-- many_before -/
def t_many_before (K : PySem.W.Frag) (A : Ad) : TS := (tRet (tCB (Evl.rLenS K) (tCons (tLc (iList K (tVar 0)) (gName 2) (tTest (tOp rLt (tVar 2) (tVar 1))) (tVar 2) [2]) tNil)))
/-- Race.is_void -/
def t_r_is_void (K : PySem.W.Frag) (A : Ad) : TS := (tRet (tOp rEq (tFld K (tVar 0) "counted_for") (tC (.int 0))))
/-- points_by_places -/
def t_points_by_places (K : PySem.W.Frag) (A : Ad) : TS := (tSeq (tAsg (tLc (iTup K (tSl (rSlA K) (tC (.ref A.a_POINTS)) tNoPart (tPart (tVar 1)))) (gName 3) tYes (tOp rTimes (tVar 0) (tVar 3)) [3]) (gName 2))
    (tRet (tOp rCat (tVar 2) (tOp rRep (tLst (tCons (tC (.int 0)) tNil)) (tOp rMinus (tVar 1) (tCB (Evl.rLenS K) (tCons (tVar 2) tNil)))))))
/-- teams_in_order -/
def t_teams_in_order (K : PySem.W.Frag) (A : Ad) : TS := (tSeq (tAsg (tLst tNil) (gName 1))
    (tSeq (tFor (iList K (tFld K (tVar 0) "cars")) (gName 2) (tIfS (tTest (tOp (rIn K true) (tFld K (tVar 2) "team") (tVar 1))) (tDrop (tBM K "list" rAppend (tVar 1) (tCons (tFld K (tVar 2) "team") tNil))) tNext))
    (tRet (tVar 1))))
/-- all_within -/
def t_all_within (K : PySem.W.Frag) (A : Ad) : TS := (tRet (tCB (rAll K) (tCons (tLc (iList K (tVar 0)) (gName 3) tYes (tAndV (tOp rLe (tVar 1) (tVar 3)) (tOp rLe (tVar 3) (tVar 2))) [3]) tNil)))
/-- Desk.__init__ -/
def t_d_init (K : PySem.W.Frag) (A : Ad) : TS := (sFld K (tVar 0) (tC .non) "race")
/-- list_at -/
def t_list_at (K : PySem.W.Frag) (A : Ad) : TS := (tSeq (tAsg (tOp rPlus (tOp rPlus (tVar 1) (tC (.int 1))) (tOp (rIxL K) (tVar 0) (tVar 1))) (gName 2))
    (tRet (tTup (tCons (tSl (rSlL K) (tVar 0) (tPart (tOp rPlus (tVar 1) (tC (.int 1)))) (tPart (tVar 2))) (tCons (tVar 2) tNil)))))
/-- Car.take_crossing -/
def t_c_take_crossing (K : PySem.W.Frag) (A : Ad) : TS := (tSeq (tDrop (tBM K "list" rAppend (tFld K (tVar 0) "times") (tCons (tVar 1) tNil)))
    (tIfS (tAnd (tTest (tOp (rNeD K) (tFld K (tVar 0) "sent") (tLst tNil))) (tTest (tOp rGeI (tOp rMinus (tMeth A.cCar "laps" (sp_c_laps K A) [] E0 (tVar 0) tNil) (tOp (rIxL K) (tFld K (tVar 0) "sent") (tC (.int 0)))) (tC (.int 4))))) (sFld K (tVar 0) (tC (.bl true)) "is_late") tNext))
/-- Car.take_sending -/
def t_c_take_sending (K : PySem.W.Frag) (A : Ad) : TS := (tDrop (tBM K "list" rAppend (tFld K (tVar 0) "sent") (tCons (tMeth A.cCar "laps" (sp_c_laps K A) [] E0 (tVar 0) tNil) tNil)))
/-- Car.penalty -/
def t_c_penalty (K : PySem.W.Frag) (A : Ad) : TS := (tRet (tOp rPlus (tFld K (tVar 0) "added") (tOp rTimes (tC (.int 20)) (tMeth A.cCar "ways" (sp_c_ways K A) [] E0 (tVar 0) tNil))))
/-- time_of_laps -/
def t_time_of_laps (K : PySem.W.Frag) (A : Ad) : TS := (tRet (tCKw (rMinD K) (tCons (tLc (iList K (tVar 0)) (gName 2) (tTest (tOp rGeI (tMeth A.cCar "laps" (sp_c_laps K A) [] E0 (tVar 2) tNil) (tVar 1))) (tOp (rIxL K) (tFld K (tVar 2) "times") (tOp rMinus (tVar 1) (tC (.int 1)))) [2]) tNil) (tCons (tC .non) tNil)))
/-- Race.most_laps -/
def t_r_most_laps (K : PySem.W.Frag) (A : Ad) : TS := (tRet (tCB (rMax K) (tCons (tLc (iList K (tFld K (tVar 0) "cars")) (gName 1) tYes (tMeth A.cCar "laps" (sp_c_laps K A) [] E0 (tVar 1) tNil) [1]) tNil)))
/-- Race.is_out -/
def t_r_is_out (K : PySem.W.Frag) (A : Ad) : TS := (tSeq (tIfS (tOr (tB (tFld K (tVar 1) "is_thrown")) (tB (tFld K (tVar 1) "is_late"))) (tRet (tC (.bl true))) tNext)
    (tRet (tAndV (tNotV (tFld K (tVar 0) "is_wet")) (tAndV (tOp rIsNone (tFld K (tVar 0) "counted_for") (tC .non)) (tMeth A.cCar "has_one_kind" (sp_c_has_one_kind K A) [] E0 (tVar 1) tNil)))))
/-- Desk.now -/
def t_d_now (K : PySem.W.Frag) (A : Ad) : TS := (tSeq (tIfS (tTest (tOp rIsNone (tFld K (tVar 0) "race") (tC .non))) (tRet (tLst (tCons (tC (.int 0)) tNil))) tNext)
    (tSeq (tAsg (tLc (iList K (tFld K (tFld K (tVar 0) "race") "cars")) (gName 2) (tAnd (tNot (tB (tFld K (tVar 2) "has_left"))) (tNot (tB (tFld K (tVar 2) "is_thrown")))) (tVar 2) [2]) (gName 1))
    (tSeq (tAsg (tCB (rSorted3 K) (tCons (tLc (iList K (tVar 1)) (gName 2) tYes (tTup (tCons (tUn rNeg (tMeth A.cCar "laps" (sp_c_laps K A) [] E0 (tVar 2) tNil)) (tCons (tMeth A.cCar "last_time" (sp_c_last_time K A) [] E0 (tVar 2) tNil) (tCons (tFld K (tVar 2) "number") tNil)))) [2]) tNil)) (gName 3))
    (tSeq (tAsg (tLst (tCons (tCB (Evl.rLenS K) (tCons (tVar 3) tNil)) tNil)) (gName 4))
    (tSeq (tFor (iList K (tVar 3)) (gTup K 3 (gCons (gName 5) (gCons (gName 6) (gCons (gName 7) gNil)))) (tDrop (tBM K "list" rExtend (tVar 4) (tCons (tLst (tCons (tVar 7) (tCons (tUn rNeg (tVar 5)) (tCons (tVar 6) tNil)))) tNil))))
    (tRet (tVar 4)))))))
/-- want -/
def t_want (K : PySem.W.Frag) (A : Ad) (E : XK) : TS := (tIfS (tNot (tB (tVar 0))) (tRaiseR A (sp_x_init K A) E (tCons (tVar 1) tNil)) tNext)
/-- Race.__init__ -/
def t_r_init (K : PySem.W.Frag) (A : Ad) : TS := (tSeq (sFld K (tVar 0) (tVar 1) "many_laps")
    (tSeq (sFld K (tVar 0) (tVar 2) "is_wet")
    (tSeq (sFld K (tVar 0) (tLc (iEnum K (tCons (tVar 3) tNil)) (gTup K 2 (gCons (gName 5) (gCons (gName 6) gNil))) tYes (tMake A.cCar (sp_c_init K A) [] E0 (tCons (tVar 5) (tCons (tVar 6) (tCons (tOp (rIxL K) (tVar 4) (tVar 5)) tNil)))) [5, 6]) "cars")
    (tSeq (sFld K (tVar 0) (tC (.int 0)) "last_told")
    (sFld K (tVar 0) (tC .non) "counted_for")))))
/-- Race.fall -/
def t_r_fall (K : PySem.W.Frag) (A : Ad) : TS := (tSeq (tIfS (tTest (tOp rIsNone (tFld K (tVar 0) "counted_for") (tC .non))) (tRet (tCall (sp_time_of_laps K A) [] E0 (tCons (tFld K (tVar 0) "cars") (tCons (tFld K (tVar 0) "many_laps") tNil)))) tNext)
    (tSeq (tIfS (tTest (tOp rEq (tFld K (tVar 0) "counted_for") (tC (.int 0)))) (tRet (tC (.int 0))) tNext)
    (tRet (tCall (sp_time_of_laps K A) [] E0 (tCons (tFld K (tVar 0) "cars") (tCons (tFld K (tVar 0) "counted_for") tNil))))))
/-- Race.take_crossing_of -/
def t_r_take_crossing_of (K : PySem.W.Frag) (A : Ad) : TS := (tSeq (tDrop (tMeth A.cCar "take_crossing" (sp_c_take_crossing K A) [] E0 (tVar 1) (tCons (tVar 2) tNil)))
    (sFld K (tVar 0) (tVar 2) "last_told"))
/-- Race.be_stopped -/
def t_r_be_stopped (K : PySem.W.Frag) (A : Ad) : TS := (sFld K (tVar 0) (tCB Evl.rMax2 (tCons (tC (.int 0)) (tCons (tOp rMinus (tMeth A.cRace "most_laps" (sp_r_most_laps K A) [] E0 (tVar 0) tNil) (tC (.int 1))) tNil))) "counted_for")
/-- Race.has_fallen -/
def t_r_has_fallen (K : PySem.W.Frag) (A : Ad) : TS := (tRet (tOp rNotNone (tMeth A.cRace "fall" (sp_r_fall K A) [] E0 (tVar 0) tNil) (tC .non)))
/-- Desk.car_of -/
def t_d_car_of (K : PySem.W.Frag) (A : Ad) (E : XK) : TS := (tSeq (tDrop (tCall (sp_want K A) [] E (tCons (tOp rNotNone (tFld K (tVar 0) "race") (tC .non)) (tCons (tC (.int (-1))) tNil))))
    (tSeq (tDrop (tCall (sp_want K A) [] E (tCons (tAndV (tOp rLe (tC (.int 0)) (tVar 1)) (tOp rLt (tVar 1) (tCB (Evl.rLenS K) (tCons (tFld K (tFld K (tVar 0) "race") "cars") tNil)))) (tCons (tC (.int (-1))) tNil))))
    (tRet (tOp (rIxL K) (tFld K (tFld K (tVar 0) "race") "cars") (tVar 1)))))
/-- Race.is_home -/
def t_r_is_home (K : PySem.W.Frag) (A : Ad) : TS := (tSeq (tIfS (tNot (tB (tMeth A.cRace "has_fallen" (sp_r_has_fallen K A) [] E0 (tVar 0) tNil))) (tRet (tC (.bl false))) tNext)
    (tRet (tOrV (tMeth A.cRace "is_void" (sp_r_is_void K A) [] E0 (tVar 0) tNil) (tOp rLt (tCall (sp_many_before K A) [] E0 (tCons (tFld K (tVar 1) "times") (tCons (tMeth A.cRace "fall" (sp_r_fall K A) [] E0 (tVar 0) tNil) tNil))) (tMeth A.cCar "laps" (sp_c_laps K A) [] E0 (tVar 1) tNil)))))
/-- Race.counting -/
def t_r_counting (K : PySem.W.Frag) (A : Ad) : TS := (tSeq (tIfS (tNot (tB (tMeth A.cRace "has_fallen" (sp_r_has_fallen K A) [] E0 (tVar 0) tNil))) (tRet (tMeth A.cCar "laps" (sp_c_laps K A) [] E0 (tVar 1) tNil)) tNext)
    (tSeq (tIfS (tB (tMeth A.cRace "is_void" (sp_r_is_void K A) [] E0 (tVar 0) tNil)) (tRet (tC (.int 0))) tNext)
    (tRet (tCB rMin2 (tCons (tMeth A.cCar "laps" (sp_c_laps K A) [] E0 (tVar 1) tNil) (tCons (tOp rPlus (tCall (sp_many_before K A) [] E0 (tCons (tFld K (tVar 1) "times") (tCons (tMeth A.cRace "fall" (sp_r_fall K A) [] E0 (tVar 0) tNil) tNil))) (tC (.int 1))) tNil))))))
/-- Desk.want_fallen -/
def t_d_want_fallen (K : PySem.W.Frag) (A : Ad) (E : XK) : TS := (tSeq (tDrop (tCall (sp_want K A) [] E (tCons (tOp rNotNone (tFld K (tVar 0) "race") (tC .non)) (tCons (tC (.int (-2))) tNil))))
    (tDrop (tCall (sp_want K A) [] E (tCons (tMeth A.cRace "has_fallen" (sp_r_has_fallen K A) [] E0 (tFld K (tVar 0) "race") tNil) (tCons (tC (.int (-4))) tNil)))))
/-- Desk.begin -/
def t_d_begin (K : PySem.W.Frag) (A : Ad) (E : XK) : TS := (tSeq (tDrop (tCall (sp_want K A) [] E (tCons (tAndV (tCall (sp_all_within K A) [] E0 (tCons (tLst (tCons (tVar 1) tNil)) (tCons (tC (.int 1)) (tCons (tC (.int 100)) tNil)))) (tOp (rIn K false) (tVar 2) (tTup (tCons (tC (.int 0)) (tCons (tC (.int 1)) tNil))))) (tCons (tC (.int (-1))) tNil))))
    (tSeq (tDrop (tCall (sp_want K A) [] E (tCons (tAndV (tCall (sp_all_within K A) [] E0 (tCons (tLst (tCons (tCB (Evl.rLenS K) (tCons (tVar 3) tNil)) tNil)) (tCons (tC (.int 1)) (tCons (tC (.int 26)) tNil)))) (tOp rEq (tCB (Evl.rLenS K) (tCons (tVar 4) tNil)) (tCB (Evl.rLenS K) (tCons (tVar 3) tNil)))) (tCons (tC (.int (-1))) tNil))))
    (tSeq (tDrop (tCall (sp_want K A) [] E (tCons (tAndV (tCall (sp_all_within K A) [] E0 (tCons (tVar 3) (tCons (tC (.int 0)) (tCons (tC (.int 20)) tNil)))) (tCall (sp_all_within K A) [] E0 (tCons (tVar 4) (tCons (tC (.int 0)) (tCons (tC (.int 4)) tNil))))) (tCons (tC (.int (-1))) tNil))))
    (tSeq (sFld K (tVar 0) (tMake A.cRace (sp_r_init K A) [] E0 (tCons (tVar 1) (tCons (tOp rEq (tVar 2) (tC (.int 1))) (tCons (tVar 3) (tCons (tVar 4) tNil))))) "race")
    (tRet (tLst (tCons (tCB (Evl.rLenS K) (tCons (tVar 3) tNil)) tNil)))))))
/-- Desk.seconds -/
def t_d_seconds (K : PySem.W.Frag) (A : Ad) (E : XK) : TS := (tSeq (tDrop (tCall (sp_want K A) [] E (tCons (tCall (sp_all_within K A) [] E0 (tCons (tLst (tCons (tVar 2) tNil)) (tCons (tC (.int 1)) (tCons (tC (.int 60)) tNil)))) (tCons (tC (.int (-1))) tNil))))
    (tSeq (tAsg (tMeth A.cDesk "car_of" (sp_d_car_of K A) [] E (tVar 0) (tCons (tVar 1) tNil)) (gName 3))
    (tSeq (tDrop (tMeth A.cCar "add_seconds" (sp_c_add_seconds K A) [] E0 (tVar 3) (tCons (tVar 2) tNil)))
    (tRet (tLst (tCons (tFld K (tVar 3) "added") tNil))))))
/-- Desk.throwing -/
def t_d_throwing (K : PySem.W.Frag) (A : Ad) (E : XK) : TS := (tSeq (tAsg (tMeth A.cDesk "car_of" (sp_d_car_of K A) [] E (tVar 0) (tCons (tVar 1) tNil)) (gName 2))
    (tSeq (tDrop (tCall (sp_want K A) [] E (tCons (tNotV (tFld K (tVar 2) "is_thrown")) (tCons (tC (.int (-4))) tNil))))
    (tSeq (tDrop (tMeth A.cCar "throw" (sp_c_throw K A) [] E0 (tVar 2) tNil))
    (tRet (tLst (tCons (tC (.int 0)) tNil))))))
/-- Desk.stop -/
def t_d_stop (K : PySem.W.Frag) (A : Ad) (E : XK) : TS := (tSeq (tDrop (tCall (sp_want K A) [] E (tCons (tOp rNotNone (tFld K (tVar 0) "race") (tC .non)) (tCons (tC (.int (-2))) tNil))))
    (tSeq (tDrop (tCall (sp_want K A) [] E (tCons (tNotV (tMeth A.cRace "has_fallen" (sp_r_has_fallen K A) [] E0 (tFld K (tVar 0) "race") tNil)) (tCons (tC (.int (-4))) tNil))))
    (tSeq (tDrop (tMeth A.cRace "be_stopped" (sp_r_be_stopped K A) [] E0 (tFld K (tVar 0) "race") tNil))
    (tRet (tLst (tCons (tFld K (tFld K (tVar 0) "race") "counted_for") tNil))))))
/-- time_with_penalties -/
def t_time_with_penalties (K : PySem.W.Frag) (A : Ad) : TS := (tRet (tOp rPlus (tOp (rIxL K) (tFld K (tVar 1) "times") (tOp rMinus (tMeth A.cRace "counting" (sp_r_counting K A) [] E0 (tVar 0) (tCons (tVar 1) tNil)) (tC (.int 1)))) (tOp rTimes (tC (.int 1000)) (tMeth A.cCar "penalty" (sp_c_penalty K A) [] E0 (tVar 1) tNil))))
/-- best_lap -/
def t_best_lap (K : PySem.W.Frag) (A : Ad) : TS := (tSeq (tAsg (tSl (rSlL K) (tFld K (tVar 1) "times") tNoPart (tPart (tMeth A.cRace "counting" (sp_r_counting K A) [] E0 (tVar 0) (tCons (tVar 1) tNil)))) (gName 2))
    (tRet (tCKw (rMinD K) (tCons (tLc (iZip K (tCons (tOp rCat (tLst (tCons (tC (.int 0)) tNil)) (tVar 2)) (tCons (tVar 2) tNil))) (gTup K 2 (gCons (gName 3) (gCons (gName 4) gNil))) tYes (tOp rMinus (tVar 4) (tVar 3)) [3, 4]) tNil) (tCons (tC (.int 0)) tNil))))
/-- level_of -/
def t_level_of (K : PySem.W.Frag) (A : Ad) : TS := (tSeq (tIfS (tTest (tOp (rEqNil K) (tVar 1) (tLst tNil))) (tRet (tC (.int 0))) tNext)
    (tSeq (tAsg (tMeth A.cRace "counting" (sp_r_counting K A) [] E0 (tVar 0) (tCons (tOp (rIxL K) (tVar 1) (tC (.int 0))) tNil)) (gName 2))
    (tSeq (tIfS (tTest (tOp rGeI (tOp rTimes (tC (.int 4)) (tVar 2)) (tOp rTimes (tC (.int 3)) (tFld K (tVar 0) "many_laps")))) (tRet (tC (.int 2))) tNext)
    (tSeq (tIfS (tTest (tOp rGeI (tVar 2) (tC (.int 2)))) (tRet (tC (.int 1))) tNext)
    (tRet (tC (.int 0)))))))
/-- Desk.racing_car -/
def t_d_racing_car (K : PySem.W.Frag) (A : Ad) (E : XK) : TS := (tSeq (tAsg (tMeth A.cDesk "car_of" (sp_d_car_of K A) [] E (tVar 0) (tCons (tVar 1) tNil)) (gName 2))
    (tSeq (tDrop (tCall (sp_want K A) [] E (tCons (tAndV (tNotV (tFld K (tVar 2) "has_left")) (tAndV (tNotV (tFld K (tVar 2) "is_thrown")) (tNotV (tMeth A.cRace "is_home" (sp_r_is_home K A) [] E0 (tFld K (tVar 0) "race") (tCons (tVar 2) tNil))))) (tCons (tC (.int (-4))) tNil))))
    (tRet (tVar 2))))
/-- ordered -/
def t_ordered (K : PySem.W.Frag) (A : Ad) : TS := (tSeq (tAsg (tLc (iList K (tFld K (tVar 0) "cars")) (gName 2) (tAnd (tNot (tB (tMeth A.cRace "is_out" (sp_r_is_out K A) [] E0 (tVar 0) (tCons (tVar 2) tNil)))) (tTest (tOp rGtI (tMeth A.cRace "counting" (sp_r_counting K A) [] E0 (tVar 0) (tCons (tVar 2) tNil)) (tC (.int 0))))) (tVar 2) [2]) (gName 1))
    (tSeq (tAsg (tCB (rSorted3 K) (tCons (tLc (iList K (tVar 1)) (gName 2) tYes (tTup (tCons (tUn rNeg (tMeth A.cRace "counting" (sp_r_counting K A) [] E0 (tVar 0) (tCons (tVar 2) tNil))) (tCons (tCall (sp_time_with_penalties K A) [] E0 (tCons (tVar 0) (tCons (tVar 2) tNil))) (tCons (tFld K (tVar 2) "number") tNil)))) [2]) tNil)) (gName 3))
    (tRet (tLc (iList K (tVar 3)) (gName 4) tYes (tOp (rIxL K) (tFld K (tVar 0) "cars") (tOp (rIxT K) (tVar 4) (tC (.int 2)))) [4]))))
/-- fastest_number -/
def t_fastest_number (K : PySem.W.Frag) (A : Ad) : TS := (tSeq (tAsg (tLc (iList K (tVar 1)) (gName 3) tYes (tCall (sp_best_lap K A) [] E0 (tCons (tVar 0) (tCons (tVar 3) tNil))) [3]) (gName 2))
    (tSeq (tIfS (tTest (tOp (rEqNil K) (tVar 2) (tLst tNil))) (tRet (tUn rNeg (tC (.int 1)))) tNext)
    (tRet (tFld K (tOp (rIxL K) (tVar 1) (tBM K "list" (rIndex K) (tVar 2) (tCons (tCB (rMin K) (tCons (tVar 2) tNil)) tNil))) "number"))))
/-- Desk.cross -/
def t_d_cross (K : PySem.W.Frag) (A : Ad) (E : XK) : TS := (tSeq (tDrop (tCall (sp_want K A) [] E (tCons (tCall (sp_all_within K A) [] E0 (tCons (tLst (tCons (tVar 2) tNil)) (tCons (tC (.int 1)) (tCons (tC (.int 100000000)) tNil)))) (tCons (tC (.int (-1))) tNil))))
    (tSeq (tAsg (tMeth A.cDesk "racing_car" (sp_d_racing_car K A) [] E (tVar 0) (tCons (tVar 1) tNil)) (gName 3))
    (tSeq (tDrop (tCall (sp_want K A) [] E (tCons (tAndV (tOp rGeI (tVar 2) (tFld K (tFld K (tVar 0) "race") "last_told")) (tOp rGtI (tVar 2) (tMeth A.cCar "last_time" (sp_c_last_time K A) [] E0 (tVar 3) tNil))) (tCons (tC (.int (-5))) tNil))))
    (tSeq (tDrop (tMeth A.cRace "take_crossing_of" (sp_r_take_crossing_of K A) [] E0 (tFld K (tVar 0) "race") (tCons (tVar 3) (tCons (tVar 2) tNil))))
    (tRet (tLst (tCons (tMeth A.cCar "laps" (sp_c_laps K A) [] E0 (tVar 3) tNil) (tCons (tCB rInt1 (tCons (tMeth A.cRace "is_home" (sp_r_is_home K A) [] E0 (tFld K (tVar 0) "race") (tCons (tVar 3) tNil)) tNil)) tNil))))))))
/-- Desk.pit -/
def t_d_pit (K : PySem.W.Frag) (A : Ad) (E : XK) : TS := (tSeq (tDrop (tCall (sp_want K A) [] E (tCons (tCall (sp_all_within K A) [] E0 (tCons (tLst (tCons (tVar 2) tNil)) (tCons (tC (.int 0)) (tCons (tC (.int 4)) tNil)))) (tCons (tC (.int (-1))) tNil))))
    (tSeq (tAsg (tMeth A.cDesk "racing_car" (sp_d_racing_car K A) [] E (tVar 0) (tCons (tVar 1) tNil)) (gName 3))
    (tSeq (tDrop (tMeth A.cCar "take_tyres" (sp_c_take_tyres K A) [] E0 (tVar 3) (tCons (tVar 2) tNil)))
    (tRet (tLst (tCons (tMeth A.cCar "pits" (sp_c_pits K A) [] E0 (tVar 3) tNil) tNil))))))
/-- Desk.through -/
def t_d_through (K : PySem.W.Frag) (A : Ad) (E : XK) : TS := (tSeq (tAsg (tMeth A.cDesk "racing_car" (sp_d_racing_car K A) [] E (tVar 0) (tCons (tVar 1) tNil)) (gName 2))
    (tSeq (tDrop (tCall (sp_want K A) [] E (tCons (tOp rGtI (tMeth A.cCar "ways" (sp_c_ways K A) [] E0 (tVar 2) tNil) (tC (.int 0))) (tCons (tC (.int (-5))) tNil))))
    (tSeq (tDrop (tMeth A.cCar "go_through" (sp_c_go_through K A) [] E0 (tVar 2) tNil))
    (tRet (tLst (tCons (tMeth A.cCar "ways" (sp_c_ways K A) [] E0 (tVar 2) tNil) tNil))))))
/-- Desk.send -/
def t_d_send (K : PySem.W.Frag) (A : Ad) (E : XK) : TS := (tSeq (tAsg (tMeth A.cDesk "racing_car" (sp_d_racing_car K A) [] E (tVar 0) (tCons (tVar 1) tNil)) (gName 2))
    (tSeq (tDrop (tMeth A.cCar "take_sending" (sp_c_take_sending K A) [] E0 (tVar 2) tNil))
    (tRet (tLst (tCons (tMeth A.cCar "ways" (sp_c_ways K A) [] E0 (tVar 2) tNil) tNil)))))
/-- Desk.leaving -/
def t_d_leaving (K : PySem.W.Frag) (A : Ad) (E : XK) : TS := (tSeq (tAsg (tMeth A.cDesk "racing_car" (sp_d_racing_car K A) [] E (tVar 0) (tCons (tVar 1) tNil)) (gName 2))
    (tSeq (tDrop (tMeth A.cCar "leave" (sp_c_leave K A) [] E0 (tVar 2) tNil))
    (tRet (tLst (tCons (tC (.int 0)) tNil)))))
/-- Desk.card -/
def t_d_card (K : PySem.W.Frag) (A : Ad) (E : XK) : TS := (tSeq (tAsg (tMeth A.cDesk "car_of" (sp_d_car_of K A) [] E (tVar 0) (tCons (tVar 1) tNil)) (gName 2))
    (tSeq (tAsg (tFld K (tVar 0) "race") (gName 3))
    (tSeq (tAsg (tLst (tCons (tMeth A.cCar "laps" (sp_c_laps K A) [] E0 (tVar 2) tNil) (tCons (tMeth A.cRace "counting" (sp_r_counting K A) [] E0 (tVar 3) (tCons (tVar 2) tNil)) (tCons (tMeth A.cCar "penalty" (sp_c_penalty K A) [] E0 (tVar 2) tNil) (tCons (tMeth A.cCar "ways" (sp_c_ways K A) [] E0 (tVar 2) tNil) (tCons (tMeth A.cCar "pits" (sp_c_pits K A) [] E0 (tVar 2) tNil) tNil)))))) (gName 4))
    (tRet (tOp rCat (tVar 4) (tLst (tCons (tCB rInt1 (tCons (tFld K (tVar 2) "has_left") tNil)) (tCons (tCB rInt1 (tCons (tMeth A.cRace "is_out" (sp_r_is_out K A) [] E0 (tVar 3) (tCons (tVar 2) tNil)) tNil)) (tCons (tCall (sp_best_lap K A) [] E0 (tCons (tVar 3) (tCons (tVar 2) tNil))) tNil)))))))))
/-- classed -/
def t_classed (K : PySem.W.Frag) (A : Ad) : TS := (tSeq (tAsg (tCall (sp_ordered K A) [] E0 (tCons (tVar 0) tNil)) (gName 1))
    (tSeq (tIfS (tTest (tOp (rEqNil K) (tVar 1) (tLst tNil))) (tRet (tLst tNil)) tNext)
    (tSeq (tAsg (tMeth A.cRace "counting" (sp_r_counting K A) [] E0 (tVar 0) (tCons (tOp (rIxL K) (tVar 1) (tC (.int 0))) tNil)) (gName 2))
    (tRet (tLc (iList K (tVar 1)) (gName 3) (tTest (tOp rGeI (tOp rTimes (tC (.int 10)) (tMeth A.cRace "counting" (sp_r_counting K A) [] E0 (tVar 0) (tCons (tVar 3) tNil))) (tOp rTimes (tC (.int 9)) (tVar 2)))) (tVar 3) [3])))))
/-- halves_of -/
def t_halves_of (K : PySem.W.Frag) (A : Ad) : TS := (tSeq (tAsg (tCall (sp_level_of K A) [] E0 (tCons (tVar 0) (tCons (tVar 1) tNil))) (gName 2))
    (tSeq (tAsg (tCall (sp_points_by_places K A) [] E0 (tCons (tVar 2) (tCons (tCB (Evl.rLenS K) (tCons (tVar 1) tNil)) tNil))) (gName 3))
    (tSeq (tAsg (tCall (sp_fastest_number K A) [] E0 (tCons (tVar 0) (tCons (tVar 1) tNil))) (gName 4))
    (tSeq (tFor (iEnum K (tCons (tSl (rSlL K) (tVar 1) tNoPart (tPart (tCB (Evl.rLenS K) (tCons (tC (.ref A.a_POINTS)) tNil)))) tNil)) (gTup K 2 (gCons (gName 5) (gCons (gName 6) gNil))) (tIfS (tAnd (tTest (tOp rEq (tVar 2) (tC (.int 2)))) (tTest (tOp rEq (tFld K (tVar 6) "number") (tVar 4)))) (tAsg (tOp rPlus (tOp (rIxL K) (tVar 3) (tVar 5)) (tC (.int 2))) (gSub (tVar 3) (tVar 5) rSetL)) tNext))
    (tRet (tVar 3))))))
/-- answer_with_car -/
def t_answer_with_car (K : PySem.W.Frag) (A : Ad) (E : XK) : TS := (tSeq (tIfS (tTest (tOp rEq (tVar 1) (tC (.int 2)))) (tRet (tMeth A.cDesk "cross" (sp_d_cross K A) [] E (tVar 0) (tCons (tOp (rIxL K) (tVar 2) (tC (.int 0))) (tCons (tOp (rIxL K) (tVar 2) (tC (.int 1))) tNil)))) tNext)
    (tSeq (tIfS (tTest (tOp rEq (tVar 1) (tC (.int 3)))) (tRet (tMeth A.cDesk "pit" (sp_d_pit K A) [] E (tVar 0) (tCons (tOp (rIxL K) (tVar 2) (tC (.int 0))) (tCons (tOp (rIxL K) (tVar 2) (tC (.int 1))) tNil)))) tNext)
    (tSeq (tIfS (tTest (tOp rEq (tVar 1) (tC (.int 4)))) (tRet (tMeth A.cDesk "through" (sp_d_through K A) [] E (tVar 0) (tCons (tOp (rIxL K) (tVar 2) (tC (.int 0))) tNil))) tNext)
    (tSeq (tIfS (tTest (tOp rEq (tVar 1) (tC (.int 5)))) (tRet (tMeth A.cDesk "seconds" (sp_d_seconds K A) [] E (tVar 0) (tCons (tOp (rIxL K) (tVar 2) (tC (.int 0))) (tCons (tOp (rIxL K) (tVar 2) (tC (.int 1))) tNil)))) tNext)
    (tSeq (tIfS (tTest (tOp rEq (tVar 1) (tC (.int 6)))) (tRet (tMeth A.cDesk "send" (sp_d_send K A) [] E (tVar 0) (tCons (tOp (rIxL K) (tVar 2) (tC (.int 0))) tNil))) tNext)
    (tSeq (tIfS (tTest (tOp rEq (tVar 1) (tC (.int 7)))) (tRet (tMeth A.cDesk "leaving" (sp_d_leaving K A) [] E (tVar 0) (tCons (tOp (rIxL K) (tVar 2) (tC (.int 0))) tNil))) tNext)
    (tRet (tMeth A.cDesk "throwing" (sp_d_throwing K A) [] E (tVar 0) (tCons (tOp (rIxL K) (tVar 2) (tC (.int 0))) tNil)))))))))
/-- halves_of_team -/
def t_halves_of_team (K : PySem.W.Frag) (A : Ad) : TS := (tSeq (tAsg (tCall (sp_classed K A) [] E0 (tCons (tVar 0) tNil)) (gName 2))
    (tRet (tCB (rSum K) (tCons (tLc (iZip K (tCons (tVar 2) (tCons (tCall (sp_halves_of K A) [] E0 (tCons (tVar 0) (tCons (tVar 2) tNil))) tNil))) (gTup K 2 (gCons (gName 3) (gCons (gName 4) gNil))) (tTest (tOp rEq (tFld K (tVar 3) "team") (tVar 1))) (tVar 4) [3, 4]) tNil))))
/-- Desk.result -/
def t_d_result (K : PySem.W.Frag) (A : Ad) (E : XK) : TS := (tSeq (tDrop (tMeth A.cDesk "want_fallen" (sp_d_want_fallen K A) [] E (tVar 0) tNil))
    (tSeq (tAsg (tFld K (tVar 0) "race") (gName 1))
    (tSeq (tAsg (tCall (sp_classed K A) [] E0 (tCons (tVar 1) tNil)) (gName 2))
    (tSeq (tAsg (tLst (tCons (tCB (Evl.rLenS K) (tCons (tVar 2) tNil)) (tCons (tCall (sp_level_of K A) [] E0 (tCons (tVar 1) (tCons (tVar 2) tNil))) (tCons (tCall (sp_fastest_number K A) [] E0 (tCons (tVar 1) (tCons (tVar 2) tNil))) tNil)))) (gName 3))
    (tSeq (tFor (iZip K (tCons (tVar 2) (tCons (tCall (sp_halves_of K A) [] E0 (tCons (tVar 1) (tCons (tVar 2) tNil))) tNil))) (gTup K 2 (gCons (gName 4) (gCons (gName 5) gNil))) (tDrop (tBM K "list" rExtend (tVar 3) (tCons (tLst (tCons (tFld K (tVar 4) "number") (tCons (tMeth A.cRace "counting" (sp_r_counting K A) [] E0 (tVar 1) (tCons (tVar 4) tNil)) (tCons (tCall (sp_time_with_penalties K A) [] E0 (tCons (tVar 1) (tCons (tVar 4) tNil))) (tCons (tVar 5) tNil))))) tNil))))
    (tRet (tVar 3)))))))
/-- Desk.teams -/
def t_d_teams (K : PySem.W.Frag) (A : Ad) (E : XK) : TS := (tSeq (tDrop (tMeth A.cDesk "want_fallen" (sp_d_want_fallen K A) [] E (tVar 0) tNil))
    (tSeq (tAsg (tCall (sp_teams_in_order K A) [] E0 (tCons (tFld K (tVar 0) "race") tNil)) (gName 1))
    (tSeq (tAsg (tLst (tCons (tCB (Evl.rLenS K) (tCons (tVar 1) tNil)) tNil)) (gName 2))
    (tSeq (tFor (iList K (tVar 1)) (gName 3) (tDrop (tBM K "list" rExtend (tVar 2) (tCons (tLst (tCons (tVar 3) (tCons (tCall (sp_halves_of_team K A) [] E0 (tCons (tFld K (tVar 0) "race") (tCons (tVar 3) tNil))) tNil))) tNil))))
    (tRet (tVar 2))))))
/-- answer_without_lists -/
def t_answer_without_lists (K : PySem.W.Frag) (A : Ad) (E : XK) : TS := (tSeq (tIfS (tTest (tOp rLt (tVar 1) (tC (.int 9)))) (tRet (tCall (sp_answer_with_car K A) [] E (tCons (tVar 0) (tCons (tVar 1) (tCons (tVar 2) tNil))))) tNext)
    (tSeq (tIfS (tTest (tOp rEq (tVar 1) (tC (.int 9)))) (tRet (tMeth A.cDesk "stop" (sp_d_stop K A) [] E (tVar 0) tNil)) tNext)
    (tSeq (tIfS (tTest (tOp rEq (tVar 1) (tC (.int 10)))) (tRet (tMeth A.cDesk "now" (sp_d_now K A) [] E0 (tVar 0) tNil)) tNext)
    (tSeq (tIfS (tTest (tOp rEq (tVar 1) (tC (.int 11)))) (tRet (tMeth A.cDesk "card" (sp_d_card K A) [] E (tVar 0) (tCons (tOp (rIxL K) (tVar 2) (tC (.int 0))) tNil))) tNext)
    (tSeq (tIfS (tTest (tOp rEq (tVar 1) (tC (.int 12)))) (tRet (tMeth A.cDesk "result" (sp_d_result K A) [] E (tVar 0) tNil)) tNext)
    (tRet (tMeth A.cDesk "teams" (sp_d_teams K A) [] E (tVar 0) tNil)))))))
/-- the suite of answer's clause -/
def t_answer_suite (K : PySem.W.Frag) (A : Ad) : Addr → Value → Option Addr → TS := fun a cls d => (tRet (tLst (tCons (tXf a cls d A.cRefused "refusal" (tVar 4)) tNil)))
/-- its body -/
def t_answer_try (K : PySem.W.Frag) (A : Ad) (W : WX) : TS := (tSeq (tIfS (tTest (tOp rEq (tVar 1) (tC (.int 1)))) (tRet (tMethS A.cDesk "begin" (sp_d_begin K A) (WE W) (tVar 0) (tCons (tOp (rIxL K) (tVar 2) (tC (.int 0))) (tCons (tOp (rIxL K) (tVar 2) (tC (.int 1))) (tCons (tOp (rIxL K) (tVar 3) (tC (.int 0))) (tCons (tOp (rIxL K) (tVar 3) (tC (.int 1))) tNil)))))) tNext)
    (tRet (tCallS (sp_answer_without_lists K A) (WE W) (tCons (tVar 0) (tCons (tVar 1) (tCons (tVar 2) tNil))))))

/-- answer -/
def t_answer (K : PySem.W.Frag) (A : Ad) : TS := (fun D σ H => t_answer_try K A (wAs K (.ref A.cRefused) 4 (t_answer_suite K A) (fun _ _ _ _ => False) D) D σ H)
/-- answers -/
def t_answers (K : PySem.W.Frag) (A : Ad) : TS := (tSeq (tAsg (tMake A.cDesk (sp_d_init K A) [] E0 tNil) (gName 1))
    (tSeq (tAsg (tLst tNil) (gName 2))
    (tSeq (tAsg (tC (.int 0)) (gName 3))
    (tSeq (tWhile (tTest (tOp rLt (tVar 3) (tCB (Evl.rLenS K) (tCons (tVar 0) tNil)))) (tSeq (tAsg (tOp (rIxL K) (tVar 0) (tVar 3)) (gName 4))
    (tSeq (tAsg (tOp rPlus (tOp rPlus (tVar 3) (tC (.int 1))) (tOp (rIxT K) (tC (.ref A.a_NUMBERS)) (tVar 4))) (gName 5))
    (tSeq (tAsg (tSl (rSlL K) (tVar 0) (tPart (tOp rPlus (tVar 3) (tC (.int 1)))) (tPart (tVar 5))) (gName 6))
    (tSeq (tAsg (tLst tNil) (gName 7))
    (tSeq (tIfS (tTest (tOp rEq (tVar 4) (tC (.int 1)))) (tSeq (tAsg (tCall (sp_list_at K A) [] E0 (tCons (tVar 0) (tCons (tVar 5) tNil))) (gTup K 2 (gCons (gName 8) (gCons (gName 5) gNil))))
    (tSeq (tAsg (tCall (sp_list_at K A) [] E0 (tCons (tVar 0) (tCons (tVar 5) tNil))) (gTup K 2 (gCons (gName 9) (gCons (gName 5) gNil))))
    (tAsg (tLst (tCons (tVar 8) (tCons (tVar 9) tNil))) (gName 7)))) tNext)
    (tSeq (tAsg (tCall (sp_answer K A) [] E0 (tCons (tVar 1) (tCons (tVar 4) (tCons (tVar 6) (tCons (tVar 7) tNil))))) (gName 10))
    (tSeq (tDrop (tBM K "list" rAppend (tVar 2) (tCons (tCB (Evl.rLenS K) (tCons (tVar 10) tNil)) tNil)))
    (tSeq (tDrop (tBM K "list" rExtend (tVar 2) (tCons (tVar 10) tNil)))
    (tAsg (tVar 5) (gName 3)))))))))))
    (tRet (tVar 2))))))
end L2

set_option maxRecDepth 100000
set_option maxHeartbeats 1000000
namespace L2
/-! ### the least of some numbers -/
theorem minF_some : ∀ (l : List Nat) (u : Nat), ∃ m, l.foldl minF (some u) = some m ∧ (m = u ∨ m ∈ l) ∧ m ≤ u ∧ ∀ y ∈ l, m ≤ y
  | [], u => ⟨u, rfl, .inl rfl, Nat.le_refl _, fun y h => absurd h (by simp)⟩
  | x :: r, u => by
    obtain ⟨m, h1, h2, h3, h4⟩ := minF_some r (min x u)
    refine ⟨m, (by rw [List.foldl_cons]; exact h1), ?_, by omega, fun y hy => ?_⟩
    · rcases h2 with h2 | h2
      · by_cases c : u ≤ x
        · left; omega
        · right; simp; left; omega
      · right; simp [h2]
    · rcases List.mem_cons.mp hy with rfl | hy
      · omega
      · exact h4 y hy
theorem minF_nil : ([] : List Nat).foldl minF none = none := rfl
theorem minF_cons (x : Nat) (r : List Nat) : ∃ m, (x :: r).foldl minF none = some m ∧ m ∈ x :: r ∧ ∀ y ∈ x :: r, m ≤ y := by
  obtain ⟨m, h1, h2, h3, h4⟩ := minF_some r x
  refine ⟨m, h1, ?_, fun y hy => ?_⟩
  · rcases h2 with rfl | h2
    · simp
    · simp [h2]
  · rcases List.mem_cons.mp hy with rfl | hy
    · exact h3
    · exact h4 y hy
theorem minF_none {l : List Nat} : l.foldl minF none = none ↔ l = [] := by
  cases l with
  | nil => simp
  | cons x r =>
    obtain ⟨m, h, _⟩ := minF_cons x r
    rw [h]; simp
theorem minF_is {l : List Nat} {m : Nat} (h1 : m ∈ l) (h2 : ∀ y ∈ l, m ≤ y) : l.foldl minF none = some m := by
  cases l with
  | nil => simp at h1
  | cons x r =>
    obtain ⟨k, h, h3, h4⟩ := minF_cons x r
    have a := h2 k h3
    have b := h4 m h1
    rw [h]; congr 1; omega
theorem minF_get {l : List Nat} {m : Nat} (h : l.foldl minF none = some m) : m ∈ l ∧ ∀ y ∈ l, m ≤ y := by
  cases l with
  | nil => simp at h
  | cons x r =>
    obtain ⟨k, h1, h3, h4⟩ := minF_cons x r
    rw [h] at h1
    cases h1
    exact ⟨h3, h4⟩
/-! ### the greatest -/
theorem maxF_ge : ∀ (l : List Nat) (u : Nat), u ≤ l.foldl max u ∧ (∀ y ∈ l, y ≤ l.foldl max u) ∧ (l.foldl max u = u ∨ l.foldl max u ∈ l)
  | [], u => ⟨Nat.le_refl _, fun y h => absurd h (by simp), .inl rfl⟩
  | x :: r, u => by
    obtain ⟨h1, h2, h3⟩ := maxF_ge r (max u x)
    refine ⟨by rw [List.foldl_cons]; omega, fun y hy => ?_, ?_⟩
    · rcases List.mem_cons.mp hy with rfl | hy
      · rw [List.foldl_cons]; omega
      · exact h2 y hy
    · rw [List.foldl_cons]
      rcases h3 with h3 | h3
      · rw [h3]
        by_cases c : u ≤ x
        · right; simp; left; omega
        · left; omega
      · right; simp [h3]
theorem maxF_is {l : List Nat} {m : Nat} (h1 : m ∈ l) (h2 : ∀ y ∈ l, y ≤ m) : l.foldl max 0 = m := by
  obtain ⟨_, a, b⟩ := maxF_ge l 0
  have c := a m h1
  rcases b with b | b
  · omega
  · have := h2 _ b; omega
/-! ### cars by their places -/
theorem car_get {s : KSt} {i : Nat} (h : i < s.cars.length) : s.car i = s.cars[i] := by
  unfold Kg68.State.car
  rw [List.getD_eq_getElem?_getD, List.getElem?_eq_getElem h]
  rfl
theorem car_mem {s : KSt} {i : Nat} (h : i < s.cars.length) : s.car i ∈ s.cars := by
  rw [car_get h]; exact List.getElem_mem h
theorem mem_car {s : KSt} {c : KCar} (h : c ∈ s.cars) : ∃ i, i < s.cars.length ∧ s.car i = c := by
  obtain ⟨i, hi, e⟩ := List.getElem_of_mem h
  exact ⟨i, hi, by rw [car_get hi, e]⟩
theorem cars_range (s : KSt) : s.cars = (List.range s.cars.length).map s.car := by
  apply List.ext_getElem
  · simp
  · intro i h1 h2
    rw [List.getElem_map, List.getElem_range, car_get h1]
theorem setCar_len (s : KSt) (k : Nat) (f : KCar → KCar) : (Kg68.setCar s k f).cars.length = s.cars.length := by
  unfold Kg68.setCar; simp
theorem setCar_car (s : KSt) (k : Nat) (f : KCar → KCar) {i : Nat} (h : i < s.cars.length) : (Kg68.setCar s k f).car i = if i = k then f (s.car i) else s.car i := by
  rw [car_get (by rw [setCar_len]; exact h), car_get h]
  unfold Kg68.setCar
  simp
theorem setCar_laps (s : KSt) (k : Nat) (f : KCar → KCar) : (Kg68.setCar s k f).laps = s.laps := rfl
theorem setCar_mem {s : KSt} {k : Nat} {f : KCar → KCar} {c : KCar} (h : c ∈ (Kg68.setCar s k f).cars) : c ∈ s.cars ∨ ∃ i, i < s.cars.length ∧ i = k ∧ c = f (s.car i) := by
  obtain ⟨i, hi, e⟩ := mem_car h
  rw [setCar_len] at hi
  rw [setCar_car s k f hi] at e
  by_cases c1 : i = k
  · right; exact ⟨i, hi, c1, by rw [← e, if_pos c1]⟩
  · left; rw [← e, if_neg c1]; exact car_mem hi
/-! ### tyres, sendings -/
theorem erase_all : ∀ (l : List Nat) (x : Nat), (l.all fun y => decide (y = x)) = decide ((x :: l).eraseDups.length < 2)
  | l, x => by
    rw [List.eraseDups_cons]
    cases e : List.filter (fun b => !b == x) l with
    | nil =>
      have h : ∀ y ∈ l, y = x := fun y hy => by
        have := List.filter_eq_nil_iff.mp e y hy
        simpa using this
      rw [List.all_eq_true.mpr (fun y hy => decide_eq_true (h y hy))]
      simp
    | cons z r =>
      have hz : z ∈ List.filter (fun b => !b == x) l := by rw [e]; simp
      obtain ⟨h1, h2⟩ := List.mem_filter.mp hz
      have h3 : (l.all fun y => decide (y = x)) = false := by
        rw [Bool.eq_false_iff]
        intro h
        have := of_decide_eq_true (List.all_eq_true.mp h z h1)
        simp [this] at h2
      rw [h3, List.eraseDups_cons]
      simp
theorem sent_any {x : Nat} {r : List Nat} {n : Nat} (h : (x :: r).Pairwise (· ≤ ·)) : ((x :: r).any fun k => decide (k + Kg68.WITHIN < n)) = decide (x + 3 < n) := by
  rw [List.any_cons]
  by_cases c : x + 3 < n
  · rw [decide_eq_true (show x + Kg68.WITHIN < n from c), decide_eq_true c]; rfl
  · rw [decide_eq_false (show ¬ x + Kg68.WITHIN < n from c), decide_eq_false c, Bool.false_or, List.any_eq_false]
    intro y hy
    have := List.rel_of_pairwise_cons h hy
    have e : Kg68.WITHIN = 3 := rfl
    simp only [e, decide_eq_true_eq]
    omega
/-! ### the flag, home, the crossings that count -/
theorem flag_eq (s : KSt) : s.flag = if s.flagLap = 0 then some 0 else flagAt s s.flagLap := rfl
theorem before_lt (l : List Nat) (f : Nat) : decide ((l.filter fun t => decide (t < f)).length < l.length) = l.any fun t => decide (f ≤ t) := by
  by_cases h : ∃ t ∈ l, f ≤ t
  · have e : (l.any fun t => decide (f ≤ t)) = true := by
      obtain ⟨t, h1, h2⟩ := h
      exact List.any_eq_true.mpr ⟨t, h1, decide_eq_true h2⟩
    rw [e, decide_eq_true_eq]
    have hle := List.length_filter_le (fun t => decide (t < f)) l
    have hne : (l.filter fun t => decide (t < f)).length ≠ l.length := fun q => by
      rw [List.length_filter_eq_length_iff] at q
      obtain ⟨t, h1, h2⟩ := h
      have := of_decide_eq_true (q t h1)
      omega
    omega
  · have e : (l.any fun t => decide (f ≤ t)) = false := by
      rw [List.any_eq_false]
      intro t h1 h2
      exact h ⟨t, h1, of_decide_eq_true h2⟩
    rw [e, decide_eq_false_iff_not]
    have : (l.filter fun t => decide (t < f)) = l := List.filter_eq_self.mpr fun t ht => decide_eq_true (by
      by_cases c : t < f
      · exact c
      · exact absurd ⟨t, ht, by omega⟩ h)
    rw [this]; omega
theorem crossings_none {s : KSt} {i : Nat} (h : s.flag = none) : s.crossings i = (s.car i).laps := by
  have h0 : s.flagLap ≠ 0 := fun z => by rw [flag_eq, if_pos z] at h; cases h
  unfold Kg68.State.crossings
  rw [if_neg h0, h]; rfl
theorem crossings_void {s : KSt} {i : Nat} (h : s.flagLap = 0) : s.crossings i = [] := by
  unfold Kg68.State.crossings
  rw [if_pos h]
theorem crossings_some {s : KSt} {i f : Nat} (h : s.flag = some f) (h0 : s.flagLap ≠ 0) : s.crossings i = (s.car i).laps.take (((s.car i).laps.filter fun t => decide (t < f)).length + 1) := by
  unfold Kg68.State.crossings
  rw [if_neg h0, h]; rfl
/-- they are the first ones -/
theorem crossings_take (s : KSt) (i : Nat) : s.crossings i = (s.car i).laps.take (s.crossings i).length ∧ (s.crossings i).length ≤ (s.car i).laps.length := by
  by_cases h0 : s.flagLap = 0
  · rw [crossings_void h0]; simp
  · cases h : s.flag with
    | none => rw [crossings_none h]; simp
    | some f =>
      rw [crossings_some h h0]
      refine ⟨?_, by rw [List.length_take]; omega⟩
      rw [List.length_take, List.take_eq_take_iff]
      omega
theorem home_none {s : KSt} {i : Nat} (h : s.flag = none) : s.home i = false := by
  unfold Kg68.State.home; rw [h]
theorem home_some {s : KSt} {i f : Nat} (h : s.flag = some f) : s.home i = (s.flagLap == 0 || decide (((s.car i).laps.filter fun t => decide (t < f)).length < (s.car i).laps.length)) := by
  unfold Kg68.State.home
  rw [h, before_lt]
/-- a car that isn't home has fewer laps than the flag's -/
theorem home_few {s : KSt} {i : Nat} (hi : i < s.cars.length) (h : s.home i = false) : s.flagLap ≠ 0 ∧ (s.car i).laps.length < s.flagLap := by
  have h0 : s.flagLap ≠ 0 := fun z => by
    have e : s.flag = some 0 := by rw [flag_eq, if_pos z]
    rw [home_some e, z] at h
    simp at h
  refine ⟨h0, ?_⟩
  rcases Nat.lt_or_ge (s.car i).laps.length s.flagLap with c | c
  · exact c
  · exfalso
    have hk : s.flagLap - 1 < (s.car i).laps.length := by omega
    have hm : (s.car i).laps[s.flagLap - 1] ∈ s.cars.filterMap fun c => c.laps[s.flagLap - 1]? := List.mem_filterMap.mpr ⟨s.car i, car_mem hi, by rw [List.getElem?_eq_getElem hk]⟩
    cases e : s.flag with
    | none =>
      rw [flag_eq, if_neg h0] at e
      have := minF_none.mp e
      rw [this] at hm; simp at hm
    | some f =>
      have e' := e
      rw [flag_eq, if_neg h0] at e'
      have hf := (minF_get e').2 _ hm
      rw [home_some e, Bool.or_eq_false_iff, before_lt, List.any_eq_false] at h
      exact h.2 _ (List.getElem_mem hk) (decide_eq_true hf)
end L2

set_option Elab.async false
set_option linter.all false
set_option maxRecDepth 100000
set_option maxHeartbeats 4000000
namespace L2
open PySem PySem.Spec PyProof.Rows
open Evl
/-! ### fields -/
theorem lk_here {k : Str} {v : V} {r : List (Str × V)} : List.lookup k ((k, v) :: r) = some v := by
  have e : (k == k) = true := beq_self_eq_true k
  simp only [List.lookup, e]
theorem lk_past {k g : Str} {v : V} {r : List (Str × V)} (h : (k == g) = false) : List.lookup k ((g, v) :: r) = List.lookup k r := by
  simp only [List.lookup, h]
theorem put_here {f : Str} {v x : V} {r : List (Str × V)} : putF f v ((f, x) :: r) = (f, v) :: r := if_pos rfl
theorem put_past {f g : Str} {v x : V} {r : List (Str × V)} (h : ¬ g = f) : putF f v ((g, x) :: r) = (g, x) :: putF f v r := if_neg h
theorem look_no {m : Str} : ∀ {fs : List (Str × V)} {ks : List Str}, fs.map (·.1) = ks → (ks.all fun k => !(m == k)) = true → fs.lookup m = none
  | [], _, _, _ => rfl
  | (g, v) :: r, ks, e, h => by
    subst e
    rw [List.map_cons, List.all_cons, Bool.and_eq_true] at h
    have h1 : (m == g) = false := by simpa using h.1
    rw [lk_past h1]
    exact look_no (ks := r.map (·.1)) rfl h.2
section
variable {i : Nat} {L : CarL} {c : KCar} {y : RaceL} {s : KSt}
theorem carK_is : (carF i L c).map (·.1) = (["number", "team", "kinds", "times", "sent", "is_late", "added", "has_left", "is_thrown"] : List Str) := rfl
theorem raceK_is : (raceF y s).map (·.1) = (["many_laps", "is_wet", "cars", "last_told", "counted_for"] : List Str) := rfl
theorem carF_number : (carF i L c).lookup ("number" : Str) = some (.int (i : Int)) := lk_here
theorem carF_team : (carF i L c).lookup ("team" : Str) = some (.int (c.team : Int)) := (lk_past (by decide +kernel)).trans (lk_here)
theorem carF_kinds : (carF i L c).lookup ("kinds" : Str) = some (.ref L.ki) := (lk_past (by decide +kernel)).trans ((lk_past (by decide +kernel)).trans (lk_here))
theorem carF_times : (carF i L c).lookup ("times" : Str) = some (.ref L.ti) := (lk_past (by decide +kernel)).trans ((lk_past (by decide +kernel)).trans ((lk_past (by decide +kernel)).trans (lk_here)))
theorem carF_sent : (carF i L c).lookup ("sent" : Str) = some (.ref L.se) := (lk_past (by decide +kernel)).trans ((lk_past (by decide +kernel)).trans ((lk_past (by decide +kernel)).trans ((lk_past (by decide +kernel)).trans (lk_here))))
theorem carF_is_late : (carF i L c).lookup ("is_late" : Str) = some (.bl c.late) := (lk_past (by decide +kernel)).trans ((lk_past (by decide +kernel)).trans ((lk_past (by decide +kernel)).trans ((lk_past (by decide +kernel)).trans ((lk_past (by decide +kernel)).trans (lk_here)))))
theorem carF_added : (carF i L c).lookup ("added" : Str) = some (.int (c.secs : Int)) := (lk_past (by decide +kernel)).trans ((lk_past (by decide +kernel)).trans ((lk_past (by decide +kernel)).trans ((lk_past (by decide +kernel)).trans ((lk_past (by decide +kernel)).trans ((lk_past (by decide +kernel)).trans (lk_here))))))
theorem carF_has_left : (carF i L c).lookup ("has_left" : Str) = some (.bl c.out) := (lk_past (by decide +kernel)).trans ((lk_past (by decide +kernel)).trans ((lk_past (by decide +kernel)).trans ((lk_past (by decide +kernel)).trans ((lk_past (by decide +kernel)).trans ((lk_past (by decide +kernel)).trans ((lk_past (by decide +kernel)).trans (lk_here)))))))
theorem carF_is_thrown : (carF i L c).lookup ("is_thrown" : Str) = some (.bl c.thrown) := (lk_past (by decide +kernel)).trans ((lk_past (by decide +kernel)).trans ((lk_past (by decide +kernel)).trans ((lk_past (by decide +kernel)).trans ((lk_past (by decide +kernel)).trans ((lk_past (by decide +kernel)).trans ((lk_past (by decide +kernel)).trans ((lk_past (by decide +kernel)).trans (lk_here))))))))
theorem raceF_many_laps : (raceF y s).lookup ("many_laps" : Str) = some (.int (s.laps : Int)) := lk_here
theorem raceF_is_wet : (raceF y s).lookup ("is_wet" : Str) = some (.bl s.wet) := (lk_past (by decide +kernel)).trans (lk_here)
theorem raceF_cars : (raceF y s).lookup ("cars" : Str) = some (.ref y.ac) := (lk_past (by decide +kernel)).trans ((lk_past (by decide +kernel)).trans (lk_here))
theorem raceF_last_told : (raceF y s).lookup ("last_told" : Str) = some (.int (s.time : Int)) := (lk_past (by decide +kernel)).trans ((lk_past (by decide +kernel)).trans ((lk_past (by decide +kernel)).trans (lk_here)))
theorem raceF_counted_for : (raceF y s).lookup ("counted_for" : Str) = some (optV s.stopped) := (lk_past (by decide +kernel)).trans ((lk_past (by decide +kernel)).trans ((lk_past (by decide +kernel)).trans ((lk_past (by decide +kernel)).trans (lk_here))))
theorem carP_is_late (b : Bool) : putF "is_late" (.bl b) (carF i L c) = carF i L { c with late := b } := (put_past (by decide +kernel)).trans (congrArg _ ((put_past (by decide +kernel)).trans (congrArg _ ((put_past (by decide +kernel)).trans (congrArg _ ((put_past (by decide +kernel)).trans (congrArg _ ((put_past (by decide +kernel)).trans (congrArg _ (put_here))))))))))
theorem carP_added (n : Nat) : putF "added" (.int (n : Int)) (carF i L c) = carF i L { c with secs := n } := (put_past (by decide +kernel)).trans (congrArg _ ((put_past (by decide +kernel)).trans (congrArg _ ((put_past (by decide +kernel)).trans (congrArg _ ((put_past (by decide +kernel)).trans (congrArg _ ((put_past (by decide +kernel)).trans (congrArg _ ((put_past (by decide +kernel)).trans (congrArg _ (put_here))))))))))))
theorem carP_has_left (b : Bool) : putF "has_left" (.bl b) (carF i L c) = carF i L { c with out := b } := (put_past (by decide +kernel)).trans (congrArg _ ((put_past (by decide +kernel)).trans (congrArg _ ((put_past (by decide +kernel)).trans (congrArg _ ((put_past (by decide +kernel)).trans (congrArg _ ((put_past (by decide +kernel)).trans (congrArg _ ((put_past (by decide +kernel)).trans (congrArg _ ((put_past (by decide +kernel)).trans (congrArg _ (put_here))))))))))))))
theorem carP_is_thrown (b : Bool) : putF "is_thrown" (.bl b) (carF i L c) = carF i L { c with thrown := b } := (put_past (by decide +kernel)).trans (congrArg _ ((put_past (by decide +kernel)).trans (congrArg _ ((put_past (by decide +kernel)).trans (congrArg _ ((put_past (by decide +kernel)).trans (congrArg _ ((put_past (by decide +kernel)).trans (congrArg _ ((put_past (by decide +kernel)).trans (congrArg _ ((put_past (by decide +kernel)).trans (congrArg _ ((put_past (by decide +kernel)).trans (congrArg _ (put_here))))))))))))))))
theorem carP_sent (p : Addr) : putF "sent" (.ref p) (carF i L c) = carF i { L with se := p } c := (put_past (by decide +kernel)).trans (congrArg _ ((put_past (by decide +kernel)).trans (congrArg _ ((put_past (by decide +kernel)).trans (congrArg _ ((put_past (by decide +kernel)).trans (congrArg _ (put_here))))))))
theorem raceP_last_told (t : Nat) : putF "last_told" (.int (t : Int)) (raceF y s) = raceF y { s with time := t } := (put_past (by decide +kernel)).trans (congrArg _ ((put_past (by decide +kernel)).trans (congrArg _ ((put_past (by decide +kernel)).trans (congrArg _ (put_here))))))
theorem raceP_counted_for (n : Nat) : putF "counted_for" (.int (n : Int)) (raceF y s) = raceF y { s with stopped := some n } := (put_past (by decide +kernel)).trans (congrArg _ ((put_past (by decide +kernel)).trans (congrArg _ ((put_past (by decide +kernel)).trans (congrArg _ ((put_past (by decide +kernel)).trans (congrArg _ (put_here))))))))
theorem carN_laps : (carF i L c).lookup ("laps" : Str) = none := look_no carK_is (by decide +kernel)
theorem carN_last_time : (carF i L c).lookup ("last_time" : Str) = none := look_no carK_is (by decide +kernel)
theorem carN_take_crossing : (carF i L c).lookup ("take_crossing" : Str) = none := look_no carK_is (by decide +kernel)
theorem carN_take_tyres : (carF i L c).lookup ("take_tyres" : Str) = none := look_no carK_is (by decide +kernel)
theorem carN_pits : (carF i L c).lookup ("pits" : Str) = none := look_no carK_is (by decide +kernel)
theorem carN_has_one_kind : (carF i L c).lookup ("has_one_kind" : Str) = none := look_no carK_is (by decide +kernel)
theorem carN_take_sending : (carF i L c).lookup ("take_sending" : Str) = none := look_no carK_is (by decide +kernel)
theorem carN_go_through : (carF i L c).lookup ("go_through" : Str) = none := look_no carK_is (by decide +kernel)
theorem carN_ways : (carF i L c).lookup ("ways" : Str) = none := look_no carK_is (by decide +kernel)
theorem carN_add_seconds : (carF i L c).lookup ("add_seconds" : Str) = none := look_no carK_is (by decide +kernel)
theorem carN_penalty : (carF i L c).lookup ("penalty" : Str) = none := look_no carK_is (by decide +kernel)
theorem carN_leave : (carF i L c).lookup ("leave" : Str) = none := look_no carK_is (by decide +kernel)
theorem carN_throw : (carF i L c).lookup ("throw" : Str) = none := look_no carK_is (by decide +kernel)
theorem raceN_most_laps : (raceF y s).lookup ("most_laps" : Str) = none := look_no raceK_is (by decide +kernel)
theorem raceN_fall : (raceF y s).lookup ("fall" : Str) = none := look_no raceK_is (by decide +kernel)
theorem raceN_has_fallen : (raceF y s).lookup ("has_fallen" : Str) = none := look_no raceK_is (by decide +kernel)
theorem raceN_is_void : (raceF y s).lookup ("is_void" : Str) = none := look_no raceK_is (by decide +kernel)
theorem raceN_is_home : (raceF y s).lookup ("is_home" : Str) = none := look_no raceK_is (by decide +kernel)
theorem raceN_counting : (raceF y s).lookup ("counting" : Str) = none := look_no raceK_is (by decide +kernel)
theorem raceN_is_out : (raceF y s).lookup ("is_out" : Str) = none := look_no raceK_is (by decide +kernel)
theorem raceN_take_crossing_of : (raceF y s).lookup ("take_crossing_of" : Str) = none := look_no raceK_is (by decide +kernel)
theorem raceN_be_stopped : (raceF y s).lookup ("be_stopped" : Str) = none := look_no raceK_is (by decide +kernel)
theorem deskN_car_of {v : V} : List.lookup ("car_of" : Str) [("race", v)] = none := look_no (ks := ["race"]) rfl (by decide +kernel)
theorem deskN_racing_car {v : V} : List.lookup ("racing_car" : Str) [("race", v)] = none := look_no (ks := ["race"]) rfl (by decide +kernel)
theorem deskN_want_fallen {v : V} : List.lookup ("want_fallen" : Str) [("race", v)] = none := look_no (ks := ["race"]) rfl (by decide +kernel)
theorem deskN_begin {v : V} : List.lookup ("begin" : Str) [("race", v)] = none := look_no (ks := ["race"]) rfl (by decide +kernel)
theorem deskN_cross {v : V} : List.lookup ("cross" : Str) [("race", v)] = none := look_no (ks := ["race"]) rfl (by decide +kernel)
theorem deskN_pit {v : V} : List.lookup ("pit" : Str) [("race", v)] = none := look_no (ks := ["race"]) rfl (by decide +kernel)
theorem deskN_through {v : V} : List.lookup ("through" : Str) [("race", v)] = none := look_no (ks := ["race"]) rfl (by decide +kernel)
theorem deskN_seconds {v : V} : List.lookup ("seconds" : Str) [("race", v)] = none := look_no (ks := ["race"]) rfl (by decide +kernel)
theorem deskN_send {v : V} : List.lookup ("send" : Str) [("race", v)] = none := look_no (ks := ["race"]) rfl (by decide +kernel)
theorem deskN_leaving {v : V} : List.lookup ("leaving" : Str) [("race", v)] = none := look_no (ks := ["race"]) rfl (by decide +kernel)
theorem deskN_throwing {v : V} : List.lookup ("throwing" : Str) [("race", v)] = none := look_no (ks := ["race"]) rfl (by decide +kernel)
theorem deskN_stop {v : V} : List.lookup ("stop" : Str) [("race", v)] = none := look_no (ks := ["race"]) rfl (by decide +kernel)
theorem deskN_now {v : V} : List.lookup ("now" : Str) [("race", v)] = none := look_no (ks := ["race"]) rfl (by decide +kernel)
theorem deskN_card {v : V} : List.lookup ("card" : Str) [("race", v)] = none := look_no (ks := ["race"]) rfl (by decide +kernel)
theorem deskN_result {v : V} : List.lookup ("result" : Str) [("race", v)] = none := look_no (ks := ["race"]) rfl (by decide +kernel)
theorem deskN_teams {v : V} : List.lookup ("teams" : Str) [("race", v)] = none := look_no (ks := ["race"]) rfl (by decide +kernel)
end
/-! ### more of what evaluates to what -/
theorem exr (H : Hp) : Ex H H := Ex.refl H
section
variable {K : PySem.W.Frag} {mg : Str → Option Value} {A : Ad} {σ : L2.St} {H H' : Hp} {ta tb te : TE} {t : TA} {a C dx : Addr} {fs : List (Str × V)} {f m : Str} {x z v : V} {E : XK} {sp : Sp} {vs dvs : List V} {i j : Int} {b : Bool}
theorem ev_fld (h : Ev ta σ H (.ref a)) (ho : H a = some (.ins C dx fs)) (hc : Cls K C) (hn : NoAttr K C f) (hl : fs.lookup f = some v) : Ev (tFld K ta f) σ H v := fun H1 e Q q =>
  h H1 e _ fun H2 e2 => ⟨a, C, dx, fs, v, rfl, e2 _ _ (e _ _ ho), hc, hn, hl, q H2 e2⟩
theorem ev_meth (h : Ev ta σ H (.ref a)) (ho : H a = some (.ins C dx fs)) (hl : fs.lookup m = none) (ht : EvA t σ H vs) (hs : SpV sp (.ref a :: (vs ++ dvs)) H z) : Ev (tMeth C m sp dvs E ta t) σ H z := fun H1 e Q q =>
  h H1 e _ fun H2 e2 => ⟨a, dx, fs, rfl, e2 _ _ (e _ _ ho), hl, ht H2 (e.trans e2) _ fun H3 e3 => hs H3 ((e.trans e2).trans e3) Q (fun H4 e4 => q H4 ((e2.trans e3).trans e4)) E⟩
theorem el_meth {xs : List V} (h : Ev ta σ H (.ref a)) (ho : H a = some (.ins C dx fs)) (hl : fs.lookup m = none) (ht : EvA t σ H vs) (hs : SpL sp (.ref a :: (vs ++ dvs)) H xs) : EvL (tMeth C m sp dvs E ta t) σ H xs := fun H1 e Q q =>
  h H1 e _ fun H2 e2 => ⟨a, dx, fs, rfl, e2 _ _ (e _ _ ho), hl, ht H2 (e.trans e2) _ fun H3 e3 => hs H3 ((e.trans e2).trans e3) Q (fun p H4 hp e4 h4 => q p H4 (fresh_back (e2.trans e3) hp) ((e2.trans e3).trans e4) h4) E⟩
theorem rv_plus : RV rPlus (.int i) (.int j) H (.int (i + j)) := rv_I0
theorem rv_minus : RV rMinus (.int i) (.int j) H (.int (i - j)) := rv_I0
theorem rv_times (hc : CMul i j) : RV rTimes (.int i) (.int j) H (.int (i * j)) := rv_I hc
theorem rv_lt : RV rLt (.int i) (.int j) H (.bl (decide (i < j))) := rv_I0
theorem rv_le : RV rLe (.int i) (.int j) H (.bl (decide (i ≤ j))) := rv_I0
theorem rv_gt : RV rGtI (.int i) (.int j) H (.bl (decide (j < i))) := rv_I0
theorem rv_ge : RV rGeI (.int i) (.int j) H (.bl (decide (j ≤ i))) := rv_I0
theorem ru_n : RU rNeg (.int i) H (.int (-i)) := ru_neg
theorem rv_isN : RV rIsNone x .non H (.bl (decide (x = .non))) := fun H1 _ _ q => ⟨rfl, q H1 (exr H1)⟩
theorem rv_notN : RV rNotNone x .non H (.bl (!decide (x = .non))) := fun H1 _ _ q => ⟨rfl, q H1 (exr H1)⟩
theorem ev_min2 (ha : Ev ta σ H (.int i)) (hb : Ev tb σ H (.int j)) : Ev (tCB rMin2 (tCons ta (tCons tb tNil))) σ H (.int (if j < i then j else i)) := fun H1 e Q q =>
  ha H1 e _ fun H2 e2 => hb H2 (e.trans e2) _ fun H3 e3 => ⟨i, j, rfl, q H3 (e2.trans e3)⟩
theorem ev_int (ha : Ev ta σ H (.bl b)) : Ev (tCB rInt1 (tCons ta tNil)) σ H (.int (if b then 1 else 0)) := fun H1 e Q q =>
  ha H1 e _ fun H2 e2 => .inr ⟨b, rfl, q H2 e2⟩
/-- min(xs, default=d) of a new list -/
theorem ev_minD {ns : List Int} {td : TE} {d z : V} (h : EvL ta σ H (ns.map V.int)) (hd : ∀ H1, Ex H H1 → Ev td σ H1 d) (h0 : ns = [] → z = d) (h1 : ∀ m, m ∈ ns → (∀ y, y ∈ ns → m ≤ y) → z = .int m) : Ev (tCKw (rMinD K) (tCons ta tNil) (tCons td tNil)) σ H z := fun H1 e Q q =>
  h H1 e _ fun p H2 _ e2 hp => hd H2 (e.trans e2) H2 (exr H2) _ fun H3 e3 => ⟨p, ns, d, rfl, rfl, sq_of (e3 _ _ hp), fun en => (h0 en) ▸ q H3 (e2.trans e3), fun m hm hle => (h1 m hm hle) ▸ q H3 (e2.trans e3)⟩
theorem ev_maxL {ns : List Int} {k : Int} (h : EvL ta σ H (ns.map V.int)) (hn : 0 < ns.length) (h1 : ∀ m, m ∈ ns → (∀ y, y ∈ ns → y ≤ m) → m = k) : Ev (tCB (rMax K) (tCons ta tNil)) σ H (.int k) := fun H1 e Q q =>
  h H1 e _ fun p H2 _ e2 hp => ⟨p, ns, rfl, sq_of hp, hn, fun m hm hle => (h1 m hm hle) ▸ q H2 e2⟩
theorem ev_allL {bs : List Bool} (h : EvL ta σ H (bs.map V.bl)) : Ev (tCB (rAll K) (tCons ta tNil)) σ H (.bl (bs.all id)) := fun H1 e Q q =>
  h H1 e _ fun p H2 _ e2 hp => ⟨p, bs, rfl, sq_of hp, q H2 e2⟩
theorem ev_sumL {ns : List Int} (h : EvL ta σ H (ns.map V.int)) : Ev (tCB (rSum K) (tCons ta tNil)) σ H (.int ns.sum) := fun H1 e Q q =>
  h H1 e _ fun p H2 _ e2 hp => ⟨p, ns, rfl, sq_of hp, q H2 e2⟩
/-- xs == [] -/
theorem ev_eqNil {p : Addr} {xs : List V} (h : Ev ta σ H (.ref p)) (hx : SqL K H p xs) : Ev (tOp (rEqNil K) ta (tLst tNil)) σ H (.bl xs.isEmpty) := fun H1 e Q q =>
  h H1 e _ fun H2 e2 => ⟨by show 0 ≤ sizeLine; decide, fun n hn => ⟨p, n, xs, rfl, rfl, ex_l ((e.trans e2).trans (Ex.new hn)) hx, sq_of upd_same, q _ (e2.trans (Ex.new hn))⟩⟩
theorem ev_clst {xs ys : List V} {ta tb : TE} (ha : EvL ta σ H xs) (hb : ∀ H1, Ex H H1 → EvL tb σ H1 ys) (hl : xs.length + ys.length ≤ 100000) : EvL (tOp rCat ta tb) σ H (xs ++ ys) := fun H1 e Q q =>
  ha H1 e _ fun p H2 hp e2 h2 => hb H2 (e.trans e2) H2 (exr H2) _ fun r H3 hr e3 h3 => ⟨p, r, xs, ys, rfl, rfl, e3 _ _ h2, h3, sz_of hl, fun n hn => q n _ (fresh_back (e2.trans e3) hn) ((e2.trans e3).trans (Ex.new hn)) upd_same⟩
end
theorem nints_len (l : List Nat) : (nints l).length = l.length := by unfold nints; simp
theorem zints_len (l : List Int) : (zints l).length = l.length := by unfold zints; simp
theorem nints_get {l : List Nat} {i : Nat} {x : V} (h : (nints l)[i]? = some x) : ∃ n, l[i]? = some n ∧ x = .int (n : Int) := by
  unfold nints at h
  rw [List.getElem?_map] at h
  cases e : l[i]? with
  | none => rw [e] at h; cases h
  | some n => rw [e] at h; exact ⟨n, rfl, (Option.some.inj h).symm⟩
theorem nints_at {l : List Nat} {i n : Nat} (h : l[i]? = some n) : (nints l)[i]? = some (.int (n : Int)) := by
  unfold nints
  rw [List.getElem?_map, h] <;> rfl
theorem nints_cast (l : List Nat) : nints l = (l.map fun (n : Nat) => (n : Int)).map V.int := by unfold nints; simp
theorem nints_app (l : List Nat) (n : Nat) : nints (l ++ [n]) = nints l ++ [.int (n : Int)] := by unfold nints; simp
/-! ### cars -/
section
variable {K : PySem.W.Frag} {mg : Str → Option Value} {A : Ad} {σ : L2.St} {H H' : Hp} {ta : TE} {i : Nat} {L : CarL} {c : KCar} {f m : Str} {v : V} {E : XK}
theorem CarAt.mono (h : CarAt A H i L c) (e : Ex H H') : CarAt A H' i L c := ⟨e _ _ h.obj, e _ _ h.kinds, e _ _ h.times, e _ _ h.sent⟩
theorem ev_car (T : Txt K mg A) (h : Ev ta σ H (.ref L.a)) (hc : CarAt A H i L c) (n : NoAttr K A.cCar f) (l : (carF i L c).lookup f = some v) : Ev (tFld K ta f) σ H v := ev_fld h hc.obj T.clCar n l
theorem ev_carm {g : KCar → V} {ok : KCar → Prop} (h : Ev ta σ H (.ref L.a)) (hc : CarAt A H i L c) (l : (carF i L c).lookup m = none) (o : ok c) : Ev (tMeth A.cCar m (spCar A g ok) [] E ta tNil) σ H (g c) :=
  ev_meth (vs := []) h hc.obj l ea_nil fun H1 e Q q E => ⟨i, L, c, rfl, hc.mono e, o, q⟩
end
end L2

set_option Elab.async false
set_option linter.all false
set_option maxRecDepth 100000
set_option maxHeartbeats 4000000
namespace L2
open PySem PySem.Spec PyProof.Rows
open Evl
/-! ### comprehensions over a list of known things -/
theorem given_map {α : Type} (o : List α) (p : α → Bool) (g : α → V) (d : α) : given o.length (fun j => p (o.getD j d)) (fun j => g (o.getD j d)) = (o.filter p).map g := by
  have e : o = (List.range o.length).map fun j => o.getD j d := by
    apply List.ext_getElem
    · simp
    · intro j h1 h2
      simp [List.getD_eq_getElem?_getD, h1]
  unfold given
  conv => rhs; rw [e]
  rw [List.filter_map, List.map_map]
  rfl
theorem filter_true {α : Type} (o : List α) : o.filter (fun _ => true) = o := List.filter_eq_self.mpr fun _ _ => rfl
section
variable {K : PySem.W.Frag} {σ : L2.St} {H : Hp} {te : TE} {t : TT}
theorem et_yes : EvT tYes σ H true := fun H1 _ _ q => q H1 (Ex.refl H1)
theorem el_lcM {α : Type} {a : Addr} {tl : TE} {j : Nat} {vs : List Nat} (o : List α) (enc : α → V) (p : α → Bool) (g : α → V) (d : α) (h : Ev tl σ H (.ref a)) (hx : SqL K H a (o.map enc)) (hz : o.length ≤ 40000) (hw : ∀ x, wipe ((wipe σ vs).set j (some x)) vs = wipe σ vs)
    (ht : ∀ x ∈ o, ∀ H1, Ex H H1 → EvT t ((wipe σ vs).set j (some (enc x))) H1 (p x)) (he : ∀ x ∈ o, ∀ H1, Ex H H1 → p x = true → Ev te ((wipe σ vs).set j (some (enc x))) H1 (g x)) :
    EvL (tLc (iList K tl) (gName j) t te vs) σ H ((o.filter p).map g) := by
  have z := el_lcL (K := K) (te := te) (t := t) (xs := o.map enc) (fun i => p (o.getD i d)) (fun i => g (o.getD i d)) h hx (by rw [List.length_map]; exact hz) hw ?_ ?_
  · rw [List.length_map, given_map] at z
    exact z
  · intro i x H1 e hi
    rw [List.getElem?_map] at hi
    obtain ⟨u, hu, rfl⟩ := Option.map_eq_some_iff.mp hi
    have e2 : o.getD i d = u := by rw [List.getD_eq_getElem?_getD, hu]; rfl
    show EvT t _ H1 (p (o.getD i d))
    rw [e2]
    exact ht u (List.mem_of_getElem? hu) H1 e
  · intro i x H1 e hi hf
    rw [List.getElem?_map] at hi
    obtain ⟨u, hu, rfl⟩ := Option.map_eq_some_iff.mp hi
    have e2 : o.getD i d = u := by rw [List.getD_eq_getElem?_getD, hu]; rfl
    have hf' : p (o.getD i d) = true := hf
    rw [e2] at hf'
    show Ev te _ H1 (g (o.getD i d))
    rw [e2]
    exact he u (List.mem_of_getElem? hu) H1 e hf'
theorem el_lcA {α : Type} {a : Addr} {tl : TE} {j : Nat} {vs : List Nat} (o : List α) (enc : α → V) (g : α → V) (d : α) (h : Ev tl σ H (.ref a)) (hx : SqL K H a (o.map enc)) (hz : o.length ≤ 40000) (hw : ∀ x, wipe ((wipe σ vs).set j (some x)) vs = wipe σ vs)
    (he : ∀ x ∈ o, ∀ H1, Ex H H1 → Ev te ((wipe σ vs).set j (some (enc x))) H1 (g x)) :
    EvL (tLc (iList K tl) (gName j) tYes te vs) σ H (o.map g) := by
  have z := el_lcM (K := K) (te := te) (t := tYes) o enc (fun _ => true) g d h hx hz hw (fun _ _ _ _ => et_yes) (fun x hx H1 e _ => he x hx H1 e)
  rw [filter_true] at z
  exact z
end
/-! ### fields stored -/
section
variable {K : PySem.W.Frag} {σ : L2.St} {H : Hp} {ta tv : TE} {D : Ends} {tz : TS} {a C dx : Addr} {fs : List (Str × V)} {f : Str} {y : V} {ys : List V}
theorem s_fld (h : Ev tv σ H y) (ho : Ev ta σ H (.ref a)) (hl : H a = some (.ins C dx fs)) (hc : Cls K C) (hn : NoAttr K C f) (hz : fs.length < 1000) (k : ∀ H1, Ex H H1 → D.nx σ (upd H1 a (.ins C dx (putF f y fs)))) : sFld K ta tv f D σ H :=
  h H (Ex.refl H) _ fun H1 e1 => ho H1 e1 _ fun H2 e2 => ⟨a, C, dx, fs, rfl, e2 _ _ (e1 _ _ hl), hc, hn, hz, k H2 (e1.trans e2)⟩
theorem s_fldL (h : EvL tv σ H ys) (ho : ∀ H1, Ex H H1 → Ev ta σ H1 (.ref a)) (hl : H a = some (.ins C dx fs)) (hc : Cls K C) (hn : NoAttr K C f) (hz : fs.length < 1000) (k : ∀ p H1, H p = none → Ex H H1 → H1 p = some (.lst ys) → D.nx σ (upd H1 a (.ins C dx (putF f (.ref p) fs)))) : sFld K ta tv f D σ H :=
  h H (Ex.refl H) _ fun p H1 hp e1 h1 => ho H1 e1 H1 (Ex.refl H1) _ fun H2 e2 => ⟨a, C, dx, fs, rfl, e2 _ _ (e1 _ _ hl), hc, hn, hz, k p H2 hp (e1.trans e2) (e2 _ _ h1)⟩
theorem q_fld (h : Ev tv σ H y) (ho : Ev ta σ H (.ref a)) (hl : H a = some (.ins C dx fs)) (hc : Cls K C) (hn : NoAttr K C f) (hz : fs.length < 1000) (k : ∀ H1, Ex H H1 → tz D σ (upd H1 a (.ins C dx (putF f y fs)))) : tSeq (sFld K ta tv f) tz D σ H :=
  s_fld (D := { D with nx := tz D }) h ho hl hc hn hz k
theorem q_fldL (h : EvL tv σ H ys) (ho : ∀ H1, Ex H H1 → Ev ta σ H1 (.ref a)) (hl : H a = some (.ins C dx fs)) (hc : Cls K C) (hn : NoAttr K C f) (hz : fs.length < 1000) (k : ∀ p H1, H p = none → Ex H H1 → H1 p = some (.lst ys) → tz D σ (upd H1 a (.ins C dx (putF f (.ref p) fs)))) : tSeq (sFld K ta tv f) tz D σ H :=
  s_fldL (D := { D with nx := tz D }) h ho hl hc hn hz k
/-- a field that isn't there yet -/
theorem put_new {f : Str} {v : V} : ∀ {fs : List (Str × V)} {ks : List Str}, fs.map (·.1) = ks → (ks.all fun k => !decide (k = f)) = true → putF f v fs = fs ++ [(f, v)]
  | [], _, _, _ => rfl
  | (g, x) :: r, ks, e, h => by
    subst e
    rw [List.map_cons, List.all_cons, Bool.and_eq_true] at h
    have h1 : ¬ g = f := by simpa using h.1
    rw [put_past h1, put_new (ks := r.map (·.1)) rfl h.2] <;> rfl
end
/-! ### places -/
section
variable {A : Ad} {H H' : Hp} {i j : Nat} {L M : CarL} {c c2 : KCar} {y : RaceL} {s : KSt}
theorem lst_ins {xs : List V} {C dx : Addr} {fs : List (Str × V)} : HO.lst xs ≠ HO.ins C dx fs := fun z => by cases z
theorem ins_lst {xs : List V} {C dx : Addr} {fs : List (Str × V)} : HO.ins C dx fs ≠ HO.lst xs := fun z => by cases z
theorem CarAt.ak (h : CarAt A H i L c) : L.a ≠ L.ki := ne_of h.obj h.kinds ins_lst
theorem CarAt.at_ (h : CarAt A H i L c) : L.a ≠ L.ti := ne_of h.obj h.times ins_lst
theorem CarAt.as_ (h : CarAt A H i L c) : L.a ≠ L.se := ne_of h.obj h.sent ins_lst
theorem FrC.of_upd {H1 : Hp} {x : Addr} {o : HO} (e : Ex H H1) (hx : x = L.a ∨ x = L.ki ∨ x = L.ti ∨ x = L.se) : FrC H (upd H1 x o) L := fun b u hb n1 n2 n3 n4 => by
  have : b ≠ x := by rcases hx with h | h | h | h <;> (rw [h]; assumption)
  rw [upd_ne this]
  exact e b u hb
end
end L2

set_option Elab.async false
set_option linter.all false
set_option maxRecDepth 100000
set_option maxHeartbeats 4000000
namespace L2
open PySem PySem.Spec PyProof.Rows
open Evl
section
variable {K : PySem.W.Frag} {mg : Str → Option Value} {A : Ad}
/-! ### errors -/
theorem len_x_init {vs : List V} {H : Hp} {Q : VK} {E : XK} (h : sp_x_init K A vs H Q E) : vs.length = 2 := by
  obtain ⟨_, _, rfl, _⟩ := h; rfl
theorem pure_x_init (T : Txt K mg A) (vs : List V) (H : Hp) (Q : VK) (E : XK) (h : sp_x_init K A vs H Q E) : t_x_init K A { nx := fun _ H' => Q .non H', rt := Q } (start n_x_init vs) H := by
  obtain ⟨a, r, rfl, ha, k⟩ := h
  refine ⟨.ref a, rfl, a, A.cRefused, [.str "refused"], rfl, by decide, T.oex, ha, ?_⟩
  exact ⟨_, rfl, _, rfl, a, A.cRefused, rfl, T.oex, T.no_refusal, .inl ⟨ha, fun dx n ne => k dx n ne⟩⟩
theorem len_want {vs : List V} {H : Hp} {Q : VK} {E : XK} (h : sp_want K A vs H Q E) : vs.length = 2 := by
  obtain ⟨_, _, rfl, _⟩ := h; rfl
theorem del_old {H : Hp} {a b : Addr} (h : b ≠ a) : del H a b = H b := del_ne h
theorem pure_want (T : Txt K mg A) (vs : List V) (H : Hp) (Q : VK) (E : XK) (h : sp_want K A vs H Q E) : t_want K A E { nx := fun _ H' => Q .non H', rt := Q } (start n_want vs) H := by
  obtain ⟨b, r, rfl, k1, k2⟩ := h
  refine s_if (b := !b) (et_not (et_B (ev_var rfl))) (fun hb H1 e1 => ?_) (fun hb H1 e1 => ?_)
  · have hb' : b = false := by simpa using hb
    refine ⟨_, rfl, (by show 1 ≤ 1000; decide), fun a ha => ⟨a, r, rfl, upd_same, fun dx hd ne => ?_⟩⟩
    have hd1 : H1 dx = none := by
      rw [upd_ne ne] at hd
      exact hd
    refine ⟨rfl, dx, [("refusal", .int r)], upd_same, (upd_ne ne).trans upd_same, hd1, ?_⟩
    refine k2 hb' dx _ (fun b o q => ?_) upd_same
    have q1 := e1 b o q
    rw [upd_ne (ne_of_none q1 hd1), del_ne (ne_of_none q1 ha), upd_ne (ne_of_none q1 ha), upd_ne (ne_of_none q1 hd1), upd_ne (ne_of_none q1 ha)]
    exact q1
  · have hb' : b = true := by simpa using hb
    exact k1 hb' H1 e1
/-! ### cars -/
theorem len_spCar {g : KCar → V} {ok : KCar → Prop} {vs : List V} {H : Hp} {Q : VK} {E : XK} (h : spCar A g ok vs H Q E) : vs.length = 1 := by
  obtain ⟨_, _, _, rfl, _⟩ := h; rfl
theorem len_c_laps {vs : List V} {H : Hp} {Q : VK} {E : XK} (h : sp_c_laps K A vs H Q E) : vs.length = 1 := len_spCar h
theorem len_c_last_time {vs : List V} {H : Hp} {Q : VK} {E : XK} (h : sp_c_last_time K A vs H Q E) : vs.length = 1 := len_spCar h
theorem len_c_pits {vs : List V} {H : Hp} {Q : VK} {E : XK} (h : sp_c_pits K A vs H Q E) : vs.length = 1 := len_spCar h
theorem len_c_has_one_kind {vs : List V} {H : Hp} {Q : VK} {E : XK} (h : sp_c_has_one_kind K A vs H Q E) : vs.length = 1 := len_spCar h
theorem len_c_ways {vs : List V} {H : Hp} {Q : VK} {E : XK} (h : sp_c_ways K A vs H Q E) : vs.length = 1 := len_spCar h
theorem len_c_penalty {vs : List V} {H : Hp} {Q : VK} {E : XK} (h : sp_c_penalty K A vs H Q E) : vs.length = 1 := len_spCar h
theorem len_c_init {vs : List V} {H : Hp} {Q : VK} {E : XK} (h : sp_c_init K A vs H Q E) : vs.length = 4 := by
  obtain ⟨_, _, _, _, _, rfl, _⟩ := h; rfl
theorem len_c_take_crossing {vs : List V} {H : Hp} {Q : VK} {E : XK} (h : sp_c_take_crossing K A vs H Q E) : vs.length = 2 := by
  obtain ⟨_, _, _, _, rfl, _⟩ := h; rfl
theorem len_c_take_tyres {vs : List V} {H : Hp} {Q : VK} {E : XK} (h : sp_c_take_tyres K A vs H Q E) : vs.length = 2 := by
  obtain ⟨_, _, _, _, rfl, _⟩ := h; rfl
theorem len_c_take_sending {vs : List V} {H : Hp} {Q : VK} {E : XK} (h : sp_c_take_sending K A vs H Q E) : vs.length = 1 := by
  obtain ⟨_, _, _, rfl, _⟩ := h; rfl
theorem len_c_go_through {vs : List V} {H : Hp} {Q : VK} {E : XK} (h : sp_c_go_through K A vs H Q E) : vs.length = 1 := by
  obtain ⟨_, _, _, rfl, _⟩ := h; rfl
theorem len_c_add_seconds {vs : List V} {H : Hp} {Q : VK} {E : XK} (h : sp_c_add_seconds K A vs H Q E) : vs.length = 2 := by
  obtain ⟨_, _, _, _, rfl, _⟩ := h; rfl
theorem len_c_leave {vs : List V} {H : Hp} {Q : VK} {E : XK} (h : sp_c_leave K A vs H Q E) : vs.length = 1 := by
  obtain ⟨_, _, _, rfl, _⟩ := h; rfl
theorem len_c_throw {vs : List V} {H : Hp} {Q : VK} {E : XK} (h : sp_c_throw K A vs H Q E) : vs.length = 1 := by
  obtain ⟨_, _, _, rfl, _⟩ := h; rfl
theorem len_many_before {vs : List V} {H : Hp} {Q : VK} {E : XK} (h : sp_many_before K A vs H Q E) : vs.length = 2 := by
  obtain ⟨_, _, _, rfl, _⟩ := h; rfl
theorem pure_c_laps (T : Txt K mg A) (vs : List V) (H : Hp) (Q : VK) (E : XK) (h : sp_c_laps K A vs H Q E) : t_c_laps K A { nx := fun _ H' => Q .non H', rt := Q } (start n_c_laps vs) H := by
  obtain ⟨i, L, c, rfl, hc, _, k⟩ := h
  refine s_ret (ev_is (ev_len (ev_car T (ev_var rfl) hc T.na_Car_times carF_times) (sq_of hc.times)) ?_) fun H1 e => k H1 e
  rw [nints_len]
theorem pure_c_last_time (T : Txt K mg A) (vs : List V) (H : Hp) (Q : VK) (E : XK) (h : sp_c_last_time K A vs H Q E) : t_c_last_time K A { nx := fun _ H' => Q .non H', rt := Q } (start n_c_last_time vs) H := by
  obtain ⟨i, L, c, rfl, hc, _, k⟩ := h
  have et : Ev (tFld K (tVar 0) "times") (start n_c_last_time [.ref L.a]) H (.ref L.ti) := ev_car T (ev_var rfl) hc T.na_Car_times carF_times
  refine q_when (et_test (ev_eqNil et (sq_of hc.times))) (fun hb H1 e1 => ?_) (fun hb H1 e1 => ?_)
  · have hn : c.laps = [] := by
      unfold nints at hb
      simpa using hb
    refine s_ret ev_c fun H2 e2 => ?_
    have z : Q (.int (c.laps.getLastD 0 : Nat)) H2 := k H2 (e1.trans e2)
    rw [hn] at z
    exact z
  · have hn : c.laps ≠ [] := fun z => by rw [z] at hb; simp [nints] at hb
    refine s_ret (v := .int (c.laps.getLastD 0 : Nat)) (ev_op (et.mono e1) (ev_un ev_c ru_n) (rv_ixL (sq_of (hc.mono e1).times) ?_)) fun H2 e2 => k H2 (e1.trans e2)
    have e2 : c.laps = c.laps.dropLast ++ [c.laps.getLast hn] := (List.dropLast_concat_getLast hn).symm
    have e3 : c.laps.getLastD 0 = c.laps.getLast hn := by
      rw [List.getLastD_eq_getLast?, List.getLast?_eq_getLast hn]; rfl
    rw [e3]
    conv => lhs; rw [e2, nints_app]
    exact atI_last _ _
theorem pure_c_pits (T : Txt K mg A) (vs : List V) (H : Hp) (Q : VK) (E : XK) (h : sp_c_pits K A vs H Q E) : t_c_pits K A { nx := fun _ H' => Q .non H', rt := Q } (start n_c_pits vs) H := by
  obtain ⟨i, L, c, rfl, hc, ok, k⟩ := h
  refine s_ret (ev_is (ev_op (ev_len (ev_car T (ev_var rfl) hc T.na_Car_kinds carF_kinds) (sq_of hc.kinds)) ev_c rv_minus) ?_) fun H1 e => k H1 e
  rw [nints_len, ok]
  congr 1; omega
theorem pure_c_ways (T : Txt K mg A) (vs : List V) (H : Hp) (Q : VK) (E : XK) (h : sp_c_ways K A vs H Q E) : t_c_ways K A { nx := fun _ H' => Q .non H', rt := Q } (start n_c_ways vs) H := by
  obtain ⟨i, L, c, rfl, hc, _, k⟩ := h
  refine s_ret (ev_is (ev_len (ev_car T (ev_var rfl) hc T.na_Car_sent carF_sent) (sq_of hc.sent)) ?_) fun H1 e => k H1 e
  rw [nints_len]
theorem pure_c_penalty (T : Txt K mg A) (vs : List V) (H : Hp) (Q : VK) (E : XK) (h : sp_c_penalty K A vs H Q E) : t_c_penalty K A { nx := fun _ H' => Q .non H', rt := Q } (start n_c_penalty vs) H := by
  obtain ⟨i, L, c, rfl, hc, _, k⟩ := h
  refine s_ret (ev_is (ev_op (ev_car T (ev_var rfl) hc T.na_Car_added carF_added) (ev_op ev_c (ev_carm (ok := fun _ => True) (g := fun c => .int (c.sent.length : Nat)) (ev_var rfl) hc carN_ways trivial) (rv_times (.inl ⟨by decide, by decide⟩))) rv_plus) ?_) fun H1 e => k H1 e
  unfold Kg68.Car.penalty Kg68.UNSERVED
  congr 1
theorem pure_c_has_one_kind (T : Txt K mg A) (vs : List V) (H : Hp) (Q : VK) (E : XK) (h : sp_c_has_one_kind K A vs H Q E) : t_c_has_one_kind K A { nx := fun _ H' => Q .non H', rt := Q } (start n_c_has_one_kind vs) H := by
  obtain ⟨i, L, c, rfl, hc, hz, k⟩ := h
  have et : ∀ σ : L2.St, σ[0]? = some (some (.ref L.a)) → Ev (tFld K (tVar 0) "kinds") σ H (.ref L.ki) := fun σ hσ => ev_car T (ev_var hσ) hc T.na_Car_kinds carF_kinds
  refine s_ret (v := .bl (decide (c.tyres.eraseDups.length < 2))) ?_ fun H1 e => k H1 e
  cases hk : c.tyres with
  | nil =>
    have z : EvL (tLc (iList K (tFld K (tVar 0) "kinds")) (gName 1) tYes (tOp rEq (tVar 1) (tOp (rIxL K) (tFld K (tVar 0) "kinds") (tC (.int 0)))) [1]) (start n_c_has_one_kind [.ref L.a]) H (([] : List Nat).map fun _ => V.bl true) :=
      el_lcA ([] : List Nat) (fun n => V.int (n : Int)) (fun _ => .bl true) 0 (et _ rfl) (sq_of (by rw [hc.kinds, hk]; rfl)) (by decide) (fun x => rfl) fun x hx => absurd hx (by simp)
    exact ev_allL (bs := []) z
  | cons x r =>
    have z : EvL (tLc (iList K (tFld K (tVar 0) "kinds")) (gName 1) tYes (tOp rEq (tVar 1) (tOp (rIxL K) (tFld K (tVar 0) "kinds") (tC (.int 0)))) [1]) (start n_c_has_one_kind [.ref L.a]) H ((x :: r).map fun n => V.bl (decide (n = x))) := by
      refine el_lcA (x :: r) (fun n => V.int (n : Int)) (fun n => .bl (decide (n = x))) 0 (et _ rfl) (sq_of (by rw [hc.kinds, hk]; rfl)) (by rw [← hk]; omega) (fun x => rfl) fun n hn H1 e => ?_
      refine ev_is (ev_op (ev_var rfl) (ev_op ((et _ rfl).mono e) ev_c (rv_ixL (sq_of ((hc.mono e).kinds)) (atI_nat (j := 0) (by rw [hk]; rfl)))) (rv_eq rfl)) ?_
      rw [dec_int]
      congr 1
      rw [Bool.eq_iff_iff]; simp; omega
    have z2 := ev_allL (K := K) (bs := (x :: r).map fun n => decide (n = x)) (by rw [List.map_map]; exact z)
    refine ev_is z2 ?_
    rw [← erase_all]
    simp [List.all_map]
theorem pure_many_before (T : Txt K mg A) (vs : List V) (H : Hp) (Q : VK) (E : XK) (h : sp_many_before K A vs H Q E) : t_many_before K A { nx := fun _ H' => Q .non H', rt := Q } (start n_many_before vs) H := by
  obtain ⟨p, l, f, rfl, hp, hz, k⟩ := h
  have z : EvL (tLc (iList K (tVar 0)) (gName 2) (tTest (tOp rLt (tVar 2) (tVar 1))) (tVar 2) [2]) (start n_many_before [.ref p, .int (f : Int)]) H ((l.filter fun t => decide (t < f)).map fun (n : Nat) => V.int (n : Int)) := by
    refine el_lcM l (fun (n : Nat) => V.int (n : Int)) (fun t => decide (t < f)) (fun (n : Nat) => V.int (n : Int)) 0 (ev_var rfl) (sq_of hp) (by omega) (fun x => rfl) (fun n _ H1 e => ?_) (fun n _ H1 e _ => ev_var rfl)
    refine et_is (et_test (ev_op (ev_var rfl) (ev_var rfl) rv_lt)) ?_
    rw [Bool.eq_iff_iff]; simp
  refine s_ret (ev_is (ev_lenN z) ?_) fun H1 e => k H1 e
  rw [List.length_map]
end
end L2

set_option Elab.async false
set_option linter.all false
set_option maxRecDepth 100000
set_option maxHeartbeats 4000000
namespace L2
open PySem PySem.Spec PyProof.Rows
open Evl
section
variable {K : PySem.W.Frag} {mg : Str → Option Value} {A : Ad}
theorem carF_len {i : Nat} {L : CarL} {c : KCar} : (carF i L c).length < 1000 := by show 9 < 1000; decide
theorem pure_c_leave (T : Txt K mg A) (vs : List V) (H : Hp) (Q : VK) (E : XK) (h : sp_c_leave K A vs H Q E) : t_c_leave K A { nx := fun _ H' => Q .non H', rt := Q } (start n_c_leave vs) H := by
  obtain ⟨i, L, c, rfl, hc, k⟩ := h
  refine s_fld ev_c (ev_var rfl) hc.obj T.clCar T.na_Car_has_left carF_len fun H1 e1 => ?_
  have h1 := hc.mono e1
  refine k _ L rfl rfl rfl (.inl rfl) ⟨by rw [upd_same, carP_has_left], ?_, ?_, ?_⟩ (FrC.of_upd e1 (.inl rfl))
  · rw [upd_ne (Ne.symm hc.ak)]; exact h1.kinds
  · rw [upd_ne (Ne.symm hc.at_)]; exact h1.times
  · rw [upd_ne (Ne.symm hc.as_)]; exact h1.sent
theorem pure_c_throw (T : Txt K mg A) (vs : List V) (H : Hp) (Q : VK) (E : XK) (h : sp_c_throw K A vs H Q E) : t_c_throw K A { nx := fun _ H' => Q .non H', rt := Q } (start n_c_throw vs) H := by
  obtain ⟨i, L, c, rfl, hc, k⟩ := h
  refine s_fld ev_c (ev_var rfl) hc.obj T.clCar T.na_Car_is_thrown carF_len fun H1 e1 => ?_
  have h1 := hc.mono e1
  refine k _ L rfl rfl rfl (.inl rfl) ⟨by rw [upd_same, carP_is_thrown], ?_, ?_, ?_⟩ (FrC.of_upd e1 (.inl rfl))
  · rw [upd_ne (Ne.symm hc.ak)]; exact h1.kinds
  · rw [upd_ne (Ne.symm hc.at_)]; exact h1.times
  · rw [upd_ne (Ne.symm hc.as_)]; exact h1.sent
theorem pure_c_add_seconds (T : Txt K mg A) (vs : List V) (H : Hp) (Q : VK) (E : XK) (h : sp_c_add_seconds K A vs H Q E) : t_c_add_seconds K A { nx := fun _ H' => Q .non H', rt := Q } (start n_c_add_seconds vs) H := by
  obtain ⟨i, L, c, n, rfl, hc, k⟩ := h
  refine s_fld (y := .int ((c.secs + n : Nat) : Int)) (ev_is (ev_op (ev_car T (ev_var rfl) hc T.na_Car_added carF_added) (ev_var rfl) rv_plus) (by congr 1)) (ev_var rfl) hc.obj T.clCar T.na_Car_added carF_len fun H1 e1 => ?_
  have h1 := hc.mono e1
  refine k _ L rfl rfl rfl (.inl rfl) ⟨by rw [upd_same, carP_added], ?_, ?_, ?_⟩ (FrC.of_upd e1 (.inl rfl))
  · rw [upd_ne (Ne.symm hc.ak)]; exact h1.kinds
  · rw [upd_ne (Ne.symm hc.at_)]; exact h1.times
  · rw [upd_ne (Ne.symm hc.as_)]; exact h1.sent
theorem pure_c_go_through (T : Txt K mg A) (vs : List V) (H : Hp) (Q : VK) (E : XK) (h : sp_c_go_through K A vs H Q E) : t_c_go_through K A { nx := fun _ H' => Q .non H', rt := Q } (start n_c_go_through vs) H := by
  obtain ⟨i, L, c, rfl, hc, k⟩ := h
  refine s_fldL (el_sl (ev_car T (ev_var rfl) hc T.na_Car_sent carF_sent) (eo_some ev_c) eo_none (sq_of hc.sent)) (fun H1 _ => ev_var rfl) hc.obj T.clCar T.na_Car_sent carF_len fun p H1 hp e1 hl => ?_
  have h1 := hc.mono e1
  have na : L.a ≠ p := ne_of_none hc.obj hp
  refine k _ { L with se := p } rfl rfl rfl (.inr hp) ⟨by rw [upd_same, carP_sent] <;> rfl, ?_, ?_, ?_⟩ (FrC.of_upd e1 (.inl rfl))
  · rw [upd_ne (Ne.symm hc.ak)]; exact h1.kinds
  · rw [upd_ne (Ne.symm hc.at_)]; exact h1.times
  · show upd H1 L.a _ p = _
    rw [upd_ne (Ne.symm na), hl]
    have e : cutV (nints c.sent) (some 1) none = nints c.sent.tail := by
      unfold cutV
      rw [HT.sIx_none]
      cases hs : c.sent with
      | nil => rfl
      | cons x r =>
        have e0 : HT.sIx (nints (x :: r)).length 0 (some 1) = 1 := by
          have := HT.sIx_nat (nints (x :: r)).length 0 1
          rw [show ((1 : Nat) : Int) = 1 from rfl] at this
          rw [this, nints_len]
          simp
        rw [e0]
        unfold nints
        rw [List.map_cons, List.drop_one, List.tail_cons, List.tail_cons, List.take_of_length_le (by simp)]
    rw [e]
theorem pure_c_take_tyres (T : Txt K mg A) (vs : List V) (H : Hp) (Q : VK) (E : XK) (h : sp_c_take_tyres K A vs H Q E) : t_c_take_tyres K A { nx := fun _ H' => Q .non H', rt := Q } (start n_c_take_tyres vs) H := by
  obtain ⟨i, L, c, n, rfl, hc, ok, hz, k⟩ := h
  refine s_app hc.kinds (ev_car T (ev_var rfl) hc T.na_Car_kinds carF_kinds) (ev_var rfl) (by rw [nints_len]; omega) fun H1 e1 => ?_
  have h1 := hc.mono e1
  refine k _ L rfl rfl rfl (.inl rfl) ⟨?_, ?_, ?_, ?_⟩ (FrC.of_upd e1 (.inr (.inl rfl)))
  · rw [upd_ne hc.ak]; exact h1.obj
  · rw [upd_same]
    show some (HO.lst (nints c.tyres ++ [V.int (n : Int)])) = some (HO.lst (nints (c.tyres ++ [n])))
    rw [nints_app]
  · rw [upd_ne (Ne.symm ok.1)]; exact h1.times
  · rw [upd_ne (Ne.symm ok.2.1)]; exact h1.sent
theorem pure_c_take_sending (T : Txt K mg A) (vs : List V) (H : Hp) (Q : VK) (E : XK) (h : sp_c_take_sending K A vs H Q E) : t_c_take_sending K A { nx := fun _ H' => Q .non H', rt := Q } (start n_c_take_sending vs) H := by
  obtain ⟨i, L, c, rfl, hc, ok, hz, k⟩ := h
  refine s_app hc.sent (ev_car T (ev_var rfl) hc T.na_Car_sent carF_sent) (ev_carm (ok := fun _ => True) (g := fun c => .int (c.laps.length : Nat)) (ev_var rfl) hc carN_laps trivial) (by rw [nints_len]; omega) fun H1 e1 => ?_
  have h1 := hc.mono e1
  refine k _ L rfl rfl rfl (.inl rfl) ⟨?_, ?_, ?_, ?_⟩ (FrC.of_upd e1 (.inr (.inr (.inr rfl))))
  · rw [upd_ne hc.as_]; exact h1.obj
  · rw [upd_ne ok.2.1]; exact h1.kinds
  · rw [upd_ne ok.2.2]; exact h1.times
  · rw [upd_same]
    show some (HO.lst (nints c.sent ++ [V.int (c.laps.length : Int)])) = some (HO.lst (nints (c.sent ++ [c.laps.length])))
    rw [nints_app]
theorem dpAll_n {H : Hp} : ∀ l : List Nat, DpAll K H (nints l) (l.map fun (n : Nat) => PyData.int (n : Int))
  | [] => .nil
  | n :: r => .cons (.int _) (dpAll_n r)
theorem canl_ns : ∀ l : List Nat, PyData.canLayAll0 (l.map fun (n : Nat) => PyData.int (n : Int)) = true
  | [] => by simp [PyData.canLayAll0]
  | n :: r => by simp only [List.map_cons, PyData.canLayAll0, PyData.canLay0, canl_ns r, Bool.and_self]
theorem depth_ns : ∀ l : List Nat, PyData.depthAll (l.map fun (n : Nat) => PyData.int (n : Int)) = 0
  | [] => by simp [PyData.depthAll]
  | n :: r => by simp only [List.map_cons, PyData.depthAll, PyData.depth, depth_ns r, Nat.max_self]
theorem shaped_ns (l : List Nat) : SeqAt.shaped (.list (l.map fun (n : Nat) => PyData.int (n : Int))) = true := by
  unfold SeqAt.shaped
  simp only [PyData.canLay0, PyData.depth, canl_ns, depth_ns]
  decide
/-- xs != [] of ints -/
theorem ev_neNil {σ : L2.St} {H : Hp} {ta : TE} {p : Addr} {l : List Nat} (h : Ev ta σ H (.ref p)) (hx : SqL K H p (nints l)) : Ev (tOp (rNeD K) ta (tLst tNil)) σ H (.bl (!l.isEmpty)) := fun H1 e Q q =>
  h H1 e _ fun H2 e2 => ⟨by show 0 ≤ sizeLine; decide, fun n hn => ⟨_, .list [], .lst (ex_l ((e.trans e2).trans (Ex.new hn)) hx) (dpAll_n l), .lst (sq_of upd_same) .nil, shaped_ns l, shaped_ns [], by
    have z := q (upd H2 n (.lst [])) (e2.trans (Ex.new hn))
    have e3 : PyData.eqv (.list (l.map fun (n : Nat) => PyData.int (n : Int))) (.list []) = l.isEmpty := by
      cases l with
      | nil => rfl
      | cons x r => rfl
    rw [e3]
    exact z⟩⟩
theorem pure_c_take_crossing (T : Txt K mg A) (vs : List V) (H : Hp) (Q : VK) (E : XK) (h : sp_c_take_crossing K A vs H Q E) : t_c_take_crossing K A { nx := fun _ H' => Q .non H', rt := Q } (start n_c_take_crossing vs) H := by
  obtain ⟨i, L, c, t, rfl, hc, ok, hz, hs, k⟩ := h
  refine q_app hc.times (ev_car T (ev_var rfl) hc T.na_Car_times carF_times) (ev_var rfl) (by rw [nints_len]; omega) fun H1 e1 => ?_
  have h1 := hc.mono e1
  have h2 : CarAt A (upd H1 L.ti (.lst (nints c.laps ++ [.int (t : Int)]))) i L { c with laps := c.laps ++ [t] } := by
    refine ⟨?_, ?_, ?_, ?_⟩
    · rw [upd_ne hc.at_]; exact h1.obj
    · rw [upd_ne ok.1]; exact h1.kinds
    · rw [upd_same]
      show some (HO.lst (nints c.laps ++ [V.int (t : Int)])) = some (HO.lst (nints (c.laps ++ [t])))
      rw [nints_app]
    · rw [upd_ne (Ne.symm ok.2.2)]; exact h1.sent
  have fr := FrC.of_upd (H := H) (H1 := H1) (L := L) (x := L.ti) (o := .lst (nints c.laps ++ [.int (t : Int)])) e1 (.inr (.inr (.inl rfl)))
  generalize upd H1 L.ti (.lst (nints c.laps ++ [.int (t : Int)])) = G at h2 fr ⊢
  have eset : ∀ b : Bool, b = ((c.sent.any fun n => decide (n + Kg68.WITHIN < (c.laps ++ [t]).length))) → ({ c with laps := c.laps ++ [t] } : KCar).settle = { c with laps := c.laps ++ [t], late := c.late || b } := fun b hb => by
    rw [hb]; rfl
  have es : Ev (tFld K (tVar 0) "sent") (start n_c_take_crossing [.ref L.a, .int (t : Int)]) G (.ref L.se) := ev_car T (ev_var rfl) h2 T.na_Car_sent carF_sent
  refine s_when (b := (c.sent.any fun n => decide (n + Kg68.WITHIN < (c.laps ++ [t]).length))) ?_ (fun hb H3 e3 => ?_) (fun hb H3 e3 => ?_)
  · have z := et_and (t := tTest (tOp (rNeD K) (tFld K (tVar 0) "sent") (tLst tNil))) (u := tTest (tOp rGeI (tOp rMinus (tMeth A.cCar "laps" (sp_c_laps K A) [] E0 (tVar 0) tNil) (tOp (rIxL K) (tFld K (tVar 0) "sent") (tC (.int 0)))) (tC (.int 4))))
      (b := (c.sent.any fun n => decide (n + Kg68.WITHIN < (c.laps ++ [t]).length))) (et_test (ev_neNil es (sq_of h2.sent))) (fun hne => ?_)
    · refine et_is z ?_
      cases c.sent <;> simp
    · cases hsn : c.sent with
      | nil => rw [hsn] at hne; simp at hne
      | cons x r =>
        rw [hsn] at hs
        refine et_is (et_test (ev_op (ev_op (ev_carm (ok := fun _ => True) (g := fun c => .int (c.laps.length : Nat)) (ev_var rfl) h2 carN_laps trivial) (ev_op es ev_c (rv_ixL (v := .int (x : Int)) (sq_of h2.sent) (atI_nat (j := 0) (by show (nints c.sent)[0]? = _; rw [hsn]; rfl)))) rv_minus) ev_c rv_ge)) ?_
        rw [sent_any hs]
        rw [Bool.eq_iff_iff]; simp; omega
  · refine s_fld ev_c (ev_var rfl) (h2.mono e3).obj T.clCar T.na_Car_is_late carF_len fun H4 e4 => ?_
    have h4 := h2.mono (e3.trans e4)
    refine k _ L rfl rfl rfl (.inl rfl) ?_ ?_
    · rw [eset true hb.symm, Bool.or_true]
      refine ⟨by rw [upd_same, carP_is_late], ?_, ?_, ?_⟩
      · rw [upd_ne (Ne.symm hc.ak)]; exact h4.kinds
      · rw [upd_ne (Ne.symm hc.at_)]; exact h4.times
      · rw [upd_ne (Ne.symm hc.as_)]; exact h4.sent
    · intro b o hb' n1 n2 n3 n4
      rw [upd_ne n1]
      exact (e3.trans e4) _ _ (fr b o hb' n1 n2 n3 n4)
  · refine k _ L rfl rfl rfl (.inl rfl) ?_ (fun b o hb' n1 n2 n3 n4 => e3 _ _ (fr b o hb' n1 n2 n3 n4))
    rw [eset false hb.symm, Bool.or_false]
    exact h2.mono e3
theorem upd_old {H H1 : Hp} {p b : Addr} {o u : HO} (e : ∀ b o, H b = some o → b ≠ p → H1 b = some o) (h : H b = some u) (n : b ≠ p) : upd H1 p o b = some u := by
  rw [upd_ne n]; exact e b u h n
theorem pure_c_init (T : Txt K mg A) (vs : List V) (H : Hp) (Q : VK) (E : XK) (h : sp_c_init K A vs H Q E) : t_c_init K A { nx := fun _ H' => Q .non H', rt := Q } (start n_c_init vs) H := by
  obtain ⟨p, dx, i, tm, ki, rfl, hp, k⟩ := h
  refine q_fld (ev_var rfl) (ev_var rfl) hp T.clCar T.na_Car_number (by show 0 < 1000; decide) fun H1 e1 => ?_
  refine q_fld (ev_var rfl) (ev_var rfl) upd_same T.clCar T.na_Car_team (by show 1 < 1000; decide) fun H2 e2 => ?_
  have o2 : ∀ b o, H b = some o → b ≠ p → (upd H2 p (.ins A.cCar dx (putF "team" (.int (tm : Int)) (putF "number" (.int (i : Int)) [])))) b = some o := fun b o q n => by
    rw [upd_ne n]; refine e2 _ _ ?_; rw [upd_ne n]; exact e1 _ _ q
  have f2 : (upd H2 p (.ins A.cCar dx (putF "team" (.int (tm : Int)) (putF "number" (.int (i : Int)) [])))) p = some (.ins A.cCar dx [("number", .int (i : Int)), ("team", .int (tm : Int))]) := by
    rw [upd_same, put_new (ks := ["number"]) (fs := putF "number" (.int (i : Int)) []) rfl (by decide +kernel)] <;> rfl
  generalize upd H2 p (.ins A.cCar dx (putF "team" (.int (tm : Int)) (putF "number" (.int (i : Int)) []))) = G2 at o2 f2 ⊢
  refine q_fldL (ys := [.int (ki : Int)]) (el_lst (ea_cons (ev_var rfl) ea_nil) (by show 1 ≤ 100000; decide)) (fun _ _ => ev_var rfl) f2 T.clCar T.na_Car_kinds (by show 2 < 1000; decide) fun pk H3 nk e3 hk => ?_
  have npk : pk ≠ p := fun z => by rw [z, f2] at nk; cases nk
  have o3 : ∀ b o, G2 b = some o → b ≠ p → (upd H3 p (.ins A.cCar dx (putF "kinds" (.ref pk) [("number", .int (i : Int)), ("team", .int (tm : Int))]))) b = some o := fun b o q n => by
    rw [upd_ne n]; exact e3 _ _ q
  have k3 : (upd H3 p (.ins A.cCar dx (putF "kinds" (.ref pk) [("number", .int (i : Int)), ("team", .int (tm : Int))]))) pk = some (.lst [.int (ki : Int)]) := by
    rw [upd_ne npk]; exact hk
  have f3 : (upd H3 p (.ins A.cCar dx (putF "kinds" (.ref pk) [("number", .int (i : Int)), ("team", .int (tm : Int))]))) p = some (.ins A.cCar dx [("number", .int (i : Int)), ("team", .int (tm : Int)), ("kinds", .ref pk)]) := by
    rw [upd_same, put_new (ks := ["number", "team"]) rfl (by decide +kernel)] <;> rfl
  generalize upd H3 p (.ins A.cCar dx (putF "kinds" (.ref pk) [("number", .int (i : Int)), ("team", .int (tm : Int))])) = G3 at o3 k3 f3 ⊢
  refine q_fldL (ys := []) (el_lst ea_nil (by show 0 ≤ 100000; decide)) (fun _ _ => ev_var rfl) f3 T.clCar T.na_Car_times (by show 3 < 1000; decide) fun pt H4 nt e4 ht => ?_
  have npt : pt ≠ p := fun z => by rw [z, f3] at nt; cases nt
  have o4 : ∀ b o, G3 b = some o → b ≠ p → (upd H4 p (.ins A.cCar dx (putF "times" (.ref pt) [("number", .int (i : Int)), ("team", .int (tm : Int)), ("kinds", .ref pk)]))) b = some o := fun b o q n => by
    rw [upd_ne n]; exact e4 _ _ q
  have k4 : (upd H4 p (.ins A.cCar dx (putF "times" (.ref pt) [("number", .int (i : Int)), ("team", .int (tm : Int)), ("kinds", .ref pk)]))) pt = some (.lst []) := by
    rw [upd_ne npt]; exact ht
  have f4 : (upd H4 p (.ins A.cCar dx (putF "times" (.ref pt) [("number", .int (i : Int)), ("team", .int (tm : Int)), ("kinds", .ref pk)]))) p = some (.ins A.cCar dx [("number", .int (i : Int)), ("team", .int (tm : Int)), ("kinds", .ref pk), ("times", .ref pt)]) := by
    rw [upd_same, put_new (ks := ["number", "team", "kinds"]) rfl (by decide +kernel)] <;> rfl
  have npp : pt ≠ pk := fun z => by rw [z, k3] at nt; cases nt
  generalize upd H4 p (.ins A.cCar dx (putF "times" (.ref pt) [("number", .int (i : Int)), ("team", .int (tm : Int)), ("kinds", .ref pk)])) = G4 at o4 k4 f4 ⊢
  refine q_fldL (ys := []) (el_lst ea_nil (by show 0 ≤ 100000; decide)) (fun _ _ => ev_var rfl) f4 T.clCar T.na_Car_sent (by show 4 < 1000; decide) fun ps H5 ns e5 hs => ?_
  have nps : ps ≠ p := fun z => by rw [z, f4] at ns; cases ns
  have nst : ps ≠ pt := fun z => by rw [z, k4] at ns; cases ns
  have nsk : ps ≠ pk := fun z => by rw [z, o4 _ _ k3 npk] at ns; cases ns
  have o5 : ∀ b o, G4 b = some o → b ≠ p → (upd H5 p (.ins A.cCar dx (putF "sent" (.ref ps) [("number", .int (i : Int)), ("team", .int (tm : Int)), ("kinds", .ref pk), ("times", .ref pt)]))) b = some o := fun b o q n => by
    rw [upd_ne n]; exact e5 _ _ q
  have k5 : (upd H5 p (.ins A.cCar dx (putF "sent" (.ref ps) [("number", .int (i : Int)), ("team", .int (tm : Int)), ("kinds", .ref pk), ("times", .ref pt)]))) ps = some (.lst []) := by
    rw [upd_ne nps]; exact hs
  have f5 : (upd H5 p (.ins A.cCar dx (putF "sent" (.ref ps) [("number", .int (i : Int)), ("team", .int (tm : Int)), ("kinds", .ref pk), ("times", .ref pt)]))) p = some (.ins A.cCar dx [("number", .int (i : Int)), ("team", .int (tm : Int)), ("kinds", .ref pk), ("times", .ref pt), ("sent", .ref ps)]) := by
    rw [upd_same, put_new (ks := ["number", "team", "kinds", "times"]) rfl (by decide +kernel)] <;> rfl
  generalize upd H5 p (.ins A.cCar dx (putF "sent" (.ref ps) [("number", .int (i : Int)), ("team", .int (tm : Int)), ("kinds", .ref pk), ("times", .ref pt)])) = G5 at o5 k5 f5 ⊢
  refine q_fld ev_c (ev_var rfl) f5 T.clCar T.na_Car_is_late (by show 5 < 1000; decide) fun H6 e6 => ?_
  rw [put_new (ks := ["number", "team", "kinds", "times", "sent"]) rfl (by decide +kernel)]
  refine q_fld ev_c (ev_var rfl) upd_same T.clCar T.na_Car_added (by show 6 < 1000; decide) fun H7 e7 => ?_
  rw [put_new (ks := ["number", "team", "kinds", "times", "sent", "is_late"]) rfl (by decide +kernel)]
  refine q_fld ev_c (ev_var rfl) upd_same T.clCar T.na_Car_has_left (by show 7 < 1000; decide) fun H8 e8 => ?_
  rw [put_new (ks := ["number", "team", "kinds", "times", "sent", "is_late", "added"]) rfl (by decide +kernel)]
  refine s_fld ev_c (ev_var rfl) upd_same T.clCar T.na_Car_is_thrown (by show 8 < 1000; decide) fun H9 e9 => ?_
  rw [put_new (ks := ["number", "team", "kinds", "times", "sent", "is_late", "added", "has_left"]) rfl (by decide +kernel)]
  have up : ∀ b o, G5 b = some o → b ≠ p → upd H9 p (.ins A.cCar dx ((((([("number", V.int (i : Int)), ("team", V.int (tm : Int)), ("kinds", V.ref pk), ("times", V.ref pt), ("sent", V.ref ps)] : List (Str × V)) ++ [(("is_late" : Str), V.bl false)]) ++ [(("added" : Str), V.int 0)]) ++ [(("has_left" : Str), V.bl false)]) ++ [(("is_thrown" : Str), V.bl false)])) b = some o := fun b o q n => by
    rw [upd_ne n]; refine e9 _ _ ?_
    rw [upd_ne n]; refine e8 _ _ ?_
    rw [upd_ne n]; refine e7 _ _ ?_
    rw [upd_ne n]; exact e6 _ _ q
  refine k _ ⟨p, dx, pk, pt, ps⟩ rfl ⟨upd_same, ?_, ?_, ?_⟩ ⟨Ne.symm npp, Ne.symm nsk, Ne.symm nst⟩ ?_ ?_ ?_ ?_
  · exact up _ _ (o5 _ _ (o4 _ _ k3 npk) npk) npk
  · exact up _ _ (o5 _ _ k4 npt) npt
  · exact up _ _ k5 nps
  · cases z : H pk with
    | none => rfl
    | some o => have := o2 _ _ z npk; rw [nk] at this; cases this
  · cases z : H pt with
    | none => rfl
    | some o => have := o3 _ _ (o2 _ _ z npt) npt; rw [nt] at this; cases this
  · cases z : H ps with
    | none => rfl
    | some o => have := o4 _ _ (o3 _ _ (o2 _ _ z nps) nps) nps; rw [ns] at this; cases this
  · exact fun b o q n => up _ _ (o5 _ _ (o4 _ _ (o3 _ _ (o2 _ _ q n) n) n) n) n
end
end L2

set_option maxRecDepth 100000
set_option maxHeartbeats 1000000
namespace L2
theorem getlap {o : List Nat} {h : Nat → List Nat} {n : Nat} (hn : 1 ≤ n) : (o.filter fun i => decide (n ≤ (h i).length)).map (fun i => (h i).getD (n - 1) 0) = o.filterMap fun i => (h i)[n - 1]? := by
  induction o with
  | nil => rfl
  | cons x r ih =>
    by_cases c : n ≤ (h x).length
    · rw [List.filter_cons, if_pos (decide_eq_true c), List.map_cons, ih, List.filterMap_cons, List.getElem?_eq_getElem (by omega)]
      simp [List.getD_eq_getElem?_getD, List.getElem?_eq_getElem (show n - 1 < (h x).length by omega)]
    · rw [List.filter_cons, if_neg (by simpa using c), ih, List.filterMap_cons, List.getElem?_eq_none (by omega)]
theorem flagAt_range (s : KSt) (n : Nat) : (s.cars.filterMap fun c => c.laps[n - 1]?) = (List.range s.cars.length).filterMap fun i => (s.car i).laps[n - 1]? := by
  conv => lhs; rw [cars_range s]
  rw [List.filterMap_map]
  rfl
theorem void_iff {m : Nat} {s : KSt} (g : Good m s) : (s.flagLap == 0) = decide (s.stopped = some 0) := by
  unfold Kg68.State.flagLap
  have := g.l1
  cases h : s.stopped with
  | none => simp; omega
  | some n => simp; rw [Bool.eq_iff_iff]; simp
theorem flagLap_none {s : KSt} (h : s.stopped = none) : s.flagLap = s.laps := by unfold Kg68.State.flagLap; rw [h]; rfl
theorem flagLap_some {s : KSt} {n : Nat} (h : s.stopped = some n) : s.flagLap = n := by unfold Kg68.State.flagLap; rw [h]; rfl
theorem flag_void {s : KSt} (h : s.stopped = some 0) : s.flag = some 0 := by rw [flag_eq, if_pos (flagLap_some h)]
theorem flag_stop {s : KSt} {n : Nat} (h : s.stopped = some n) (hn : n ≠ 0) : s.flag = flagAt s n := by rw [flag_eq, flagLap_some h, if_neg hn]
theorem flag_full {m : Nat} {s : KSt} (g : Good m s) (h : s.stopped = none) : s.flag = flagAt s s.laps := by rw [flag_eq, flagLap_none h, if_neg (by have := g.l1; omega)]
theorem flagLap_le {m : Nat} {s : KSt} (g : Good m s) : s.flagLap ≤ s.laps := by
  cases h : s.stopped with
  | none => rw [flagLap_none h]; omega
  | some n => rw [flagLap_some h]; exact (g.stp n h).1
theorem most_is (s : KSt) : (∀ c ∈ s.cars, c.laps.length ≤ mostLaps s) ∧ (s.cars ≠ [] → ∃ c ∈ s.cars, c.laps.length = mostLaps s) := by
  obtain ⟨_, h2, h3⟩ := maxF_ge (s.cars.map fun c => c.laps.length) 0
  refine ⟨fun c hc => h2 _ (List.mem_map.mpr ⟨c, hc, rfl⟩), fun hne => ?_⟩
  rcases h3 with h3 | h3
  · cases hl : s.cars with
    | nil => exact absurd hl hne
    | cons c r =>
      have hc : c ∈ s.cars := by rw [hl]; simp
      have := h2 _ (List.mem_map.mpr ⟨c, hc, rfl⟩)
      refine ⟨c, by simp, ?_⟩
      unfold mostLaps
      omega
  · obtain ⟨c, hc, e⟩ := List.mem_map.mp h3
    exact ⟨c, hc, e⟩
theorem isThrown_eq {s : KSt} {i : Nat} : s.isThrown i = ((s.car i).thrown || ((s.car i).late || (!s.wet && (s.stopped.isNone && decide ((s.car i).tyres.eraseDups.length < 2))))) := rfl
end L2

set_option Elab.async false
set_option linter.all false
set_option maxRecDepth 100000
set_option maxHeartbeats 4000000
namespace L2
open PySem PySem.Spec PyProof.Rows
open Evl
section
variable {K : PySem.W.Frag} {mg : Str → Option Value} {A : Ad} {H H' : Hp} {y y' : RaceL} {s : KSt} {m i : Nat} {f : Str} {nm : Str} {E : XK} {σ : L2.St} {ta tc : TE} {v : V}
/-! ### a race in the heap -/
theorem RaceAt.mono (h : RaceAt A H y s) (e : Ex H H') : RaceAt A H' y s := ⟨e _ _ h.obj, e _ _ h.cars, fun i hi => (h.car i hi).mono e⟩
theorem ev_race (T : Txt K mg A) (h : Ev ta σ H (.ref y.r)) (hr : RaceAt A H y s) (n : NoAttr K A.cRace f) (l : (raceF y s).lookup f = some v) : Ev (tFld K ta f) σ H v := ev_fld h hr.obj T.clRace n l
theorem ev_racem {g : KSt → V} (h : Ev ta σ H (.ref y.r)) (hr : RaceAt A H y s) (gd : Good m s) (hm : m ≤ 900) (l : (raceF y s).lookup nm = none) : Ev (tMeth A.cRace nm (spRace A g) [] E ta tNil) σ H (g s) :=
  ev_meth (vs := []) h hr.obj l ea_nil fun H1 e Q q E => ⟨y, s, m, rfl, hr.mono e, gd, hm, q⟩
theorem ev_racec {g : KSt → Nat → V} {ok : KSt → Nat → Prop} (h : Ev ta σ H (.ref y.r)) (hc : Ev tc σ H (.ref (y.car i).a)) (hr : RaceAt A H y s) (gd : Good m s) (hm : m ≤ 900) (hi : i < s.cars.length) (o : ok s i) (l : (raceF y s).lookup nm = none) :
    Ev (tMeth A.cRace nm (spRaceCar A g ok) [] E ta (tCons tc tNil)) σ H (g s i) :=
  ev_meth (vs := [.ref (y.car i).a]) h hr.obj l (ea_cons hc ea_nil) fun H1 e Q q E => ⟨y, s, m, i, rfl, hr.mono e, gd, hm, hi, o, q⟩
theorem len_spRace {g : KSt → V} {vs : List V} {Q : VK} {E : XK} (h : spRace A g vs H Q E) : vs.length = 1 := by
  obtain ⟨_, _, _, rfl, _⟩ := h; rfl
theorem len_spRaceCar {g : KSt → Nat → V} {ok : KSt → Nat → Prop} {vs : List V} {Q : VK} {E : XK} (h : spRaceCar A g ok vs H Q E) : vs.length = 2 := by
  obtain ⟨_, _, _, _, rfl, _⟩ := h; rfl
theorem len_r_most_laps {vs : List V} {Q : VK} {E : XK} (h : sp_r_most_laps K A vs H Q E) : vs.length = 1 := len_spRace h
theorem len_r_fall {vs : List V} {Q : VK} {E : XK} (h : sp_r_fall K A vs H Q E) : vs.length = 1 := len_spRace h
theorem len_r_has_fallen {vs : List V} {Q : VK} {E : XK} (h : sp_r_has_fallen K A vs H Q E) : vs.length = 1 := len_spRace h
theorem len_r_is_void {vs : List V} {Q : VK} {E : XK} (h : sp_r_is_void K A vs H Q E) : vs.length = 1 := len_spRace h
theorem len_r_is_home {vs : List V} {Q : VK} {E : XK} (h : sp_r_is_home K A vs H Q E) : vs.length = 2 := len_spRaceCar h
theorem len_r_counting {vs : List V} {Q : VK} {E : XK} (h : sp_r_counting K A vs H Q E) : vs.length = 2 := len_spRaceCar h
theorem len_r_is_out {vs : List V} {Q : VK} {E : XK} (h : sp_r_is_out K A vs H Q E) : vs.length = 2 := len_spRaceCar h
theorem len_time_of_laps {vs : List V} {Q : VK} {E : XK} (h : sp_time_of_laps K A vs H Q E) : vs.length = 2 := by
  obtain ⟨_, _, _, _, rfl, _⟩ := h; rfl
theorem len_r_init {vs : List V} {Q : VK} {E : XK} (h : sp_r_init K A vs H Q E) : vs.length = 5 := by
  obtain ⟨_, _, _, _, _, _, _, _, rfl, _⟩ := h; rfl
theorem len_r_take_crossing_of {vs : List V} {Q : VK} {E : XK} (h : sp_r_take_crossing_of K A vs H Q E) : vs.length = 3 := by
  obtain ⟨_, _, _, _, _, rfl, _⟩ := h; rfl
theorem len_r_be_stopped {vs : List V} {Q : VK} {E : XK} (h : sp_r_be_stopped K A vs H Q E) : vs.length = 1 := by
  obtain ⟨_, _, _, rfl, _⟩ := h; rfl
theorem crefs_eq (y : RaceL) (l : List Nat) : crefs y l = l.map fun i => V.ref (y.car i).a := rfl
theorem pure_time_of_laps (T : Txt K mg A) (vs : List V) (H : Hp) (Q : VK) (E : XK) (h : sp_time_of_laps K A vs H Q E) : t_time_of_laps K A { nx := fun _ H' => Q .non H', rt := Q } (start n_time_of_laps vs) H := by
  obtain ⟨y, s, m, n, rfl, hr, gd, hn, k⟩ := h
  have z : EvL (tLc (iList K (tVar 0)) (gName 2) (tTest (tOp rGeI (tMeth A.cCar "laps" (sp_c_laps K A) [] E0 (tVar 2) tNil) (tVar 1))) (tOp (rIxL K) (tFld K (tVar 2) "times") (tOp rMinus (tVar 1) (tC (.int 1)))) [2]) (start n_time_of_laps [.ref y.ac, .int (n : Int)]) H
      (((List.range s.cars.length).filter fun i => decide (n ≤ (s.car i).laps.length)).map fun i => V.int (((s.car i).laps.getD (n - 1) 0 : Nat) : Int)) := by
    refine el_lcM (List.range s.cars.length) (fun i => V.ref (y.car i).a) (fun i => decide (n ≤ (s.car i).laps.length)) (fun i => V.int (((s.car i).laps.getD (n - 1) 0 : Nat) : Int)) 0 (ev_var rfl) (sq_of hr.cars) (by rw [List.length_range]; have := gd.n2; omega) (fun x => rfl) (fun i hi H1 e => ?_) (fun i hi H1 e hp => ?_)
    · have hc := (hr.car i (List.mem_range.mp hi)).mono e
      refine et_is (et_test (ev_op (ev_carm (ok := fun _ => True) (g := fun c => .int (c.laps.length : Nat)) (ev_var rfl) hc carN_laps trivial) (ev_var rfl) rv_ge)) ?_
      rw [Bool.eq_iff_iff]; simp
    · have hc := (hr.car i (List.mem_range.mp hi)).mono e
      have hp' : n ≤ (s.car i).laps.length := of_decide_eq_true hp
      refine ev_op (ev_car T (ev_var rfl) hc T.na_Car_times carF_times) (ev_op (ev_var rfl) ev_c rv_minus) (rv_ixL (sq_of hc.times) ?_)
      have e1 : (n : Int) - 1 = ((n - 1 : Nat) : Int) := by omega
      rw [e1]
      refine atI_nat (nints_at ?_)
      rw [List.getD_eq_getElem?_getD, List.getElem?_eq_getElem (by omega)]; rfl
  have e2 : (((List.range s.cars.length).filter fun i => decide (n ≤ (s.car i).laps.length)).map fun i => V.int (((s.car i).laps.getD (n - 1) 0 : Nat) : Int)) = ((s.cars.filterMap fun c => c.laps[n - 1]?).map fun (t : Nat) => (t : Int)).map V.int := by
    rw [flagAt_range, ← getlap (h := fun i => (s.car i).laps) hn, List.map_map, List.map_map]
    rfl
  rw [e2] at z
  refine s_ret (v := optV (flagAt s n)) (ev_minD z (fun _ _ => ev_c) (fun hz => ?_) (fun t ht hle => ?_)) fun H1 e => k H1 e
  · have hz' : (s.cars.filterMap fun c => c.laps[n - 1]?) = [] := by simpa using hz
    unfold flagAt
    rw [hz']; rfl
  · obtain ⟨t', ht', rfl⟩ := List.mem_map.mp ht
    have : flagAt s n = some t' := minF_is ht' fun u hu => by
      have := hle (u : Int) (List.mem_map.mpr ⟨u, hu, rfl⟩)
      omega
    rw [this]; rfl
theorem sv_tol (hr : RaceAt A H y s) (gd : Good m s) {n : Nat} (hn : 1 ≤ n) : SpV (sp_time_of_laps K A) [.ref y.ac, .int (n : Int)] H (optV (flagAt s n)) := fun H1 e Q q E => ⟨y, s, m, n, rfl, hr.mono e, gd, hn, q⟩
theorem scal_opt (o : Option Nat) (n : Int) : scal (optV o) (.int n) = true := by cases o <;> rfl
theorem pure_r_fall (T : Txt K mg A) (vs : List V) (H : Hp) (Q : VK) (E : XK) (h : sp_r_fall K A vs H Q E) : t_r_fall K A { nx := fun _ H' => Q .non H', rt := Q } (start n_r_fall vs) H := by
  obtain ⟨y, s, m, rfl, hr, gd, hm, k⟩ := h
  have ec : Ev (tFld K (tVar 0) "counted_for") (start n_r_fall [.ref y.r]) H (optV s.stopped) := ev_race T (ev_var rfl) hr T.na_Race_counted_for raceF_counted_for
  have ea : Ev (tFld K (tVar 0) "cars") (start n_r_fall [.ref y.r]) H (.ref y.ac) := ev_race T (ev_var rfl) hr T.na_Race_cars raceF_cars
  refine q_when (et_test (ev_op ec ev_c rv_isN)) (fun hb H1 e1 => ?_) (fun hb H1 e1 => ?_)
  · have hs : s.stopped = none := by
      cases hs : s.stopped with
      | none => rfl
      | some n => rw [hs] at hb; simp [optV] at hb
    refine s_ret (v := optV s.flag) ?_ fun H2 e2 => k H2 (e1.trans e2)
    rw [flag_full gd hs]
    exact ev_call (ea_cons (ea.mono e1) (ea_cons (ev_race T (ev_var rfl) (hr.mono e1) T.na_Race_many_laps raceF_many_laps) ea_nil)) (sv_tol (hr.mono e1) gd gd.l1)
  · cases hs : s.stopped with
    | none => rw [hs] at hb; simp [optV] at hb
    | some n =>
      refine q_when (b := decide (n = 0)) (et_is (et_test (ev_op (ec.mono e1) ev_c (rv_eq (scal_opt _ _)))) ?_) (fun hn H2 e2 => ?_) (fun hn H2 e2 => ?_)
      · rw [hs]
        show decide (V.int (n : Int) = V.int 0) = decide (n = 0)
        rw [dec_int, Bool.eq_iff_iff]; simp
      · have hn' : n = 0 := of_decide_eq_true hn
        subst hn'
        refine s_ret (v := optV s.flag) ?_ fun H3 e3 => k H3 ((e1.trans e2).trans e3)
        rw [flag_void hs]
        exact ev_c
      · have hn' : n ≠ 0 := of_decide_eq_false hn
        refine s_ret (v := optV s.flag) ?_ fun H3 e3 => k H3 ((e1.trans e2).trans e3)
        rw [flag_stop hs hn']
        have ec2 := (ec.mono e1).mono e2
        rw [hs] at ec2
        exact ev_call (ea_cons ((ea.mono e1).mono e2) (ea_cons ec2 ea_nil)) (sv_tol (hr.mono (e1.trans e2)) gd (by omega))
theorem ev_fall (h : Ev ta σ H (.ref y.r)) (hr : RaceAt A H y s) (gd : Good m s) (hm : m ≤ 900) : Ev (tMeth A.cRace "fall" (sp_r_fall K A) [] E ta tNil) σ H (optV s.flag) := ev_racem (g := fun s => optV s.flag) h hr gd hm raceN_fall
theorem ev_fallen (h : Ev ta σ H (.ref y.r)) (hr : RaceAt A H y s) (gd : Good m s) (hm : m ≤ 900) : Ev (tMeth A.cRace "has_fallen" (sp_r_has_fallen K A) [] E ta tNil) σ H (.bl s.flag.isSome) := ev_racem (g := fun s => .bl s.flag.isSome) h hr gd hm raceN_has_fallen
theorem ev_void (h : Ev ta σ H (.ref y.r)) (hr : RaceAt A H y s) (gd : Good m s) (hm : m ≤ 900) : Ev (tMeth A.cRace "is_void" (sp_r_is_void K A) [] E ta tNil) σ H (.bl (s.flagLap == 0)) := ev_racem (g := fun s => .bl (s.flagLap == 0)) h hr gd hm raceN_is_void
theorem ev_counting (h : Ev ta σ H (.ref y.r)) (hc : Ev tc σ H (.ref (y.car i).a)) (hr : RaceAt A H y s) (gd : Good m s) (hm : m ≤ 900) (hi : i < s.cars.length) : Ev (tMeth A.cRace "counting" (sp_r_counting K A) [] E ta (tCons tc tNil)) σ H (.int ((s.crossings i).length : Nat)) :=
  ev_racec (g := fun s i => .int ((s.crossings i).length : Nat)) (ok := fun _ _ => True) h hc hr gd hm hi trivial raceN_counting
theorem ev_home (h : Ev ta σ H (.ref y.r)) (hc : Ev tc σ H (.ref (y.car i).a)) (hr : RaceAt A H y s) (gd : Good m s) (hm : m ≤ 900) (hi : i < s.cars.length) : Ev (tMeth A.cRace "is_home" (sp_r_is_home K A) [] E ta (tCons tc tNil)) σ H (.bl (s.home i)) :=
  ev_racec (g := fun s i => .bl (s.home i)) (ok := fun _ _ => True) h hc hr gd hm hi trivial raceN_is_home
theorem ev_out (h : Ev ta σ H (.ref y.r)) (hc : Ev tc σ H (.ref (y.car i).a)) (hr : RaceAt A H y s) (gd : Good m s) (hm : m ≤ 900) (hi : i < s.cars.length) : Ev (tMeth A.cRace "is_out" (sp_r_is_out K A) [] E ta (tCons tc tNil)) σ H (.bl (s.isThrown i)) :=
  ev_racec (g := fun s i => .bl (s.isThrown i)) (ok := fun _ _ => True) h hc hr gd hm hi trivial raceN_is_out
theorem ev_laps {L : CarL} {c : KCar} (h : Ev ta σ H (.ref L.a)) (hc : CarAt A H i L c) : Ev (tMeth A.cCar "laps" (sp_c_laps K A) [] E ta tNil) σ H (.int (c.laps.length : Nat)) := ev_carm (ok := fun _ => True) (g := fun c => .int (c.laps.length : Nat)) h hc carN_laps trivial
theorem pure_r_has_fallen (T : Txt K mg A) (vs : List V) (H : Hp) (Q : VK) (E : XK) (h : sp_r_has_fallen K A vs H Q E) : t_r_has_fallen K A { nx := fun _ H' => Q .non H', rt := Q } (start n_r_has_fallen vs) H := by
  obtain ⟨y, s, m, rfl, hr, gd, hm, k⟩ := h
  refine s_ret (ev_is (ev_op (ev_fall (ev_var rfl) hr gd hm) ev_c rv_notN) ?_) fun H1 e => k H1 e
  cases hf : s.flag <;> simp [optV, hf]
theorem pure_r_is_void (T : Txt K mg A) (vs : List V) (H : Hp) (Q : VK) (E : XK) (h : sp_r_is_void K A vs H Q E) : t_r_is_void K A { nx := fun _ H' => Q .non H', rt := Q } (start n_r_is_void vs) H := by
  obtain ⟨y, s, m, rfl, hr, gd, hm, k⟩ := h
  refine s_ret (ev_is (ev_op (ev_race T (ev_var rfl) hr T.na_Race_counted_for raceF_counted_for) ev_c (rv_eq (scal_opt _ _))) ?_) fun H1 e => k H1 e
  show V.bl _ = V.bl _
  rw [void_iff gd]
  cases hs : s.stopped with
  | none => simp [optV]
  | some n => show V.bl (decide (V.int (n : Int) = V.int 0)) = _; rw [dec_int]; congr 1; rw [Bool.eq_iff_iff]; simp
theorem pure_r_most_laps (T : Txt K mg A) (vs : List V) (H : Hp) (Q : VK) (E : XK) (h : sp_r_most_laps K A vs H Q E) : t_r_most_laps K A { nx := fun _ H' => Q .non H', rt := Q } (start n_r_most_laps vs) H := by
  obtain ⟨y, s, m, rfl, hr, gd, hm, k⟩ := h
  have z : EvL (tLc (iList K (tFld K (tVar 0) "cars")) (gName 1) tYes (tMeth A.cCar "laps" (sp_c_laps K A) [] E0 (tVar 1) tNil) [1]) (start n_r_most_laps [.ref y.r]) H ((List.range s.cars.length).map fun i => V.int ((s.car i).laps.length : Nat)) := by
    refine el_lcA (List.range s.cars.length) (fun i => V.ref (y.car i).a) (fun i => V.int ((s.car i).laps.length : Nat)) 0 (ev_race T (ev_var rfl) hr T.na_Race_cars raceF_cars) (sq_of hr.cars) (by rw [List.length_range]; have := gd.n2; omega) (fun x => rfl) (fun i hi H1 e => ?_)
    exact ev_laps (ev_var rfl) ((hr.car i (List.mem_range.mp hi)).mono e)
  have e2 : ((List.range s.cars.length).map fun i => V.int ((s.car i).laps.length : Nat)) = ((s.cars.map fun c => c.laps.length).map fun (n : Nat) => (n : Int)).map V.int := by
    conv => rhs; rw [cars_range s]
    simp [List.map_map]
  rw [e2] at z
  refine s_ret (v := .int (mostLaps s : Nat)) (ev_maxL z (by have := gd.n1; simp; omega) fun t ht hle => ?_) fun H1 e => k H1 e
  obtain ⟨t', ht', rfl⟩ := List.mem_map.mp ht
  have : mostLaps s = t' := maxF_is ht' fun u hu => by
    have := hle (u : Int) (List.mem_map.mpr ⟨u, hu, rfl⟩)
    omega
  rw [this]
theorem goodC {m : Nat} (gd : Good m s) {i : Nat} (hi : i < s.cars.length) : GoodC m s (s.car i) := gd.cs _ (car_mem hi)
theorem ev_before {p : Addr} {l : List Nat} {t : Nat} {tf : TE} (h : Ev ta σ H (.ref p)) (hf : Ev tf σ H (.int (t : Int))) (hp : H p = some (.lst (nints l))) (hl : l.length ≤ 1000) : Ev (tCall (sp_many_before K A) [] E (tCons ta (tCons tf tNil))) σ H (.int ((l.filter fun u => decide (u < t)).length : Nat)) :=
  ev_call (ea_cons h (ea_cons hf ea_nil)) fun H1 e Q q E => ⟨p, l, t, rfl, e _ _ hp, hl, q⟩
theorem pure_r_is_home (T : Txt K mg A) (vs : List V) (H : Hp) (Q : VK) (E : XK) (h : sp_r_is_home K A vs H Q E) : t_r_is_home K A { nx := fun _ H' => Q .non H', rt := Q } (start n_r_is_home vs) H := by
  obtain ⟨y, s, m, i, rfl, hr, gd, hm, hi, _, k⟩ := h
  refine q_when (et_not (et_B (ev_fallen (ev_var rfl) hr gd hm))) (fun hb H1 e1 => ?_) (fun hb H1 e1 => ?_)
  · have hf : s.flag = none := by simpa using hb
    refine s_ret (v := .bl (s.home i)) (by rw [home_none hf]; exact ev_c) fun H2 e2 => k H2 (e1.trans e2)
  · cases hf : s.flag with
    | none => rw [hf] at hb; simp at hb
    | some f =>
      have hr1 := hr.mono e1
      have hc := hr1.car i hi
      have g := goodC gd hi
      have ef : Ev (tMeth A.cRace "fall" (sp_r_fall K A) [] E0 (tVar 0) tNil) (start n_r_is_home [.ref y.r, .ref (y.car i).a]) H1 (.int (f : Int)) := by
        have z := ev_fall (K := K) (E := E0) (ta := tVar 0) (σ := start n_r_is_home [.ref y.r, .ref (y.car i).a]) (ev_var rfl) hr1 gd hm
        rw [hf] at z
        exact z
      refine s_ret (v := .bl (s.home i)) (ev_is (ev_orV (ev_void (ev_var rfl) hr1 gd hm) fun _ => ev_op (ev_before (ev_car T (ev_var rfl) hc T.na_Car_times carF_times) ef hc.times (by have := g.few; have := gd.l2; omega)) (ev_laps (ev_var rfl) hc) rv_lt) ?_) fun H2 e2 => k H2 (e1.trans e2)
      rw [home_some hf]
      congr 1; congr 1; rw [Bool.eq_iff_iff]; simp
theorem pure_r_counting (T : Txt K mg A) (vs : List V) (H : Hp) (Q : VK) (E : XK) (h : sp_r_counting K A vs H Q E) : t_r_counting K A { nx := fun _ H' => Q .non H', rt := Q } (start n_r_counting vs) H := by
  obtain ⟨y, s, m, i, rfl, hr, gd, hm, hi, _, k⟩ := h
  refine q_when (et_not (et_B (ev_fallen (ev_var rfl) hr gd hm))) (fun hb H1 e1 => ?_) (fun hb H1 e1 => ?_)
  · have hf : s.flag = none := by simpa using hb
    refine s_ret (v := .int ((s.crossings i).length : Nat)) (by rw [crossings_none hf]; exact ev_laps (ev_var rfl) ((hr.mono e1).car i hi)) fun H2 e2 => k H2 (e1.trans e2)
  · cases hf : s.flag with
    | none => rw [hf] at hb; simp at hb
    | some f =>
      have hr1 := hr.mono e1
      refine q_when (et_B (ev_void (ev_var rfl) hr1 gd hm)) (fun hv H2 e2 => ?_) (fun hv H2 e2 => ?_)
      · have hv' : s.flagLap = 0 := by simpa using hv
        refine s_ret (v := .int ((s.crossings i).length : Nat)) (by rw [crossings_void hv']; exact ev_c) fun H3 e3 => k H3 ((e1.trans e2).trans e3)
      · have hv' : s.flagLap ≠ 0 := by simpa using hv
        have hr2 := hr1.mono e2
        have hc := hr2.car i hi
        have g := goodC gd hi
        have ef : Ev (tMeth A.cRace "fall" (sp_r_fall K A) [] E0 (tVar 0) tNil) (start n_r_counting [.ref y.r, .ref (y.car i).a]) H2 (.int (f : Int)) := by
          have z := ev_fall (K := K) (E := E0) (ta := tVar 0) (σ := start n_r_counting [.ref y.r, .ref (y.car i).a]) (ev_var rfl) hr2 gd hm
          rw [hf] at z
          exact z
        refine s_ret (v := .int ((s.crossings i).length : Nat)) (ev_is (ev_min2 (ev_laps (ev_var rfl) hc) (ev_op (ev_before (ev_car T (ev_var rfl) hc T.na_Car_times carF_times) ef hc.times (by have := g.few; have := gd.l2; omega)) ev_c rv_plus)) ?_) fun H3 e3 => k H3 ((e1.trans e2).trans e3)
        rw [crossings_some hf hv', List.length_take]
        congr 1
        split <;> omega
theorem pure_r_is_out (T : Txt K mg A) (vs : List V) (H : Hp) (Q : VK) (E : XK) (h : sp_r_is_out K A vs H Q E) : t_r_is_out K A { nx := fun _ H' => Q .non H', rt := Q } (start n_r_is_out vs) H := by
  obtain ⟨y, s, m, i, rfl, hr, gd, hm, hi, _, k⟩ := h
  have hc := hr.car i hi
  have g := goodC gd hi
  refine q_when (et_or (et_B (ev_car T (ev_var rfl) hc T.na_Car_is_thrown carF_is_thrown)) fun _ => et_B (ev_car T (ev_var rfl) hc T.na_Car_is_late carF_is_late)) (fun hb H1 e1 => ?_) (fun hb H1 e1 => ?_)
  · refine s_ret (v := .bl (s.isThrown i)) ?_ fun H2 e2 => k H2 (e1.trans e2)
    have : s.isThrown i = true := by
      rw [isThrown_eq, ← Bool.or_assoc, hb, Bool.true_or]
    rw [this]
    exact ev_c
  · have hr1 := hr.mono e1
    have hc1 := hr1.car i hi
    refine s_ret (v := .bl (s.isThrown i)) (ev_is (ev_andV (ev_notV (ev_race T (ev_var rfl) hr1 T.na_Race_is_wet raceF_is_wet)) fun _ => ev_andV (ev_op (ev_race T (ev_var rfl) hr1 T.na_Race_counted_for raceF_counted_for) ev_c rv_isN) fun _ =>
      ev_carm (ok := fun c => c.tyres.length ≤ 1000) (g := fun c => .bl (decide (c.tyres.eraseDups.length < 2))) (ev_var rfl) hc1 carN_has_one_kind (by have := g.tmany; have := g.pmany; omega)) ?_) fun H2 e2 => k H2 (e1.trans e2)
    rw [isThrown_eq, ← Bool.or_assoc, hb, Bool.false_or]
    congr 1; congr 1; congr 1
    cases s.stopped <;> simp [optV]
end
end L2

set_option Elab.async false
set_option linter.all false
set_option maxRecDepth 100000
set_option maxHeartbeats 4000000
namespace L2
open PySem PySem.Spec PyProof.Rows
open Evl
section
variable {K : PySem.W.Frag} {mg : Str → Option Value} {A : Ad} {H H' : Hp} {y y' : RaceL} {s s2 : KSt} {m i n : Nat} {f : Str} {nm : Str} {E : XK} {σ : L2.St} {ta tc : TE} {v : V}
/-! ### what stands apart -/
theorem ins_apart {C dx C2 dx2 : Addr} {fs gs : List (Str × V)} (h : fs ≠ gs) : HO.ins C dx fs ≠ HO.ins C2 dx2 gs := fun z => by cases z; exact h rfl
theorem race_car_ne {j : Nat} {L : CarL} {c : KCar} : raceF y s ≠ carF j L c := fun z => by
  have := congrArg List.length z
  exact absurd this (by show ¬ (5 = 9); decide)
theorem car_car_ne {i j : Nat} {L M : CarL} {c d : KCar} (h : i ≠ j) : carF i L c ≠ carF j M d := fun z => by
  unfold carF at z
  injection z with z1 _
  injection z1 with _ z2
  injection z2 with z3
  omega
theorem refs_ints_ne {l : List Nat} (hn : 0 < n) : HO.lst (crefs y (List.range n)) ≠ HO.lst (nints l) := fun z => by
  injection z with z
  have h0 := congrArg (fun q => q[0]?) z
  have e1 : (crefs y (List.range n))[0]? = some (.ref (y.car 0).a) := by
    unfold crefs
    rw [List.getElem?_map, List.getElem?_range (by omega)]; rfl
  have h0' : (crefs y (List.range n))[0]? = (nints l)[0]? := h0
  rw [e1] at h0'
  obtain ⟨k, _, e⟩ := nints_get h0'.symm
  cases e
theorem RaceAt.r_a (h : RaceAt A H y s) (hi : i < s.cars.length) : y.r ≠ (y.car i).a := ne_of h.obj (h.car i hi).obj (ins_apart race_car_ne)
theorem RaceAt.r_k (h : RaceAt A H y s) (hi : i < s.cars.length) : y.r ≠ (y.car i).ki := ne_of h.obj (h.car i hi).kinds ins_lst
theorem RaceAt.r_t (h : RaceAt A H y s) (hi : i < s.cars.length) : y.r ≠ (y.car i).ti := ne_of h.obj (h.car i hi).times ins_lst
theorem RaceAt.r_s (h : RaceAt A H y s) (hi : i < s.cars.length) : y.r ≠ (y.car i).se := ne_of h.obj (h.car i hi).sent ins_lst
theorem RaceAt.r_c (h : RaceAt A H y s) : y.r ≠ y.ac := ne_of h.obj h.cars ins_lst
theorem RaceAt.c_a (h : RaceAt A H y s) (hi : i < s.cars.length) : y.ac ≠ (y.car i).a := ne_of h.cars (h.car i hi).obj lst_ins
theorem RaceAt.c_k (h : RaceAt A H y s) (hi : i < s.cars.length) : y.ac ≠ (y.car i).ki := ne_of h.cars (h.car i hi).kinds (refs_ints_ne (by omega))
theorem RaceAt.c_t (h : RaceAt A H y s) (hi : i < s.cars.length) : y.ac ≠ (y.car i).ti := ne_of h.cars (h.car i hi).times (refs_ints_ne (by omega))
theorem RaceAt.c_s (h : RaceAt A H y s) (hi : i < s.cars.length) : y.ac ≠ (y.car i).se := ne_of h.cars (h.car i hi).sent (refs_ints_ne (by omega))
theorem RaceAt.a_a (h : RaceAt A H y s) {j : Nat} (hi : i < s.cars.length) (hj : j < s.cars.length) (ne : i ≠ j) : (y.car i).a ≠ (y.car j).a := ne_of (h.car i hi).obj (h.car j hj).obj (ins_apart (car_car_ne ne))
theorem CarAt.lst_at {L : CarL} {c : KCar} (h : CarAt A H i L c) (p : Nat) : ∃ l, H (L.lst p) = some (.lst (nints l)) := by
  match p with
  | 0 => exact ⟨_, h.kinds⟩
  | 1 => exact ⟨_, h.times⟩
  | _ + 2 => exact ⟨_, h.sent⟩
/-- a car is changed -/
theorem RaceAt.setCar (h : RaceAt A H y s) (sp : Sep y s.cars.length) (hi : i < s.cars.length) {f : KCar → KCar} {L2 : CarL} (ea : L2.a = (y.car i).a) (ek : L2.ki = (y.car i).ki) (et : L2.ti = (y.car i).ti) (es : L2.se = (y.car i).se ∨ H L2.se = none)
    (hc : CarAt A H' i L2 (f (s.car i))) (fr : FrC H H' (y.car i)) :
    ∃ y2 : RaceL, y2.r = y.r ∧ y2.dr = y.dr ∧ y2.ac = y.ac ∧ (∀ j, (y2.car j).a = (y.car j).a) ∧ RaceAt A H' y2 (Kg68.setCar s i f) ∧ Sep y2 s.cars.length ∧ KeepR H y H' y2 s.cars.length := by
  refine ⟨{ y with car := fun j => if j = i then L2 else y.car j }, rfl, rfl, rfl, fun j => ?_, ⟨?_, ?_, fun j hj => ?_⟩, fun a b p q ha hb hp hq e => ?_, fun b o hb nb => ⟨?_, fun z => nb ?_⟩⟩
  · show (if j = i then L2 else y.car j).a = _
    by_cases c : j = i
    · rw [if_pos c, c]; exact ea
    · rw [if_neg c]
  · exact fr _ _ h.obj (h.r_a hi) (h.r_k hi) (h.r_t hi) (h.r_s hi)
  · rw [setCar_len]
    have e1 : crefs { y with car := fun j => if j = i then L2 else y.car j } (List.range s.cars.length) = crefs y (List.range s.cars.length) := by
      unfold crefs
      refine List.map_congr_left fun j _ => ?_
      show V.ref (if j = i then L2 else y.car j).a = _
      by_cases c : j = i
      · rw [if_pos c, c, ea]
      · rw [if_neg c]
    rw [e1]
    exact fr _ _ h.cars (h.c_a hi) (h.c_k hi) (h.c_t hi) (h.c_s hi)
  · rw [setCar_len] at hj
    rw [setCar_car s i f hj]
    show CarAt A H' j (if j = i then L2 else y.car j) _
    by_cases c : j = i
    · rw [if_pos c, if_pos c, c]; exact hc
    · rw [if_neg c, if_neg c]
      have hj' := h.car j hj
      have hi' := h.car i hi
      have lk : ∀ p, p < 3 → (y.car j).lst p ≠ (y.car i).ki := fun p hp z => c (sp j i p 0 hj hi hp (by decide) z).1
      have lt : ∀ p, p < 3 → (y.car j).lst p ≠ (y.car i).ti := fun p hp z => c (sp j i p 1 hj hi hp (by decide) z).1
      have ls : ∀ p, p < 3 → (y.car j).lst p ≠ (y.car i).se := fun p hp z => c (sp j i p 2 hj hi hp (by decide) z).1
      exact ⟨fr _ _ hj'.obj (h.a_a hj hi c) (ne_of hj'.obj hi'.kinds ins_lst) (ne_of hj'.obj hi'.times ins_lst) (ne_of hj'.obj hi'.sent ins_lst),
        fr _ _ hj'.kinds (ne_of hj'.kinds hi'.obj lst_ins) (lk 0 (by decide)) (lt 0 (by decide)) (ls 0 (by decide)),
        fr _ _ hj'.times (ne_of hj'.times hi'.obj lst_ins) (lk 1 (by decide)) (lt 1 (by decide)) (ls 1 (by decide)),
        fr _ _ hj'.sent (ne_of hj'.sent hi'.obj lst_ins) (lk 2 (by decide)) (lt 2 (by decide)) (ls 2 (by decide))⟩
  · have e' : (if a = i then L2 else y.car a).lst p = (if b = i then L2 else y.car b).lst q := e
    -- a changed place is the old one, or new
    have old : ∀ p, p < 3 → L2.lst p = (y.car i).lst p ∨ (p = 2 ∧ H (L2.lst p) = none) := fun p hp => by
      match p, hp with
      | 0, _ => exact .inl ek
      | 1, _ => exact .inl et
      | 2, _ =>
        rcases es with z | z
        · exact .inl z
        · exact .inr ⟨rfl, z⟩
    have nn : ∀ j p, j < s.cars.length → H ((y.car j).lst p) ≠ none := fun j p hj z => by
      obtain ⟨l, hl⟩ := (h.car j hj).lst_at p
      rw [hl] at z; cases z
    by_cases ca : a = i
    · by_cases cb : b = i
      · rw [if_pos ca, if_pos cb] at e'
        refine ⟨ca.trans cb.symm, ?_⟩
        rcases old p hp with o1 | ⟨o1, n1⟩
        · rcases old q hq with o2 | ⟨o2, n2⟩
          · exact (sp i i p q hi hi hp hq (by rw [← o1, ← o2]; exact e')).2
          · exact absurd (by rw [← o1, e']; exact n2) (nn i p hi)
        · rcases old q hq with o2 | ⟨o2, n2⟩
          · exact absurd (by rw [← o2, ← e']; exact n1) (nn i q hi)
          · omega
      · rw [if_pos ca, if_neg cb] at e'
        rcases old p hp with o1 | ⟨o1, n1⟩
        · have := sp i b p q hi hb hp hq (by rw [← o1]; exact e')
          exact absurd this.1.symm cb
        · exact absurd (by rw [← e']; exact n1) (nn b q hb)
    · by_cases cb : b = i
      · rw [if_neg ca, if_pos cb] at e'
        rcases old q hq with o1 | ⟨o1, n1⟩
        · have := sp a i p q ha hi hp hq (by rw [← o1]; exact e')
          exact absurd this.1 ca
        · exact absurd (by rw [e']; exact n1) (nn a p ha)
      · rw [if_neg ca, if_neg cb] at e'
        exact sp a b p q ha hb hp hq e'
  · exact fr b o hb (fun z => nb (.inr (.inr ⟨i, hi, .inl z⟩))) (fun z => nb (.inr (.inr ⟨i, hi, .inr (.inl z)⟩))) (fun z => nb (.inr (.inr ⟨i, hi, .inr (.inr (.inl z))⟩))) (fun z => nb (.inr (.inr ⟨i, hi, .inr (.inr (.inr z))⟩)))
  · rcases z with z | z | ⟨j, hj, z⟩
    · exact .inl z
    · exact .inr (.inl z)
    · refine .inr (.inr ⟨j, hj, ?_⟩)
      have z' : b = (if j = i then L2 else y.car j).a ∨ b = (if j = i then L2 else y.car j).ki ∨ b = (if j = i then L2 else y.car j).ti ∨ b = (if j = i then L2 else y.car j).se := z
      by_cases c : j = i
      · rw [if_pos c] at z'
        rw [c]
        rw [ea, ek, et] at z'
        rcases z' with z' | z' | z' | z'
        · exact .inl z'
        · exact .inr (.inl z')
        · exact .inr (.inr (.inl z'))
        · rcases es with q | q
          · exact .inr (.inr (.inr (by rw [z', q])))
          · rw [z', q] at hb; cases hb
      · rw [if_neg c] at z'
        exact z'
/-- a field of the race is changed -/
theorem RaceAt.upd_r (h : RaceAt A H y s) (hc : s2.cars = s.cars) : RaceAt A (upd H y.r (.ins A.cRace y.dr (raceF y s2))) y s2 := by
  refine ⟨upd_same, ?_, fun i hi => ?_⟩
  · rw [upd_ne (Ne.symm h.r_c), hc]; exact h.cars
  · rw [hc] at hi
    have e : s2.car i = s.car i := by unfold Kg68.State.car; rw [hc]
    rw [e]
    have g := h.car i hi
    refine ⟨?_, ?_, ?_, ?_⟩
    · rw [upd_ne (Ne.symm (h.r_a hi))]; exact g.obj
    · rw [upd_ne (Ne.symm (h.r_k hi))]; exact g.kinds
    · rw [upd_ne (Ne.symm (h.r_t hi))]; exact g.times
    · rw [upd_ne (Ne.symm (h.r_s hi))]; exact g.sent
theorem raceF_len : (raceF y s).length < 1000 := by show 5 < 1000; decide
theorem sep_ok (sp : Sep y n) (hi : i < n) : CarOk (y.car i) :=
  ⟨fun z => absurd (sp i i 0 1 hi hi (by decide) (by decide) z).2 (by decide), fun z => absurd (sp i i 0 2 hi hi (by decide) (by decide) z).2 (by decide), fun z => absurd (sp i i 1 2 hi hi (by decide) (by decide) z).2 (by decide)⟩
theorem pure_r_be_stopped (T : Txt K mg A) (vs : List V) (H : Hp) (Q : VK) (E : XK) (h : sp_r_be_stopped K A vs H Q E) : t_r_be_stopped K A { nx := fun _ H' => Q .non H', rt := Q } (start n_r_be_stopped vs) H := by
  obtain ⟨y, s, m, rfl, hr, sp, gd, hm, k⟩ := h
  refine s_fld (y := .int ((mostLaps s - 1 : Nat) : Int)) (ev_is (ev_max2 ev_c (ev_op (ev_racem (g := fun s => .int (mostLaps s : Nat)) (ev_var rfl) hr gd hm raceN_most_laps) ev_c rv_minus)) ?_) (ev_var rfl) hr.obj T.clRace T.na_Race_counted_for raceF_len fun H1 e1 => ?_
  · congr 1
    split <;> omega
  · have h1 := hr.mono e1
    rw [raceP_counted_for]
    refine k _ y rfl (fun _ => rfl) (h1.upd_r (s2 := { s with stopped := some (mostLaps s - 1), over := false }) rfl) sp fun b o hb nb => ⟨?_, nb⟩
    rw [upd_ne (fun z => nb (.inl z))]
    exact e1 _ _ hb
theorem pure_r_take_crossing_of (T : Txt K mg A) (vs : List V) (H : Hp) (Q : VK) (E : XK) (h : sp_r_take_crossing_of K A vs H Q E) : t_r_take_crossing_of K A { nx := fun _ H' => Q .non H', rt := Q } (start n_r_take_crossing_of vs) H := by
  obtain ⟨y, s, m, i, t, rfl, hr, sp, gd, hm, hi, k⟩ := h
  have hc := hr.car i hi
  have g := goodC gd hi
  refine ⟨_, rfl, (y.car i).a, _, _, rfl, hc.obj, carN_take_crossing, _, rfl, i, y.car i, s.car i, t, rfl, hc, sep_ok sp hi, (by have := g.few; have := gd.l2; omega), g.srt, fun H1 L1 ea ek et es hc1 fr => ?_⟩
  obtain ⟨y2, er, ed, ec, ecar, hr2, sp2, kp⟩ := hr.setCar (f := fun c => ({ c with laps := c.laps ++ [t] } : KCar).settle) sp hi ea ek et es hc1 fr
  have hr2' := hr2
  rw [← er]
  refine s_fld (y := .int (t : Int)) (ev_var rfl) (ev_var (by rw [er]; rfl)) hr2.obj T.clRace T.na_Race_last_told raceF_len fun H2 e2 => ?_
  rw [raceP_last_told]
  refine k _ y2 er ecar ((hr2.mono e2).upd_r (s2 := crossed s i t) rfl) sp2 fun b o hb nb => ?_
  obtain ⟨k1, k2⟩ := kp b o hb nb
  refine ⟨?_, k2⟩
  rw [upd_ne (fun z => k2 (.inl z))]
  exact e2 _ _ k1
end
end L2

set_option Elab.async false
set_option linter.all false
set_option maxRecDepth 100000
set_option maxHeartbeats 4000000
namespace L2
open PySem PySem.Spec PyProof.Rows
open Evl
section
variable {K : PySem.W.Frag} {mg : Str → Option Value} {A : Ad}
theorem freshRace_len {n : Nat} {wet : Bool} {t k : List Nat} (h : k.length = t.length) : (freshRace n wet t k).cars.length = t.length := by
  unfold freshRace; simp [h]
theorem freshRace_car {n : Nat} {wet : Bool} {t k : List Nat} (h : k.length = t.length) {i : Nat} (hi : i < t.length) : (freshRace n wet t k).car i = freshCar (t.getD i 0) (k.getD i 0) := by
  rw [car_get (by rw [freshRace_len h]; exact hi)]
  unfold freshRace
  simp [List.getD_eq_getElem?_getD, hi, h]
/-- behind i turns: so many cars are made -/
structure MadeCars (A : Ad) (H1 : Hp) (D : Addr) (t k : List Nat) (i : Nat) (H' : Hp) (car : Nat → CarL) : Prop where
  ex : Ex H1 H'
  lst : H' D = some (.lst ((List.range i).map fun j => V.ref (car j).a))
  at_ : ∀ j, j < i → CarAt A H' j (car j) (freshCar (t.getD j 0) (k.getD j 0))
  new : ∀ j b, j < i → (b = (car j).a ∨ b = (car j).ki ∨ b = (car j).ti ∨ b = (car j).se) → H1 b = none ∧ b ≠ D
  sep : Sep ⟨0, 0, 0, car⟩ i
theorem CarL.lst_mem (L : CarL) (p : Nat) : L.lst p = L.ki ∨ L.lst p = L.ti ∨ L.lst p = L.se := by
  match p with
  | 0 => exact .inl rfl
  | 1 => exact .inr (.inl rfl)
  | _ + 2 => exact .inr (.inr rfl)
theorem pure_r_init (T : Txt K mg A) (vs : List V) (H : Hp) (Q : VK) (E : XK) (h : sp_r_init K A vs H Q E) : t_r_init K A { nx := fun _ H' => Q .non H', rt := Q } (start n_r_init vs) H := by
  obtain ⟨p, dx, tl, kl, n, wet, t, k, rfl, hp, ht, hk, hlen, h26, q⟩ := h
  have np_t : tl ≠ p := ne_of ht hp lst_ins
  have np_k : kl ≠ p := ne_of hk hp lst_ins
  refine q_fld (ev_var rfl) (ev_var rfl) hp T.clRace T.na_Race_many_laps (by show 0 < 1000; decide) fun H1 e1 => ?_
  refine q_fld (ev_var rfl) (ev_var rfl) upd_same T.clRace T.na_Race_is_wet (by show 1 < 1000; decide) fun H2 e2 => ?_
  have o2 : ∀ b o, H b = some o → b ≠ p → (upd H2 p (.ins A.cRace dx (putF "is_wet" (.bl wet) (putF "many_laps" (.int (n : Int)) [])))) b = some o := fun b o z ne => by
    rw [upd_ne ne]; refine e2 _ _ ?_; rw [upd_ne ne]; exact e1 _ _ z
  have f2 : (upd H2 p (.ins A.cRace dx (putF "is_wet" (.bl wet) (putF "many_laps" (.int (n : Int)) [])))) p = some (.ins A.cRace dx [("many_laps", .int (n : Int)), ("is_wet", .bl wet)]) := by
    rw [upd_same, put_new (ks := ["many_laps"]) (fs := putF "many_laps" (.int (n : Int)) []) rfl (by decide +kernel)] <;> rfl
  generalize upd H2 p (.ins A.cRace dx (putF "is_wet" (.bl wet) (putF "many_laps" (.int (n : Int)) []))) = G2 at o2 f2 ⊢
  have ht2 := o2 _ _ ht np_t
  have hk2 := o2 _ _ hk np_k
  -- the cars
  refine ⟨_, rfl, tl, nints t, rfl, sq_of ht2, fun D hD => lc_it (walk_enum (K := K) (a := tl) (xs := nints t)) (fun i H' => ∃ car, MadeCars A G2 D t k i H' car)
    ⟨fun _ => ⟨0, 0, 0, 0, 0⟩, Ex.new hD, upd_same, fun j hj => absurd hj (by omega), fun j b hj => absurd hj (by omega), fun i j p q hi => absurd hi (by omega)⟩
    (fun i H' _ ⟨car, M⟩ => sq_of (M.ex _ _ ht2)) ?_ ?_⟩
  · rintro i x H3 H4 hi ⟨car, M⟩ ⟨T0, xi, xt, rfl, hT, rfl, h5, h6⟩
    rw [nints_len] at hi
    obtain rfl := (Option.some.inj h5)
    obtain ⟨ti, hti, rfl⟩ := nints_get h6
    have eti : t.getD i 0 = ti := by rw [List.getD_eq_getElem?_getD, hti]; rfl
    have hki : k[i]? = some (k.getD i 0) := by rw [List.getD_eq_getElem?_getD, List.getElem?_eq_getElem (by omega)]; rfl
    have ext : Ex H3 (upd H3 T0 (.tup [.int (i : Int), .int (ti : Int)])) := Ex.new hT
    refine ⟨T0, _, rfl, SqT.of upd_same, rfl, _, _, rfl, _, _, rfl, rfl, rfl, ?_⟩
    refine ⟨_, rfl, _, rfl, _, rfl, _, rfl, kl, _, _, _, rfl, rfl, sq_of (ext _ _ (M.ex _ _ hk2)), atI_nat (nints_at hki), fun x dd hx hd hne => ?_⟩
    have hx3 : H3 x = none := fresh_back ext hx
    have hd3 : H3 dd = none := fresh_back ext hd
    have nD : x ≠ D := fun z => by rw [z, M.lst] at hx3; cases hx3
    have ex2 : ∀ b o, H3 b = some o → b ≠ x → (upd (upd (upd H3 T0 (.tup [.int (i : Int), .int (ti : Int)])) dd (.own x)) x (.ins A.cCar dd [])) b = some o := fun b o z ne => by
      rw [upd_ne ne, upd_ne (ne_of_none z hd3)]
      exact ext _ _ z
    refine ⟨x, dd, i, ti, k.getD i 0, rfl, upd_same, fun H6 L la hc ok nk nt ns fr => ⟨rfl, ?_⟩⟩
    have keep : ∀ b o, H3 b = some o → H6 b = some o := fun b o z => by
      have ne : b ≠ x := ne_of_none z hx3
      exact fr b o (ex2 b o z ne) ne
    have new3 : ∀ b, (b = L.a ∨ b = L.ki ∨ b = L.ti ∨ b = L.se) → H3 b = none := fun b hb => by
      cases z : H3 b with
      | none => rfl
      | some o =>
        have ne : b ≠ x := ne_of_none z hx3
        have z2 := ex2 b o z ne
        rcases hb with hb | hb | hb | hb
        · exact absurd (hb.trans la) ne
        · rw [hb, nk] at z2; cases z2
        · rw [hb, nt] at z2; cases z2
        · rw [hb, ns] at z2; cases z2
    refine ⟨_, keep _ _ M.lst, (by rw [List.length_map, List.length_range]; show i < sizeLine; exact Nat.lt_of_lt_of_le (by omega : i < 26) (by decide)), fun j => if j = i then L else car j, ?_, ?_, ?_, ?_, ?_⟩
    · exact fun b o z => by
        have z3 := M.ex b o z
        rw [upd_ne (fun e => by rw [e, M.lst] at z3; rw [e, hD] at z; cases z)]
        exact keep _ _ z3
    · rw [upd_same, List.range_succ, List.map_append]
      congr 2
      congr 1
      · refine List.map_congr_left fun j hj => ?_
        have := List.mem_range.mp hj
        rw [if_neg (by omega)]
      · show [V.ref x] = [V.ref (if i = i then L else car i).a]
        rw [if_pos rfl, la]
    · intro j hj
      by_cases c : j = i
      · rw [if_pos c, c, eti]
        refine ⟨?_, ?_, ?_, ?_⟩
        · rw [upd_ne (by rw [la]; exact nD)]; exact hc.obj
        · rw [upd_ne (fun z => by have := new3 _ (.inr (.inl rfl)); rw [z, M.lst] at this; cases this)]; exact hc.kinds
        · rw [upd_ne (fun z => by have := new3 _ (.inr (.inr (.inl rfl))); rw [z, M.lst] at this; cases this)]; exact hc.times
        · rw [upd_ne (fun z => by have := new3 _ (.inr (.inr (.inr rfl))); rw [z, M.lst] at this; cases this)]; exact hc.sent
      · rw [if_neg c]
        have hj' : j < i := by omega
        have g := M.at_ j hj'
        refine ⟨?_, ?_, ?_, ?_⟩
        · rw [upd_ne (M.new j _ hj' (.inl rfl)).2]; exact keep _ _ g.obj
        · rw [upd_ne (M.new j _ hj' (.inr (.inl rfl))).2]; exact keep _ _ g.kinds
        · rw [upd_ne (M.new j _ hj' (.inr (.inr (.inl rfl)))).2]; exact keep _ _ g.times
        · rw [upd_ne (M.new j _ hj' (.inr (.inr (.inr rfl)))).2]; exact keep _ _ g.sent
    · intro j b hj hb
      by_cases c : j = i
      · have hb' : b = L.a ∨ b = L.ki ∨ b = L.ti ∨ b = L.se := by simpa [c] using hb
        have z := new3 b hb'
        exact ⟨fresh_back M.ex z, fun e => by rw [e, M.lst] at z; cases z⟩
      · rw [if_neg c] at hb
        exact M.new j b (by omega) hb
    · intro a b p1 p2 ha hb hp1 hp2 e
      have e' : (if a = i then L else car a).lst p1 = (if b = i then L else car b).lst p2 := e
      have nold : ∀ j p q, j < i → L.lst q ≠ (car j).lst p := fun j p q hj z => by
        obtain ⟨l, hl⟩ := (M.at_ j hj).lst_at p
        have n1 : H3 (L.lst q) = none := new3 _ (.inr (L.lst_mem q))
        rw [z, hl] at n1; cases n1
      by_cases ca : a = i
      · by_cases cb : b = i
        · rw [if_pos ca, if_pos cb] at e'
          refine ⟨ca.trans cb.symm, ?_⟩
          match p1, p2, hp1, hp2 with
          | 0, 0, _, _ => rfl
          | 1, 1, _, _ => rfl
          | 2, 2, _, _ => rfl
          | 0, 1, _, _ => exact absurd e' ok.1
          | 0, 2, _, _ => exact absurd e' ok.2.1
          | 1, 0, _, _ => exact absurd e'.symm ok.1
          | 1, 2, _, _ => exact absurd e' ok.2.2
          | 2, 0, _, _ => exact absurd e'.symm ok.2.1
          | 2, 1, _, _ => exact absurd e'.symm ok.2.2
        · rw [if_pos ca, if_neg cb] at e'
          exact absurd e' (nold b p2 p1 (by omega))
      · by_cases cb : b = i
        · rw [if_neg ca, if_pos cb] at e'
          exact absurd e'.symm (nold a p1 p2 (by omega))
        · rw [if_neg ca, if_neg cb] at e'
          exact M.sep a b p1 p2 (by omega) (by omega) hp1 hp2 e'
  · rintro H3 ⟨car, M⟩
    rw [nints_len] at M
    have f3 := M.ex _ _ f2
    refine ⟨_, rfl, p, A.cRace, dx, _, rfl, f3, T.clRace, T.na_Race_cars, (by show 2 < 1000; decide), ?_⟩
    rw [put_new (ks := ["many_laps", "is_wet"]) rfl (by decide +kernel)]
    refine q_fld ev_c (ev_var rfl) upd_same T.clRace T.na_Race_last_told (by show 3 < 1000; decide) fun H4 e4 => ?_
    rw [put_new (ks := ["many_laps", "is_wet", "cars"]) rfl (by decide +kernel)]
    refine s_fld ev_c (ev_var rfl) upd_same T.clRace T.na_Race_counted_for (by show 4 < 1000; decide) fun H5 e5 => ?_
    rw [put_new (ks := ["many_laps", "is_wet", "cars", "last_told"]) rfl (by decide +kernel)]
    have up : ∀ b o, H3 b = some o → b ≠ p → upd H5 p (.ins A.cRace dx (((([("many_laps", V.int (n : Int)), ("is_wet", V.bl wet)] : List (Str × V)) ++ [(("cars" : Str), V.ref D)]) ++ [(("last_told" : Str), V.int 0)]) ++ [(("counted_for" : Str), V.non)])) b = some o := fun b o z ne => by
      rw [upd_ne ne]; refine e5 _ _ ?_
      rw [upd_ne ne]; refine e4 _ _ ?_
      rw [upd_ne ne]; exact z
    have pnew : ∀ b, G2 b = none → b ≠ p := fun b z e => by rw [e, f2] at z; cases z
    have Hnew : ∀ b, G2 b = none → H b = none := fun b z => by
      cases w : H b with
      | none => rfl
      | some o => rw [o2 b o w (pnew b z)] at z; cases z
    refine q _ ⟨p, dx, D, car⟩ rfl ⟨upd_same, ?_, fun i hi => ?_⟩ M.sep (fun b hb => ?_) fun b o z ne => up _ _ (M.ex _ _ (o2 b o z ne)) ne
    · rw [freshRace_len hlen]
      exact up _ _ M.lst (pnew D hD)
    · rw [freshRace_len hlen] at hi
      rw [freshRace_car hlen hi]
      have g := M.at_ i hi
      exact ⟨up _ _ g.obj (pnew _ (M.new i _ hi (.inl rfl)).1), up _ _ g.kinds (pnew _ (M.new i _ hi (.inr (.inl rfl))).1), up _ _ g.times (pnew _ (M.new i _ hi (.inr (.inr (.inl rfl)))).1), up _ _ g.sent (pnew _ (M.new i _ hi (.inr (.inr (.inr rfl)))).1)⟩
    · rcases hb with hb | hb | ⟨i, hi, hb⟩
      · exact .inl hb
      · exact .inr (Hnew b (by rw [hb]; exact hD))
      · exact .inr (Hnew b (M.new i b hi hb).1)
end
end L2

set_option maxRecDepth 100000
set_option maxHeartbeats 1000000
namespace L2
open Kg68 (less put)
/-! ### sorting by keys -/
theorem less_trans : ∀ a b c : List Nat, less a b = true → less b c = true → less a c = true
  | [], _, _, h, _ => by simp [less] at h
  | _ :: _, [], _, h, _ => by simp [less] at h
  | _ :: _, _ :: _, [], _, h => by simp [less] at h
  | x :: a, y :: b, z :: c, h1, h2 => by
    have ih := less_trans a b c
    simp only [less, Bool.or_eq_true, decide_eq_true_eq, Bool.and_eq_true, beq_iff_eq] at h1 h2 ⊢
    rcases h1 with h1 | ⟨h1, h1'⟩
    · rcases h2 with h2 | ⟨h2, _⟩ <;> (left; omega)
    · rcases h2 with h2 | ⟨h2, h2'⟩
      · left; omega
      · right; exact ⟨by omega, ih h1' h2'⟩
theorem put_perm (key : Nat → List Nat) (x : Nat) : ∀ l, (put key x l).Perm (x :: l)
  | [] => List.Perm.refl _
  | y :: l => by
    unfold put
    split
    · exact List.Perm.refl _
    · exact ((put_perm key x l).cons y).trans (List.Perm.swap x y l)
def Rk (key : Nat → List Nat) (x y : Nat) : Prop := less (key y) (key x) = false
theorem put_sorted {key : Nat → List Nat} (x : Nat) : ∀ {l}, l.Pairwise (Rk key) → (put key x l).Pairwise (Rk key)
  | [], _ => by unfold put; simp
  | y :: l, h => by
    have h1 := List.pairwise_cons.mp h
    unfold put
    by_cases c : less (key x) (key y) = true
    · rw [if_pos c]
      refine List.pairwise_cons.mpr ⟨fun z hz => ?_, h⟩
      have no : ∀ w, less (key w) (key y) = false → less (key w) (key x) = false := fun w hw => by
        cases e : less (key w) (key x) with
        | false => rfl
        | true => rw [less_trans _ _ _ e c] at hw; cases hw
      rcases List.mem_cons.mp hz with rfl | hz
      · show less (key z) (key x) = false
        cases e : less (key z) (key x) with
        | false => rfl
        | true =>
          have := less_trans _ _ _ e c
          have irr : ∀ a : List Nat, less a a = false := fun a => by
            induction a with
            | nil => rfl
            | cons u r ih => simp [less, ih]
          rw [irr] at this; cases this
      · exact no z (h1.1 z hz)
    · rw [if_neg c]
      have c' : less (key x) (key y) = false := by simpa using c
      refine List.pairwise_cons.mpr ⟨fun z hz => ?_, put_sorted x h1.2⟩
      rcases List.mem_cons.mp ((put_perm key x l).mem_iff.mp hz) with rfl | hz
      · exact c'
      · exact h1.1 z hz
theorem puts (key : Nat → List Nat) : ∀ (o acc : List Nat), acc.Pairwise (Rk key) → (o.foldl (fun l i => put key i l) acc).Perm (o ++ acc) ∧ (o.foldl (fun l i => put key i l) acc).Pairwise (Rk key)
  | [], acc, h => ⟨List.Perm.refl _, h⟩
  | x :: o, acc, h => by
    obtain ⟨h1, h2⟩ := puts key o (put key x acc) (put_sorted x h)
    refine ⟨?_, h2⟩
    rw [List.foldl_cons]
    refine h1.trans ?_
    refine ((put_perm key x acc).append_left o).trans ?_
    exact List.perm_middle
/-- so many laps (more first), so much time, which -/
def rowZ (len tm : Nat → Nat) (i : Nat) : Int × Int × Int := (-(len i : Int), (tm i : Int), (i : Int))
def notLt (a b : Int × Int × Int) : Prop := ¬ (a.1 < b.1 ∨ (a.1 = b.1 ∧ (a.2.1 < b.2.1 ∨ (a.2.1 = b.2.1 ∧ a.2.2 < b.2.2))))
theorem ordered_rows (L : Nat) (len tm : Nat → Nat) (o : List Nat) (hl : ∀ i ∈ o, len i ≤ L) :
    (o.foldl (fun l i => put (fun j => [L - len j, tm j, j]) i l) []).Perm o ∧ (o.foldl (fun l i => put (fun j => [L - len j, tm j, j]) i l) []).Pairwise (fun x y => notLt (rowZ len tm y) (rowZ len tm x)) := by
  obtain ⟨h1, h2⟩ := puts (fun j => [L - len j, tm j, j]) o [] List.Pairwise.nil
  rw [List.append_nil] at h1
  refine ⟨h1, List.Pairwise.imp_of_mem (fun {x y} hx hy h => ?_) h2⟩
  have lx := hl x (h1.mem_iff.mp hx)
  have ly := hl y (h1.mem_iff.mp hy)
  have h' : less [L - len y, tm y, y] [L - len x, tm x, x] = false := h
  simp only [less, Bool.or_eq_false_iff, decide_eq_false_iff_not, Bool.and_eq_false_iff, beq_eq_false_iff_ne] at h'
  unfold notLt rowZ
  dsimp only
  omega
/-! ### crossings -/
theorem cross_le {m : Nat} {s : KSt} (g : Good m s) {i : Nat} (hi : i < s.cars.length) : (s.crossings i).length ≤ s.laps := Nat.le_trans (crossings_take s i).2 (g.cs _ (car_mem hi)).few
theorem cross_last {s : KSt} {i : Nat} (h : 0 < (s.crossings i).length) : (s.car i).laps[(s.crossings i).length - 1]? = some ((s.crossings i).getLastD 0) := by
  obtain ⟨h1, h2⟩ := crossings_take s i
  have hne : s.crossings i ≠ [] := fun z => by rw [z] at h; simp at h
  rw [List.getLastD_eq_getLast?, List.getLast?_eq_getElem?]
  conv => rhs; rw [h1]
  rw [List.length_take, Nat.min_eq_left h2, List.getElem?_take_of_lt (by omega), List.getElem?_eq_getElem (by omega)]
  rfl
theorem diffs : ∀ (l : List Nat) (p : Nat), (p :: l).Pairwise (· < ·) → (List.range l.length).map (fun i => ((l.getD i 0 : Nat) : Int) - (((p :: l).getD i 0 : Nat) : Int)) = (Kg68.lapTimes p l).map fun (n : Nat) => (n : Int)
  | [], _, _ => rfl
  | t :: r, p, h => by
    have hpt : p < t := List.rel_of_pairwise_cons h (by simp)
    have ih := diffs r t (List.Pairwise.of_cons h)
    rw [List.length_cons, List.range_succ_eq_map, List.map_cons, List.map_map]
    unfold Kg68.lapTimes
    rw [List.map_cons, ← ih]
    congr 1
    · simp; omega
theorem best_eq (l : List Nat) : Kg68.bestLap l = (Kg68.lapTimes 0 l).foldl minF none := rfl
theorem lapTimes_nil : ∀ (l : List Nat) (p : Nat), Kg68.lapTimes p l = [] ↔ l = []
  | [], p => by simp [Kg68.lapTimes]
  | t :: r, p => by simp [Kg68.lapTimes]
/-! ### the order, who is classed -/
def counts (s : KSt) (i : Nat) : Nat := (s.crossings i).length
def timeP (s : KSt) (i : Nat) : Nat := (s.crossings i).getLastD 0 + 1000 * (s.car i).penalty
def inRace (s : KSt) : List Nat := (List.range s.cars.length).filter fun i => !s.isThrown i && decide (0 < (s.crossings i).length)
theorem order_eq (s : KSt) : s.order = (inRace s).foldl (fun l i => put (fun j => [s.laps - counts s j, timeP s j, j]) i l) [] := rfl
theorem order_rows {m : Nat} {s : KSt} (g : Good m s) : s.order.Perm (inRace s) ∧ s.order.Pairwise (fun x y => notLt (rowZ (counts s) (timeP s) y) (rowZ (counts s) (timeP s) x)) := by
  rw [order_eq]
  exact ordered_rows s.laps (counts s) (timeP s) (inRace s) fun i hi => cross_le g (List.mem_range.mp (List.mem_filter.mp hi).1)
theorem order_mem {m : Nat} {s : KSt} (g : Good m s) {i : Nat} (h : i ∈ s.order) : i < s.cars.length ∧ 0 < (s.crossings i).length := by
  have := (order_rows g).1.mem_iff.mp h
  obtain ⟨h1, h2⟩ := List.mem_filter.mp this
  refine ⟨List.mem_range.mp h1, ?_⟩
  simp only [Bool.and_eq_true, decide_eq_true_eq] at h2
  exact h2.2
theorem order_nodup {m : Nat} {s : KSt} (g : Good m s) : s.order.Nodup := (order_rows g).1.nodup_iff.mpr (List.Nodup.sublist List.filter_sublist List.nodup_range)
theorem order_len {m : Nat} {s : KSt} (g : Good m s) : s.order.length ≤ 26 := by
  rw [(order_rows g).1.length_eq]
  have := List.length_filter_le (fun i => !s.isThrown i && decide (0 < (s.crossings i).length)) (List.range s.cars.length)
  rw [List.length_range] at this
  have := g.n2
  unfold inRace; omega
theorem classed_nil {s : KSt} (h : s.order = []) : s.classed = [] := by
  unfold Kg68.State.classed; rw [h]
theorem classed_cons {s : KSt} {w : Nat} {r : List Nat} (h : s.order = w :: r) : s.classed = s.order.filter fun i => decide (9 * (s.crossings w).length ≤ 10 * (s.crossings i).length) := by
  unfold Kg68.State.classed; rw [h]
theorem classed_head {s : KSt} {w : Nat} {r : List Nat} (h : s.order = w :: r) : ∃ q, s.classed = w :: q := by
  rw [classed_cons h, h, List.filter_cons, if_pos (by simp; omega)]
  exact ⟨_, rfl⟩
theorem classed_sub {s : KSt} {i : Nat} (h : i ∈ s.classed) : i ∈ s.order := by
  cases e : s.order with
  | nil => rw [classed_nil e] at h; simp at h
  | cons w r => rw [classed_cons e] at h; rw [← e]; exact (List.mem_filter.mp h).1
theorem classed_nodup {m : Nat} {s : KSt} (g : Good m s) : s.classed.Nodup := by
  cases e : s.order with
  | nil => rw [classed_nil e]; simp
  | cons w r => rw [classed_cons e]; exact List.Nodup.sublist List.filter_sublist (order_nodup g)
theorem classed_mem {m : Nat} {s : KSt} (g : Good m s) {i : Nat} (h : i ∈ s.classed) : i < s.cars.length ∧ 0 < (s.crossings i).length := order_mem g (classed_sub h)
theorem classed_len {m : Nat} {s : KSt} (g : Good m s) : s.classed.length ≤ 26 := by
  have h := order_len g
  cases e : s.order with
  | nil => rw [classed_nil e]; simp
  | cons w r =>
    rw [classed_cons e]
    exact Nat.le_trans (List.length_filter_le _ _) h
theorem worth_nil {s : KSt} (h : s.classed = []) : s.worth = 0 := by
  cases e : s.order with
  | nil => unfold Kg68.State.worth; rw [e]
  | cons w r => obtain ⟨q, hq⟩ := classed_head e; rw [hq] at h; cases h
theorem worth_cons {s : KSt} {w : Nat} {q : List Nat} (h : s.classed = w :: q) : s.worth = if 3 * s.laps ≤ 4 * (s.crossings w).length then 2 else if 2 ≤ (s.crossings w).length then 1 else 0 := by
  cases e : s.order with
  | nil => rw [classed_nil e] at h; cases h
  | cons u r =>
    obtain ⟨q', hq⟩ := classed_head e
    rw [hq] at h
    injection h with h1 _
    unfold Kg68.State.worth
    rw [e, h1]
theorem worth_le (s : KSt) : s.worth ≤ 2 := by
  cases e : s.classed with
  | nil => rw [worth_nil e]; omega
  | cons w q => rw [worth_cons e]; split <;> (try split) <;> omega
/-! ### the fastest lap -/
def best (s : KSt) (i : Nat) : Nat := (Kg68.bestLap (s.crossings i)).getD 0
def fstep (fn : Nat → Nat) (m : Option (Nat × Nat)) (i : Nat) : Option (Nat × Nat) := match m with
  | none => some (i, fn i)
  | some x => if fn i < x.2 then some (i, fn i) else some x
theorem fast_fold (fn : Nat → Nat) : ∀ (l : List Nat) (x0 : Nat × Nat), ∃ r : Nat × Nat, l.foldl (fstep fn) (some x0) = some r ∧ ((r = x0 ∧ ∀ i ∈ l, x0.2 ≤ fn i) ∨
    ∃ j : Nat, l[j]? = some r.1 ∧ r.2 = fn r.1 ∧ r.2 < x0.2 ∧ (∀ (m i : Nat), m < j → l[m]? = some i → r.2 < fn i) ∧ ∀ i ∈ l, r.2 ≤ fn i)
  | [], x0 => ⟨x0, rfl, .inl ⟨rfl, fun i h => absurd h (by simp)⟩⟩
  | a :: l, x0 => by
    rw [List.foldl_cons]
    by_cases c : fn a < x0.2
    · have e : fstep fn (some x0) a = some (a, fn a) := by unfold fstep; simp [c]
      rw [e]
      obtain ⟨r, h1, h2⟩ := fast_fold fn l (a, fn a)
      refine ⟨r, h1, .inr ?_⟩
      rcases h2 with ⟨rfl, h2⟩ | ⟨j, g1, g2, g3, g4, g5⟩
      · refine ⟨0, rfl, rfl, c, fun m i hm => absurd hm (by omega), fun i hi => ?_⟩
        rcases List.mem_cons.mp hi with rfl | hi
        · exact Nat.le_refl _
        · exact h2 i hi
      · refine ⟨j + 1, g1, g2, by simp at g3; omega, fun m i hm hi => ?_, fun i hi => ?_⟩
        · cases m with
          | zero => simp at hi; subst hi; exact g3
          | succ m => exact g4 m i (by omega) (by simpa using hi)
        · rcases List.mem_cons.mp hi with rfl | hi
          · exact Nat.le_of_lt g3
          · exact g5 i hi
    · have e : fstep fn (some x0) a = some x0 := by unfold fstep; simp [c]
      rw [e]
      obtain ⟨r, h1, h2⟩ := fast_fold fn l x0
      refine ⟨r, h1, ?_⟩
      rcases h2 with ⟨rfl, h2⟩ | ⟨j, g1, g2, g3, g4, g5⟩
      · refine .inl ⟨rfl, fun i hi => ?_⟩
        rcases List.mem_cons.mp hi with rfl | hi
        · omega
        · exact h2 i hi
      · refine .inr ⟨j + 1, g1, g2, g3, fun m i hm hi => ?_, fun i hi => ?_⟩
        · cases m with
          | zero => simp at hi; subst hi; omega
          | succ m => exact g4 m i (by omega) (by simpa using hi)
        · rcases List.mem_cons.mp hi with rfl | hi
          · omega
          · exact g5 i hi
theorem bestLap_some {l : List Nat} (h : l ≠ []) : ∃ t, Kg68.bestLap l = some t := by
  rw [best_eq]
  cases e : Kg68.lapTimes 0 l with
  | nil => exact absurd ((lapTimes_nil l 0).mp e) h
  | cons x r => obtain ⟨m, hm, _⟩ := minF_cons x r; exact ⟨m, hm⟩
theorem fastest_eq {m : Nat} {s : KSt} (g : Good m s) : s.fastest = s.classed.foldl (fstep (best s)) none := by
  unfold Kg68.State.fastest
  have key : ∀ (l : List Nat) (a : Option (Nat × Nat)), (∀ i ∈ l, i ∈ s.classed) → l.foldl (fun (m : Option (Nat × Nat)) i => match Kg68.bestLap (s.crossings i) with
      | none => m
      | some t => (match m with
        | none => some (i, t)
        | some x => if t < x.2 then some (i, t) else some x)) a = l.foldl (fstep (best s)) a := by
    intro l
    induction l with
    | nil => intro a _; rfl
    | cons x r ih =>
      intro a h
      rw [List.foldl_cons, List.foldl_cons, ih _ fun i hi => h i (List.mem_cons_of_mem _ hi)]
      congr 1
      have hx := (classed_mem g (h x (by simp))).2
      obtain ⟨t, ht⟩ := bestLap_some (l := s.crossings x) (fun z => by rw [z] at hx; simp at hx)
      unfold fstep best
      rw [ht]
      rfl
  exact key _ _ fun i hi => hi
/-- who it is: the first of the least -/
theorem fast_cons {m : Nat} {s : KSt} (g : Good m s) {w : Nat} {q : List Nat} (h : s.classed = w :: q) : ∃ (j i : Nat), s.classed[j]? = some i ∧ fastN s = (i : Int) ∧ (s.fastest.map fun x => x.1) = some i ∧ (∀ u ∈ s.classed, best s i ≤ best s u) ∧ ∀ k u, k < j → s.classed[k]? = some u → best s i < best s u := by
  have e : s.fastest = q.foldl (fstep (best s)) (some (w, best s w)) := by rw [fastest_eq g, h, List.foldl_cons]; rfl
  obtain ⟨r, h1, h2⟩ := fast_fold (best s) q (w, best s w)
  rw [h1] at e
  have eN : fastN s = (r.1 : Int) := by unfold fastN; rw [e]
  rcases h2 with ⟨rfl, h2⟩ | ⟨j, g1, g2, g3, g4, g5⟩
  · refine ⟨0, w, by rw [h]; rfl, eN, by rw [e]; rfl, fun u hu => ?_, fun k u hk => absurd hk (by omega)⟩
    rw [h] at hu
    rcases List.mem_cons.mp hu with rfl | hu
    · exact Nat.le_refl _
    · exact h2 u hu
  · refine ⟨j + 1, r.1, by rw [h]; simpa using g1, eN, by rw [e]; rfl, fun u hu => ?_, fun k u hk hu => ?_⟩
    · rw [h] at hu
      rw [← g2]
      rcases List.mem_cons.mp hu with rfl | hu
      · exact Nat.le_of_lt g3
      · exact g5 u hu
    · rw [h] at hu
      rw [← g2]
      cases k with
      | zero => simp at hu; subst hu; exact g3
      | succ k => exact g4 k u (by omega) (by simpa using hu)
theorem fast_nil {s : KSt} (h : s.classed = []) : fastN s = -1 := by
  unfold fastN Kg68.State.fastest
  rw [h]; rfl
/-! ### points -/
theorem idx_of {l : List Nat} (hn : l.Nodup) {p i : Nat} (h : l[p]? = some i) : (l.findIdx? fun x => x == i) = some p := by
  obtain ⟨hp, e⟩ := List.getElem?_eq_some_iff.mp h
  rw [List.findIdx?_eq_some_iff_getElem]
  refine ⟨hp, by simp [e], fun j hj => ?_⟩
  simp only [beq_iff_eq]
  intro z
  have := (List.getElem_inj hn).mp (z.trans e.symm)
  omega
theorem points_at {m : Nat} {s : KSt} (g : Good m s) {p i : Nat} (h : s.classed[p]? = some i) : s.points i = Kg68.TABLE.getD p 0 * s.worth + (if s.worth = 2 ∧ p < 10 ∧ fastN s = (i : Int) then 2 else 0) := by
  unfold Kg68.State.points
  rw [idx_of (classed_nodup g) h]
  dsimp only
  congr 1
  cases hc : s.classed with
  | nil => rw [hc] at h; simp at h
  | cons w q =>
    obtain ⟨_, u, _, h2, h3, _⟩ := fast_cons g hc
    rw [h3, h2]
    simp only [Option.some.injEq]
    congr 1
    rw [eq_iff_iff]
    omega
theorem points_zero {s : KSt} {i : Nat} (h : i ∉ s.classed) : s.points i = 0 := by
  unfold Kg68.State.points
  have : (s.classed.findIdx? fun x => x == i) = none := by
    rw [List.findIdx?_eq_none_iff]
    intro x hx
    simp only [beq_eq_false_iff_ne]
    exact fun z => h (z ▸ hx)
  rw [this]
theorem sum_filter (g : Nat → Nat) (p : Nat → Bool) : ∀ o : List Nat, (∀ i ∈ o, p i = false → g i = 0) → (o.map g).sum = ((o.filter p).map g).sum
  | [], _ => rfl
  | x :: r, h => by
    have ih := sum_filter g p r fun i hi => h i (List.mem_cons_of_mem _ hi)
    cases c : p x with
    | true => rw [List.filter_cons, if_pos c, List.map_cons, List.map_cons, List.sum_cons, List.sum_cons, ih]
    | false => rw [List.filter_cons, if_neg (by rw [c]; decide), List.map_cons, List.sum_cons, ih, h x (by simp) c]; simp
theorem team_sum {m : Nat} {s : KSt} (g : Good m s) (t : Nat) : s.teamPoints t = ((s.classed.filter fun i => decide ((s.car i).team = t)).map s.points).sum := by
  unfold Kg68.State.teamPoints
  have h1 : ((List.range s.cars.length).map fun i => if (s.car i).team = t then s.points i else 0).sum = (((List.range s.cars.length).filter fun i => decide (i ∈ s.classed)).map fun i => if (s.car i).team = t then s.points i else 0).sum :=
    sum_filter _ _ _ fun i _ hi => by
      have := of_decide_eq_false hi
      rw [points_zero this]; simp
  have h2 : ((List.range s.cars.length).filter fun i => decide (i ∈ s.classed)).Perm s.classed := by
    refine (List.perm_ext_iff_of_nodup (List.Nodup.sublist List.filter_sublist List.nodup_range) (classed_nodup g)).mpr fun i => ?_
    rw [List.mem_filter, List.mem_range, decide_eq_true_eq]
    exact ⟨fun h => h.2, fun h => ⟨(classed_mem g h).1, h⟩⟩
  rw [h1, (h2.map fun i => if (s.car i).team = t then s.points i else 0).sum_nat, sum_filter _ (fun i => decide ((s.car i).team = t)) s.classed fun i _ hi => if_neg (of_decide_eq_false hi)]
  congr 1
  refine List.map_congr_left fun i hi => ?_
  rw [if_pos (of_decide_eq_true (List.mem_filter.mp hi).2)]
/-! ### teams -/
theorem erase_snoc (l : List Nat) (t : Nat) : (l ++ [t]).eraseDups = if t ∈ l.eraseDups then l.eraseDups else l.eraseDups ++ [t] := by
  rw [List.eraseDups_append]
  by_cases c : t ∈ l
  · have e : List.removeAll [t] l = [] := by simp [List.removeAll, c]
    rw [e, if_pos (List.mem_eraseDups.mpr c)]; simp
  · have e : List.removeAll [t] l = [t] := by simp [List.removeAll, c]
    rw [e, if_neg (fun z => c (List.mem_eraseDups.mp z)), List.eraseDups_cons]
    simp
end L2

set_option Elab.async false
set_option linter.all false
set_option maxRecDepth 100000
set_option maxHeartbeats 4000000
namespace L2
open PySem PySem.Spec PyProof.Rows
open Evl
section
variable {K : PySem.W.Frag} {mg : Str → Option Value} {A : Ad} {σ : L2.St} {H : Hp} {te ta tb : TE} {t : TT}
/-! ### a comprehension over zip -/
def EvZ (K : PySem.W.Frag) (ta : TA) (σ : L2.St) (H : Hp) (xs ys : List V) : Prop := ∀ H0, Ex H H0 → ∀ Q : List V → Hp → Prop, (∀ a b H1, Ex H0 H1 → SqL K H1 a xs → SqL K H1 b ys → Q [.ref a, .ref b] H1) → ta σ H0 Q
theorem ez_LV {b : Addr} {xs ys : List V} (h : EvL ta σ H xs) (hb : Ev tb σ H (.ref b)) (hy : SqL K H b ys) : EvZ K (tCons ta (tCons tb tNil)) σ H xs ys := fun H0 e Q q =>
  h H0 e _ fun p H1 _ e1 hp => hb H1 (e.trans e1) _ fun H2 e2 => q p b H2 (e1.trans e2) (sq_of (e2 _ _ hp)) (ex_l ((e.trans e1).trans e2) hy)
theorem ez_VL {a : Addr} {xs ys : List V} (ha : Ev ta σ H (.ref a)) (hx : SqL K H a xs) (h : EvL tb σ H ys) : EvZ K (tCons ta (tCons tb tNil)) σ H xs ys := fun H0 e Q q =>
  ha H0 e _ fun H1 e1 => h H1 (e.trans e1) _ fun p H2 _ e2 hp => q a p H2 (e1.trans e2) (ex_l ((e.trans e1).trans e2) hx) (sq_of hp)
theorem el_catV {b : Addr} {xs ys : List V} (h : EvL ta σ H xs) (hb : Ev tb σ H (.ref b)) (hy : H b = some (.lst ys)) (hl : xs.length + ys.length ≤ 100000) : EvL (tOp rCat ta tb) σ H (xs ++ ys) := fun H1 e Q q =>
  h H1 e _ fun p H2 hp e2 h2 => hb H2 (e.trans e2) _ fun H3 e3 => ⟨p, b, xs, ys, rfl, rfl, e3 _ _ h2, e3 _ _ (e2 _ _ (e _ _ hy)), sz_of hl, fun n hn => q n _ (fresh_back (e2.trans e3) hn) ((e2.trans e3).trans (Ex.new hn)) upd_same⟩
theorem el_lcZ {ta : TA} {xs ys : List V} {j k : Nat} {vs : List Nat} (f : Nat → Bool) (v : Nat → V) (h : EvZ K ta σ H xs ys) (hz : xs.length ≤ 40000) (hw : ∀ x y, wipe (((wipe σ vs).set j (some x)).set k (some y)) vs = wipe σ vs)
    (ht : ∀ (i : Nat) (x y : V) H1, Ex H H1 → xs[i]? = some x → ys[i]? = some y → EvT t (((wipe σ vs).set j (some x)).set k (some y)) H1 (f i))
    (he : ∀ (i : Nat) (x y : V) H1, Ex H H1 → xs[i]? = some x → ys[i]? = some y → f i = true → Ev te (((wipe σ vs).set j (some x)).set k (some y)) H1 (v i)) :
    EvL (tLc (iZip K ta) (gTup K 2 (gCons (gName j) (gCons (gName k) gNil))) t te vs) σ H (given (min xs.length ys.length) f v) := fun H0 e Q q => h H0 e _ fun a b H1 e1 ha hb => ⟨a, b, xs, ys, rfl, ha, hb, fun D hD =>
  lc_it (walk_zip (K := K) (a := a) (b := b) (xs := xs) (ys := ys) rfl) (Cw H1 f v D) ⟨hD, Ex.new hD, upd_same⟩ (fun i H' _ p => ⟨ex_l p.2.1 ha, ex_l p.2.1 hb⟩)
    (fun i x H2 H3 hi p ⟨T, x1, y1, ex, hT, eH, hx1, hy1⟩ => by
      subst ex
      subst eH
      have p' : Cw H1 f v D i (upd H2 T (.tup [x1, y1])) := ⟨p.1, p.2.1.trans (Ex.new hT), Ex.new hT _ _ p.2.2⟩
      refine ⟨T, _, rfl, SqT.of upd_same, rfl, x1, _, rfl, y1, _, rfl, rfl, hw _ _, ?_⟩
      exact cw_turn p' (by omega) (ht i x1 y1 H1 (e.trans e1) hx1 hy1) (fun hf => he i x1 y1 H1 (e.trans e1) hx1 hy1 hf))
    (fun H' p => q D H' (fresh_back e1 p.1) (e1.trans p.2.1) p.2.2)⟩
/-! ### rows, sorted -/
theorem take_snoc {α : Type} {l : List α} {i : Nat} {x : α} (h : l[i]? = some x) : l.take (i + 1) = l.take i ++ [x] := by
  rw [List.take_add_one, h]; rfl
def RowsAt (H : Hp) (ts : List Addr) (rows : List (Int × Int × Int)) : Prop := ts.length = rows.length ∧ ∀ (j : Nat) (t : Addr) (r : Int × Int × Int), ts[j]? = some t → rows[j]? = some r → H t = some (.tup [.int r.1, .int r.2.1, .int r.2.2])
def kOf (H : Hp) (x : V) : Int × Int × Int := match x with
  | .ref t => (match H t with
    | some (.tup [.int a, .int b, .int c]) => (a, b, c)
    | _ => (0, 0, 0))
  | _ => (0, 0, 0)
theorem kOf_at {H : Hp} {t : Addr} {r : Int × Int × Int} (h : H t = some (.tup [.int r.1, .int r.2.1, .int r.2.2])) : kOf H (.ref t) = r := by
  unfold kOf
  dsimp only
  rw [h]
theorem RowsAt.mono {H H' : Hp} {ts : List Addr} {rows : List (Int × Int × Int)} (h : RowsAt H ts rows) (e : Ex H H') : RowsAt H' ts rows := ⟨h.1, fun j t r h1 h2 => e _ _ (h.2 j t r h1 h2)⟩
theorem RowsAt.keys {H : Hp} {ts : List Addr} {rows : List (Int × Int × Int)} (h : RowsAt H ts rows) : (ts.map V.ref).map (kOf H) = rows := by
  rw [List.map_map]
  apply List.ext_getElem
  · rw [List.length_map]; exact h.1
  · intro j h1 h2
    rw [List.getElem_map]
    rw [List.length_map] at h1
    exact kOf_at (h.2 j _ _ (List.getElem?_eq_getElem h1) (List.getElem?_eq_getElem h2))
theorem RowsAt.each {H : Hp} {ts : List Addr} {rows : List (Int × Int × Int)} (h : RowsAt H ts rows) : ∀ x ∈ ts.map V.ref, ∃ t, x = V.ref t ∧ H t = some (.tup [.int (kOf H x).1, .int (kOf H x).2.1, .int (kOf H x).2.2]) := fun x hx => by
  obtain ⟨t, ht, rfl⟩ := List.mem_map.mp hx
  obtain ⟨j, hj, e⟩ := List.getElem_of_mem ht
  have hj2 : j < rows.length := by rw [← h.1]; exact hj
  have z := h.2 j t rows[j] (by rw [List.getElem?_eq_getElem hj, e]) (List.getElem?_eq_getElem hj2)
  exact ⟨t, rfl, by rw [kOf_at z]; exact z⟩
def EvR (te : TE) (σ : L2.St) (H : Hp) (rows : List (Int × Int × Int)) : Prop := ∀ H0, Ex H H0 → ∀ Q : VK, (∀ p ts H2, H0 p = none → Ex H0 H2 → H2 p = some (.lst (ts.map V.ref)) → RowsAt H2 ts rows → Q (.ref p) H2) → te σ H0 Q
/-- [(e1, e2, e3) for x in xs] -/
theorem er_lc {α : Type} {e1 e2 e3 tl : TE} {a : Addr} {j : Nat} {vs : List Nat} (o : List α) (enc : α → V) (row : α → Int × Int × Int) (h : Ev tl σ H (.ref a)) (hx : SqL K H a (o.map enc)) (hz : o.length ≤ 40000) (hw : ∀ x, wipe ((wipe σ vs).set j (some x)) vs = wipe σ vs)
    (he1 : ∀ x ∈ o, ∀ H1, Ex H H1 → Ev e1 ((wipe σ vs).set j (some (enc x))) H1 (.int (row x).1)) (he2 : ∀ x ∈ o, ∀ H1, Ex H H1 → Ev e2 ((wipe σ vs).set j (some (enc x))) H1 (.int (row x).2.1)) (he3 : ∀ x ∈ o, ∀ H1, Ex H H1 → Ev e3 ((wipe σ vs).set j (some (enc x))) H1 (.int (row x).2.2)) :
    EvR (tLc (iList K tl) (gName j) tYes (tTup (tCons e1 (tCons e2 (tCons e3 tNil)))) vs) σ H (o.map row) := fun H0 e Q q => h H0 e _ fun H1 ee => ⟨a, rfl, ⟨o.map enc, ex_l (e.trans ee) hx⟩, fun D hD =>
  lc_list (K := K) (a := a) (xs := o.map enc) (fun i H' => Ex H1 H' ∧ ∃ ts : List Addr, H' D = some (.lst (ts.map V.ref)) ∧ RowsAt H' ts ((o.take i).map row) ∧ ∀ t ∈ ts, t ≠ D)
    ⟨Ex.new hD, [], upd_same, ⟨by simp, fun j t r h1 => by simp at h1⟩, fun t ht => absurd ht (by simp)⟩ (fun i H' _ p => ex_l ((e.trans ee).trans p.1) hx)
    (fun i x H' hi p => ⟨hw x, by
      obtain ⟨px, ts, p1, p2, p3⟩ := p
      rw [List.getElem?_map] at hi
      obtain ⟨u, hu, rfl⟩ := Option.map_eq_some_iff.mp hi
      have hm := List.mem_of_getElem? hu
      have E0 : Ex H H' := (e.trans ee).trans px
      refine he1 u hm H' E0 H' (exr _) _ fun G1 f1 => he2 u hm G1 (E0.trans f1) G1 (exr _) _ fun G2 f2 => he3 u hm G2 ((E0.trans f1).trans f2) G2 (exr _) _ fun G3 f3 => ?_
      refine ⟨(by show 3 ≤ sizeLine; decide), fun n hn => ?_⟩
      have f : Ex H' G3 := (f1.trans f2).trans f3
      have hD3 := f _ _ p1
      have nD : n ≠ D := fun z => by rw [z, hD3] at hn; cases hn
      have hlen : ts.length = i := by
        have := p2.1
        rw [List.length_map, List.length_take] at this
        have := (List.getElem?_eq_some_iff.mp hu).1
        omega
      refine ⟨ts.map V.ref, (Ex.new hn) _ _ hD3, ?_, ?_, ts ++ [n], ?_, ⟨?_, ?_⟩, ?_⟩
      · rw [List.length_map, hlen]
        have := (List.getElem?_eq_some_iff.mp hu).1
        exact sz_lt (by omega)
      · exact fun b ob hb => by
          have nb : b ≠ D := ne_of_none hb hD
          rw [upd_ne nb]
          exact (px.trans (f.trans (Ex.new hn))) _ _ hb
      · rw [upd_same, List.map_append]; rfl
      · rw [List.length_append, hlen, List.length_map, List.length_take]
        have := (List.getElem?_eq_some_iff.mp hu).1
        simp; omega
      · intro k t r hk hr
        rw [take_snoc hu, List.map_append] at hr
        by_cases c : k < i
        · rw [List.getElem?_append_left (by omega)] at hk
          rw [List.getElem?_append_left (by rw [List.length_map, List.length_take]; have := (List.getElem?_eq_some_iff.mp hu).1; omega)] at hr
          have nt := p3 t (List.mem_of_getElem? hk)
          rw [upd_ne nt]
          exact (f.trans (Ex.new hn)) _ _ (p2.2 k t r hk hr)
        · have hk' : k = i := by
            have := (List.getElem?_eq_some_iff.mp hk).1
            rw [List.length_append, hlen] at this
            simp at this; omega
          subst hk'
          rw [List.getElem?_append_right (by omega), hlen] at hk
          rw [List.getElem?_append_right (by rw [List.length_map, List.length_take]; omega)] at hr
          have hlt := (List.getElem?_eq_some_iff.mp hu).1
          have el : ((o.take k).map row).length = k := by rw [List.length_map, List.length_take]; omega
          rw [el] at hr
          simp at hk hr
          subst hk hr
          rw [upd_ne nD, upd_same]
      · intro t ht
        rcases List.mem_append.mp ht with ht | ht
        · exact p3 t ht
        · have : t = n := by simpa using ht
          rw [this]; exact nD⟩)
    (fun H' p => by
      obtain ⟨px, ts, p1, p2, p3⟩ := p
      rw [List.length_map, List.take_length] at p2
      exact q D ts H' (fresh_back ee hD) (ee.trans px) p1 p2)⟩
theorem lex_notLt {a b : Int × Int × Int} : RsR.lex3 a b = false ↔ notLt a b := by
  rw [RsR.lex3_no]; rfl
/-- sorted of such rows -/
theorem er_sorted {α : Type} {o ord : List α} {row : α → Int × Int × Int} (h : EvR te σ H (o.map row)) (hp : ord.Perm o) (hs : ord.Pairwise fun x y => notLt (row y) (row x)) : EvR (tCB (rSorted3 K) (tCons te tNil)) σ H (ord.map row) := fun H0 e Q q =>
  h H0 e _ fun p ts H2 hp0 e2 h2 hr => ⟨p, ts.map V.ref, kOf H2, rfl, sq_of h2, hr.each, fun ys n hy hsort hn => by
    have hm : ∀ x ∈ ys, ∃ t, x = V.ref t := fun x hx => by
      obtain ⟨t, _, rfl⟩ := List.mem_map.mp (hy.mem_iff.mp hx)
      exact ⟨t, rfl⟩
    have eq1 : ys.map (kOf H2) = ord.map row := by
      refine List.Perm.eq_of_pairwise (le := fun a b => RsR.lex3 b a = false) (fun a b _ _ h1 h2 => ?_) (List.pairwise_map.mpr hsort) (List.pairwise_map.mpr (hs.imp fun {x y} z => lex_notLt.mpr z)) ?_
      · have g1 := RsR.lex3_no.mp h1
        have g2 := RsR.lex3_no.mp h2
        obtain ⟨a1, a2, a3⟩ := a
        obtain ⟨b1, b2, b3⟩ := b
        dsimp only at g1 g2
        have r1 : a1 = b1 := by omega
        subst r1
        have r2 : a2 = b2 := by omega
        subst r2
        have r3 : a3 = b3 := by omega
        subst r3
        rfl
      · have z := hy.map (kOf H2)
        rw [hr.keys] at z
        exact z.trans (hp.map row).symm
    obtain ⟨us, hus⟩ : ∃ us : List Addr, ys = us.map V.ref := ⟨ys.map fun x => match x with | .ref t => t | _ => 0, by
      rw [List.map_map]
      conv => lhs; rw [← List.map_id ys]
      refine List.map_congr_left fun x hx => ?_
      obtain ⟨t, rfl⟩ := hm x hx
      rfl⟩
    refine q n us _ (fresh_back e2 hn) (e2.trans (Ex.new hn)) (by rw [upd_same, hus]) ⟨?_, fun j t r h3 h4 => ?_⟩
    · have := congrArg List.length eq1
      rw [hus] at this
      simpa using this
    · have h5 : (ys.map (kOf H2))[j]? = some r := by rw [eq1]; exact h4
      rw [hus, List.map_map, List.getElem?_map, h3] at h5
      have h6 : kOf H2 (.ref t) = r := Option.some.inj h5
      have ht : V.ref t ∈ ts.map V.ref := hy.mem_iff.mp (by rw [hus]; exact List.mem_map.mpr ⟨t, List.mem_of_getElem? h3, rfl⟩)
      obtain ⟨t2, e3, e4⟩ := hr.each _ ht
      cases e3
      rw [h6] at e4
      exact (Ex.new hn) _ _ e4⟩
theorem s_asgR {D : Ends} {i : Nat} {rows : List (Int × Int × Int)} {tz : TS} (h : EvR te σ H rows) (k : ∀ p ts H1, H p = none → Ex H H1 → H1 p = some (.lst (ts.map V.ref)) → RowsAt H1 ts rows → tz D (σ.set i (some (.ref p))) H1) : tSeq (tAsg te (gName i)) tz D σ H :=
  h H (Ex.refl H) _ fun p ts H1 hp e h1 h2 => k p ts H1 hp e h1 h2
end
end L2

set_option Elab.async false
set_option linter.all false
set_option maxRecDepth 100000
set_option maxHeartbeats 4000000
namespace L2
open PySem PySem.Spec PyProof.Rows
open Evl
section
variable {K : PySem.W.Frag} {mg : Str → Option Value} {A : Ad} {σ : L2.St} {H H' : Hp} {y : RaceL} {s : KSt} {m i : Nat} {te ta tb tc : TE} {t : TT} {E : XK}
/-! ### more of what evaluates to what -/
theorem ev_index {p : Addr} {ys : List V} {v z : V} {j : Nat} (h : Ev ta σ H (.ref p)) (hv : Ev tb σ H v) (hy : SqL K H p ys) (f1 : flatV v = true) (f2 : ys.all flatV = true) (hj : ys[j]? = some z) (hz : eqV z v = true) (hn : ∀ (k : Nat) (z' : V), k < j → ys[k]? = some z' → eqV z' v = false) :
    Ev (tBM K "list" (rIndex K) ta (tCons tb tNil)) σ H (.int (j : Nat)) := fun H1 e Q q =>
  h H1 e _ fun H2 e2 => ⟨.inl ⟨rfl, ys, ex_l (e.trans e2) hy⟩, hv H2 (e.trans e2) _ fun H3 e3 => ⟨p, ys, v, j, z, rfl, rfl, ex_l ((e.trans e2).trans e3) hy, f1, f2, hj, hz, hn, q H3 (e2.trans e3)⟩⟩
theorem ev_minV {p : Addr} {ns : List Int} {k : Int} (h : Ev ta σ H (.ref p)) (hp : SqL K H p (ns.map V.int)) (hn : 0 < ns.length) (h1 : ∀ m, m ∈ ns → (∀ y, y ∈ ns → m ≤ y) → m = k) : Ev (tCB (rMin K) (tCons ta tNil)) σ H (.int k) := fun H1 e Q q =>
  h H1 e _ fun H2 e2 => ⟨p, ns, rfl, ex_l (e.trans e2) hp, hn, fun m hm hle => (h1 m hm hle) ▸ q H2 e2⟩
theorem ev_lenT {p : Addr} {xs : List V} (ha : Ev ta σ H (.ref p)) (h : SqT K H p xs) : Ev (tCB (rLenS K) (tCons ta tNil)) σ H (.int (xs.length : Int)) := fun H1 e Q q =>
  ha H1 e _ fun H2 e2 => ⟨p, xs, rfl, .inr (ex_t (e.trans e2) h), q H2 e2⟩
theorem given_all (n : Nat) (v : Nat → V) : given n (fun _ => true) v = (List.range n).map v := by unfold given; rw [filter_true]
theorem cutV_take (l : List Nat) (k : Nat) : cutV (nints l) none (some (k : Int)) = nints (l.take k) := by
  unfold cutV
  rw [HT.sIx_none, HT.sIx_nat, List.drop_zero, Nat.sub_zero, nints_len]
  unfold nints
  rw [← List.map_take]
  congr 1
  rw [List.take_eq_take_iff]; omega
theorem cutR_take (y : RaceL) (l : List Nat) (k : Nat) : cutV (crefs y l) none (some (k : Int)) = crefs y (l.take k) := by
  unfold cutV
  rw [HT.sIx_none, HT.sIx_nat, List.drop_zero, Nat.sub_zero]
  unfold crefs
  rw [← List.map_take, List.length_map]
  congr 1
  rw [List.take_eq_take_iff]; omega
theorem crefs_len (y : RaceL) (l : List Nat) : (crefs y l).length = l.length := by unfold crefs; simp
theorem crefs_at {l : List Nat} {j i : Nat} (h : l[j]? = some i) : (crefs y l)[j]? = some (.ref (y.car i).a) := by
  unfold crefs
  rw [List.getElem?_map, h]; rfl
theorem crefs_get {l : List Nat} {j : Nat} {x : V} (h : (crefs y l)[j]? = some x) : ∃ i, l[j]? = some i ∧ x = .ref (y.car i).a := by
  unfold crefs at h
  rw [List.getElem?_map] at h
  obtain ⟨i, hi, rfl⟩ := Option.map_eq_some_iff.mp h
  exact ⟨i, hi, rfl⟩
theorem ev_penalty {L : CarL} {c : KCar} (h : Ev ta σ H (.ref L.a)) (hc : CarAt A H i L c) : Ev (tMeth A.cCar "penalty" (sp_c_penalty K A) [] E ta tNil) σ H (.int (c.penalty : Nat)) := ev_carm (ok := fun _ => True) (g := fun c => .int (c.penalty : Nat)) h hc carN_penalty trivial
theorem ev_last {L : CarL} {c : KCar} (h : Ev ta σ H (.ref L.a)) (hc : CarAt A H i L c) : Ev (tMeth A.cCar "last_time" (sp_c_last_time K A) [] E ta tNil) σ H (.int (c.laps.getLastD 0 : Nat)) := ev_carm (ok := fun _ => True) (g := fun c => .int (c.laps.getLastD 0 : Nat)) h hc carN_last_time trivial
theorem ev_twp (h : Ev ta σ H (.ref y.r)) (hc : Ev tc σ H (.ref (y.car i).a)) (hr : RaceAt A H y s) (gd : Good m s) (hm : m ≤ 900) (hi : i < s.cars.length) (hp : 0 < (s.crossings i).length) : Ev (tCall (sp_time_with_penalties K A) [] E (tCons ta (tCons tc tNil))) σ H (.int (timeP s i : Nat)) :=
  ev_call (ea_cons h (ea_cons hc ea_nil)) fun H1 e Q q E => ⟨y, s, m, i, rfl, hr.mono e, gd, hm, hi, hp, q⟩
theorem ev_best (h : Ev ta σ H (.ref y.r)) (hc : Ev tc σ H (.ref (y.car i).a)) (hr : RaceAt A H y s) (gd : Good m s) (hm : m ≤ 900) (hi : i < s.cars.length) : Ev (tCall (sp_best_lap K A) [] E (tCons ta (tCons tc tNil))) σ H (.int (best s i : Nat)) :=
  ev_call (ea_cons h (ea_cons hc ea_nil)) fun H1 e Q q E => ⟨y, s, m, i, rfl, hr.mono e, gd, hm, hi, trivial, q⟩
theorem el_classed (h : Ev ta σ H (.ref y.r)) (hr : RaceAt A H y s) (gd : Good m s) (hm : m ≤ 900) : EvL (tCall (sp_classed K A) [] E (tCons ta tNil)) σ H (crefs y s.classed) :=
  el_call (ea_cons h ea_nil) fun H1 e Q q E => ⟨y, s, m, rfl, hr.mono e, gd, hm, q⟩
theorem ev_level {p : Addr} (h : Ev ta σ H (.ref y.r)) (hc : Ev tc σ H (.ref p)) (hp : H p = some (.lst (crefs y s.classed))) (hr : RaceAt A H y s) (gd : Good m s) (hm : m ≤ 900) : Ev (tCall (sp_level_of K A) [] E (tCons ta (tCons tc tNil))) σ H (.int (s.worth : Nat)) :=
  ev_call (ea_cons h (ea_cons hc ea_nil)) fun H1 e Q q E => ⟨y, s, m, p, rfl, hr.mono e, gd, hm, e _ _ hp, q⟩
theorem ev_fast {p : Addr} (h : Ev ta σ H (.ref y.r)) (hc : Ev tc σ H (.ref p)) (hp : H p = some (.lst (crefs y s.classed))) (hr : RaceAt A H y s) (gd : Good m s) (hm : m ≤ 900) : Ev (tCall (sp_fastest_number K A) [] E (tCons ta (tCons tc tNil))) σ H (.int (fastN s)) :=
  ev_call (ea_cons h (ea_cons hc ea_nil)) fun H1 e Q q E => ⟨y, s, m, p, rfl, hr.mono e, gd, hm, e _ _ hp, q⟩
theorem el_halves {p : Addr} (h : Ev ta σ H (.ref y.r)) (hc : Ev tc σ H (.ref p)) (hp : H p = some (.lst (crefs y s.classed))) (hr : RaceAt A H y s) (gd : Good m s) (hm : m ≤ 900) : EvL (tCall (sp_halves_of K A) [] E (tCons ta (tCons tc tNil))) σ H (nints (s.classed.map fun i => s.points i)) :=
  el_call (ea_cons h (ea_cons hc ea_nil)) fun H1 e Q q E => ⟨y, s, m, p, rfl, hr.mono e, gd, hm, e _ _ hp, q⟩
/-! ### how many are handed in -/
theorem len_spRaceL {g : RaceL → KSt → List V} {vs : List V} {Q : VK} {E : XK} (h : spRaceL A g vs H Q E) : vs.length = 1 := by
  obtain ⟨_, _, _, rfl, _⟩ := h; rfl
theorem len_spRaceSome {g : KSt → V} {vs : List V} {Q : VK} {E : XK} (h : spRaceSome A g vs H Q E) : vs.length = 2 := by
  obtain ⟨_, _, _, _, rfl, _⟩ := h; rfl
theorem len_time_with_penalties {vs : List V} {Q : VK} {E : XK} (h : sp_time_with_penalties K A vs H Q E) : vs.length = 2 := len_spRaceCar h
theorem len_best_lap {vs : List V} {Q : VK} {E : XK} (h : sp_best_lap K A vs H Q E) : vs.length = 2 := len_spRaceCar h
theorem len_ordered {vs : List V} {Q : VK} {E : XK} (h : sp_ordered K A vs H Q E) : vs.length = 1 := len_spRaceL h
theorem len_classed {vs : List V} {Q : VK} {E : XK} (h : sp_classed K A vs H Q E) : vs.length = 1 := len_spRaceL h
theorem len_teams_in_order {vs : List V} {Q : VK} {E : XK} (h : sp_teams_in_order K A vs H Q E) : vs.length = 1 := len_spRaceL h
theorem len_level_of {vs : List V} {Q : VK} {E : XK} (h : sp_level_of K A vs H Q E) : vs.length = 2 := len_spRaceSome h
theorem len_fastest_number {vs : List V} {Q : VK} {E : XK} (h : sp_fastest_number K A vs H Q E) : vs.length = 2 := len_spRaceSome h
theorem len_points_by_places {vs : List V} {Q : VK} {E : XK} (h : sp_points_by_places K A vs H Q E) : vs.length = 2 := by
  obtain ⟨_, _, rfl, _⟩ := h; rfl
theorem len_halves_of {vs : List V} {Q : VK} {E : XK} (h : sp_halves_of K A vs H Q E) : vs.length = 2 := by
  obtain ⟨_, _, _, _, rfl, _⟩ := h; rfl
theorem len_halves_of_team {vs : List V} {Q : VK} {E : XK} (h : sp_halves_of_team K A vs H Q E) : vs.length = 2 := by
  obtain ⟨_, _, _, _, rfl, _⟩ := h; rfl
/-! ### the standings -/
theorem pure_time_with_penalties (T : Txt K mg A) (vs : List V) (H : Hp) (Q : VK) (E : XK) (h : sp_time_with_penalties K A vs H Q E) : t_time_with_penalties K A { nx := fun _ H' => Q .non H', rt := Q } (start n_time_with_penalties vs) H := by
  obtain ⟨y, s, m, i, rfl, hr, gd, hm, hi, hp, k⟩ := h
  have hc := hr.car i hi
  have hp' : 0 < (s.crossings i).length := hp
  refine s_ret (v := .int (timeP s i : Nat)) (ev_is (ev_op (ev_op (ev_car T (ev_var rfl) hc T.na_Car_times carF_times) (ev_op (ev_counting (ev_var rfl) (ev_var rfl) hr gd hm hi) ev_c rv_minus) (rv_ixL (v := .int ((s.crossings i).getLastD 0 : Nat)) (sq_of hc.times) ?_)) (ev_op ev_c (ev_penalty (ev_var rfl) hc) (rv_times (.inl ⟨by decide, by decide⟩))) rv_plus) ?_) fun H1 e => k H1 e
  · have e1 : (((s.crossings i).length : Nat) : Int) - 1 = (((s.crossings i).length - 1 : Nat) : Int) := by omega
    rw [e1]
    exact atI_nat (nints_at (cross_last hp'))
  · unfold timeP
    congr 1
theorem pure_best_lap (T : Txt K mg A) (vs : List V) (H : Hp) (Q : VK) (E : XK) (h : sp_best_lap K A vs H Q E) : t_best_lap K A { nx := fun _ H' => Q .non H', rt := Q } (start n_best_lap vs) H := by
  obtain ⟨y, s, m, i, rfl, hr, gd, hm, hi, _, k⟩ := h
  have hc := hr.car i hi
  have g := goodC gd hi
  obtain ⟨ct, cl⟩ := crossings_take s i
  refine q_asgL (el_sl (ev_car T (ev_var rfl) hc T.na_Car_times carF_times) eo_none (eo_some (ev_counting (ev_var rfl) (ev_var rfl) hr gd hm hi)) (sq_of hc.times)) fun p H1 hp e1 hl => ?_
  rw [cutV_take, ← ct] at hl
  have inc : (0 :: s.crossings i).Pairwise (· < ·) := by
    rw [ct]
    have : (0 :: (s.car i).laps.take (s.crossings i).length).Sublist (0 :: (s.car i).laps) := (List.take_sublist _ _).cons₂ _
    exact g.inc.sublist this
  have few : (s.crossings i).length ≤ 100 := by have := g.few; have := gd.l2; omega
  have z := el_lcZ (K := K) (σ := [some (.ref y.r), some (.ref (y.car i).a), some (.ref p), none, none]) (H := H1) (te := tOp rMinus (tVar 4) (tVar 3)) (t := tYes) (j := 3) (k := 4) (vs := [3, 4]) (ta := tCons (tOp rCat (tLst (tCons (tC (.int 0)) tNil)) (tVar 2)) (tCons (tVar 2) tNil))
    (xs := [.int 0] ++ nints (s.crossings i)) (ys := nints (s.crossings i)) (fun _ => true) (fun j => .int (((((s.crossings i).getD j 0 : Nat) : Int)) - (((0 :: s.crossings i).getD j 0 : Nat) : Int)))
    (ez_LV (el_catV (el_lst (ea_cons ev_c ea_nil) (by show 1 ≤ 100000; decide)) (ev_var rfl) hl (by rw [nints_len]; show 1 + _ ≤ _; omega)) (ev_var rfl) (sq_of hl)) (by rw [List.length_append, nints_len]; show 1 + _ ≤ _; omega) (fun _ _ => rfl) (fun _ _ _ _ _ _ _ => et_yes) (fun j x u H2 e2 hx hu _ => ?_)
  · rw [given_all] at z
    have em : min ([V.int 0] ++ nints (s.crossings i)).length (nints (s.crossings i)).length = (s.crossings i).length := by
      rw [List.length_append, nints_len]; show min (1 + _) _ = _; omega
    have e2 : ((List.range (s.crossings i).length).map fun j => V.int (((((s.crossings i).getD j 0 : Nat) : Int)) - (((0 :: s.crossings i).getD j 0 : Nat) : Int))) = ((Kg68.lapTimes 0 (s.crossings i)).map fun (n : Nat) => (n : Int)).map V.int := by
      rw [← diffs _ _ inc, List.map_map]; rfl
    rw [em, e2] at z
    refine s_ret (v := .int (best s i : Nat)) (ev_minD z (fun _ _ => ev_c) (fun hz => ?_) (fun t ht hle => ?_)) fun H2 e2 => k H2 (e1.trans e2)
    · have hz' : Kg68.lapTimes 0 (s.crossings i) = [] := by simpa using hz
      unfold best
      rw [best_eq, hz']; rfl
    · obtain ⟨t', ht', rfl⟩ := List.mem_map.mp ht
      have : Kg68.bestLap (s.crossings i) = some t' := minF_is ht' fun u hu => by
        have := hle (u : Int) (List.mem_map.mpr ⟨u, hu, rfl⟩)
        omega
      unfold best
      rw [this]; rfl
  · obtain ⟨a, ha, rfl⟩ := nints_get hu
    have ea : (s.crossings i).getD j 0 = a := by rw [List.getD_eq_getElem?_getD, ha]; rfl
    have hx' : (nints (0 :: s.crossings i))[j]? = some x := hx
    obtain ⟨b, hb, rfl⟩ := nints_get hx'
    have eb : (0 :: s.crossings i).getD j 0 = b := by rw [List.getD_eq_getElem?_getD, hb]; rfl
    rw [ea, eb]
    exact ev_op (ev_var rfl) (ev_var rfl) rv_minus
theorem pure_ordered (T : Txt K mg A) (vs : List V) (H : Hp) (Q : VK) (E : XK) (h : sp_ordered K A vs H Q E) : t_ordered K A { nx := fun _ H' => Q .non H', rt := Q } (start n_ordered vs) H := by
  obtain ⟨y, s, m, rfl, hr, gd, hm, k⟩ := h
  have z1 := el_lcM (K := K) (σ := start n_ordered [.ref y.r]) (H := H) (te := tVar 2) (t := tAnd (tNot (tB (tMeth A.cRace "is_out" (sp_r_is_out K A) [] E0 (tVar 0) (tCons (tVar 2) tNil)))) (tTest (tOp rGtI (tMeth A.cRace "counting" (sp_r_counting K A) [] E0 (tVar 0) (tCons (tVar 2) tNil)) (tC (.int 0))))) (j := 2) (vs := [2]) (tl := tFld K (tVar 0) "cars")
    (List.range s.cars.length) (fun i => V.ref (y.car i).a) (fun i => !s.isThrown i && decide (0 < (s.crossings i).length)) (fun i => V.ref (y.car i).a) 0 (ev_race T (ev_var rfl) hr T.na_Race_cars raceF_cars) (sq_of hr.cars) (by rw [List.length_range]; have := gd.n2; omega) (fun x => rfl)
    (fun i hi H1 e => by
      have hi' := List.mem_range.mp hi
      refine et_and (et_not (et_B (ev_out (ev_var rfl) (ev_var rfl) (hr.mono e) gd hm hi'))) fun _ => et_is (et_test (ev_op (ev_counting (ev_var rfl) (ev_var rfl) (hr.mono e) gd hm hi') ev_c rv_gt)) ?_
      rw [Bool.eq_iff_iff]; simp) (fun i hi H1 e _ => ev_var rfl)
  refine q_asgL z1 fun p1 H1 hp1 e1 hl1 => ?_
  have hl1' : H1 p1 = some (.lst ((inRace s).map fun i => V.ref (y.car i).a)) := hl1
  have hr1 := hr.mono e1
  have hin : ∀ i ∈ inRace s, i < s.cars.length ∧ 0 < (s.crossings i).length := fun i hi => order_mem gd ((order_rows gd).1.mem_iff.mpr hi)
  have hlen : (inRace s).length ≤ 26 := by rw [← (order_rows gd).1.length_eq]; exact order_len gd
  refine s_asgR (er_sorted (o := inRace s) (ord := s.order) (row := rowZ (counts s) (timeP s)) (er_lc (inRace s) (fun i => V.ref (y.car i).a) (rowZ (counts s) (timeP s)) (ev_var rfl) (sq_of hl1') (by omega) (fun x => rfl)
    (fun i hi H2 e2 => ev_un (ev_counting (ev_var rfl) (ev_var rfl) (hr1.mono e2) gd hm (hin i hi).1) ru_n)
    (fun i hi H2 e2 => ev_twp (ev_var rfl) (ev_var rfl) (hr1.mono e2) gd hm (hin i hi).1 (hin i hi).2)
    (fun i hi H2 e2 => ev_car T (ev_var rfl) ((hr1.mono e2).car i (hin i hi).1) T.na_Car_number carF_number)) (order_rows gd).1 (order_rows gd).2) fun p2 ts H2 hp2 e2 hl2 hrows => ?_
  have hr2 := hr1.mono e2
  have z3 := el_lcL (K := K) (σ := [some (.ref y.r), some (.ref p1), none, some (.ref p2), none]) (H := H2) (te := tOp (rIxL K) (tFld K (tVar 0) "cars") (tOp (rIxT K) (tVar 4) (tC (.int 2)))) (t := tYes) (j := 4) (vs := [4]) (tl := tVar 3) (a := p2) (xs := ts.map V.ref)
    (fun _ => true) (fun j => .ref (y.car (s.order.getD j 0)).a) (ev_var rfl) (sq_of hl2) (by rw [List.length_map, hrows.1, List.length_map]; have := order_len gd; omega) (fun x => rfl) (fun _ _ _ _ _ => et_yes) (fun j x H3 e3 hx _ => by
      rw [List.getElem?_map] at hx
      obtain ⟨t, ht, rfl⟩ := Option.map_eq_some_iff.mp hx
      have hj : j < s.order.length := by
        have := (List.getElem?_eq_some_iff.mp ht).1
        have := hrows.1
        rw [List.length_map] at this
        omega
      have eo : s.order[j]? = some (s.order.getD j 0) := by rw [List.getD_eq_getElem?_getD, List.getElem?_eq_getElem hj]; rfl
      have ho := (order_mem gd (List.mem_of_getElem? eo)).1
      have hT := e3 _ _ (hrows.2 j t _ ht (by rw [List.getElem?_map, eo]; rfl))
      refine ev_op (ev_race T (ev_var rfl) (hr2.mono e3) T.na_Race_cars raceF_cars) (ev_op (ev_var rfl) ev_c (rv_ixT (v := .int ((s.order.getD j 0 : Nat) : Int)) (st_of hT) rfl)) (rv_ixL (sq_of (hr2.mono e3).cars) (atI_nat (crefs_at (List.getElem?_range ho)))))
  rw [given_all] at z3
  have e4 : ((List.range (ts.map V.ref).length).map fun j => V.ref (y.car (s.order.getD j 0)).a) = crefs y s.order := by
    rw [List.length_map, hrows.1, List.length_map]
    unfold crefs
    apply List.ext_getElem
    · simp
    · intro j h1 h2
      simp at h1
      simp [List.getD_eq_getElem?_getD, h1]
  rw [e4] at z3
  exact s_retL z3 fun p3 H3 hp3 e3 hl3 => k p3 H3 (fresh_back (e1.trans e2) hp3) ((e1.trans e2).trans e3) hl3
theorem pure_classed (T : Txt K mg A) (vs : List V) (H : Hp) (Q : VK) (E : XK) (h : sp_classed K A vs H Q E) : t_classed K A { nx := fun _ H' => Q .non H', rt := Q } (start n_classed vs) H := by
  obtain ⟨y, s, m, rfl, hr, gd, hm, k⟩ := h
  refine q_asgL (el_call (xs := crefs y s.order) (ea_cons (ev_var rfl) ea_nil) fun H1 e Q q E => ⟨y, s, m, rfl, hr.mono e, gd, hm, q⟩) fun p H1 hp e1 hl => ?_
  have hr1 := hr.mono e1
  refine q_when (et_test (ev_eqNil (ev_var rfl) (sq_of hl))) (fun hb H2 e2 => ?_) (fun hb H2 e2 => ?_)
  · have ho : s.order = [] := by unfold crefs at hb; simpa using hb
    refine s_retL (xs := crefs y s.classed) (by rw [classed_nil ho]; exact el_lst ea_nil (by show 0 ≤ 100000; decide)) fun p3 H3 hp3 e3 hl3 => k p3 H3 (fresh_back (e1.trans e2) hp3) ((e1.trans e2).trans e3) hl3
  · cases ho : s.order with
    | nil => rw [ho] at hb; simp [crefs] at hb
    | cons w r =>
      have hr2 := hr1.mono e2
      have hl2 := e2 _ _ hl
      have hw := (order_mem gd (i := w) (by rw [ho]; simp)).1
      refine q_asg (v := .int ((s.crossings w).length : Nat)) (ev_counting (ev_var rfl) (ev_op (ev_var rfl) ev_c (rv_ixL (sq_of hl2) (atI_nat (j := 0) (crefs_at (by rw [ho]; rfl))))) hr2 gd hm hw) fun H3 e3 => ?_
      have hr3 := hr2.mono e3
      have z := el_lcM (K := K) (σ := [some (.ref y.r), some (.ref p), some (.int ((s.crossings w).length : Nat)), none]) (H := H3) (te := tVar 3) (t := tTest (tOp rGeI (tOp rTimes (tC (.int 10)) (tMeth A.cRace "counting" (sp_r_counting K A) [] E0 (tVar 0) (tCons (tVar 3) tNil))) (tOp rTimes (tC (.int 9)) (tVar 2)))) (j := 3) (vs := [3]) (tl := tVar 1)
        s.order (fun i => V.ref (y.car i).a) (fun i => decide (9 * (s.crossings w).length ≤ 10 * (s.crossings i).length)) (fun i => V.ref (y.car i).a) 0 (ev_var rfl) (sq_of (e3 _ _ hl2)) (by have := order_len gd; omega) (fun x => rfl)
        (fun i hi H4 e4 => by
          refine et_is (et_test (ev_op (ev_op ev_c (ev_counting (ev_var rfl) (ev_var rfl) (hr3.mono e4) gd hm (order_mem gd hi).1) (rv_times (.inl ⟨by decide, by decide⟩))) (ev_op ev_c (ev_var rfl) (rv_times (.inl ⟨by decide, by decide⟩))) rv_ge)) ?_
          rw [Bool.eq_iff_iff]; simp; omega) (fun i hi H4 e4 _ => ev_var rfl)
      refine s_retL (xs := crefs y s.classed) (by rw [classed_cons ho]; exact z) fun p4 H4 hp4 e4 hl4 => k p4 H4 (fresh_back ((e1.trans e2).trans e3) hp4) (((e1.trans e2).trans e3).trans e4) hl4
theorem pure_level_of (T : Txt K mg A) (vs : List V) (H : Hp) (Q : VK) (E : XK) (h : sp_level_of K A vs H Q E) : t_level_of K A { nx := fun _ H' => Q .non H', rt := Q } (start n_level_of vs) H := by
  obtain ⟨y, s, m, p, rfl, hr, gd, hm, hp, k⟩ := h
  refine q_when (et_test (ev_eqNil (ev_var rfl) (sq_of hp))) (fun hb H1 e1 => ?_) (fun hb H1 e1 => ?_)
  · have ho : s.classed = [] := by unfold crefs at hb; simpa using hb
    exact s_ret (v := .int (s.worth : Nat)) (by rw [worth_nil ho]; exact ev_c) fun H2 e2 => k H2 (e1.trans e2)
  · cases ho : s.classed with
    | nil => rw [ho] at hb; simp [crefs] at hb
    | cons w r =>
      have hr1 := hr.mono e1
      have hw := (classed_mem gd (i := w) (by rw [ho]; simp)).1
      refine q_asg (v := .int ((s.crossings w).length : Nat)) (ev_counting (ev_var rfl) (ev_op (ev_var rfl) ev_c (rv_ixL (sq_of (e1 _ _ hp)) (atI_nat (j := 0) (crefs_at (by rw [ho]; rfl))))) hr1 gd hm hw) fun H2 e2 => ?_
      have hr2 := hr1.mono e2
      refine q_when (b := decide (3 * s.laps ≤ 4 * (s.crossings w).length)) (et_is (et_test (ev_op (ev_op ev_c (ev_var rfl) (rv_times (.inl ⟨by decide, by decide⟩))) (ev_op ev_c (ev_race T (ev_var rfl) hr2 T.na_Race_many_laps raceF_many_laps) (rv_times (.inl ⟨by decide, by decide⟩))) rv_ge)) ?_) (fun hb3 H3 e3 => ?_) (fun hb3 H3 e3 => ?_)
      · rw [Bool.eq_iff_iff]; simp; omega
      · exact s_ret (v := .int (s.worth : Nat)) (by rw [worth_cons ho, if_pos (of_decide_eq_true hb3)]; exact ev_c) fun H4 e4 => k H4 (((e1.trans e2).trans e3).trans e4)
      · refine q_when (b := decide (2 ≤ (s.crossings w).length)) (et_is (et_test (ev_op (ev_var rfl) ev_c rv_ge)) ?_) (fun hb4 H4 e4 => ?_) (fun hb4 H4 e4 => ?_)
        · rw [Bool.eq_iff_iff]; simp; omega
        · exact s_ret (v := .int (s.worth : Nat)) (by rw [worth_cons ho, if_neg (of_decide_eq_false hb3), if_pos (of_decide_eq_true hb4)]; exact ev_c) fun H5 e5 => k H5 ((((e1.trans e2).trans e3).trans e4).trans e5)
        · exact s_ret (v := .int (s.worth : Nat)) (by rw [worth_cons ho, if_neg (of_decide_eq_false hb3), if_neg (of_decide_eq_false hb4)]; exact ev_c) fun H5 e5 => k H5 ((((e1.trans e2).trans e3).trans e4).trans e5)
end
end L2

set_option Elab.async false
set_option linter.all false
set_option maxRecDepth 100000
set_option maxHeartbeats 4000000
namespace L2
open PySem PySem.Spec PyProof.Rows
open Evl
section
variable {K : PySem.W.Frag} {mg : Str → Option Value} {A : Ad} {σ : L2.St} {H H' : Hp} {y : RaceL} {s : KSt} {m i : Nat} {te ta tb tc : TE} {t : TT} {E : XK}
theorem flat_n (l : List Nat) : (nints l).all flatV = true := by
  unfold nints
  rw [List.all_map, List.all_eq_true]
  intro x _
  rfl
theorem pure_fastest_number (T : Txt K mg A) (vs : List V) (H : Hp) (Q : VK) (E : XK) (h : sp_fastest_number K A vs H Q E) : t_fastest_number K A { nx := fun _ H' => Q .non H', rt := Q } (start n_fastest_number vs) H := by
  obtain ⟨y, s, m, p, rfl, hr, gd, hm, hp, k⟩ := h
  have z1 := el_lcA (K := K) (σ := start n_fastest_number [.ref y.r, .ref p]) (H := H) (te := tCall (sp_best_lap K A) [] E0 (tCons (tVar 0) (tCons (tVar 3) tNil))) (j := 3) (vs := [3]) (tl := tVar 1) s.classed (fun i => V.ref (y.car i).a) (fun i => .int (best s i : Nat)) 0 (ev_var rfl) (sq_of hp) (by have := classed_len gd; omega) (fun x => rfl)
    (fun i hi H1 e => ev_best (ev_var rfl) (ev_var rfl) (hr.mono e) gd hm (classed_mem gd hi).1)
  have e1 : (s.classed.map fun i => V.int (best s i : Nat)) = nints (s.classed.map (best s)) := by unfold nints; rw [List.map_map]; rfl
  rw [e1] at z1
  refine q_asgL z1 fun q H1 hq e2 hl => ?_
  have hr1 := hr.mono e2
  refine q_when (et_test (ev_eqNil (ev_var rfl) (sq_of hl))) (fun hb H2 e3 => ?_) (fun hb H2 e3 => ?_)
  · have ho : s.classed = [] := by unfold nints at hb; simpa using hb
    exact s_ret (v := .int (fastN s)) (by rw [fast_nil ho]; exact ev_un ev_c ru_n) fun H3 e4 => k H3 ((e2.trans e3).trans e4)
  · cases ho : s.classed with
    | nil => rw [ho] at hb; simp [nints] at hb
    | cons w r =>
      obtain ⟨j, i, h1, h2, _, h4, h5⟩ := fast_cons gd ho
      have hl2 := e3 _ _ hl
      have hi := (classed_mem gd (List.mem_of_getElem? h1)).1
      have em : Ev (tCB (rMin K) (tCons (tVar 2) tNil)) [some (.ref y.r), some (.ref p), some (.ref q), none] H2 (.int (best s i : Nat)) := by
        refine ev_minV (ns := (s.classed.map (best s)).map fun (n : Nat) => (n : Int)) (ev_var rfl) (by rw [← nints_cast]; exact sq_of hl2) (by rw [ho]; simp) fun u hu hle => ?_
        obtain ⟨u', hu', rfl⟩ := List.mem_map.mp hu
        obtain ⟨c, hc, rfl⟩ := List.mem_map.mp hu'
        have g1 := hle (best s i : Int) (List.mem_map.mpr ⟨best s i, List.mem_map.mpr ⟨i, List.mem_of_getElem? h1, rfl⟩, rfl⟩)
        have g2 := h4 c hc
        omega
      have ei : Ev (tBM K "list" (rIndex K) (tVar 2) (tCons (tCB (rMin K) (tCons (tVar 2) tNil)) tNil)) [some (.ref y.r), some (.ref p), some (.ref q), none] H2 (.int (j : Nat)) := by
        refine ev_index (z := .int (best s i : Nat)) (ev_var rfl) em (sq_of hl2) rfl (flat_n _) (nints_at (by rw [List.getElem?_map, h1]; rfl)) (by show (((best s i : Nat) : Int) == ((best s i : Nat) : Int)) = true; simp) fun c z' hc hz => ?_
        obtain ⟨n, hn, rfl⟩ := nints_get hz
        rw [List.getElem?_map] at hn
        obtain ⟨u, hu, rfl⟩ := Option.map_eq_some_iff.mp hn
        have := h5 c u hc hu
        show (((best s u : Nat) : Int) == ((best s i : Nat) : Int)) = false
        simp only [beq_eq_false_iff_ne]
        omega
      refine s_ret (v := .int (fastN s)) ?_ fun H3 e4 => k H3 ((e2.trans e3).trans e4)
      rw [h2]
      exact ev_car T (ev_op (ev_var rfl) ei (rv_ixL (sq_of (e3 _ _ (e2 _ _ hp))) (atI_nat (crefs_at h1)))) ((hr1.mono e3).car i hi) T.na_Car_number carF_number
/-! ### a comprehension over a tuple -/
theorem el_lcT {a : Addr} {xs : List V} {tl : TE} {j : Nat} {vs : List Nat} (v : Nat → V) (h : ∀ H1, Ex H H1 → ∀ Q : VK, (∀ a H2, Ex H1 H2 → SqT K H2 a xs → Q (.ref a) H2) → tl σ H1 Q) (hz : xs.length ≤ 40000) (hw : ∀ x, wipe ((wipe σ vs).set j (some x)) vs = wipe σ vs)
    (he : ∀ (i : Nat) (x : V) H1, Ex H H1 → xs[i]? = some x → Ev te ((wipe σ vs).set j (some x)) H1 (v i)) : EvL (tLc (iTup K tl) (gName j) tYes te vs) σ H ((List.range xs.length).map v) := fun H0 e Q q => h H0 e _ fun a H1 e1 hx => ⟨a, rfl, ⟨xs, hx⟩, fun Dl hD =>
  lc_tup (xs := xs) (Cw H1 (fun _ => true) v Dl) ⟨hD, Ex.new hD, upd_same⟩ (fun i H' _ p => ex_t p.2.1 hx) (fun i x H' hi p => ⟨hw x, cw_turn p (by have := (List.getElem?_eq_some_iff.mp hi).1; omega) et_yes (fun _ => he i x H1 (e.trans e1) hi)⟩)
    (fun H' p => q Dl H' (fresh_back e1 p.1) (e1.trans p.2.1) (by rw [← given_all]; exact p.2.2))⟩
theorem table_eq : (([25, 18, 15, 12, 10, 8, 6, 4, 2, 1] : List Int).map V.int) = nints Kg68.TABLE := rfl
theorem pts_eq (l n : Nat) : ((List.range (Kg68.TABLE.take n).length).map fun p => Kg68.TABLE.getD p 0 * l) ++ List.replicate (n - (Kg68.TABLE.take n).length) 0 = (List.range n).map fun p => Kg68.TABLE.getD p 0 * l := by
  have ht : (Kg68.TABLE.take n).length = min n 10 := by rw [List.length_take]; rfl
  apply List.ext_getElem
  · simp [ht]; omega
  · intro p h1 h2
    simp at h2
    rw [List.getElem_map, List.getElem_range]
    by_cases c : p < min n 10
    · rw [List.getElem_append_left (by simp [ht]; omega)]
      simp
    · rw [List.getElem_append_right (by simp [ht]; omega)]
      simp only [List.getElem_replicate]
      have : Kg68.TABLE.getD p 0 = 0 := by
        rw [List.getD_eq_getElem?_getD, List.getElem?_eq_none (by show 10 ≤ p; omega)]; rfl
      rw [this]; simp
theorem ev_repV {tk : TE} {xs : List V} {n : Nat} (h : EvL ta σ H xs) (hk : ∀ H1, Ex H H1 → Ev tk σ H1 (.int (n : Int))) (hn : xs.length * n ≤ 100000) (h2 : n ≤ 100000) : EvL (tOp rRep ta tk) σ H (List.replicate n xs).flatten := fun H1 e Q q =>
  h H1 e _ fun p H2 hp e2 hl => hk H2 (e.trans e2) H2 (exr H2) _ fun H3 e3 => ⟨p, (n : Int), xs, rfl, rfl, e3 _ _ hl, by omega, by omega, by show xs.length * n ≤ sizeLine; exact sz_of hn, fun u hu => q u _ (fresh_back (e2.trans e3) hu) ((e2.trans e3).trans (Ex.new hu)) upd_same⟩
theorem el_catVL {b : Addr} {xs ys : List V} (hb : Ev ta σ H (.ref b)) (hx : H b = some (.lst xs)) (h : ∀ H1, Ex H H1 → EvL tb σ H1 ys) (hl : xs.length + ys.length ≤ 100000) : EvL (tOp rCat ta tb) σ H (xs ++ ys) := fun H1 e Q q =>
  hb H1 e _ fun H2 e2 => h H2 (e.trans e2) H2 (exr H2) _ fun p H3 hp e3 h3 => ⟨b, p, xs, ys, rfl, rfl, e3 _ _ (e2 _ _ (e _ _ hx)), h3, sz_of hl, fun n hn => q n _ (fresh_back (e2.trans e3) hn) ((e2.trans e3).trans (Ex.new hn)) upd_same⟩
theorem pure_points_by_places (T : Txt K mg A) (vs : List V) (H : Hp) (Q : VK) (E : XK) (h : sp_points_by_places K A vs H Q E) : t_points_by_places K A { nx := fun _ H' => Q .non H', rt := Q } (start n_points_by_places vs) H := by
  obtain ⟨l, n, rfl, hl, hn, k⟩ := h
  have tp : ∀ H : Hp, SqT K H A.a_POINTS (nints Kg68.TABLE) := fun H => by rw [← table_eq]; exact T.p_POINTS H
  have z1 := el_lcT (K := K) (a := 0) (σ := start n_points_by_places [.int (l : Int), .int (n : Int)]) (H := H) (te := tOp rTimes (tVar 0) (tVar 3)) (j := 3) (vs := [3]) (tl := tSl (rSlA K) (tC (.ref A.a_POINTS)) tNoPart (tPart (tVar 1))) (xs := nints (Kg68.TABLE.take n))
    (fun p => .int ((Kg68.TABLE.getD p 0 * l : Nat) : Int)) (fun H1 e Q q => ⟨_, rfl, (n : Int), rfl, A.a_POINTS, nints Kg68.TABLE, rfl, tp H1, (fun hw => by
      rw [HT.sIx_nat] at hw
      have : Kg68.TABLE.take n = Kg68.TABLE := List.take_of_length_le (by have := hw.2; rw [nints_len] at this; omega)
      exact q _ H1 (exr H1) (by rw [this]; exact tp H1)), (fun _ p hp => q p _ (Ex.new hp) (by rw [cutV_take]; exact st_of upd_same))⟩) (by rw [nints_len, List.length_take]; have : Kg68.TABLE.length = 10 := rfl; omega) (fun x => rfl)
    (fun p x H1 e hx => by
      obtain ⟨u, hu, rfl⟩ := nints_get hx
      have eu : Kg68.TABLE.getD p 0 = u := by
        have hlt := (List.getElem?_eq_some_iff.mp hu).1
        rw [List.length_take] at hlt
        rw [List.getElem?_take_of_lt (by omega)] at hu
        rw [List.getD_eq_getElem?_getD, hu]; rfl
      refine ev_is (ev_op (ev_var rfl) (ev_var rfl) (rv_times (.inl ⟨by omega, by omega⟩))) ?_
      rw [eu, Nat.mul_comm]
      congr 1)
  rw [nints_len] at z1
  have e1 : ((List.range (Kg68.TABLE.take n).length).map fun p => V.int ((Kg68.TABLE.getD p 0 * l : Nat) : Int)) = nints ((List.range (Kg68.TABLE.take n).length).map fun p => Kg68.TABLE.getD p 0 * l) := by unfold nints; rw [List.map_map]; rfl
  rw [e1] at z1
  have ht : (Kg68.TABLE.take n).length = min n 10 := by rw [List.length_take]; rfl
  refine q_asgL z1 fun q H1 hq e2 hl1 => ?_
  have z2 : EvL (tOp rCat (tVar 2) (tOp rRep (tLst (tCons (tC (.int 0)) tNil)) (tOp rMinus (tVar 1) (tCB (Evl.rLenS K) (tCons (tVar 2) tNil))))) [some (.int (l : Int)), some (.int (n : Int)), some (.ref q), none] H1 (nints ((List.range (Kg68.TABLE.take n).length).map fun p => Kg68.TABLE.getD p 0 * l) ++ (List.replicate (n - (Kg68.TABLE.take n).length) [V.int 0]).flatten) := by
    refine el_catVL (ev_var rfl) hl1 (fun H2 e3 => ev_repV (n := n - (Kg68.TABLE.take n).length) (el_lst (ea_cons ev_c ea_nil) (by show 1 ≤ 100000; decide)) (fun H3 e4 => ev_is (ev_op (ev_var rfl) (ev_len (ev_var rfl) (sq_of ((e3.trans e4) _ _ hl1))) rv_minus) ?_) (by show 1 * _ ≤ _; omega) (by omega)) ?_
    · rw [nints_len, List.length_map, List.length_range, ht]
      congr 1; omega
    · rw [nints_len, List.length_map, List.length_range, ht]
      simp; omega
  have e3 : nints ((List.range (Kg68.TABLE.take n).length).map fun p => Kg68.TABLE.getD p 0 * l) ++ (List.replicate (n - (Kg68.TABLE.take n).length) [V.int 0]).flatten = nints ((List.range n).map fun p => Kg68.TABLE.getD p 0 * l) := by
    have e4 := pts_eq l n
    have e5 : (List.replicate (n - (Kg68.TABLE.take n).length) [V.int 0]).flatten = nints (List.replicate (n - (Kg68.TABLE.take n).length) 0) := by
      unfold nints
      simp
    rw [← e4, e5]
    unfold nints
    rw [List.map_append]
  rw [e3] at z2
  exact s_retL z2 fun p H2 hp e4 h4 => k p H2 (fresh_back e2 hp) (e2.trans e4) h4
/-! ### for over enumerate, over zip -/
theorem q_forEnum {xs : List V} {D : Ends} {tu tz : TS} {j k : Nat} (h : EvL ta σ H xs) (Pv : Addr → Nat → L2.St → Hp → Prop) (h0 : ∀ p H1, H p = none → Ex H H1 → H1 p = some (.lst xs) → Pv p 0 σ H1) (hG : ∀ p i σ' H', i ≤ xs.length → Pv p i σ' H' → SqL K H' p xs)
    (hs : ∀ p i x σ' H' T, xs[i]? = some x → Pv p i σ' H' → H' T = none → tu { D with nx := Pv p (i + 1), ct := Pv p (i + 1), bk := tz D } ((σ'.set j (some (.int (i : Nat)))).set k (some x)) (upd H' T (.tup [.int (i : Nat), x]))) (hd : ∀ p σ' H', Pv p xs.length σ' H' → tz D σ' H') :
    tSeq (tFor (iEnum K (tCons ta tNil)) (gTup K 2 (gCons (gName j) (gCons (gName k) gNil))) tu) tz D σ H :=
  h H (Ex.refl H) _ fun p H1 hp e h1 => ⟨p, xs, rfl, sq_of h1, for_it (walk_enum (K := K) (a := p) (xs := xs)) (Pv p) (h0 p H1 hp e h1) (hG p)
    (fun i x σ' H2 H3 hi pv ⟨T, x1, y1, ex, hT, eH, hx1, hy1⟩ => by
      subst ex
      subst eH
      have hx1' := Option.some.inj hx1
      subst hx1'
      exact ⟨T, _, rfl, SqT.of upd_same, rfl, _, _, rfl, _, _, rfl, rfl, hs p i y1 σ' H2 T hy1 pv hT⟩) (hd p)⟩
theorem q_forZip {ta : TA} {xs ys : List V} {D : Ends} {tu tz : TS} {j k : Nat} (h : EvZ K ta σ H xs ys) (Pv : Addr → Addr → Nat → L2.St → Hp → Prop) (h0 : ∀ a b H1, Ex H H1 → SqL K H1 a xs → SqL K H1 b ys → Pv a b 0 σ H1) (hG : ∀ a b i σ' H', Pv a b i σ' H' → SqL K H' a xs ∧ SqL K H' b ys)
    (hs : ∀ a b i x u σ' H' T, xs[i]? = some x → ys[i]? = some u → Pv a b i σ' H' → H' T = none → tu { D with nx := Pv a b (i + 1), ct := Pv a b (i + 1), bk := tz D } ((σ'.set j (some x)).set k (some u)) (upd H' T (.tup [x, u]))) (hd : ∀ a b σ' H', Pv a b (min xs.length ys.length) σ' H' → tz D σ' H') :
    tSeq (tFor (iZip K ta) (gTup K 2 (gCons (gName j) (gCons (gName k) gNil))) tu) tz D σ H :=
  h H (Ex.refl H) _ fun a b H1 e ha hb => ⟨a, b, xs, ys, rfl, ha, hb, for_it (walk_zip (K := K) (a := a) (b := b) (xs := xs) (ys := ys) rfl) (Pv a b) (h0 a b H1 e ha hb) (fun i σ' H' _ pv => hG a b i σ' H' pv)
    (fun i x σ' H2 H3 hi pv ⟨T, x1, y1, ex, hT, eH, hx1, hy1⟩ => by
      subst ex
      subst eH
      exact ⟨T, _, rfl, SqT.of upd_same, rfl, _, _, rfl, _, _, rfl, rfl, hs a b i x1 y1 σ' H2 T hx1 hy1 pv hT⟩) (hd a b)⟩
/-- the points when i places have been gone through -/
def ptsAt (s : KSt) (i : Nat) : List Nat := (List.range s.classed.length).map fun p => Kg68.TABLE.getD p 0 * s.worth + (if p < i ∧ s.worth = 2 ∧ fastN s = ((s.classed.getD p 0 : Nat) : Int) then 2 else 0)
theorem ptsAt_zero (s : KSt) : ptsAt s 0 = (List.range s.classed.length).map fun p => Kg68.TABLE.getD p 0 * s.worth := by
  unfold ptsAt
  refine List.map_congr_left fun p _ => ?_
  rw [if_neg (by omega)]; rfl
theorem ptsAt_len (s : KSt) (i : Nat) : (ptsAt s i).length = s.classed.length := by unfold ptsAt; simp
theorem ptsAt_get (s : KSt) {i p : Nat} (h : p < s.classed.length) : (ptsAt s i)[p]? = some (Kg68.TABLE.getD p 0 * s.worth + (if p < i ∧ s.worth = 2 ∧ fastN s = ((s.classed.getD p 0 : Nat) : Int) then 2 else 0)) := by
  unfold ptsAt
  rw [List.getElem?_map, List.getElem?_range h]; rfl
theorem ptsAt_yes (s : KSt) {i : Nat} (h : i < s.classed.length) (c : s.worth = 2 ∧ fastN s = ((s.classed.getD i 0 : Nat) : Int)) : ptsAt s (i + 1) = (ptsAt s i).set i (Kg68.TABLE.getD i 0 * s.worth + 2) := by
  apply List.ext_getElem?
  intro p
  by_cases hp : p < s.classed.length
  · rw [ptsAt_get s hp, List.getElem?_set]
    by_cases e : i = p
    · subst e
      have w : (i < i + 1 ∧ s.worth = 2 ∧ fastN s = ((s.classed.getD i 0 : Nat) : Int)) := ⟨by omega, c.1, c.2⟩
      have w2 : i < (ptsAt s i).length := by rw [ptsAt_len]; exact h
      simp only [if_pos w, if_pos w2, if_true]
    · rw [if_neg e, ptsAt_get s hp]
      congr 1; congr 1
      have : (p < i + 1) ↔ (p < i) := by omega
      simp only [this]
  · rw [List.getElem?_eq_none (by rw [ptsAt_len]; omega), List.getElem?_eq_none (by rw [List.length_set, ptsAt_len]; omega)]
theorem ptsAt_no (s : KSt) {i : Nat} (c : ¬ (s.worth = 2 ∧ fastN s = ((s.classed.getD i 0 : Nat) : Int))) : ptsAt s (i + 1) = ptsAt s i := by
  unfold ptsAt
  refine List.map_congr_left fun p _ => ?_
  congr 1
  by_cases e : p = i
  · subst e
    rw [if_neg (fun z => c ⟨z.2.1, z.2.2⟩), if_neg (fun z => c ⟨z.2.1, z.2.2⟩)]
  · have : (p < i + 1) ↔ (p < i) := by omega
    simp only [this]
theorem ptsAt_end {m : Nat} {s : KSt} (g : Good m s) : ptsAt s (s.classed.take 10).length = s.classed.map fun i => s.points i := by
  apply List.ext_getElem?
  intro p
  by_cases hp : p < s.classed.length
  · have ec : s.classed[p]? = some (s.classed.getD p 0) := by rw [List.getD_eq_getElem?_getD, List.getElem?_eq_getElem hp]; rfl
    rw [ptsAt_get s hp, List.getElem?_map, ec]
    show some _ = some (s.points (s.classed.getD p 0))
    rw [points_at g ec]
    congr 1; congr 1
    have : (p < (s.classed.take 10).length ∧ s.worth = 2 ∧ fastN s = ((s.classed.getD p 0 : Nat) : Int)) ↔ (s.worth = 2 ∧ p < 10 ∧ fastN s = ((s.classed.getD p 0 : Nat) : Int)) := by
      rw [List.length_take]
      constructor
      · exact fun ⟨a, b, c⟩ => ⟨b, by omega, c⟩
      · exact fun ⟨a, b, c⟩ => ⟨by omega, a, c⟩
    simp only [this]
  · rw [List.getElem?_eq_none (by rw [ptsAt_len]; omega), List.getElem?_eq_none (by rw [List.length_map]; omega)]
theorem nints_set (l : List Nat) (i n : Nat) : (nints l).set i (.int (n : Int)) = nints (l.set i n) := by unfold nints; rw [List.map_set]
theorem pure_halves_of (T : Txt K mg A) (vs : List V) (H : Hp) (Q : VK) (E : XK) (h : sp_halves_of K A vs H Q E) : t_halves_of K A { nx := fun _ H' => Q .non H', rt := Q } (start n_halves_of vs) H := by
  obtain ⟨y, s, m, p, rfl, hr, gd, hm, hp, k⟩ := h
  have cl := classed_len gd
  refine q_asg (v := .int (s.worth : Nat)) (ev_level (ev_var rfl) (ev_var rfl) hp hr gd hm) fun H1 e1 => ?_
  refine q_asgL (el_call (xs := nints ((List.range s.classed.length).map fun p => Kg68.TABLE.getD p 0 * s.worth)) (ea_cons (ev_var rfl) (ea_cons (ev_is (ev_len (ev_var rfl) (sq_of (e1 _ _ hp))) (by rw [crefs_len])) ea_nil)) fun H2 e Q q E => ⟨s.worth, s.classed.length, rfl, worth_le s, cl, q⟩) fun f H2 hf e2 hl => ?_
  rw [← ptsAt_zero] at hl
  have hr2 := hr.mono (e1.trans e2)
  have hp2 := e2 _ _ (e1 _ _ hp)
  refine q_asg (v := .int (fastN s)) (ev_fast (ev_var rfl) (ev_var rfl) hp2 hr2 gd hm) fun H3 e3 => ?_
  have hf1 : H1 f = none := hf
  have hr3 := hr2.mono e3
  have hp3 := e3 _ _ hp2
  have hl3 := e3 _ _ hl
  have ex1 : Ex H1 H3 := e2.trans e3
  refine q_forEnum (K := K) (xs := crefs y (s.classed.take 10)) ?_ (fun q i σ' H' => ∃ v5 v6 : Option V, σ' = [some (.ref y.r), some (.ref p), some (.int (s.worth : Nat)), some (.ref f), some (.int (fastN s)), v5, v6] ∧ Ex H1 H' ∧ H' f = some (.lst (nints (ptsAt s i))) ∧ H' q = some (.lst (crefs y (s.classed.take 10))) ∧ q ≠ f)
    (fun q H4 hq e4 h4 => ⟨none, none, rfl, ex1.trans e4, e4 _ _ hl3, h4, fun z => by rw [z, hl3] at hq; cases hq⟩) (fun q i σ' H' _ ⟨_, _, _, _, _, h, _⟩ => sq_of h) ?_ ?_
  · have z := el_sl (K := K) (σ := [some (.ref y.r), some (.ref p), some (.int (s.worth : Nat)), some (.ref f), some (.int (fastN s)), none, none]) (H := H3) (te := tVar 1) (a := p) (tl := tNoPart) (th := tPart (tCB (Evl.rLenS K) (tCons (tC (.ref A.a_POINTS)) tNil))) (ev_var rfl) eo_none (eo_some (i := ((10 : Nat) : Int)) (ev_lenT ev_c (T.p_POINTS H3))) (sq_of hp3)
    rw [cutR_take] at z
    exact z
  · rintro q i x σ' H' T0 hx ⟨v5, v6, rfl, ex, hfl, hq, nq⟩ hT
    obtain ⟨c, hc, rfl⟩ := crefs_get hx
    have hi10 := (List.getElem?_eq_some_iff.mp hc).1
    rw [List.length_take] at hi10
    rw [List.getElem?_take_of_lt (by omega)] at hc
    have ec : s.classed.getD i 0 = c := by rw [List.getD_eq_getElem?_getD, hc]; rfl
    have hci := (classed_mem gd (List.mem_of_getElem? hc)).1
    have ext : Ex H' (upd H' T0 (.tup [.int (i : Nat), .ref (y.car c).a])) := Ex.new hT
    have hr' : RaceAt A (upd H' T0 (.tup [.int (i : Nat), .ref (y.car c).a])) y s := (hr.mono e1).mono (ex.trans ext)
    refine s_when (b := decide (s.worth = 2 ∧ fastN s = ((s.classed.getD i 0 : Nat) : Int))) (et_is (et_and (et_test (ev_op (ev_var rfl) ev_c (rv_eq rfl))) fun _ => et_test (ev_op (ev_car T (ev_var rfl) (hr'.car c hci) T.na_Car_number carF_number) (ev_var rfl) (rv_eq rfl))) ?_) (fun hb H4 e4 => ?_) (fun hb H4 e4 => ?_)
    · rw [dec_int, dec_int, ec, Bool.eq_iff_iff]
      simp
      constructor <;> (rintro ⟨a, b⟩; exact ⟨by omega, by omega⟩)
    · have hb' := of_decide_eq_true hb
      have hl4 := e4 _ _ (ext _ _ hfl)
      refine s_setL (v := .int ((Kg68.TABLE.getD i 0 * s.worth + 2 : Nat) : Int)) hl4 (ev_is (ev_op (ev_op (ev_var rfl) (ev_var rfl) (rv_ixL (sq_of hl4) (atI_nat (nints_at (ptsAt_get s (i := i) (by omega)))))) ev_c rv_plus) ?_) (ev_var rfl) (ev_var rfl) (by rw [nints_len, ptsAt_len]; omega) fun H5 e5 => ?_
      · rw [if_neg (by omega)]
        congr 1
      · refine ⟨_, _, rfl, ((ex.trans ext).trans (e4.trans e5)).mut hf1, ?_, ?_, nq⟩
        · rw [upd_same, nints_set, ptsAt_yes s (by omega) hb']
        · rw [upd_ne nq]
          exact (ext.trans (e4.trans e5)) _ _ hq
    · have hb' := of_decide_eq_false hb
      exact ⟨_, _, rfl, (ex.trans ext).trans e4, by rw [ptsAt_no s hb']; exact (ext.trans e4) _ _ hfl, (ext.trans e4) _ _ hq, nq⟩
  · rintro q σ' H' ⟨v5, v6, rfl, ex, hfl, hq, nq⟩
    rw [crefs_len, ptsAt_end gd] at hfl
    exact s_ret (ev_var rfl) fun H4 e4 => k f H4 (fresh_back e1 hf1) ((e1.trans ex).trans e4) (e4 _ _ hfl)
theorem inV_n (t : Nat) (l : List Nat) : inV (.int (t : Int)) (nints l) = decide (t ∈ l) := by
  unfold inV nints
  rw [List.any_map, Bool.eq_iff_iff, List.any_eq_true, decide_eq_true_eq]
  constructor
  · rintro ⟨x, hx, h⟩
    have : ((x : Int) == (t : Int)) = true := h
    have : x = t := by have := beq_iff_eq.mp this; omega
    rw [← this]; exact hx
  · exact fun h => ⟨t, h, by show ((t : Int) == (t : Int)) = true; simp⟩
theorem erd_len : ∀ (n : Nat) (l : List Nat), l.length ≤ n → l.eraseDups.length ≤ l.length
  | _, [], _ => Nat.le_refl _
  | 0, _ :: _, h => absurd h (by simp)
  | n + 1, x :: l, h => by
    have hl : l.length ≤ n := Nat.le_of_succ_le_succ h
    rw [List.eraseDups_cons]
    have h2 := List.length_filter_le (fun b => !b == x) l
    have h1 := erd_len n (l.filter fun b => !b == x) (Nat.le_trans h2 hl)
    exact Nat.succ_le_succ (Nat.le_trans h1 h2)
theorem pure_teams_in_order (T : Txt K mg A) (vs : List V) (H : Hp) (Q : VK) (E : XK) (h : sp_teams_in_order K A vs H Q E) : t_teams_in_order K A { nx := fun _ H' => Q .non H', rt := Q } (start n_teams_in_order vs) H := by
  obtain ⟨y, s, m, rfl, hr, gd, hm, k⟩ := h
  refine q_asgL (xs := []) (el_lst ea_nil (by show 0 ≤ 100000; decide)) fun f H1 hf e1 hl => ?_
  have hr1 := hr.mono e1
  refine q_forLn (K := K) (xs := crefs y (List.range s.cars.length)) (ev_race T (ev_var rfl) hr1 T.na_Race_cars raceF_cars) (sq_of hr1.cars) (fun i σ' H' => ∃ v2 : Option V, σ' = [some (.ref y.r), some (.ref f), v2] ∧ Ex H H' ∧ H' f = some (.lst (nints ((s.cars.map Kg68.Car.team).take i).eraseDups)))
    (fun H2 e2 => ⟨none, rfl, e1.trans e2, by rw [e2 _ _ hl]; rfl⟩) (fun i σ' H' _ ⟨_, _, ex, _⟩ => sq_of (hr.mono ex).cars) ?_ ?_
  · rintro i x σ' H' hx ⟨v2, rfl, ex, hfl⟩
    obtain ⟨c, hc, rfl⟩ := crefs_get hx
    have hci : i < s.cars.length := by have := (List.getElem?_eq_some_iff.mp hc).1; simpa using this
    have ec : c = i := by rw [List.getElem?_range hci] at hc; exact (Option.some.inj hc).symm
    subst ec
    have hcc := (hr.mono ex).car c hci
    have et : ((s.cars.map Kg68.Car.team).take (c + 1)) = ((s.cars.map Kg68.Car.team).take c) ++ [(s.car c).team] := take_snoc (by rw [List.getElem?_map, List.getElem?_eq_getElem hci, car_get hci]; rfl)
    have tm : Ev (tFld K (tVar 2) "team") [some (.ref y.r), some (.ref f), some (.ref (y.car c).a)] H' (.int ((s.car c).team : Int)) := ev_car T (ev_var rfl) hcc T.na_Car_team carF_team
    have few : ((s.cars.map Kg68.Car.team).take c).eraseDups.length ≤ 100 := by
      have h1 := erd_len _ ((s.cars.map Kg68.Car.team).take c) (Nat.le_refl _)
      have h2 := gd.n2
      rw [List.length_take, List.length_map] at h1
      omega
    refine s_when (b := !decide ((s.car c).team ∈ ((s.cars.map Kg68.Car.team).take c).eraseDups)) (et_is (et_test (ev_op tm (ev_var rfl) (rv_niL (sq_of hfl) rfl (flat_n _)))) (by rw [inV_n])) (fun hb H2 e2 => ?_) (fun hb H2 e2 => ?_)
    · have hb' : ¬ (s.car c).team ∈ ((s.cars.map Kg68.Car.team).take c).eraseDups := by simpa using hb
      refine s_app (e2 _ _ hfl) (ev_var rfl) (tm.mono e2) (by rw [nints_len]; omega) fun H3 e3 => ?_
      refine ⟨_, rfl, ((ex.trans e2).trans e3).mut hf, ?_⟩
      rw [upd_same, et, erase_snoc, if_neg hb', nints_app]
    · have hb' : (s.car c).team ∈ ((s.cars.map Kg68.Car.team).take c).eraseDups := by simpa using hb
      refine ⟨_, rfl, ex.trans e2, ?_⟩
      rw [et, erase_snoc, if_pos hb']
      exact e2 _ _ hfl
  · rintro σ' H' ⟨v2, rfl, ex, hfl⟩
    rw [crefs_len, List.length_range] at hfl
    have : (s.cars.map Kg68.Car.team).take s.cars.length = s.cars.map Kg68.Car.team := List.take_of_length_le (by simp)
    rw [this] at hfl
    exact s_ret (ev_var rfl) fun H2 e2 => k f H2 hf (ex.trans e2) (e2 _ _ hfl)
theorem pure_halves_of_team (T : Txt K mg A) (vs : List V) (H : Hp) (Q : VK) (E : XK) (h : sp_halves_of_team K A vs H Q E) : t_halves_of_team K A { nx := fun _ H' => Q .non H', rt := Q } (start n_halves_of_team vs) H := by
  obtain ⟨y, s, m, t, rfl, hr, gd, hm, k⟩ := h
  refine q_asgL (el_classed (ev_var rfl) hr gd hm) fun p H1 hp e1 hl => ?_
  have hr1 := hr.mono e1
  have z := el_lcZ (K := K) (σ := [some (.ref y.r), some (.int (t : Int)), some (.ref p), none, none]) (H := H1) (te := tVar 4) (t := tTest (tOp rEq (tFld K (tVar 3) "team") (tVar 1))) (j := 3) (k := 4) (vs := [3, 4]) (ta := tCons (tVar 2) (tCons (tCall (sp_halves_of K A) [] E0 (tCons (tVar 0) (tCons (tVar 2) tNil))) tNil))
    (fun j => decide ((s.car (s.classed.getD j 0)).team = t)) (fun j => .int (s.points (s.classed.getD j 0) : Nat)) (ez_VL (ev_var rfl) (sq_of hl) (el_halves (ev_var rfl) (ev_var rfl) hl hr1 gd hm)) (by rw [crefs_len]; have := classed_len gd; omega) (fun _ _ => rfl)
    (fun j x u H2 e2 hx hu => by
      obtain ⟨c, hc, rfl⟩ := crefs_get hx
      have ec : s.classed.getD j 0 = c := by rw [List.getD_eq_getElem?_getD, hc]; rfl
      refine et_is (et_test (ev_op (ev_car T (ev_var rfl) ((hr1.mono e2).car c (classed_mem gd (List.mem_of_getElem? hc)).1) T.na_Car_team carF_team) (ev_var rfl) (rv_eq rfl))) ?_
      rw [dec_int, ec, Bool.eq_iff_iff]; simp; omega)
    (fun j x u H2 e2 hx hu _ => by
      obtain ⟨c, hc, rfl⟩ := crefs_get hx
      have ec : s.classed.getD j 0 = c := by rw [List.getD_eq_getElem?_getD, hc]; rfl
      obtain ⟨n, hn, rfl⟩ := nints_get hu
      rw [List.getElem?_map, hc] at hn
      have : s.points c = n := Option.some.inj hn
      rw [ec, this]
      exact ev_var rfl)
  have em : min (crefs y s.classed).length (nints (s.classed.map fun i => s.points i)).length = s.classed.length := by rw [crefs_len, nints_len, List.length_map, Nat.min_self]
  have e2 : given s.classed.length (fun j => decide ((s.car (s.classed.getD j 0)).team = t)) (fun j => V.int (s.points (s.classed.getD j 0) : Nat)) = (((s.classed.filter fun i => decide ((s.car i).team = t)).map s.points).map fun (n : Nat) => (n : Int)).map V.int := by
    rw [given_map s.classed (fun i => decide ((s.car i).team = t)) (fun i => V.int (s.points i : Nat)) 0, List.map_map, List.map_map]
    rfl
  rw [em, e2] at z
  refine s_ret (v := .int (s.teamPoints t : Nat)) (ev_is (ev_sumL z) ?_) fun H2 e2 => k H2 (e1.trans e2)
  rw [team_sum gd]
  congr 1
  generalize (s.classed.filter fun i => decide ((s.car i).team = t)).map s.points = l
  induction l with
  | nil => rfl
  | cons a r ih => rw [List.map_cons, List.sum_cons, ih, List.sum_cons]; omega
end
end L2

set_option Elab.async false
set_option linter.all false
set_option maxRecDepth 100000
set_option maxHeartbeats 1000000
namespace L2
/-! ### what holds of a race goes on holding -/
theorem GoodC.up {m : Nat} {s : KSt} {c : KCar} (g : GoodC m s c) : GoodC (m + 1) s c := ⟨g.few, g.inc, g.last, g.srt, g.sle, Nat.le_succ_of_le g.smany, g.tmany, Nat.le_succ_of_le g.pmany⟩
theorem Good.up {m : Nat} {s : KSt} (g : Good m s) : Good (m + 1) s := ⟨g.on, g.l1, g.l2, g.n1, g.n2, fun c hc => (g.cs c hc).up, g.stp⟩
theorem good_set {m i : Nat} {s : KSt} {f : KCar → KCar} (g : Good m s) (hi : i < s.cars.length) (h : GoodC (m + 1) s (f (s.car i))) (hl : (s.car i).laps.length ≤ (f (s.car i)).laps.length) : Good (m + 1) (Kg68.setCar s i f) := by
  refine ⟨g.on, g.l1, g.l2, by rw [setCar_len]; exact g.n1, by rw [setCar_len]; exact g.n2, fun c hc => ?_, fun n hn => ?_⟩
  · rcases setCar_mem hc with h1 | ⟨j, _, rfl, rfl⟩
    · have z := (g.cs c h1).up
      exact ⟨z.few, z.inc, z.last, z.srt, z.sle, z.smany, z.tmany, z.pmany⟩
    · exact ⟨h.few, h.inc, h.last, h.srt, h.sle, h.smany, h.tmany, h.pmany⟩
  · obtain ⟨h1, h2⟩ := g.stp n hn
    refine ⟨h1, h2.imp id ?_⟩
    rintro ⟨c, hc, hn2⟩
    obtain ⟨j, hj, rfl⟩ := mem_car hc
    have hj2 : j < (Kg68.setCar s i f).cars.length := by rw [setCar_len]; exact hj
    refine ⟨(Kg68.setCar s i f).car j, car_mem hj2, ?_⟩
    rw [setCar_car s i f hj]
    by_cases c1 : j = i
    · rw [if_pos c1]
      subst c1
      omega
    · rw [if_neg c1]; exact hn2
theorem le_last : ∀ (l : List Nat) (p : Nat), (p :: l).Pairwise (· < ·) → ∀ a ∈ p :: l, a ≤ l.getLastD p
  | [], p, _, a, ha => by
    have : a = p := by simpa using ha
    rw [this]; exact Nat.le_refl _
  | x :: l, p, h, a, ha => by
    have h2 := (List.pairwise_cons.mp h).2
    have hx := le_last l x h2
    show a ≤ (x :: l).getLastD p
    have e : (x :: l).getLastD p = l.getLastD x := List.getLastD_cons
    rw [e]
    rcases List.mem_cons.mp ha with rfl | ha
    · have h1 := (List.pairwise_cons.mp h).1 x (by simp)
      have := hx x (by simp)
      omega
    · exact hx a ha
theorem inc_snoc {l : List Nat} {t : Nat} (h : (0 :: l).Pairwise (· < ·)) (ht : l.getLastD 0 < t) : (0 :: (l ++ [t])).Pairwise (· < ·) := by
  show ((0 :: l) ++ [t]).Pairwise (· < ·)
  refine List.pairwise_append.mpr ⟨h, by simp, fun a ha b hb => ?_⟩
  have : b = t := by simpa using hb
  have := le_last l 0 h a ha
  omega
theorem good_cross {m i t : Nat} {s : KSt} (g : Good m s) (hi : i < s.cars.length) (hh : s.home i = false) (ht : s.time ≤ t) (ht2 : (s.car i).laps.getLastD 0 < t) : Good (m + 1) (crossed s i t) := by
  obtain ⟨h0, h1⟩ := home_few hi hh
  have h2 := flagLap_le g
  have gc := g.cs _ (car_mem hi)
  have g2 : Good (m + 1) (Kg68.setCar { s with time := t } i fun c => ({ c with laps := c.laps ++ [t] } : KCar).settle) := by
    have g3 : Good m { s with time := t } := ⟨g.on, g.l1, g.l2, g.n1, g.n2, fun c hc => ⟨(g.cs c hc).few, (g.cs c hc).inc, fun x hx => Nat.le_trans ((g.cs c hc).last x hx) ht, (g.cs c hc).srt, (g.cs c hc).sle, (g.cs c hc).smany, (g.cs c hc).tmany, (g.cs c hc).pmany⟩, g.stp⟩
    refine good_set g3 hi ⟨?_, ?_, ?_, gc.srt, ?_, Nat.le_succ_of_le gc.smany, gc.tmany, Nat.le_succ_of_le gc.pmany⟩ ?_
    · show ((s.car i).laps ++ [t]).length ≤ s.laps
      rw [List.length_append]
      simp
      omega
    · exact inc_snoc gc.inc ht2
    · intro x hx
      have hx' : x ∈ (s.car i).laps ++ [t] := hx
      show x ≤ t
      rcases List.mem_append.mp hx' with h | h
      · exact Nat.le_trans (gc.last x h) ht
      · have : x = t := by simpa using h
        omega
    · intro x hx
      show x ≤ ((s.car i).laps ++ [t]).length
      have := gc.sle x hx
      rw [List.length_append]
      omega
    · show (s.car i).laps.length ≤ ((s.car i).laps ++ [t]).length
      rw [List.length_append]
      omega
  exact g2
theorem good_pit {m i k : Nat} {s : KSt} (g : Good m s) (hi : i < s.cars.length) : Good (m + 1) (Kg68.setCar s i fun c => { c with tyres := c.tyres ++ [k], pits := c.pits + 1 }) := by
  have gc := g.cs _ (car_mem hi)
  refine good_set g hi ⟨gc.few, gc.inc, gc.last, gc.srt, gc.sle, Nat.le_succ_of_le gc.smany, ?_, Nat.succ_le_succ gc.pmany⟩ (Nat.le_refl _)
  show ((s.car i).tyres ++ [k]).length = (s.car i).pits + 1 + 1
  rw [List.length_append, gc.tmany]; rfl
theorem good_through {m i : Nat} {s : KSt} (g : Good m s) (hi : i < s.cars.length) : Good (m + 1) (Kg68.setCar s i fun c => { c with sent := c.sent.tail }) := by
  have gc := g.cs _ (car_mem hi)
  refine good_set g hi ⟨gc.few, gc.inc, gc.last, ?_, fun x hx => gc.sle x (List.mem_of_mem_tail hx), ?_, gc.tmany, Nat.le_succ_of_le gc.pmany⟩ (Nat.le_refl _)
  · exact gc.srt.sublist (List.tail_sublist _)
  · show (s.car i).sent.tail.length ≤ m + 1
    have := gc.smany
    rw [List.length_tail]
    omega
theorem good_send {m i : Nat} {s : KSt} (g : Good m s) (hi : i < s.cars.length) : Good (m + 1) (Kg68.setCar s i fun c => { c with sent := c.sent ++ [c.laps.length] }) := by
  have gc := g.cs _ (car_mem hi)
  refine good_set g hi ⟨gc.few, gc.inc, gc.last, ?_, fun x hx => ?_, ?_, gc.tmany, Nat.le_succ_of_le gc.pmany⟩ (Nat.le_refl _)
  · refine List.pairwise_append.mpr ⟨gc.srt, by simp, fun a ha b hb => ?_⟩
    have : b = (s.car i).laps.length := by simpa using hb
    rw [this]; exact gc.sle a ha
  · have hx' : x ∈ (s.car i).sent ++ [(s.car i).laps.length] := hx
    show x ≤ (s.car i).laps.length
    rcases List.mem_append.mp hx' with h | h
    · exact gc.sle x h
    · have : x = (s.car i).laps.length := by simpa using h
      omega
  · show ((s.car i).sent ++ [(s.car i).laps.length]).length ≤ m + 1
    have := gc.smany
    rw [List.length_append]
    simp; omega
theorem good_secs {m i n : Nat} {s : KSt} (g : Good m s) (hi : i < s.cars.length) : Good (m + 1) (Kg68.setCar s i fun c => { c with secs := c.secs + n }) := by
  have gc := (g.cs _ (car_mem hi)).up
  exact good_set g hi ⟨gc.few, gc.inc, gc.last, gc.srt, gc.sle, gc.smany, gc.tmany, gc.pmany⟩ (Nat.le_refl _)
theorem good_leave {m i : Nat} {s : KSt} (g : Good m s) (hi : i < s.cars.length) : Good (m + 1) (Kg68.setCar s i fun c => { c with out := true }) := by
  have gc := (g.cs _ (car_mem hi)).up
  exact good_set g hi ⟨gc.few, gc.inc, gc.last, gc.srt, gc.sle, gc.smany, gc.tmany, gc.pmany⟩ (Nat.le_refl _)
theorem good_throw {m i : Nat} {s : KSt} (g : Good m s) (hi : i < s.cars.length) : Good (m + 1) (Kg68.setCar s i fun c => { c with thrown := true }) := by
  have gc := (g.cs _ (car_mem hi)).up
  exact good_set g hi ⟨gc.few, gc.inc, gc.last, gc.srt, gc.sle, gc.smany, gc.tmany, gc.pmany⟩ (Nat.le_refl _)
theorem good_halt {m : Nat} {s : KSt} (g : Good m s) : Good (m + 1) { s with stopped := some (mostLaps s - 1), over := false } := by
  obtain ⟨h1, h2⟩ := most_is s
  have ne : s.cars ≠ [] := fun z => by have := g.n1; rw [z] at this; simp at this
  obtain ⟨c, hc, e⟩ := h2 ne
  refine ⟨rfl, g.l1, g.l2, g.n1, g.n2, fun c hc => ⟨(g.cs c hc).up.few, (g.cs c hc).up.inc, (g.cs c hc).up.last, (g.cs c hc).up.srt, (g.cs c hc).up.sle, (g.cs c hc).up.smany, (g.cs c hc).up.tmany, (g.cs c hc).up.pmany⟩, fun n hn => ?_⟩
  have en : mostLaps s - 1 = n := Option.some.inj hn
  have := (g.cs c hc).few
  exact ⟨by show n ≤ s.laps; omega, .inr ⟨c, hc, by omega⟩⟩
theorem good_fresh {m n : Nat} {wet : Bool} {t k : List Nat} (h1 : 1 ≤ n) (h2 : n ≤ 100) (h3 : 1 ≤ t.length) (h4 : t.length ≤ 26) (hk : k.length = t.length) : Good m (freshRace n wet t k) := by
  have hl : (freshRace n wet t k).cars.length = t.length := by unfold freshRace; simp [hk]
  refine ⟨rfl, h1, h2, by rw [hl]; exact h3, by rw [hl]; exact h4, fun c hc => ?_, fun n hn => by cases hn⟩
  obtain ⟨x, _, rfl⟩ := List.mem_map.mp hc
  exact ⟨Nat.zero_le _, by show [0].Pairwise _; simp, fun x hx => absurd hx (by show ¬ x ∈ []; simp), List.Pairwise.nil, fun x hx => absurd hx (by show ¬ x ∈ []; simp), Nat.zero_le _, rfl, Nat.zero_le _⟩
/-! ### the specification's calls, case by case -/
theorem no_car_init (z : Int) : Kg68.isCar Kg68.init z = false := by
  unfold Kg68.isCar
  by_cases h : 0 ≤ z
  · have : ¬ z < (Kg68.init.cars.length : Int) := by show ¬ z < 0; omega
    rw [decide_eq_false this, Bool.and_false]
  · rw [decide_eq_false h, Bool.false_and]
theorem is_car {s : KSt} {z : Int} (h : Kg68.isCar s z = true) : z = ((z.toNat : Nat) : Int) ∧ z.toNat < s.cars.length := by
  unfold Kg68.isCar at h
  rw [Bool.and_eq_true, decide_eq_true_eq, decide_eq_true_eq] at h
  exact ⟨by omega, by omega⟩
section
variable {s : KSt} {z : Int} {f : Nat → KCar → KSt × Kg68.Ans}
theorem racing_no (h : Kg68.isCar s z = false) : Kg68.racing s z f = (s, Kg68.num (-1)) := by unfold Kg68.racing; rw [if_pos h]
theorem racing_off (h : Kg68.isCar s z = true) (ho : s.over = false) (hf : isOff s z.toNat = true) : Kg68.racing s z f = (s, Kg68.num (-4)) := by
  unfold Kg68.racing
  rw [if_neg (by rw [h]; decide), if_neg (by rw [ho]; decide)]
  exact if_pos hf
theorem racing_on (h : Kg68.isCar s z = true) (ho : s.over = false) (hf : isOff s z.toNat = false) : Kg68.racing s z f = f z.toNat (s.car z.toNat) := by
  unfold Kg68.racing
  rw [if_neg (by rw [h]; decide), if_neg (by rw [ho]; decide)]
  exact if_neg (by show ¬ isOff s z.toNat = true; rw [hf]; decide)
end
theorem off_home {s : KSt} {i : Nat} (h : isOff s i = false) : s.home i = false := by
  unfold isOff at h
  rw [Bool.or_eq_false_iff, Bool.or_eq_false_iff] at h
  exact h.2.2
theorem within_iff {z lo hi : Int} : Kg68.within z lo hi = true ↔ lo ≤ z ∧ z ≤ hi := by
  unfold Kg68.within
  rw [Bool.and_eq_true, decide_eq_true_eq, decide_eq_true_eq]
theorem run_order {m : Nat} {s : KSt} (g : Good m s) : s.running.Perm ((List.range s.cars.length).filter fun i => !(s.car i).out && !(s.car i).thrown) ∧
    s.running.Pairwise (fun x y => notLt (rowZ (fun j => (s.car j).laps.length) (fun j => (s.car j).laps.getLastD 0) y) (rowZ (fun j => (s.car j).laps.length) (fun j => (s.car j).laps.getLastD 0) x)) :=
  ordered_rows s.laps (fun j => (s.car j).laps.length) (fun j => (s.car j).laps.getLastD 0) _ fun i hi => (g.cs _ (car_mem (List.mem_range.mp (List.mem_filter.mp hi).1))).few
end L2

set_option Elab.async false
set_option linter.all false
set_option maxRecDepth 100000
set_option maxHeartbeats 4000000
namespace L2
open PySem PySem.Spec PyProof.Rows
open Evl
section
variable {K : PySem.W.Frag} {mg : Str → Option Value} {A : Ad} {H H' H1 H2 : Hp} {d dd p : Addr} {yo yo' : Option RaceL} {y : RaceL} {s s2 : KSt} {m i : Nat} {z : Int} {E : XK} {σ : L2.St} {ta tb : TE} {D : Ends} {tz : TS} {b : Bool} {Q : VK}
/-! ### all_within, a new desk -/
theorem len_all_within {vs : List V} {H : Hp} {Q : VK} {E : XK} (h : sp_all_within K A vs H Q E) : vs.length = 3 := by
  obtain ⟨_, _, _, _, rfl, _⟩ := h; rfl
theorem pure_all_within (T : Txt K mg A) (vs : List V) (H : Hp) (Q : VK) (E : XK) (h : sp_all_within K A vs H Q E) : t_all_within K A { nx := fun _ H' => Q .non H', rt := Q } (start n_all_within vs) H := by
  obtain ⟨p, ns, lo, hi, rfl, hp, hl, k⟩ := h
  have z1 := el_lcA (K := K) (σ := start n_all_within [.ref p, .int lo, .int hi]) (H := H) (te := tAndV (tOp rLe (tVar 1) (tVar 3)) (tOp rLe (tVar 3) (tVar 2))) (j := 3) (vs := [3]) (tl := tVar 0) (a := p) ns V.int (fun z => V.bl (Kg68.within z lo hi)) 0
    (ev_var rfl) hp (by omega) (fun x => rfl) (fun z _ H1 e => ev_andV (ev_op (ev_var rfl) (ev_var rfl) rv_le) fun _ => ev_op (ev_var rfl) (ev_var rfl) rv_le)
  have e1 : (ns.map fun z => V.bl (Kg68.within z lo hi)) = (ns.map fun z => Kg68.within z lo hi).map V.bl := by rw [List.map_map]; rfl
  rw [e1] at z1
  refine s_ret (ev_is (ev_allL z1) ?_) k
  rw [List.all_map]; rfl
theorem len_d_init {vs : List V} {H : Hp} {Q : VK} {E : XK} (h : sp_d_init K A vs H Q E) : vs.length = 1 := by
  obtain ⟨_, _, rfl, _⟩ := h; rfl
theorem pure_d_init (T : Txt K mg A) (vs : List V) (H : Hp) (Q : VK) (E : XK) (h : sp_d_init K A vs H Q E) : t_d_init K A { nx := fun _ H' => Q .non H', rt := Q } (start n_d_init vs) H := by
  obtain ⟨p, dx, rfl, hp, k⟩ := h
  refine s_fld (y := .non) ev_c (ev_var rfl) hp T.clDesk T.na_Desk_race (by show 0 < 1000; decide) fun H1 e1 => ?_
  exact k _ upd_same fun b o hb nb => by rw [upd_ne nb]; exact e1 _ _ hb
/-! ### refusals -/
theorem Refd.mono {r : Int} (h : Refd A r H E) (e : Ex H H') : Refd A r H' E := fun d H2 e2 h2 => h d H2 (e.trans e2) h2
theorem q_want {r : Int} (h : Ev tb σ H (.bl b)) (h1 : b = true → ∀ H1, Ex H H1 → tz D σ H1) (h2 : b = false → Refd A r H E) : tSeq (tDrop (tCall (sp_want K A) [] E (tCons tb (tCons (tC (.int r)) tNil)))) tz D σ H :=
  h H (exr H) _ fun H1 e1 => ⟨b, r, rfl, fun hb H2 e2 => h1 hb H2 (e1.trans e2), fun hb => (h2 hb).mono e1⟩
theorem e_want {r : Int} (h : Ev tb σ H (.bl b)) (h1 : b = true → ∀ H1, Ex H H1 → D.nx σ H1) (h2 : b = false → Refd A r H E) : tDrop (tCall (sp_want K A) [] E (tCons tb (tCons (tC (.int r)) tNil))) D σ H :=
  h H (exr H) _ fun H1 e1 => ⟨b, r, rfl, fun hb H2 e2 => h1 hb H2 (e1.trans e2), fun hb => (h2 hb).mono e1⟩
/-! ### the desk in the heap -/
theorem DeskAt.mono (h : DeskAt A H d dd yo s m) (e : Ex H H') : DeskAt A H' d dd yo s m := by
  cases yo with
  | none => exact ⟨e _ _ h.1, h.2⟩
  | some y => exact ⟨e _ _ h.1, h.2.1.mono e, h.2.2⟩
theorem DeskAt.up (h : DeskAt A H d dd yo s m) : DeskAt A H d dd yo s (m + 1) := by
  cases yo with
  | none => exact h
  | some y => exact ⟨h.1, h.2.1, h.2.2.1, h.2.2.2.up⟩
theorem DeskAt.obj (h : DeskAt A H d dd yo s m) : ∃ v, H d = some (.ins A.cDesk dd [("race", v)]) := by
  cases yo with
  | none => exact ⟨_, h.1⟩
  | some y => exact ⟨_, h.1⟩
theorem RaceAt.owned {b : Addr} (h : RaceAt A H y s) (o : OwnR y s.cars.length b) : ∃ u, H b = some u := by
  rcases o with rfl | rfl | ⟨i, hi, rfl | rfl | rfl | rfl⟩
  · exact ⟨_, h.obj⟩
  · exact ⟨_, h.cars⟩
  · exact ⟨_, (h.car i hi).obj⟩
  · exact ⟨_, (h.car i hi).kinds⟩
  · exact ⟨_, (h.car i hi).times⟩
  · exact ⟨_, (h.car i hi).sent⟩
theorem DeskAt.owned {b : Addr} (h : DeskAt A H d dd yo s m) (o : OwnD d yo s.cars.length b) : ∃ u, H b = some u := by
  rcases o with rfl | ⟨y, rfl, o⟩
  · obtain ⟨v, hv⟩ := h.obj
    exact ⟨_, hv⟩
  · exact h.2.1.owned o
theorem DeskAt.d_free (h : DeskAt A H d dd (some y) s m) : ¬ OwnR y s.cars.length d := by
  have ho := h.1
  have hr := h.2.1
  have a1 : ∀ {fs : List (Str × V)} {v : V}, 2 ≤ fs.length → ([("race", v)] : List (Str × V)) ≠ fs := fun {fs v} h z => by
    rw [← z] at h
    exact absurd h (by show ¬ 2 ≤ 1; decide)
  rintro (z | z | ⟨i, hi, z | z | z | z⟩)
  · exact ne_of ho hr.obj (ins_apart (a1 (by show 2 ≤ 5; decide))) z
  · exact ne_of ho hr.cars ins_lst z
  · exact ne_of ho (hr.car i hi).obj (ins_apart (a1 (by show 2 ≤ 9; decide))) z
  · exact ne_of ho (hr.car i hi).kinds ins_lst z
  · exact ne_of ho (hr.car i hi).times ins_lst z
  · exact ne_of ho (hr.car i hi).sent ins_lst z
theorem ev_rc (T : Txt K mg A) (h : Ev ta σ H (.ref d)) (hd : DeskAt A H d dd (some y) s m) : Ev (tFld K ta "race") σ H (.ref y.r) := ev_fld h hd.1 T.clDesk T.na_Desk_race lk_here
theorem ev_rcN (T : Txt K mg A) (h : Ev ta σ H (.ref d)) (hd : DeskAt A H d dd none s m) : Ev (tFld K ta "race") σ H .non := ev_fld h hd.1 T.clDesk T.na_Desk_race lk_here
/-- race is not None -/
theorem ev_some (T : Txt K mg A) (h : Ev ta σ H (.ref d)) (hd : DeskAt A H d dd yo s m) : Ev (tOp rNotNone (tFld K ta "race") (tC .non)) σ H (.bl yo.isSome) := by
  cases yo with
  | none => exact ev_is (ev_op (ev_rcN T h hd) ev_c rv_notN) rfl
  | some y => exact ev_is (ev_op (ev_rc T h hd) ev_c rv_notN) rfl
/-- what is answered, with nothing changed since H1 -/
theorem ret_desk {x : KSt × Kg68.Ans} (k : DeskRet A H d dd yo s m x Q) (hd : DeskAt A H1 d dd yo' x.1 (m + 1)) (kp : KeepD d H yo s.cars.length H1 yo' x.1.cars.length) (hp : H1 p = none) (e : Ex H1 H2) (h2 : H2 p = some (.lst (zints (ansL x)))) : Q (.ref p) H2 :=
  k H2 yo' p (hd.mono e) (fun b o hb nb => ⟨e _ _ (kp b o hb nb).1, (kp b o hb nb).2⟩) (fun b o hb nb z => by have := (kp b o hb nb).1; rw [z, hp] at this; cases this) (fun o => by
    obtain ⟨u, hu⟩ := hd.owned o
    rw [hp] at hu; cases hu) h2
theorem keep_same (e : Ex H H1) {n : Nat} : KeepD d H yo n H1 yo n := fun b o hb nb => ⟨e _ _ hb, nb⟩
/-- nothing was changed -/
theorem ret_same {a : Kg68.Ans} (hd : DeskAt A H d dd yo s m) (k : DeskRet A H d dd yo s m (s, a) Q) (e : Ex H H1) (hp : H1 p = none) (e2 : Ex H1 H2) (h2 : H2 p = some (.lst (zints (a.value :: a.out)))) : Q (.ref p) H2 :=
  ret_desk (x := (s, a)) k (hd.up.mono e) (keep_same e) hp e2 h2
/-- the race was changed -/
theorem desk_next (hd : DeskAt A H d dd (some y) s m) {y2 : RaceL} (er : y2.r = y.r) (hr : RaceAt A H' y2 s2) (sp : Sep y2 s.cars.length) (kp : KeepR H y H' y2 s.cars.length) (hl : s2.cars.length = s.cars.length) (g : Good (m + 1) s2) :
    DeskAt A H' d dd (some y2) s2 (m + 1) ∧ KeepD d H (some y) s.cars.length H' (some y2) s2.cars.length := by
  have hdf := hd.d_free
  refine ⟨⟨?_, hr, by rw [hl]; exact sp, g⟩, ?_⟩
  · rw [er]
    exact (kp d _ hd.1 hdf).1
  · rw [hl]
    intro b o hb nb
    obtain ⟨k1, k2⟩ := kp b o hb fun z => nb (.inr ⟨y, rfl, z⟩)
    refine ⟨k1, ?_⟩
    rintro (z | ⟨y3, z, w⟩)
    · exact nb (.inl z)
    · cases z
      exact k2 w
/-- a car was changed -/
theorem desk_set (hd : DeskAt A H d dd (some y) s m) (hi : i < s.cars.length) {f : KCar → KCar} {L2 : CarL} (ea : L2.a = (y.car i).a) (ek : L2.ki = (y.car i).ki) (et : L2.ti = (y.car i).ti) (es : L2.se = (y.car i).se ∨ H L2.se = none)
    (hc : CarAt A H' i L2 (f (s.car i))) (fr : FrC H H' (y.car i)) (g : Good (m + 1) (Kg68.setCar s i f)) :
    ∃ y2 : RaceL, (y2.car i).a = (y.car i).a ∧ DeskAt A H' d dd (some y2) (Kg68.setCar s i f) (m + 1) ∧ KeepD d H (some y) s.cars.length H' (some y2) (Kg68.setCar s i f).cars.length ∧ CarAt A H' i (y2.car i) (f (s.car i)) := by
  obtain ⟨y2, e1, e2, e3, e4, h5, h6, h7⟩ := hd.2.1.setCar hd.2.2.1 hi ea ek et es hc fr
  obtain ⟨k1, k2⟩ := desk_next hd e1 h5 h6 h7 (setCar_len s i f) g
  refine ⟨y2, e4 i, k1, k2, ?_⟩
  have z := h5.car i (by rw [setCar_len]; exact hi)
  rw [setCar_car s i f hi, if_pos rfl] at z
  exact z
theorem keep_ext {n n' : Nat} (e : Ex H H1) (k : KeepD d H1 yo n H' yo' n') : KeepD d H yo n H' yo' n' := fun b o hb nb => k b o (e _ _ hb) nb
theorem DeskAt.on (hd : DeskAt A H d dd yo s m) (hc : Kg68.isCar s z = true) : s.over = false := by
  cases yo with
  | none => rw [hd.2, no_car_init] at hc; cases hc
  | some y => exact hd.2.2.2.on
/-! ### looking up -/
theorem len_d_car_of {vs : List V} {H : Hp} {Q : VK} {E : XK} (h : sp_d_car_of K A vs H Q E) : vs.length = 2 := by
  obtain ⟨_, _, _, _, _, _, rfl, _⟩ := h; rfl
theorem pure_d_car_of (T : Txt K mg A) (vs : List V) (H : Hp) (Q : VK) (E : XK) (h : sp_d_car_of K A vs H Q E) : t_d_car_of K A E { nx := fun _ H' => Q .non H', rt := Q } (start n_d_car_of vs) H := by
  obtain ⟨d, dd, yo, s, m, z, rfl, hd, hm, k1, k2⟩ := h
  cases yo with
  | none =>
    obtain ⟨ho, rfl⟩ := hd
    exact q_want (ev_some (yo := none) (s := Kg68.init) (m := m) T (ev_var rfl) ⟨ho, rfl⟩) (fun hb => by cases hb) fun _ => k1 (no_car_init z)
  | some y =>
    refine q_want (ev_some T (ev_var rfl) hd) (fun _ H1 e1 => ?_) (fun hb => by cases hb)
    have hd1 := hd.mono e1
    refine q_want (b := Kg68.isCar s z) (ev_is (ev_andV (ev_op ev_c (ev_var rfl) rv_le) fun _ => ev_op (ev_var rfl) (ev_len (ev_race T (ev_rc T (ev_var rfl) hd1) hd1.2.1 T.na_Race_cars raceF_cars) (sq_of hd1.2.1.cars)) rv_lt) ?_) (fun hb H2 e2 => ?_) (fun hb => (k1 hb).mono e1)
    · rw [crefs_len, List.length_range]; rfl
    · have hd2 := hd1.mono e2
      obtain ⟨ez, hz⟩ := is_car hb
      refine s_ret (ev_op (ev_race T (ev_rc T (ev_var rfl) hd2) hd2.2.1 T.na_Race_cars raceF_cars) (ev_is (ev_var rfl) (congrArg V.int ez)) (rv_ixL (sq_of hd2.2.1.cars) (atI_nat (crefs_at (List.getElem?_range hz))))) fun H3 e3 => ?_
      exact k2 hb y rfl H3 ((e1.trans e2).trans e3)
theorem q_carOf {j : Nat} (hd : DeskAt A H d dd yo s m) (hm : m ≤ 900) (h0 : Ev ta σ H (.ref d)) (h1 : Ev tb σ H (.int z)) (hN : Kg68.isCar s z = false → Refd A (-1) H E) (k : ∀ y, yo = some y → Kg68.isCar s z = true → ∀ H1, Ex H H1 → tz D (σ.set j (some (.ref (y.car z.toNat).a))) H1) :
    tSeq (tAsg (tMeth A.cDesk "car_of" (sp_d_car_of K A) [] E ta (tCons tb tNil)) (gName j)) tz D σ H := by
  obtain ⟨v, ho⟩ := hd.obj
  exact h0 H (exr H) _ fun H1 e1 => ⟨d, dd, _, rfl, e1 _ _ ho, deskN_car_of, h1 H1 e1 _ fun H2 e2 => ⟨d, dd, yo, s, m, z, rfl, hd.mono (e1.trans e2), hm, fun c => (hN c).mono (e1.trans e2), fun c y hy H3 e3 => k y hy c H3 ((e1.trans e2).trans e3)⟩⟩
theorem len_d_racing_car {vs : List V} {H : Hp} {Q : VK} {E : XK} (h : sp_d_racing_car K A vs H Q E) : vs.length = 2 := by
  obtain ⟨_, _, _, _, _, _, rfl, _⟩ := h; rfl
theorem pure_d_racing_car (T : Txt K mg A) (vs : List V) (H : Hp) (Q : VK) (E : XK) (h : sp_d_racing_car K A vs H Q E) : t_d_racing_car K A E { nx := fun _ H' => Q .non H', rt := Q } (start n_d_racing_car vs) H := by
  obtain ⟨d, dd, yo, s, m, z, rfl, hd, hm, k1, k2, k3⟩ := h
  refine q_carOf hd hm (ev_var rfl) (ev_var rfl) k1 fun y hy hc H1 e1 => ?_
  subst hy
  have hd1 := hd.mono e1
  obtain ⟨ez, hz⟩ := is_car hc
  have hca := hd1.2.1.car _ hz
  refine q_want (b := !isOff s z.toNat) (ev_is (ev_andV (ev_notV (ev_car T (ev_var rfl) hca T.na_Car_has_left carF_has_left)) fun _ => ev_andV (ev_notV (ev_car T (ev_var rfl) hca T.na_Car_is_thrown carF_is_thrown)) fun _ => ev_notV (ev_home (ev_rc T (ev_var rfl) hd1) (ev_var rfl) hd1.2.1 hd1.2.2.2 hm hz)) ?_) (fun hb H2 e2 => ?_) (fun hb => ?_)
  · unfold isOff
    rw [Bool.not_or, Bool.not_or]
  · exact s_ret (ev_var rfl) fun H3 e3 => k3 hc (by simpa using hb) y rfl H3 ((e1.trans e2).trans e3)
  · exact (k2 hc (by simpa using hb)).mono e1
theorem q_racing {j : Nat} (hd : DeskAt A H d dd yo s m) (hm : m ≤ 900) (h0 : Ev ta σ H (.ref d)) (h1 : Ev tb σ H (.int z)) (hN : Kg68.isCar s z = false → Refd A (-1) H E) (hO : Kg68.isCar s z = true → isOff s z.toNat = true → Refd A (-4) H E)
    (k : ∀ y, yo = some y → Kg68.isCar s z = true → isOff s z.toNat = false → ∀ H1, Ex H H1 → tz D (σ.set j (some (.ref (y.car z.toNat).a))) H1) :
    tSeq (tAsg (tMeth A.cDesk "racing_car" (sp_d_racing_car K A) [] E ta (tCons tb tNil)) (gName j)) tz D σ H := by
  obtain ⟨v, ho⟩ := hd.obj
  exact h0 H (exr H) _ fun H1 e1 => ⟨d, dd, _, rfl, e1 _ _ ho, deskN_racing_car, h1 H1 e1 _ fun H2 e2 => ⟨d, dd, yo, s, m, z, rfl, hd.mono (e1.trans e2), hm, fun c => (hN c).mono (e1.trans e2), fun c o => (hO c o).mono (e1.trans e2), fun c o y hy H3 e3 => k y hy c o H3 ((e1.trans e2).trans e3)⟩⟩
theorem len_d_want_fallen {vs : List V} {H : Hp} {Q : VK} {E : XK} (h : sp_d_want_fallen K A vs H Q E) : vs.length = 1 := by
  obtain ⟨_, _, _, _, _, rfl, _⟩ := h; rfl
theorem pure_d_want_fallen (T : Txt K mg A) (vs : List V) (H : Hp) (Q : VK) (E : XK) (h : sp_d_want_fallen K A vs H Q E) : t_d_want_fallen K A E { nx := fun _ H' => Q .non H', rt := Q } (start n_d_want_fallen vs) H := by
  obtain ⟨d, dd, yo, s, m, rfl, hd, hm, k1, k2, k3⟩ := h
  cases yo with
  | none => exact q_want (ev_some T (ev_var rfl) hd) (fun hb => by cases hb) fun _ => k1 rfl
  | some y =>
    refine q_want (ev_some T (ev_var rfl) hd) (fun _ H1 e1 => ?_) (fun hb => by cases hb)
    have hd1 := hd.mono e1
    refine e_want (ev_fallen (ev_rc T (ev_var rfl) hd1) hd1.2.1 hd1.2.2.2 hm) (fun hb H2 e2 => ?_) (fun hb => ?_)
    · exact k3 rfl (by cases e : s.flag with | none => rw [e] at hb; cases hb | some _ => rfl) H2 (e1.trans e2)
    · exact (k2 rfl (by cases e : s.flag with | none => rfl | some _ => rw [e] at hb; cases hb)).mono e1
theorem q_fallen (hd : DeskAt A H d dd yo s m) (hm : m ≤ 900) (h0 : Ev ta σ H (.ref d)) (hN : yo = none → Refd A (-2) H E) (hO : yo.isSome = true → s.flag.isNone = true → Refd A (-4) H E)
    (k : ∀ y, yo = some y → s.flag.isNone = false → ∀ H1, Ex H H1 → tz D σ H1) :
    tSeq (tDrop (tMeth A.cDesk "want_fallen" (sp_d_want_fallen K A) [] E ta tNil)) tz D σ H := by
  obtain ⟨v, ho⟩ := hd.obj
  exact h0 H (exr H) _ fun H1 e1 => ⟨d, dd, _, rfl, e1 _ _ ho, deskN_want_fallen, d, dd, yo, s, m, rfl, hd.mono e1, hm, fun c => (hN c).mono e1, fun c o => (hO c o).mono e1, fun c o H3 e3 => by
    obtain ⟨y, hy⟩ := Option.isSome_iff_exists.mp c
    exact k y hy o H3 (e1.trans e3)⟩
end
end L2

set_option Elab.async false
set_option linter.all false
set_option maxRecDepth 100000
set_option maxHeartbeats 4000000
namespace L2
open PySem PySem.Spec PyProof.Rows
open Evl
/-! ### the specification's calls that change a car -/
section
variable {s : KSt} {i t : Int}
theorem crossed_len (s : KSt) (k n : Nat) : (crossed s k n).cars.length = s.cars.length := setCar_len s k fun c => ({ c with laps := c.laps ++ [n] } : KCar).settle
def crossF (s : KSt) (t : Int) (k : Nat) (c : KCar) : KSt × Kg68.Ans := if t < (s.time : Int) ∨ t ≤ (c.laps.getLastD 0 : Nat) then (s, Kg68.num (-5)) else (crossed s k t.toNat, ⟨((crossed s k t.toNat).car k).laps.length, [(Kg68.truth ((crossed s k t.toNat).home k) : Int)]⟩)
theorem spec_cross_no (h : Kg68.within t 1 100000000 = false) : Kg68.spec s (.cross i t) = (s, Kg68.num (-1)) := if_pos h
theorem spec_cross (h : Kg68.within t 1 100000000 = true) : Kg68.spec s (.cross i t) = Kg68.racing s i (crossF s t) := if_neg (by rw [h]; decide)
def pitF (s : KSt) (t : Int) (k : Nat) (c : KCar) : KSt × Kg68.Ans := (Kg68.setCar s k fun c => { c with tyres := c.tyres ++ [t.toNat], pits := c.pits + 1 }, Kg68.num (c.pits + 1 : Nat))
theorem spec_pit_no (h : Kg68.within t 0 4 = false) : Kg68.spec s (.pit i t) = (s, Kg68.num (-1)) := if_pos h
theorem spec_pit (h : Kg68.within t 0 4 = true) : Kg68.spec s (.pit i t) = Kg68.racing s i (pitF s t) := if_neg (by rw [h]; decide)
def throughF (s : KSt) (k : Nat) (c : KCar) : KSt × Kg68.Ans := if c.sent = [] then (s, Kg68.num (-5)) else (Kg68.setCar s k fun c => { c with sent := c.sent.tail }, Kg68.num (c.sent.length - 1 : Nat))
theorem map_fst {α : Type} (g : α → α) (k : Nat) (l : List (α × Nat)) (g2 : α → α) (h : ∀ x ∈ l, x.2 = k → g x.1 = g2 x.1) : (l.map fun x => if x.2 = k then g x.1 else x.1) = l.map fun x => if x.2 = k then g2 x.1 else x.1 := by
  refine List.map_congr_left fun x hx => ?_
  by_cases c : x.2 = k
  · rw [if_pos c, if_pos c]; exact h x hx c
  · rw [if_neg c, if_neg c]
theorem setCar_ext {k : Nat} (f g : KCar → KCar) (h : f (s.car k) = g (s.car k)) : Kg68.setCar s k f = Kg68.setCar s k g := by
  unfold Kg68.setCar
  rw [map_fst f k s.cars.zipIdx g]
  intro x hx e
  obtain ⟨c, j⟩ := x
  have hz := List.mem_zipIdx' hx
  dsimp only at e
  subst e
  dsimp only at hz ⊢
  have : c = s.car j := by rw [hz.2, car_get hz.1]
  rw [this]; exact h
theorem spec_through : Kg68.spec s (.through i) = Kg68.racing s i fun k _ => throughF s k (s.car k) := by
  unfold Kg68.spec
  dsimp only
  unfold Kg68.racing
  dsimp only
  split
  · rfl
  · split
    · rfl
    · split
      · rfl
      · unfold throughF
        cases e : (s.car i.toNat).sent with
        | nil => rw [if_pos rfl]
        | cons x l =>
          rw [if_neg (by simp)]
          show (Kg68.setCar s i.toNat fun c => { c with sent := l }, Kg68.num l.length) = _
          rw [setCar_ext (k := i.toNat) (fun c => { c with sent := l }) (fun c => { c with sent := c.sent.tail }) (by rw [e]; rfl)]
          rfl
def secsF (s : KSt) (i n : Int) : KSt × Kg68.Ans := (Kg68.setCar s i.toNat fun c => { c with secs := c.secs + n.toNat }, Kg68.num ((s.car i.toNat).secs + n.toNat : Nat))
theorem spec_secs_no (h : Kg68.within t 1 60 = false) : Kg68.spec s (.seconds i t) = (s, Kg68.num (-1)) := if_pos h
theorem spec_secs_nc (h : Kg68.isCar s i = false) : Kg68.spec s (.seconds i t) = (s, Kg68.num (-1)) := by
  show (if Kg68.within t 1 60 = false then (s, Kg68.num (-1)) else if Kg68.isCar s i = false then (s, Kg68.num (-1)) else _) = _
  split <;> first | rfl | rw [if_pos h]
theorem spec_secs (h : Kg68.within t 1 60 = true) (hc : Kg68.isCar s i = true) (ho : s.over = false) : Kg68.spec s (.seconds i t) = secsF s i t := by
  show (if Kg68.within t 1 60 = false then (s, Kg68.num (-1)) else if Kg68.isCar s i = false then (s, Kg68.num (-1)) else if s.over = true then (s, Kg68.num (-2)) else secsF s i t) = _
  rw [if_neg (by rw [h]; decide), if_neg (by rw [hc]; decide), if_neg (by rw [ho]; decide)]
def sendF (s : KSt) (k : Nat) (c : KCar) : KSt × Kg68.Ans := (Kg68.setCar s k fun c => { c with sent := c.sent ++ [c.laps.length] }, Kg68.num (c.sent.length + 1 : Nat))
theorem spec_send : Kg68.spec s (.send i) = Kg68.racing s i (sendF s) := rfl
def leaveF (s : KSt) (k : Nat) (_ : KCar) : KSt × Kg68.Ans := (Kg68.setCar s k fun c => { c with out := true }, Kg68.num 0)
theorem spec_leave : Kg68.spec s (.leave i) = Kg68.racing s i (leaveF s) := rfl
theorem spec_throw_nc (h : Kg68.isCar s i = false) : Kg68.spec s (.throw_ i) = (s, Kg68.num (-1)) := if_pos h
theorem spec_throw (hc : Kg68.isCar s i = true) (ho : s.over = false) : Kg68.spec s (.throw_ i) = if (s.car i.toNat).thrown = true then (s, Kg68.num (-4)) else (Kg68.setCar s i.toNat fun c => { c with thrown := true }, Kg68.num 0) := by
  show (if Kg68.isCar s i = false then (s, Kg68.num (-1)) else if s.over = true then (s, Kg68.num (-2)) else if (s.car i.toNat).thrown = true then (s, Kg68.num (-4)) else _) = _
  rw [if_neg (by rw [hc]; decide), if_neg (by rw [ho]; decide)]
theorem stopped_flag {m : Nat} (g : Good m s) (h : s.flag = none) : s.stopped = none := by
  cases e : s.stopped with
  | none => rfl
  | some n =>
    obtain ⟨_, h2⟩ := g.stp n e
    by_cases h0 : n = 0
    · subst h0
      rw [flag_void e] at h; cases h
    · rw [flag_stop e h0] at h
      unfold flagAt at h
      have h3 := minF_none.mp h
      obtain ⟨c, hc, hn⟩ := h2.resolve_left h0
      have h4 := List.filterMap_eq_nil_iff.mp h3 c hc
      have h5 : n - 1 < c.laps.length := by omega
      rw [List.getElem?_eq_getElem h5] at h4
      cases h4
theorem spec_halt_no (h : s.flag.isSome = true) (ho : s.over = false) : Kg68.spec s .halt_ = (s, Kg68.num (-4)) := by
  show (if s.over = true then (s, Kg68.num (-2)) else if s.stopped.isSome = true ∨ s.flag.isSome = true then (s, Kg68.num (-4)) else _) = _
  rw [if_neg (by rw [ho]; decide), if_pos (.inr h)]
theorem spec_halt {m : Nat} (g : Good m s) (h : s.flag = none) : Kg68.spec s .halt_ = ({ s with stopped := some (mostLaps s - 1), over := false }, Kg68.num (mostLaps s - 1 : Nat)) := by
  show (if s.over = true then (s, Kg68.num (-2)) else if s.stopped.isSome = true ∨ s.flag.isSome = true then (s, Kg68.num (-4)) else ({ s with stopped := some (mostLaps s - 1), over := false }, Kg68.num (mostLaps s - 1 : Nat))) = _
  rw [if_neg (by rw [g.on]; decide), if_neg (by rw [stopped_flag g h, h]; decide)]
end
section
variable {K : PySem.W.Frag} {mg : Str → Option Value} {A : Ad} {H H' H1 H2 : Hp} {d dd p : Addr} {yo yo' : Option RaceL} {y : RaceL} {s s2 : KSt} {m i : Nat} {z lo hi : Int} {E : XK} {σ : L2.St} {ta tb : TE} {D : Ends} {tz : TS} {b : Bool} {Q : VK}
/-- all_within([x], lo, hi) -/
theorem ev_w0 (h : EvL ta σ H [.int z]) : Ev (tCall (sp_all_within K A) [] E (tCons ta (tCons (tC (.int lo)) (tCons (tC (.int hi)) tNil)))) σ H (.bl (Kg68.within z lo hi)) := fun H1 e Q q =>
  h H1 e _ fun p H2 _ e2 hp => ⟨p, [z], lo, hi, rfl, sq_of hp, by show 1 ≤ 1000; decide, fun H3 e3 => by
    have : ([z].all fun z => Kg68.within z lo hi) = Kg68.within z lo hi := by simp
    rw [this]
    exact q H3 (e2.trans e3)⟩
theorem ev_w1 (h : Ev ta σ H (.int z)) : Ev (tCall (sp_all_within K A) [] E (tCons (tLst (tCons ta tNil)) (tCons (tC (.int lo)) (tCons (tC (.int hi)) tNil)))) σ H (.bl (Kg68.within z lo hi)) := ev_w0 (el_lst (ea_cons h ea_nil) (by show 1 ≤ 100000; decide))
theorem q_do {C dx a : Addr} {fs : List (Str × V)} {nm : Str} {sp : Sp} {t : TA} (h : Ev ta σ H (.ref a)) (ho : H a = some (.ins C dx fs)) (hl : fs.lookup nm = none) (k : ∀ H1, Ex H H1 → t σ H1 fun vs H2 => sp (.ref a :: (vs ++ [])) H2 (fun _ H3 => tz D σ H3) E) :
    tSeq (tDrop (tMeth C nm sp [] E ta t)) tz D σ H := h H (exr H) _ fun H1 e1 => ⟨a, dx, fs, rfl, e1 _ _ ho, hl, k H1 e1⟩
theorem nd_f {P : Prop} [Decidable P] (h : (!decide P) = false) : P := by
  cases e : decide P with
  | true => exact of_decide_eq_true e
  | false => rw [e] at h; cases h
theorem nd_t {P : Prop} [Decidable P] (h : (!decide P) = true) : ¬ P := by
  cases e : decide P with
  | true => rw [e] at h; cases h
  | false => exact of_decide_eq_false e
/-- all_within(xs, lo, hi) -/
theorem ev_wL {ns : List Int} {p : Addr} (h : Ev ta σ H (.ref p)) (hp : SqL K H p (zints ns)) (hl : ns.length ≤ 1000) : Ev (tCall (sp_all_within K A) [] E (tCons ta (tCons (tC (.int lo)) (tCons (tC (.int hi)) tNil)))) σ H (.bl (ns.all fun z => Kg68.within z lo hi)) := fun H1 e Q q =>
  h H1 e _ fun H2 e2 => ⟨p, ns, lo, hi, rfl, ex_l (e.trans e2) hp, hl, fun H3 e3 => q H3 (e2.trans e3)⟩
/-- the end of a call that changed a car: [n] -/
theorem end_one {n : Int} {x : KSt × Kg68.Ans} (k : DeskRet A H d dd yo s m x Q) (hd : DeskAt A H1 d dd yo' x.1 (m + 1)) (kp : KeepD d H yo s.cars.length H1 yo' x.1.cars.length) (h : Ev ta σ H1 (.int n)) (hx : x.2 = Kg68.num n) {P : L2.St → Hp → Prop} :
    tRet (tLst (tCons ta tNil)) { nx := P, rt := Q } σ H1 :=
  s_retL (el_lst (ea_cons h ea_nil) (by show 1 ≤ 100000; decide)) fun p H2 hp e h2 => ret_desk k hd kp hp e (by
    rw [h2]
    show _ = some (HO.lst (zints (x.2.value :: x.2.out)))
    rw [hx]; rfl)
theorem len_d_cross {vs : List V} {H : Hp} {Q : VK} {E : XK} (h : sp_d_cross K A vs H Q E) : vs.length = 3 := by
  obtain ⟨_, _, _, _, _, _, _, rfl, _⟩ := h; rfl
theorem pure_d_cross (T : Txt K mg A) (vs : List V) (H : Hp) (Q : VK) (E : XK) (h : sp_d_cross K A vs H Q E) : t_d_cross K A E { nx := fun _ H' => Q .non H', rt := Q } (start n_d_cross vs) H := by
  obtain ⟨z, t, d, dd, yo, s, m, rfl, hd, hm, k1, k2⟩ := h
  have hm9 : m ≤ 900 := by omega
  refine q_want (ev_w1 (ev_var rfl)) (fun hw H1 e1 => ?_) fun hw => k1 _ (spec_cross_no hw)
  have eS := spec_cross (s := s) (i := z) hw
  have hd1 := hd.mono e1
  refine q_racing hd1 hm9 (ev_var rfl) (ev_var rfl) (fun c => (k1 _ (eS.trans (racing_no c))).mono e1) (fun c o => (k1 _ (eS.trans (racing_off c (hd.on c) o))).mono e1) fun y hy c o H2 e2 => ?_
  subst hy
  have eS2 := eS.trans (racing_on c (hd.on c) o)
  have hd2 := hd1.mono e2
  obtain ⟨ez, hz⟩ := is_car c
  have hca := hd2.2.1.car _ hz
  obtain ⟨w1, w2⟩ := within_iff.mp hw
  obtain ⟨n, rfl⟩ : ∃ n : Nat, t = (n : Int) := ⟨t.toNat, by omega⟩
  refine q_want (b := !decide ((n : Int) < (s.time : Int) ∨ (n : Int) ≤ ((s.car z.toNat).laps.getLastD 0 : Nat))) (ev_is (ev_andV (ev_op (ev_var rfl) (ev_race T (ev_rc T (ev_var rfl) hd2) hd2.2.1 T.na_Race_last_told raceF_last_told) rv_ge) fun _ => ev_op (ev_var rfl) (ev_last (ev_var rfl) hca) rv_gt) ?_) (fun hb H3 e3 => ?_) (fun hb => ?_)
  · congr 1
    rw [Bool.eq_iff_iff]; simp <;> omega
  · have hb' : ¬ ((n : Int) < (s.time : Int) ∨ (n : Int) ≤ ((s.car z.toNat).laps.getLastD 0 : Nat)) := nd_t hb
    have eS3 : Kg68.spec s (.cross z n) = (crossed s z.toNat n, ⟨((crossed s z.toNat n).car z.toNat).laps.length, [(Kg68.truth ((crossed s z.toNat n).home z.toNat) : Int)]⟩) := eS2.trans (if_neg hb')
    rw [eS3] at k2
    have hd3 := hd2.mono e3
    refine q_do (ev_rc T (ev_var rfl) hd3) hd3.2.1.obj raceN_take_crossing_of fun H4 e4 => ?_
    have hd4 := hd3.mono e4
    refine ⟨_, rfl, _, rfl, y, s, m, z.toNat, n, rfl, hd4.2.1, hd4.2.2.1, hd4.2.2.2, hm9, hz, fun H5 y2 er ec hr5 sp5 kp5 => ?_⟩
    have gd5 := good_cross (t := n) hd.2.2.2 hz (off_home o) (by omega) (by omega)
    obtain ⟨hd5, kd5⟩ := desk_next hd4 er hr5 sp5 kp5 (crossed_len s z.toNat n) gd5
    have kd := keep_ext (((e1.trans e2).trans e3).trans e4) kd5
    have hz5 : z.toNat < (crossed s z.toNat n).cars.length := by
      rw [crossed_len]; exact hz
    refine s_retL (el_lst (ea_cons (ev_laps (ev_is (ev_var rfl) (by rw [ec])) (hr5.car _ hz5)) (ea_cons (ev_int (ev_home (ev_rc T (ev_var rfl) hd5) (ev_is (ev_var rfl) (by rw [ec])) hr5 gd5 (by omega) hz5)) ea_nil)) (by show 2 ≤ 100000; decide)) fun p H6 hp e6 h6 => ret_desk k2 hd5 kd hp e6 ?_
    rw [h6]
    show _ = some (HO.lst [.int _, .int _])
    congr 3
    unfold Kg68.truth
    cases (crossed s z.toNat n).home z.toNat <;> rfl
  · have hb' : ((n : Int) < (s.time : Int) ∨ (n : Int) ≤ ((s.car z.toNat).laps.getLastD 0 : Nat)) := nd_f hb
    exact (k1 _ (eS2.trans (if_pos hb'))).mono (e1.trans e2)
theorem len_d_pit {vs : List V} {H : Hp} {Q : VK} {E : XK} (h : sp_d_pit K A vs H Q E) : vs.length = 3 := by
  obtain ⟨_, _, _, _, _, _, _, rfl, _⟩ := h; rfl
theorem pure_d_pit (T : Txt K mg A) (vs : List V) (H : Hp) (Q : VK) (E : XK) (h : sp_d_pit K A vs H Q E) : t_d_pit K A E { nx := fun _ H' => Q .non H', rt := Q } (start n_d_pit vs) H := by
  obtain ⟨z, t, d, dd, yo, s, m, rfl, hd, hm, k1, k2⟩ := h
  have hm9 : m ≤ 900 := by omega
  refine q_want (ev_w1 (ev_var rfl)) (fun hw H1 e1 => ?_) fun hw => k1 _ (spec_pit_no hw)
  have eS := spec_pit (s := s) (i := z) hw
  have hd1 := hd.mono e1
  refine q_racing hd1 hm9 (ev_var rfl) (ev_var rfl) (fun c => (k1 _ (eS.trans (racing_no c))).mono e1) (fun c o => (k1 _ (eS.trans (racing_off c (hd.on c) o))).mono e1) fun y hy c o H2 e2 => ?_
  subst hy
  rw [eS.trans (racing_on c (hd.on c) o)] at k2
  have hd2 := hd1.mono e2
  obtain ⟨ez, hz⟩ := is_car c
  obtain ⟨w1, w2⟩ := within_iff.mp hw
  obtain ⟨n, rfl⟩ : ∃ n : Nat, t = (n : Int) := ⟨t.toNat, by omega⟩
  have gc := goodC hd.2.2.2 hz
  refine ⟨_, rfl, _, _, _, rfl, (hd2.2.1.car _ hz).obj, carN_take_tyres, _, rfl, z.toNat, y.car z.toNat, s.car z.toNat, n, rfl, hd2.2.1.car _ hz, sep_ok hd2.2.2.1 hz, by have := gc.tmany; have := gc.pmany; omega, fun H3 L3 ea ek et es hc fr => ?_⟩
  obtain ⟨y2, ec, hd3, kp3, hc3⟩ := desk_set (f := fun c => { c with tyres := c.tyres ++ [n], pits := c.pits + 1 }) hd2 hz ea ek et es hc fr (good_pit hd.2.2.2 hz)
  refine end_one (x := pitF s n z.toNat (s.car z.toNat)) k2 hd3 (keep_ext (e1.trans e2) kp3) (ev_carm (ok := fun c => c.tyres.length = c.pits + 1) (g := fun c => .int (c.pits : Nat)) (ev_is (ev_var rfl) (by rw [ec])) hc3 carN_pits (by show ((s.car z.toNat).tyres ++ [n]).length = _; rw [List.length_append, gc.tmany]; rfl)) rfl
theorem len_d_through {vs : List V} {H : Hp} {Q : VK} {E : XK} (h : sp_d_through K A vs H Q E) : vs.length = 2 := by
  obtain ⟨_, _, _, _, _, _, rfl, _⟩ := h; rfl
theorem pure_d_through (T : Txt K mg A) (vs : List V) (H : Hp) (Q : VK) (E : XK) (h : sp_d_through K A vs H Q E) : t_d_through K A E { nx := fun _ H' => Q .non H', rt := Q } (start n_d_through vs) H := by
  obtain ⟨z, d, dd, yo, s, m, rfl, hd, hm, k1, k2⟩ := h
  have hm9 : m ≤ 900 := by omega
  have eS := spec_through (s := s) (i := z)
  refine q_racing hd hm9 (ev_var rfl) (ev_var rfl) (fun c => k1 _ (eS.trans (racing_no c))) (fun c o => k1 _ (eS.trans (racing_off c (hd.on c) o))) fun y hy c o H2 e2 => ?_
  subst hy
  have eS2 := eS.trans (racing_on c (hd.on c) o)
  have hd2 := hd.mono e2
  obtain ⟨ez, hz⟩ := is_car c
  have hca := hd2.2.1.car _ hz
  refine q_want (b := !decide ((s.car z.toNat).sent = [])) (ev_is (ev_op (ev_carm (ok := fun _ => True) (g := fun c => .int (c.sent.length : Nat)) (ev_var rfl) hca carN_ways trivial) ev_c rv_gt) ?_) (fun hb H3 e3 => ?_) (fun hb => ?_)
  · congr 1
    cases (s.car z.toNat).sent with
    | nil => rfl
    | cons x l => rw [Bool.eq_iff_iff]; simp <;> omega
  · have hb' : ¬ (s.car z.toNat).sent = [] := by simpa using hb
    have eS3 := eS2.trans (if_neg hb')
    rw [eS3] at k2
    have hd3 := hd2.mono e3
    refine ⟨_, rfl, _, _, _, rfl, (hd3.2.1.car _ hz).obj, carN_go_through, z.toNat, y.car z.toNat, s.car z.toNat, rfl, hd3.2.1.car _ hz, fun H4 L4 ea ek et es hc fr => ?_⟩
    obtain ⟨y2, ec, hd4, kp4, hc4⟩ := desk_set (f := fun c => { c with sent := c.sent.tail }) hd3 hz ea ek et es hc fr (good_through hd.2.2.2 hz)
    refine end_one k2 hd4 (keep_ext (e2.trans e3) kp4) (ev_carm (ok := fun _ => True) (g := fun c => .int (c.sent.length : Nat)) (ev_is (ev_var rfl) (by rw [ec])) hc4 carN_ways trivial) ?_
    show Kg68.num _ = Kg68.num _
    congr 2
    show _ = (s.car z.toNat).sent.tail.length
    rw [List.length_tail]
  · have hb' : (s.car z.toNat).sent = [] := by simpa using hb
    exact (k1 _ (eS2.trans (if_pos hb'))).mono e2
theorem len_d_seconds {vs : List V} {H : Hp} {Q : VK} {E : XK} (h : sp_d_seconds K A vs H Q E) : vs.length = 3 := by
  obtain ⟨_, _, _, _, _, _, _, rfl, _⟩ := h; rfl
theorem pure_d_seconds (T : Txt K mg A) (vs : List V) (H : Hp) (Q : VK) (E : XK) (h : sp_d_seconds K A vs H Q E) : t_d_seconds K A E { nx := fun _ H' => Q .non H', rt := Q } (start n_d_seconds vs) H := by
  obtain ⟨z, t, d, dd, yo, s, m, rfl, hd, hm, k1, k2⟩ := h
  have hm9 : m ≤ 900 := by omega
  refine q_want (ev_w1 (ev_var rfl)) (fun hw H1 e1 => ?_) fun hw => k1 _ (spec_secs_no hw)
  have hd1 := hd.mono e1
  refine q_carOf hd1 hm9 (ev_var rfl) (ev_var rfl) (fun c => (k1 _ (spec_secs_nc c)).mono e1) fun y hy c H2 e2 => ?_
  subst hy
  rw [spec_secs hw c (hd.on c)] at k2
  have hd2 := hd1.mono e2
  obtain ⟨ez, hz⟩ := is_car c
  obtain ⟨w1, w2⟩ := within_iff.mp hw
  obtain ⟨n, rfl⟩ : ∃ n : Nat, t = (n : Int) := ⟨t.toNat, by omega⟩
  refine ⟨_, rfl, _, _, _, rfl, (hd2.2.1.car _ hz).obj, carN_add_seconds, _, rfl, z.toNat, y.car z.toNat, s.car z.toNat, n, rfl, hd2.2.1.car _ hz, fun H3 L3 ea ek et es hc fr => ?_⟩
  obtain ⟨y2, ec, hd3, kp3, hc3⟩ := desk_set (f := fun c => { c with secs := c.secs + n }) hd2 hz ea ek et es hc fr (good_secs hd.2.2.2 hz)
  exact end_one k2 hd3 (keep_ext (e1.trans e2) kp3) (ev_car T (ev_is (ev_var rfl) (by rw [ec])) hc3 T.na_Car_added carF_added) rfl
theorem len_d_send {vs : List V} {H : Hp} {Q : VK} {E : XK} (h : sp_d_send K A vs H Q E) : vs.length = 2 := by
  obtain ⟨_, _, _, _, _, _, rfl, _⟩ := h; rfl
theorem pure_d_send (T : Txt K mg A) (vs : List V) (H : Hp) (Q : VK) (E : XK) (h : sp_d_send K A vs H Q E) : t_d_send K A E { nx := fun _ H' => Q .non H', rt := Q } (start n_d_send vs) H := by
  obtain ⟨z, d, dd, yo, s, m, rfl, hd, hm, k1, k2⟩ := h
  have hm9 : m ≤ 900 := by omega
  have eS := spec_send (s := s) (i := z)
  refine q_racing hd hm9 (ev_var rfl) (ev_var rfl) (fun c => k1 _ (eS.trans (racing_no c))) (fun c o => k1 _ (eS.trans (racing_off c (hd.on c) o))) fun y hy c o H2 e2 => ?_
  subst hy
  rw [eS.trans (racing_on c (hd.on c) o)] at k2
  have hd2 := hd.mono e2
  obtain ⟨ez, hz⟩ := is_car c
  have gc := goodC hd.2.2.2 hz
  refine ⟨_, rfl, _, _, _, rfl, (hd2.2.1.car _ hz).obj, carN_take_sending, z.toNat, y.car z.toNat, s.car z.toNat, rfl, hd2.2.1.car _ hz, sep_ok hd2.2.2.1 hz, by have := gc.smany; omega, fun H3 L3 ea ek et es hc fr => ?_⟩
  obtain ⟨y2, ec, hd3, kp3, hc3⟩ := desk_set (f := fun c => { c with sent := c.sent ++ [c.laps.length] }) hd2 hz ea ek et es hc fr (good_send hd.2.2.2 hz)
  refine end_one k2 hd3 (keep_ext e2 kp3) (ev_carm (ok := fun _ => True) (g := fun c => .int (c.sent.length : Nat)) (ev_is (ev_var rfl) (by rw [ec])) hc3 carN_ways trivial) ?_
  show Kg68.num _ = Kg68.num _
  congr 2
  show _ = ((s.car z.toNat).sent ++ [_]).length
  rw [List.length_append]; rfl
theorem len_d_leaving {vs : List V} {H : Hp} {Q : VK} {E : XK} (h : sp_d_leaving K A vs H Q E) : vs.length = 2 := by
  obtain ⟨_, _, _, _, _, _, rfl, _⟩ := h; rfl
theorem pure_d_leaving (T : Txt K mg A) (vs : List V) (H : Hp) (Q : VK) (E : XK) (h : sp_d_leaving K A vs H Q E) : t_d_leaving K A E { nx := fun _ H' => Q .non H', rt := Q } (start n_d_leaving vs) H := by
  obtain ⟨z, d, dd, yo, s, m, rfl, hd, hm, k1, k2⟩ := h
  have hm9 : m ≤ 900 := by omega
  have eS := spec_leave (s := s) (i := z)
  refine q_racing hd hm9 (ev_var rfl) (ev_var rfl) (fun c => k1 _ (eS.trans (racing_no c))) (fun c o => k1 _ (eS.trans (racing_off c (hd.on c) o))) fun y hy c o H2 e2 => ?_
  subst hy
  rw [eS.trans (racing_on c (hd.on c) o)] at k2
  have hd2 := hd.mono e2
  obtain ⟨ez, hz⟩ := is_car c
  refine ⟨_, rfl, _, _, _, rfl, (hd2.2.1.car _ hz).obj, carN_leave, z.toNat, y.car z.toNat, s.car z.toNat, rfl, hd2.2.1.car _ hz, fun H3 L3 ea ek et es hc fr => ?_⟩
  obtain ⟨y2, ec, hd3, kp3, hc3⟩ := desk_set (f := fun c => { c with out := true }) hd2 hz ea ek et es hc fr (good_leave hd.2.2.2 hz)
  exact end_one (σ := [some (.ref d), some (.int z), some (.ref (y.car z.toNat).a)]) k2 hd3 (keep_ext e2 kp3) ev_c rfl
theorem len_d_throwing {vs : List V} {H : Hp} {Q : VK} {E : XK} (h : sp_d_throwing K A vs H Q E) : vs.length = 2 := by
  obtain ⟨_, _, _, _, _, _, rfl, _⟩ := h; rfl
theorem pure_d_throwing (T : Txt K mg A) (vs : List V) (H : Hp) (Q : VK) (E : XK) (h : sp_d_throwing K A vs H Q E) : t_d_throwing K A E { nx := fun _ H' => Q .non H', rt := Q } (start n_d_throwing vs) H := by
  obtain ⟨z, d, dd, yo, s, m, rfl, hd, hm, k1, k2⟩ := h
  have hm9 : m ≤ 900 := by omega
  refine q_carOf hd hm9 (ev_var rfl) (ev_var rfl) (fun c => k1 _ (spec_throw_nc c)) fun y hy c H2 e2 => ?_
  subst hy
  have eS := spec_throw c (hd.on c)
  have hd2 := hd.mono e2
  obtain ⟨ez, hz⟩ := is_car c
  refine q_want (b := !(s.car z.toNat).thrown) (ev_notV (ev_car T (ev_var rfl) (hd2.2.1.car _ hz) T.na_Car_is_thrown carF_is_thrown)) (fun hb H3 e3 => ?_) (fun hb => ?_)
  · rw [eS.trans (if_neg (by simpa using hb))] at k2
    have hd3 := hd2.mono e3
    refine ⟨_, rfl, _, _, _, rfl, (hd3.2.1.car _ hz).obj, carN_throw, z.toNat, y.car z.toNat, s.car z.toNat, rfl, hd3.2.1.car _ hz, fun H4 L4 ea ek et es hc fr => ?_⟩
    obtain ⟨y2, ec, hd4, kp4, hc4⟩ := desk_set (f := fun c => { c with thrown := true }) hd3 hz ea ek et es hc fr (good_throw hd.2.2.2 hz)
    exact end_one (σ := [some (.ref d), some (.int z), some (.ref (y.car z.toNat).a)]) k2 hd4 (keep_ext (e2.trans e3) kp4) ev_c rfl
  · exact (k1 _ (eS.trans (if_pos (by simpa using hb)))).mono e2
theorem len_d_stop {vs : List V} {H : Hp} {Q : VK} {E : XK} (h : sp_d_stop K A vs H Q E) : vs.length = 1 := by
  obtain ⟨_, _, _, _, _, rfl, _⟩ := h; rfl
theorem pure_d_stop (T : Txt K mg A) (vs : List V) (H : Hp) (Q : VK) (E : XK) (h : sp_d_stop K A vs H Q E) : t_d_stop K A E { nx := fun _ H' => Q .non H', rt := Q } (start n_d_stop vs) H := by
  obtain ⟨d, dd, yo, s, m, rfl, hd, hm, k1, k2⟩ := h
  have hm9 : m ≤ 900 := by omega
  cases yo with
  | none =>
    refine q_want (ev_some T (ev_var rfl) hd) (fun hb => by cases hb) fun _ => k1 _ ?_
    rw [hd.2]; rfl
  | some y =>
    refine q_want (ev_some T (ev_var rfl) hd) (fun _ H1 e1 => ?_) (fun hb => by cases hb)
    have hd1 := hd.mono e1
    refine q_want (ev_notV (ev_fallen (ev_rc T (ev_var rfl) hd1) hd1.2.1 hd1.2.2.2 hm9)) (fun hb H2 e2 => ?_) (fun hb => ?_)
    · have hf : s.flag = none := by cases e : s.flag with | none => rfl | some _ => rw [e] at hb; cases hb
      rw [spec_halt hd.2.2.2 hf] at k2
      have hd2 := hd1.mono e2
      refine q_do (ev_rc T (ev_var rfl) hd2) hd2.2.1.obj raceN_be_stopped fun H3 e3 => ?_
      have hd3 := hd2.mono e3
      refine ⟨y, s, m, rfl, hd3.2.1, hd3.2.2.1, hd3.2.2.2, hm9, fun H4 y2 er ec hr4 sp4 kp4 => ?_⟩
      obtain ⟨hd4, kd4⟩ := desk_next hd3 er hr4 sp4 kp4 rfl (good_halt hd.2.2.2)
      exact end_one k2 hd4 (keep_ext ((e1.trans e2).trans e3) kd4) (ev_race (v := .int ((mostLaps s - 1 : Nat) : Int)) T (ev_rc T (ev_var rfl) hd4) hr4 T.na_Race_counted_for raceF_counted_for) rfl
    · have hf : s.flag.isSome = true := by simpa using hb
      exact (k1 _ (spec_halt_no hf hd.2.2.2.on)).mono e1
end
end L2

set_option Elab.async false
set_option linter.all false
set_option maxRecDepth 100000
set_option maxHeartbeats 4000000
namespace L2
open PySem PySem.Spec PyProof.Rows
open Evl
section
variable {K : PySem.W.Frag} {mg : Str → Option Value} {A : Ad} {H H' H1 H2 : Hp} {d dd p : Addr} {yo yo' : Option RaceL} {y : RaceL} {s s2 : KSt} {m i : Nat} {z lo hi : Int} {E : XK} {σ : L2.St} {ta tb te : TE} {D : Ends} {tz : TS} {b : Bool} {Q : VK}
/-- xs.extend(a new list) -/
theorem s_ext {l : Addr} {xs ys : List V} (hl : H l = some (.lst xs)) (ha : Ev ta σ H (.ref l)) (h : EvL te σ H ys) (hz : xs.length + ys.length ≤ 100000) (k : ∀ H1, Ex H H1 → D.nx σ (upd H1 l (.lst (xs ++ ys)))) :
    tDrop (tBM K "list" rExtend ta (tCons te tNil)) D σ H := ha H (Ex.refl H) _ fun H1 e1 =>
  ⟨Or.inl ⟨rfl, xs, sq_of (e1 l _ hl)⟩, h H1 e1 _ fun p H2 hp e2 h2 => ⟨l, p, xs, ys, rfl, rfl, e2 l _ (e1 l _ hl), h2, sz_of hz, k H2 (e1.trans e2)⟩⟩
/-- xs.extend(a list that stands) -/
theorem q_extV {l a : Addr} {xs ys : List V} (hl : H l = some (.lst xs)) (ha : Ev ta σ H (.ref l)) (h : Ev te σ H (.ref a)) (hy : H a = some (.lst ys)) (hz : xs.length + ys.length ≤ sizeLine) (k : ∀ H1, Ex H H1 → tz D σ (upd H1 l (.lst (xs ++ ys)))) :
    tSeq (tDrop (tBM K "list" rExtend ta (tCons te tNil))) tz D σ H := ha H (Ex.refl H) _ fun H1 e1 =>
  ⟨Or.inl ⟨rfl, xs, sq_of (e1 l _ hl)⟩, h H1 e1 _ fun H2 e2 => ⟨l, a, xs, ys, rfl, rfl, e2 l _ (e1 l _ hl), e2 _ _ (e1 _ _ hy), hz, k H2 (e1.trans e2)⟩⟩
/-- tuples of three gone through -/
theorem q_for3 {a : Addr} {ts : List Addr} {rows : List (Int × Int × Int)} {tl : TE} {j k l : Nat} {tu : TS} (h : Ev tl σ H (.ref a)) (hx : H a = some (.lst (ts.map V.ref))) (Pv : Nat → L2.St → Hp → Prop) (h0 : ∀ H1, Ex H H1 → Pv 0 σ H1)
    (hl : ∀ i σ' H', Pv i σ' H' → H' a = some (.lst (ts.map V.ref)) ∧ RowsAt H' ts rows)
    (hs : ∀ i r σ' H', rows[i]? = some r → Pv i σ' H' → tu { D with nx := Pv (i + 1), ct := Pv (i + 1), bk := tz D } (((σ'.set j (some (.int r.1))).set k (some (.int r.2.1))).set l (some (.int r.2.2))) H') (hd : ∀ σ' H', Pv ts.length σ' H' → tz D σ' H') :
    tSeq (tFor (iList K tl) (gTup K 3 (gCons (gName j) (gCons (gName k) (gCons (gName l) gNil)))) tu) tz D σ H := by
  refine q_forL h (sq_of hx) Pv h0 (fun i σ' H' _ pv => sq_of (hl i σ' H' pv).1) (fun i x σ' H' hi pv => ?_) (by rw [List.length_map]; exact hd)
  rw [List.getElem?_map] at hi
  obtain ⟨t, ht, rfl⟩ := Option.map_eq_some_iff.mp hi
  obtain ⟨_, hr⟩ := hl i σ' H' pv
  have hlt := (List.getElem?_eq_some_iff.mp ht).1
  have hlt2 : i < rows.length := by rw [← hr.1]; exact hlt
  have e1 : rows[i]? = some rows[i] := List.getElem?_eq_getElem hlt2
  have hT := hr.2 i t _ ht e1
  exact ⟨t, _, rfl, st_of hT, rfl, _, _, rfl, _, _, rfl, _, _, rfl, rfl, hs i _ σ' H' e1 pv⟩
theorem q_forZipVL {a : Addr} {xs ys : List V} {tu : TS} {j k : Nat} (ha : Ev ta σ H (.ref a)) (hx : H a = some (.lst xs)) (h : EvL tb σ H ys) (Pv : Addr → Nat → L2.St → Hp → Prop) (h0 : ∀ b H1, H b = none → Ex H H1 → H1 b = some (.lst ys) → Pv b 0 σ H1)
    (hG : ∀ b i σ' H', Pv b i σ' H' → H' a = some (.lst xs) ∧ H' b = some (.lst ys))
    (hs : ∀ b i x u σ' H' T, xs[i]? = some x → ys[i]? = some u → Pv b i σ' H' → H' T = none → tu { D with nx := Pv b (i + 1), ct := Pv b (i + 1), bk := tz D } ((σ'.set j (some x)).set k (some u)) (upd H' T (.tup [x, u]))) (hd : ∀ b σ' H', Pv b (min xs.length ys.length) σ' H' → tz D σ' H') :
    tSeq (tFor (iZip K (tCons ta (tCons tb tNil))) (gTup K 2 (gCons (gName j) (gCons (gName k) gNil))) tu) tz D σ H :=
  ha H (exr H) _ fun H1 e1 => h H1 e1 _ fun b H2 hb e2 h2 => ⟨a, b, xs, ys, rfl, sq_of ((e1.trans e2) _ _ hx), sq_of h2, for_it (walk_zip (K := K) (a := a) (b := b) (xs := xs) (ys := ys) rfl) (Pv b) (h0 b H2 (fresh_back e1 hb) (e1.trans e2) h2) (fun i σ' H' _ pv => ⟨sq_of (hG b i σ' H' pv).1, sq_of (hG b i σ' H' pv).2⟩)
    (fun i x σ' H2 H3 hi pv ⟨T, x1, y1, ex, hT, eH, hx1, hy1⟩ => by
      subst ex
      subst eH
      exact ⟨T, _, rfl, SqT.of upd_same, rfl, _, _, rfl, _, _, rfl, rfl, hs b i x1 y1 σ' H2 T hx1 hy1 pv hT⟩) (hd b)⟩
theorem zints_ans (n : Nat) (l : List Nat) : zints ((n : Int) :: Kg68.whole l) = nints (n :: l) := by unfold zints nints Kg68.whole; simp
theorem flat_snoc {l : List Nat} {i x : Nat} {g : Nat → List Nat} (h : l[i]? = some x) : (l.take (i + 1)).flatMap g = (l.take i).flatMap g ++ g x := by
  rw [take_snoc h, List.flatMap_append]; simp
theorem flat_len {g : Nat → List Nat} {c : Nat} (hg : ∀ x, (g x).length = c) : ∀ l : List Nat, (l.flatMap g).length = c * l.length
  | [] => rfl
  | x :: l => by
    rw [List.flatMap_cons, List.length_append, hg, flat_len hg l, List.length_cons, Nat.mul_succ, Nat.add_comm]
theorem nints_app2 (l r : List Nat) : nints (l ++ r) = nints l ++ nints r := by unfold nints; simp
def nowG (s : KSt) (i : Nat) : List Nat := [i, (s.car i).laps.length, (s.car i).laps.getLastD 0]
theorem spec_now : Kg68.spec s .now = (s, ⟨s.running.length, Kg68.whole (s.running.flatMap (nowG s))⟩) := rfl
theorem len_d_now {vs : List V} {H : Hp} {Q : VK} {E : XK} (h : sp_d_now K A vs H Q E) : vs.length = 1 := by
  obtain ⟨_, _, _, _, _, rfl, _⟩ := h; rfl
theorem pure_d_now (T : Txt K mg A) (vs : List V) (H : Hp) (Q : VK) (E : XK) (h : sp_d_now K A vs H Q E) : t_d_now K A { nx := fun _ H' => Q .non H', rt := Q } (start n_d_now vs) H := by
  obtain ⟨d, dd, yo, s, m, rfl, hd, hm, k⟩ := h
  cases yo with
  | none =>
    refine q_when (b := true) (et_is (et_test (ev_op (ev_rcN T (ev_var rfl) hd) ev_c rv_isN)) rfl) (fun _ H1 e1 => ?_) (fun hb => by cases hb)
    refine s_retL (el_lst (ea_cons ev_c ea_nil) (by show 1 ≤ 100000; decide)) fun p H2 hp e2 h2 => k p H2 (fresh_back e1 hp) (e1.trans e2) ?_
    rw [h2, hd.2]; rfl
  | some y =>
    refine q_when (b := false) (et_is (et_test (ev_op (ev_rc T (ev_var rfl) hd) ev_c rv_isN)) rfl) (fun hb => by cases hb) (fun _ H0 e0 => ?_)
    have hd0 := hd.mono e0
    have hr := hd0.2.1
    have gd := hd.2.2.2
    have z1 := el_lcM (K := K) (σ := start n_d_now [.ref d]) (H := H0) (te := tVar 2) (t := tAnd (tNot (tB (tFld K (tVar 2) "has_left"))) (tNot (tB (tFld K (tVar 2) "is_thrown")))) (j := 2) (vs := [2]) (tl := tFld K (tFld K (tVar 0) "race") "cars")
      (List.range s.cars.length) (fun i => V.ref (y.car i).a) (fun i => !(s.car i).out && !(s.car i).thrown) (fun i => V.ref (y.car i).a) 0 (ev_race T (ev_rc T (ev_var rfl) hd0) hr T.na_Race_cars raceF_cars) (sq_of hr.cars) (by rw [List.length_range]; have := gd.n2; omega) (fun x => rfl)
      (fun i hi H1 e => by
        have hc := (hr.mono e).car i (List.mem_range.mp hi)
        exact et_and (et_not (et_B (ev_car T (ev_var rfl) hc T.na_Car_has_left carF_has_left))) fun _ => et_not (et_B (ev_car T (ev_var rfl) hc T.na_Car_is_thrown carF_is_thrown))) (fun i hi H1 e _ => ev_var rfl)
    refine q_asgL z1 fun p1 H1 hp1 e1 hl1 => ?_
    have hr1 := hr.mono e1
    obtain ⟨ro1, ro2⟩ := run_order gd
    have hin : ∀ i ∈ (List.range s.cars.length).filter (fun i => !(s.car i).out && !(s.car i).thrown), i < s.cars.length := fun i hi => List.mem_range.mp (List.mem_filter.mp hi).1
    have hlen : s.running.length ≤ 26 := by
      rw [ro1.length_eq]
      have h1 := List.length_filter_le (fun i => !(s.car i).out && !(s.car i).thrown) (List.range s.cars.length)
      rw [List.length_range] at h1
      have := gd.n2
      omega
    refine s_asgR (er_sorted (o := (List.range s.cars.length).filter fun i => !(s.car i).out && !(s.car i).thrown) (ord := s.running) (row := rowZ (fun j => (s.car j).laps.length) (fun j => (s.car j).laps.getLastD 0)) (er_lc _ (fun i => V.ref (y.car i).a) (rowZ (fun j => (s.car j).laps.length) (fun j => (s.car j).laps.getLastD 0)) (ev_var rfl) (sq_of hl1) (by rw [← ro1.length_eq]; omega) (fun x => rfl)
      (fun i hi H2 e2 => ev_un (ev_laps (ev_var rfl) ((hr1.mono e2).car i (hin i hi))) ru_n)
      (fun i hi H2 e2 => ev_last (ev_var rfl) ((hr1.mono e2).car i (hin i hi)))
      (fun i hi H2 e2 => ev_car T (ev_var rfl) ((hr1.mono e2).car i (hin i hi)) T.na_Car_number carF_number)) ro1 ro2) fun p2 ts H2 hp2 e2 hl2 hrows => ?_
    have hts : ts.length = s.running.length := by rw [hrows.1, List.length_map]
    refine q_asgL (el_lst (ea_cons (ev_is (ev_len (ev_var rfl) (sq_of hl2)) (by rw [List.length_map, hts])) ea_nil) (by show 1 ≤ 100000; decide)) fun p4 H3 hp4 e3 hl3 => ?_
    refine q_for3 (K := K) (a := p2) (ts := ts) (ev_var rfl) (e3 _ _ hl2) (fun i σ' H' => ∃ v5 v6 v7 : Option V, σ' = [some (.ref d), some (.ref p1), none, some (.ref p2), some (.ref p4), v5, v6, v7] ∧ Ex H2 H' ∧ H' p4 = some (.lst (nints (s.running.length :: (s.running.take i).flatMap (nowG s)))))
      (fun H4 e4 => ⟨_, _, _, rfl, e3.trans e4, e4 _ _ hl3⟩) (fun i σ' H' ⟨_, _, _, _, ex, _⟩ => ⟨ex _ _ hl2, hrows.mono ex⟩) (fun i r σ' H' hi ⟨v5, v6, v7, es, ex, hf⟩ => ?_) (fun σ' H' ⟨v5, v6, v7, es, ex, hf⟩ => ?_)
    · subst es
      rw [List.getElem?_map] at hi
      obtain ⟨x, hx, rfl⟩ := Option.map_eq_some_iff.mp hi
      have fl := flat_len (g := nowG s) (c := 3) (fun _ => rfl) (s.running.take i)
      have tl := List.length_take_le i s.running
      refine s_ext (ys := nints (nowG s x)) hf (ev_var rfl) (el_lst (ea_cons (ev_var rfl) (ea_cons (ev_is (ev_un (ev_var rfl) ru_n) (congrArg V.int (by show - -(((s.car x).laps.length : Nat) : Int) = _; omega))) (ea_cons (ev_var rfl) ea_nil))) (by show 3 ≤ 100000; decide)) ?_ fun H4 e4 => ⟨_, _, _, rfl, (ex.trans e4).mut hp4, ?_⟩
      · rw [nints_len, nints_len, List.length_cons, fl, List.length_take]
        show _ + 3 ≤ 100000
        omega
      · rw [upd_same, ← nints_app2, flat_snoc hx]
        rfl
    · subst es
      rw [hts, List.take_length] at hf
      refine s_ret (ev_var rfl) fun H4 e4 => k p4 H4 (fresh_back ((e0.trans e1).trans e2) hp4) (((e0.trans e1).trans (e2.trans ex)).trans e4) ?_
      rw [e4 _ _ hf, spec_now]
      exact congrArg (fun l => some (HO.lst l)) (zints_ans _ _).symm
/-! ### card -/
def cardL (s : KSt) (i : Nat) : List Nat := [(s.crossings i).length, (s.car i).penalty, (s.car i).sent.length, (s.car i).pits, Kg68.truth (s.car i).out, Kg68.truth (s.isThrown i), best s i]
theorem spec_card_no (h : Kg68.isCar s z = false) : Kg68.spec s (.card z) = (s, Kg68.num (-1)) := if_pos h
theorem spec_card (h : Kg68.isCar s z = true) : Kg68.spec s (.card z) = (s, ⟨((s.car z.toNat).laps.length : Nat), Kg68.whole (cardL s z.toNat)⟩) := if_neg (by rw [h]; decide)
theorem truth_is (b : Bool) : V.int (if b then 1 else 0) = V.int ((Kg68.truth b : Nat) : Int) := by cases b <;> rfl
theorem len_d_card {vs : List V} {H : Hp} {Q : VK} {E : XK} (h : sp_d_card K A vs H Q E) : vs.length = 2 := by
  obtain ⟨_, _, _, _, _, _, rfl, _⟩ := h; rfl
theorem pure_d_card (T : Txt K mg A) (vs : List V) (H : Hp) (Q : VK) (E : XK) (h : sp_d_card K A vs H Q E) : t_d_card K A E { nx := fun _ H' => Q .non H', rt := Q } (start n_d_card vs) H := by
  obtain ⟨z, d, dd, yo, s, m, rfl, hd, hm, k1, k2⟩ := h
  have hm9 : m ≤ 900 := by omega
  refine q_carOf hd hm9 (ev_var rfl) (ev_var rfl) (fun c => k1 _ (spec_card_no c)) fun y hy c H1 e1 => ?_
  subst hy
  rw [spec_card c] at k2
  obtain ⟨ez, hz⟩ := is_car c
  have hd1 := hd.mono e1
  have gd := hd.2.2.2
  refine q_asg (ev_rc T (ev_var rfl) hd1) fun H2 e2 => ?_
  have hd2 := hd1.mono e2
  have hr := hd2.2.1
  have hc := hr.car _ hz
  refine q_asgL (xs := nints [(s.car z.toNat).laps.length, (s.crossings z.toNat).length, (s.car z.toNat).penalty, (s.car z.toNat).sent.length, (s.car z.toNat).pits]) (el_lst (ea_cons (ev_laps (ev_var rfl) hc) (ea_cons (ev_counting (ev_var rfl) (ev_var rfl) hr gd hm9 hz) (ea_cons (ev_penalty (ev_var rfl) hc)
    (ea_cons (ev_carm (ok := fun _ => True) (g := fun c => .int (c.sent.length : Nat)) (ev_var rfl) hc carN_ways trivial) (ea_cons (ev_carm (ok := fun c => c.tyres.length = c.pits + 1) (g := fun c => .int (c.pits : Nat)) (ev_var rfl) hc carN_pits (goodC gd hz).tmany) ea_nil))))) (by show 5 ≤ 100000; decide)) fun q H3 hq e3 hl3 => ?_
  refine s_retL (el_catVL (ys := nints [Kg68.truth (s.car z.toNat).out, Kg68.truth (s.isThrown z.toNat), best s z.toNat]) (ev_var rfl) hl3 (fun H4 e4 => el_lst (ea_cons (ev_is (ev_int (ev_car T (ev_var rfl) ((hr.mono (e3.trans e4)).car _ hz) T.na_Car_has_left carF_has_left)) (truth_is _)) (ea_cons (ev_is (ev_int (ev_out (ev_var rfl) (ev_var rfl) (hr.mono (e3.trans e4)) gd hm9 hz)) (truth_is _)) (ea_cons (ev_best (ev_var rfl) (ev_var rfl) (hr.mono (e3.trans e4)) gd hm9 hz) ea_nil))) (by show 3 ≤ 100000; decide)) (by show 5 + 3 ≤ 100000; decide)) fun p H4 hp e4 h4 => ret_same hd k2 ((e1.trans e2).trans e3) hp e4 ?_
  rw [h4, ← nints_app2]
  exact congrArg (fun l => some (HO.lst l)) (zints_ans _ _).symm
/-! ### result, teams -/
def resG (s : KSt) (i : Nat) : List Nat := [i, (s.crossings i).length, timeP s i, s.points i]
theorem spec_result : Kg68.spec s .result = (s, if s.cars = [] then Kg68.num (-2) else if s.flag.isNone = true then Kg68.num (-4) else ⟨s.classed.length, [(s.worth : Int), fastN s] ++ Kg68.whole (s.classed.flatMap (resG s))⟩) := rfl
theorem ne_cars {g : Good m s} : s.cars ≠ [] := fun z => by have := g.n1; rw [z] at this; simp at this
theorem len_d_result {vs : List V} {H : Hp} {Q : VK} {E : XK} (h : sp_d_result K A vs H Q E) : vs.length = 1 := by
  obtain ⟨_, _, _, _, _, rfl, _⟩ := h; rfl
theorem pure_d_result (T : Txt K mg A) (vs : List V) (H : Hp) (Q : VK) (E : XK) (h : sp_d_result K A vs H Q E) : t_d_result K A E { nx := fun _ H' => Q .non H', rt := Q } (start n_d_result vs) H := by
  obtain ⟨d, dd, yo, s, m, rfl, hd, hm, k1, k2⟩ := h
  have hm9 : m ≤ 900 := by omega
  refine q_fallen hd hm9 (ev_var rfl) (fun hn => k1 _ ?_) (fun hy hf => k1 _ ?_) fun y hy hf H1 e1 => ?_
  · subst hn
    rw [hd.2]; rfl
  · obtain ⟨y, rfl⟩ := Option.isSome_iff_exists.mp hy
    rw [spec_result, if_neg (ne_cars (g := hd.2.2.2)), if_pos hf]
  subst hy
  have gd := hd.2.2.2
  rw [spec_result, if_neg (ne_cars (g := gd)), if_neg (by rw [hf]; decide)] at k2
  have hd1 := hd.mono e1
  refine q_asg (ev_rc T (ev_var rfl) hd1) fun H2 e2 => ?_
  have hr2 := hd1.2.1.mono e2
  refine q_asgL (el_classed (ev_var rfl) hr2 gd hm9) fun c H3 hc e3 hl3 => ?_
  have hr3 := hr2.mono e3
  have cl := classed_len gd
  refine q_asgL (xs := .int (s.classed.length : Nat) :: .int (s.worth : Nat) :: .int (fastN s) :: nints []) (el_lst (ea_cons (ev_is (ev_len (ev_var rfl) (sq_of hl3)) (by rw [crefs_len])) (ea_cons (ev_level (ev_var rfl) (ev_var rfl) hl3 hr3 gd hm9) (ea_cons (ev_fast (ev_var rfl) (ev_var rfl) hl3 hr3 gd hm9) ea_nil))) (by show 3 ≤ 100000; decide)) fun q H4 hq e4 hl4 => ?_
  have hr4 := hr3.mono e4
  have hc4 := e4 _ _ hl3
  have ncq : c ≠ q := fun z => by rw [← z, hl3] at hq; cases hq
  refine q_forZipVL (K := K) (a := c) (xs := crefs y s.classed) (ys := nints (s.classed.map fun i => s.points i)) (ev_var rfl) hc4 (el_halves (ev_var rfl) (ev_var rfl) hc4 hr4 gd hm9)
    (fun b i σ' H' => ∃ v4 v5 : Option V, σ' = [some (.ref d), some (.ref y.r), some (.ref c), some (.ref q), v4, v5] ∧ Ex H3 H' ∧ b ≠ q ∧ H' b = some (.lst (nints (s.classed.map fun i => s.points i))) ∧ H' q = some (.lst (.int (s.classed.length : Nat) :: .int (s.worth : Nat) :: .int (fastN s) :: nints ((s.classed.take i).flatMap (resG s)))))
    (fun b H5 hb e5 hb5 => ⟨_, _, rfl, e4.trans e5, (fun z => by rw [z, hl4] at hb; cases hb), hb5, e5 _ _ hl4⟩) (fun b i σ' H' ⟨_, _, _, ex, _, hb, _⟩ => ⟨ex _ _ hl3, hb⟩) (fun b i x u σ' H' T0 hx hu ⟨v4, v5, es, ex, nb, hb, hf5⟩ hT => ?_) (fun b σ' H' ⟨v4, v5, es, ex, nb, hb, hf5⟩ => ?_)
  · subst es
    obtain ⟨j, hj, rfl⟩ := crefs_get hx
    obtain ⟨n, hn, rfl⟩ := nints_get hu
    rw [List.getElem?_map, hj] at hn
    have en : s.points j = n := Option.some.inj hn
    subst en
    obtain ⟨hj1, hj2⟩ := classed_mem gd (List.mem_of_getElem? hj)
    have ext := Ex.new (o := .tup [.ref (y.car j).a, .int (s.points j : Int)]) hT
    have hr5 := hr3.mono (ex.trans ext)
    have fl := flat_len (g := resG s) (c := 4) (fun _ => rfl) (s.classed.take i)
    have tl := List.length_take_le i s.classed
    refine s_ext (ys := nints (resG s j)) (ext _ _ hf5) (ev_var rfl) (el_lst (ea_cons (ev_car T (ev_var rfl) (hr5.car j hj1) T.na_Car_number carF_number) (ea_cons (ev_counting (ev_var rfl) (ev_var rfl) hr5 gd hm9 hj1) (ea_cons (ev_twp (ev_var rfl) (ev_var rfl) hr5 gd hm9 hj1 hj2) (ea_cons (ev_var rfl) ea_nil)))) (by show 4 ≤ 100000; decide)) ?_
      fun H6 e6 => ⟨_, _, rfl, ((ex.trans ext).trans e6).mut hq, nb, ?_, ?_⟩
    · rw [nints_len, List.length_cons, List.length_cons, List.length_cons, nints_len, fl, List.length_take]
      show _ + 4 ≤ 100000
      omega
    · rw [upd_ne nb]
      exact e6 _ _ (ext _ _ hb)
    · rw [upd_same, flat_snoc hj, nints_app2]
      rfl
  · subst es
    have hlz : min (crefs y s.classed).length (nints (s.classed.map fun i => s.points i)).length = s.classed.length := by
      rw [crefs_len, nints_len, List.length_map, Nat.min_self]
    rw [hlz, List.take_length] at hf5
    refine s_ret (ev_var rfl) fun H6 e6 => ret_same hd k2 ((e1.trans e2).trans e3) hq (ex.trans e6) ?_
    rw [e6 _ _ hf5]
    show _ = some (HO.lst (.int _ :: .int _ :: .int _ :: zints (Kg68.whole _)))
    unfold zints nints Kg68.whole
    rw [List.map_map]
    rfl
def teamG (s : KSt) (t : Nat) : List Nat := [t, s.teamPoints t]
theorem spec_teams : Kg68.spec s .teams = (s, if s.cars = [] then Kg68.num (-2) else if s.flag.isNone = true then Kg68.num (-4) else ⟨(s.cars.map Kg68.Car.team).eraseDups.length, Kg68.whole ((s.cars.map Kg68.Car.team).eraseDups.flatMap (teamG s))⟩) := rfl
theorem len_d_teams {vs : List V} {H : Hp} {Q : VK} {E : XK} (h : sp_d_teams K A vs H Q E) : vs.length = 1 := by
  obtain ⟨_, _, _, _, _, rfl, _⟩ := h; rfl
theorem pure_d_teams (T : Txt K mg A) (vs : List V) (H : Hp) (Q : VK) (E : XK) (h : sp_d_teams K A vs H Q E) : t_d_teams K A E { nx := fun _ H' => Q .non H', rt := Q } (start n_d_teams vs) H := by
  obtain ⟨d, dd, yo, s, m, rfl, hd, hm, k1, k2⟩ := h
  have hm9 : m ≤ 900 := by omega
  refine q_fallen hd hm9 (ev_var rfl) (fun hn => k1 _ ?_) (fun hy hf => k1 _ ?_) fun y hy hf H1 e1 => ?_
  · subst hn
    rw [hd.2]; rfl
  · obtain ⟨y, rfl⟩ := Option.isSome_iff_exists.mp hy
    rw [spec_teams, if_neg (ne_cars (g := hd.2.2.2)), if_pos hf]
  subst hy
  have gd := hd.2.2.2
  rw [spec_teams, if_neg (ne_cars (g := gd)), if_neg (by rw [hf]; decide)] at k2
  have hd1 := hd.mono e1
  generalize hT : (s.cars.map Kg68.Car.team).eraseDups = ts at k2
  have tlen : ts.length ≤ 26 := by
    rw [← hT]
    have h1 := erd_len _ (s.cars.map Kg68.Car.team) (Nat.le_refl _)
    rw [List.length_map] at h1
    have := gd.n2
    omega
  refine q_asgL (xs := nints ts) (el_call (ea_cons (ev_rc T (ev_var rfl) hd1) ea_nil) fun H2 e2 Q q E => ⟨y, s, m, rfl, hd1.2.1.mono e2, gd, hm9, by show RetL (nints (s.cars.map Kg68.Car.team).eraseDups) H2 Q; rw [hT]; exact q⟩) fun c H2 hc e2 hl2 => ?_
  have hd2 := hd1.mono e2
  refine q_asgL (xs := nints [ts.length]) (el_lst (ea_cons (ev_is (ev_len (ev_var rfl) (sq_of hl2)) (by rw [nints_len])) ea_nil) (by show 1 ≤ 100000; decide)) fun q H3 hq e3 hl3 => ?_
  have hd3 := hd2.mono e3
  have ncq : c ≠ q := fun z => by rw [← z, hl2] at hq; cases hq
  refine q_forLn (K := K) (a := c) (xs := nints ts) (ev_var rfl) (sq_of (e3 _ _ hl2)) (fun i σ' H' => ∃ v3 : Option V, σ' = [some (.ref d), some (.ref c), some (.ref q), v3] ∧ Ex H2 H' ∧ H' q = some (.lst (nints (ts.length :: (ts.take i).flatMap (teamG s)))))
    (fun H5 e5 => ⟨_, rfl, e3.trans e5, e5 _ _ hl3⟩) (fun i σ' H' _ ⟨_, _, ex, _⟩ => sq_of (ex _ _ hl2)) (fun i x σ' H' hx ⟨v3, es, ex, hf5⟩ => ?_) (fun σ' H' ⟨v3, es, ex, hf5⟩ => ?_)
  · subst es
    obtain ⟨t, ht, rfl⟩ := nints_get hx
    have hd5 := hd2.mono ex
    have fl := flat_len (g := teamG s) (c := 2) (fun _ => rfl) (ts.take i)
    have tl := List.length_take_le i ts
    refine s_ext (ys := nints (teamG s t)) hf5 (ev_var rfl) (el_lst (ea_cons (ev_var rfl) (ea_cons (ev_call (ea_cons (ev_rc T (ev_var rfl) hd5) (ea_cons (ev_var rfl) ea_nil)) fun H6 e6 Q q E => ⟨y, s, m, t, rfl, hd5.2.1.mono e6, gd, hm9, q⟩) ea_nil)) (by show 2 ≤ 100000; decide)) ?_
      fun H6 e6 => ⟨_, rfl, (ex.trans e6).mut hq, ?_⟩
    · rw [nints_len, List.length_cons, fl, List.length_take]
      show _ + 2 ≤ 100000
      omega
    · rw [upd_same, flat_snoc ht, ← nints_app2]
      rfl
  · subst es
    rw [nints_len, List.take_length] at hf5
    refine s_ret (ev_var rfl) fun H6 e6 => ret_same hd k2 (e1.trans e2) hq (ex.trans e6) ?_
    rw [e6 _ _ hf5]
    exact congrArg (fun l => some (HO.lst l)) (zints_ans _ _).symm
/-! ### begin -/
theorem RaceAt.frame (h : RaceAt A H y s) (he : ∀ b o, OwnR y s.cars.length b → H b = some o → H' b = some o) : RaceAt A H' y s :=
  ⟨he _ _ (.inl rfl) h.obj, he _ _ (.inr (.inl rfl)) h.cars, fun i hi => ⟨he _ _ (.inr (.inr ⟨i, hi, .inl rfl⟩)) (h.car i hi).obj, he _ _ (.inr (.inr ⟨i, hi, .inr (.inl rfl)⟩)) (h.car i hi).kinds,
    he _ _ (.inr (.inr ⟨i, hi, .inr (.inr (.inl rfl))⟩)) (h.car i hi).times, he _ _ (.inr (.inr ⟨i, hi, .inr (.inr (.inr rfl))⟩)) (h.car i hi).sent⟩⟩
def beginOk (n w : Int) (t y : List Int) : Bool := Kg68.within n 1 100 && (Kg68.within w 0 1 && (t.all (fun z => Kg68.within z 0 20) && (y.all (fun z => Kg68.within z 0 4) && (y.length == t.length && (decide (1 ≤ t.length) && decide (t.length ≤ 26))))))
theorem spec_begin_no {n w : Int} {t k : List Int} (h : beginOk n w t k = false) : Kg68.spec s (.begin_ n w t k) = (s, Kg68.num (-1)) := if_pos h
theorem spec_begin {n w : Int} {t k : List Int} (h : beginOk n w t k = true) : Kg68.spec s (.begin_ n w t k) = (freshRace n.toNat (w == 1) (t.map Int.toNat) (k.map Int.toNat), Kg68.num (t.length : Nat)) := by
  refine (if_neg (by show ¬ beginOk n w t k = false; rw [h]; decide)).trans ?_
  unfold freshRace freshCar
  rw [List.zip_map, List.map_map]
  rfl
theorem nat_list {l : List Int} {hi : Int} (h : (l.all fun z => Kg68.within z 0 hi) = true) : zints l = nints (l.map Int.toNat) := by
  unfold zints nints
  rw [List.map_map]
  refine List.map_congr_left fun z hz => ?_
  have := (within_iff.mp (List.all_eq_true.mp h z hz)).1
  show V.int z = V.int ((z.toNat : Nat) : Int)
  congr 1
  omega
theorem q_fldMk {targs : TA} {vs : List V} {C : Addr} {sp : Sp} {f : Str} (ha : EvA targs σ H vs) (k : ∀ H1, Ex H H1 → ∀ x dx, H1 x = none → H1 dx = none → dx ≠ x → sp (.ref x :: (vs ++ [])) (upd (upd H1 dx (.own x)) x (.ins C dx [])) (fun v H2 => v = .non ∧ ta σ H2 fun z H3 => ∃ a C2 dx2 fs, z = .ref a ∧ H3 a = some (.ins C2 dx2 fs) ∧ Cls K C2 ∧ NoAttr K C2 f ∧ fs.length < 1000 ∧ tz D σ (upd H3 a (.ins C2 dx2 (putF f (.ref x) fs)))) E) :
    tSeq (sFld K ta (tMake C sp [] E targs) f) tz D σ H := ha H (exr H) _ fun H1 e1 x dx hx hdx ne => k H1 e1 x dx hx hdx ne
theorem in01 (w : Int) : inV (.int w) [.int 0, .int 1] = Kg68.within w 0 1 := by
  show ((0 == w) || ((1 == w) || false)) = (decide (0 ≤ w) && decide (w ≤ 1))
  rw [Bool.eq_iff_iff]
  simp
  omega
theorem begin_ok {n w : Int} {t k : List Int} : beginOk n w t k = ((Kg68.within n 1 100 && Kg68.within w 0 1) && ((Kg68.within (t.length : Int) 1 26 && decide (k.length = t.length)) && ((t.all fun z => Kg68.within z 0 20) && (k.all fun z => Kg68.within z 0 4)))) := by
  have e : Kg68.within (t.length : Int) 1 26 = (decide (1 ≤ t.length) && decide (t.length ≤ 26)) := by
    unfold Kg68.within
    rw [Bool.eq_iff_iff]; simp
    omega
  have e2 : (k.length == t.length) = decide (k.length = t.length) := by rw [Bool.eq_iff_iff]; simp
  unfold beginOk
  rw [e, e2]
  cases Kg68.within n 1 100 <;> cases Kg68.within w 0 1 <;> cases (t.all fun z => Kg68.within z 0 20) <;> cases (k.all fun z => Kg68.within z 0 4) <;> cases decide (k.length = t.length) <;> cases decide (1 ≤ t.length) <;> cases decide (t.length ≤ 26) <;> rfl
theorem dec_w (w : Int) : decide (V.int w = V.int 1) = (w == 1) := by
  rw [Bool.eq_iff_iff]; simp
theorem len_d_begin {vs : List V} {H : Hp} {Q : VK} {E : XK} (h : sp_d_begin K A vs H Q E) : vs.length = 5 := by
  obtain ⟨_, _, _, _, _, _, _, _, _, _, _, _, _, _, _, rfl, _⟩ := h; rfl
theorem pure_d_begin (T : Txt K mg A) (vs : List V) (H : Hp) (Q : VK) (E : XK) (h : sp_d_begin K A vs H Q E) : t_d_begin K A E { nx := fun _ H' => Q .non H', rt := Q } (start n_d_begin vs) H := by
  obtain ⟨n, w, tl, kl, t, k, htl, hkl, lt, lk, d, dd, yo, s, m, rfl, hd, hm, k1, k2⟩ := h
  have no : ∀ {H1}, Ex H H1 → beginOk n w t k = false → Refd A (-1) H1 E := fun e h => (k1 _ (spec_begin_no h)).mono e
  refine q_want (b := Kg68.within n 1 100 && Kg68.within w 0 1) (ev_andV (ev_w1 (ev_var rfl)) fun _ => ev_is (ev_inU (ev_var rfl) (eu_tup (ea_cons ev_c (ea_cons ev_c ea_nil)) (by show 2 ≤ 100000; decide)) rfl rfl) (congrArg V.bl (in01 w))) (fun b1 H1 e1 => ?_) (fun b1 => no (exr _) (by rw [begin_ok, b1]; rfl))
  refine q_want (b := Kg68.within (t.length : Int) 1 26 && decide (k.length = t.length)) (ev_is (ev_andV (ev_w1 (ev_is (ev_len (ev_var rfl) (sq_of (e1 _ _ htl))) (by rw [zints_len]))) fun _ => ev_op (ev_is (ev_len (ev_var rfl) (sq_of (e1 _ _ hkl))) (by rw [zints_len])) (ev_is (ev_len (ev_var rfl) (sq_of (e1 _ _ htl))) (by rw [zints_len])) (rv_eq rfl)) ?_) (fun b2 H2 e2 => ?_) (fun b2 => no e1 (by rw [begin_ok, b2, Bool.false_and, Bool.and_false]))
  · congr 2
    rw [Bool.eq_iff_iff]; simp
    omega
  have e12 := e1.trans e2
  refine q_want (b := (t.all fun z => Kg68.within z 0 20) && (k.all fun z => Kg68.within z 0 4)) (ev_andV (ev_wL (ev_var rfl) (sq_of (e12 _ _ htl)) lt) fun _ => ev_wL (ev_var rfl) (sq_of (e12 _ _ hkl)) lk) (fun b3 H3 e3 => ?_) (fun b3 => no e12 (by rw [begin_ok, b3, Bool.and_false, Bool.and_false]))
  have ok : beginOk n w t k = true := by rw [begin_ok, b1, b2, b3]; rfl
  rw [spec_begin ok] at k2
  rw [Bool.and_eq_true] at b1 b2 b3
  obtain ⟨n1, n2⟩ := within_iff.mp b1.1
  obtain ⟨l1, l2⟩ := within_iff.mp b2.1
  have el := of_decide_eq_true b2.2
  have e13 := e12.trans e3
  obtain ⟨n, rfl⟩ : ∃ i : Nat, n = (i : Int) := ⟨n.toNat, by omega⟩
  refine q_fldMk (vs := [.int (n : Int), .bl (w == 1), .ref tl, .ref kl]) (ea_cons (ev_var rfl) (ea_cons (ev_is (ev_op (ev_var rfl) ev_c (rv_eq rfl)) (congrArg V.bl (dec_w w))) (ea_cons (ev_var rfl) (ea_cons (ev_var rfl) ea_nil)))) fun H4 e4 x dx hx hdx ne => ?_
  have e14 := e13.trans e4
  have ex : Ex H4 (upd (upd H4 dx (.own x)) x (.ins A.cRace dx [])) := (Ex.new hdx).trans (Ex.new (by rw [upd_ne (Ne.symm ne)]; exact hx))
  have exG := e14.trans ex
  have len1 : (k.map Int.toNat).length = (t.map Int.toNat).length := by rw [List.length_map, List.length_map, el]
  have len2 : (t.map Int.toNat).length ≤ 26 := by rw [List.length_map]; omega
  refine ⟨x, dx, tl, kl, n, w == 1, t.map Int.toNat, k.map Int.toNat, rfl, upd_same, by rw [exG _ _ htl, nat_list b3.1], by rw [exG _ _ hkl, nat_list b3.2], len1, len2, fun H5 y er hr5 sp5 own5 fr5 => ⟨rfl, ?_⟩⟩
  obtain ⟨v, ho⟩ := hd.obj
  have nox : ∀ {b o}, H b = some o → b ≠ x := fun {b o} hb z => by
    have := e14 _ _ hb
    rw [z, hx] at this; cases this
  have kH : ∀ b o, H b = some o → H5 b = some o := fun b o hb => fr5 b o (exG _ _ hb) (nox hb)
  have notOwn : ∀ {b o}, H b = some o → ¬ OwnR y (t.map Int.toNat).length b := fun {b o} hb z => by
    rcases own5 b z with z2 | z2
    · exact nox hb z2
    · rw [exG _ _ hb] at z2; cases z2
  refine ⟨_, rfl, d, A.cDesk, dd, _, rfl, kH _ _ ho, T.clDesk, T.na_Desk_race, (by show 1 < 1000; decide), ?_⟩
  rw [put_here]
  have fl : (freshRace n (w == 1) (t.map Int.toNat) (k.map Int.toNat)).cars.length = (t.map Int.toNat).length := freshRace_len len1
  have hd6 : DeskAt A (upd H5 d (.ins A.cDesk dd [("race", .ref x)])) d dd (some y) (freshRace n (w == 1) (t.map Int.toNat) (k.map Int.toNat)) (m + 1) := by
    refine ⟨by rw [upd_same, er], hr5.frame fun b o ob hb => ?_, by rw [fl]; exact sp5, good_fresh (by omega) (by omega) (by rw [List.length_map]; omega) len2 len1⟩
    rw [upd_ne (fun z => notOwn ho (by rw [← z, ← fl]; exact ob))]
    exact hb
  have kd : KeepD d H yo s.cars.length (upd H5 d (.ins A.cDesk dd [("race", .ref x)])) (some y) (freshRace n (w == 1) (t.map Int.toNat) (k.map Int.toNat)).cars.length := fun b o hb nb => by
    refine ⟨by rw [upd_ne (fun z => nb (.inl z))]; exact kH _ _ hb, ?_⟩
    rintro (z | ⟨y3, z, ob⟩)
    · exact nb (.inl z)
    · cases z
      rw [fl] at ob
      exact notOwn hb ob
  have ntd : tl ≠ d := ne_of htl ho lst_ins
  refine end_one k2 hd6 kd (ev_is (ev_len (ev_var rfl) (sq_of (xs := zints t) (by rw [upd_ne ntd]; exact kH _ _ htl))) (by rw [zints_len])) rfl
end
end L2

set_option Elab.async false
set_option linter.all false
set_option maxRecDepth 100000
set_option maxHeartbeats 1000000
namespace L2
/-! ### the calls read off one list -/
def NUMS : List Int := [0, 2, 2, 2, 1, 2, 1, 1, 1, 0, 0, 1, 0, 0]
theorem row_form {l a t : List Int} (h : PyFlat.row l = some (a, t)) : l = (a.length : Int) :: (a ++ t) := by
  cases l with
  | nil => cases h
  | cons n r =>
    unfold PyFlat.row at h
    dsimp only at h
    split at h
    · rename_i hc
      have h2 := Option.some.inj h
      have ea : r.take n.toNat = a := congrArg Prod.fst h2
      have et : r.drop n.toNat = t := congrArg Prod.snd h2
      have el : a.length = n.toNat := by rw [← ea, List.length_take]; omega
      rw [← ea, ← et, List.take_append_drop, ea, el]
      congr 1
      omega
    · cases h
theorem drop_step {ns r : List Int} {i : Nat} {x : Int} (h : ns.drop i = x :: r) : ns[i]? = some x ∧ ns.drop (i + 1) = r ∧ i < ns.length := by
  have h1 : i < ns.length := by
    have := congrArg List.length h
    rw [List.length_drop] at this
    simp at this
    omega
  rw [List.drop_eq_getElem_cons h1] at h
  injection h with h2 h3
  exact ⟨by rw [List.getElem?_eq_getElem h1, h2], h3, h1⟩
theorem rows_two {l t : List Int} {xs : List (List Int)} (h : PyFlat.rows 2 l = some (xs, t)) : ∃ a b t1, xs = [a, b] ∧ PyFlat.row l = some (a, t1) ∧ PyFlat.row t1 = some (b, t) := by
  unfold PyFlat.rows at h
  cases e : PyFlat.row l with
  | none => rw [e] at h; cases h
  | some x =>
    obtain ⟨a, t1⟩ := x
    rw [e] at h
    dsimp only at h
    unfold PyFlat.rows at h
    cases e2 : PyFlat.row t1 with
    | none => rw [e2] at h; cases h
    | some x2 =>
      obtain ⟨b, t2⟩ := x2
      rw [e2] at h
      dsimp only at h
      unfold PyFlat.rows at h
      dsimp only at h
      have h2 := Option.some.inj h
      have e3 : [a, b] = xs := congrArg Prod.fst h2
      have e4 : t2 = t := congrArg Prod.snd h2
      exact ⟨a, b, t1, e3.symm, rfl, by rw [e2, e4]⟩
theorem call_no {p : Int} {r t : List Int} {c : List (List Int)} {n : Nat} (hs : PyKg68.shape p = some (n, 0)) (h : PyFlat.call PyKg68.shape (p :: r) = some (c, t)) : n ≤ r.length ∧ c = [p :: r.take n] ∧ t = r.drop n := by
  unfold PyFlat.call at h
  dsimp only at h
  rw [hs] at h
  dsimp only at h
  split at h
  · cases h
  · unfold PyFlat.rows at h
    dsimp only at h
    have h2 := Option.some.inj h
    exact ⟨by omega, (congrArg Prod.fst h2).symm, (congrArg Prod.snd h2).symm⟩
theorem take_one {r : List Int} (h : 1 ≤ r.length) : ∃ x, r.take 1 = [x] := by
  cases r with
  | nil => simp at h
  | cons x l => exact ⟨x, by simp⟩
theorem take_two {r : List Int} (h : 2 ≤ r.length) : ∃ x y, r.take 2 = [x, y] := by
  cases r with
  | nil => simp at h
  | cons x l =>
    cases l with
    | nil => simp at h
    | cons y l => exact ⟨x, y, by simp⟩
def Form (p : Int) (r t : List Int) (c : List (List Int)) : Prop := ∃ (k : Kg68.Call) (n q : Nat), p = (q : Int) ∧ NUMS[q]? = some (n : Int) ∧ n ≤ r.length ∧ Kg68Neutral.callOf (PyKg68.whole c) = some k ∧ numsOf k = (p, r.take n) ∧
  ((p ≠ 1 ∧ t = r.drop n) ∨ (p = 1 ∧ ∃ n0 w a b t1, k = .begin_ n0 w a b ∧ PyKg68.whole c = [[1, n0, w], a, b] ∧ PyFlat.row (r.drop n) = some (a, t1) ∧ PyFlat.row t1 = some (b, t)))
theorem form0 {p : Int} {q : Nat} {r t : List Int} {c : List (List Int)} (k : Kg68.Call) (ep : p = (q : Int)) (hq : NUMS[q]? = some 0) (n1 : p ≠ 1) (hs : PyKg68.shape p = some (0, 0)) (hk : Kg68Neutral.callOf (PyKg68.whole [[p]]) = some k) (hn : numsOf k = (p, [])) (h : PyFlat.call PyKg68.shape (p :: r) = some (c, t)) : Form p r t c := by
  obtain ⟨h1, rfl, h3⟩ := call_no hs h
  exact ⟨k, 0, q, ep, hq, h1, hk, hn, .inl ⟨n1, h3⟩⟩
theorem form1 {p : Int} {q : Nat} {r t : List Int} {c : List (List Int)} (k : Int → Kg68.Call) (ep : p = (q : Int)) (hq : NUMS[q]? = some 1) (n1 : p ≠ 1) (hs : PyKg68.shape p = some (1, 0)) (hk : ∀ x, Kg68Neutral.callOf (PyKg68.whole [[p, x]]) = some (k x)) (hn : ∀ x, numsOf (k x) = (p, [x])) (h : PyFlat.call PyKg68.shape (p :: r) = some (c, t)) : Form p r t c := by
  obtain ⟨h1, rfl, h3⟩ := call_no hs h
  obtain ⟨x, hx⟩ := take_one h1
  exact ⟨k x, 1, q, ep, hq, h1, by rw [hx]; exact hk x, by rw [hx]; exact hn x, .inl ⟨n1, h3⟩⟩
theorem form2 {p : Int} {q : Nat} {r t : List Int} {c : List (List Int)} (k : Int → Int → Kg68.Call) (ep : p = (q : Int)) (hq : NUMS[q]? = some 2) (n1 : p ≠ 1) (hs : PyKg68.shape p = some (2, 0)) (hk : ∀ x y, Kg68Neutral.callOf (PyKg68.whole [[p, x, y]]) = some (k x y)) (hn : ∀ x y, numsOf (k x y) = (p, [x, y])) (h : PyFlat.call PyKg68.shape (p :: r) = some (c, t)) : Form p r t c := by
  obtain ⟨h1, rfl, h3⟩ := call_no hs h
  obtain ⟨x, y, hx⟩ := take_two h1
  exact ⟨k x y, 2, q, ep, hq, h1, by rw [hx]; exact hk x y, by rw [hx]; exact hn x y, .inl ⟨n1, h3⟩⟩
theorem call_form {p : Int} {r t : List Int} {c : List (List Int)} (h : PyFlat.call PyKg68.shape (p :: r) = some (c, t)) : Form p r t c := by
  by_cases h1 : p = 1
  · subst h1
    unfold PyFlat.call at h
    dsimp only at h
    have hs : PyKg68.shape 1 = some (2, 2) := rfl
    rw [hs] at h
    dsimp only at h
    split at h
    · cases h
    · rename_i hl
      cases e : PyFlat.rows 2 (r.drop 2) with
      | none => rw [e] at h; cases h
      | some x =>
        obtain ⟨xs, t2⟩ := x
        rw [e] at h
        have h2 := Option.some.inj h
        have e1 : (1 :: r.take 2) :: xs = c := congrArg Prod.fst h2
        have e2 : t2 = t := congrArg Prod.snd h2
        obtain ⟨a, b, t1, rfl, r1, r2⟩ := rows_two e
        obtain ⟨n0, w, hx⟩ := take_two (r := r) (by omega)
        rw [hx] at e1
        subst e1 e2
        exact ⟨.begin_ n0 w a b, 2, 1, rfl, rfl, by omega, rfl, by rw [hx]; rfl, .inr ⟨rfl, n0, w, a, b, t1, rfl, rfl, r1, r2⟩⟩
  by_cases h2 : p = 2
  · subst h2; exact form2 (q := 2) .cross rfl rfl (by decide) rfl (fun _ _ => rfl) (fun _ _ => rfl) h
  by_cases h3 : p = 3
  · subst h3; exact form2 (q := 3) .pit rfl rfl (by decide) rfl (fun _ _ => rfl) (fun _ _ => rfl) h
  by_cases h4 : p = 4
  · subst h4; exact form1 (q := 4) .through rfl rfl (by decide) rfl (fun _ => rfl) (fun _ => rfl) h
  by_cases h5 : p = 5
  · subst h5; exact form2 (q := 5) .seconds rfl rfl (by decide) rfl (fun _ _ => rfl) (fun _ _ => rfl) h
  by_cases h6 : p = 6
  · subst h6; exact form1 (q := 6) .send rfl rfl (by decide) rfl (fun _ => rfl) (fun _ => rfl) h
  by_cases h7 : p = 7
  · subst h7; exact form1 (q := 7) .leave rfl rfl (by decide) rfl (fun _ => rfl) (fun _ => rfl) h
  by_cases h8 : p = 8
  · subst h8; exact form1 (q := 8) .throw_ rfl rfl (by decide) rfl (fun _ => rfl) (fun _ => rfl) h
  by_cases h9 : p = 9
  · subst h9; exact form0 (q := 9) .halt_ rfl rfl (by decide) rfl rfl rfl h
  by_cases h10 : p = 10
  · subst h10; exact form0 (q := 10) .now rfl rfl (by decide) rfl rfl rfl h
  by_cases h11 : p = 11
  · subst h11; exact form1 (q := 11) .card rfl rfl (by decide) rfl (fun _ => rfl) (fun _ => rfl) h
  by_cases h12 : p = 12
  · subst h12; exact form0 (q := 12) .result rfl rfl (by decide) rfl rfl rfl h
  by_cases h13 : p = 13
  · subst h13; exact form0 (q := 13) .teams rfl rfl (by decide) rfl rfl rfl h
  exfalso
  have hs : PyKg68.shape p = none := by
    unfold PyKg68.shape
    simp only [h1, h2, h3, h4, h5, h6, h7, h8, h9, h10, h11, h12, h13, if_false]
  unfold PyFlat.call at h
  dsimp only at h
  rw [hs] at h
  cases h
/-- how it stands at a place: the calls to come, the race, what comes of them -/
structure Ahead (ns : List Int) (at_ : Nat) (s : KSt) (m : Nat) (raw : List (List (List Int))) (found : List Int) : Prop where
  le : at_ ≤ ns.length
  rd : ∃ f, PyFlat.calls PyKg68.shape f (ns.drop at_) = some raw
  few : m + raw.length ≤ 250
  ask : ∀ c ∈ raw, Kg68Neutral.asked1 (PyKg68.whole c) = true
  ans : PyKg68.answers ns = found ++ PyFlat.told (PyFlat.played Kg68Neutral.step s (raw.map PyKg68.whole))
theorem ahead_start {ns : List Int} (h : PyKg68.answers_asked ns = true) : ∃ raw, Ahead ns 0 Kg68.init 0 raw [] ∧ (PyKg68.answers ns).length ≤ 10000000 := by
  unfold PyKg68.answers_asked at h
  cases e : PyFlat.calls PyKg68.shape ns.length ns with
  | none => rw [e] at h; cases h
  | some raw =>
    rw [e] at h
    dsimp only at h
    simp only [Bool.and_eq_true] at h
    obtain ⟨⟨⟨⟨_, h2⟩, _⟩, h4⟩, h5⟩ := h
    refine ⟨raw, ⟨Nat.zero_le _, ⟨ns.length, e⟩, ?_, fun c hc => ?_, ?_⟩, of_decide_eq_true h5⟩
    · have := of_decide_eq_true h2
      omega
    · unfold Kg68Neutral.asked at h4
      rw [Bool.and_eq_true] at h4
      exact List.all_eq_true.mp h4.1 _ (List.mem_map.mpr ⟨c, hc, rfl⟩)
    · unfold PyKg68.answers PyKg68.calls
      rw [e]
      rfl
theorem ahead_end {ns found : List Int} {at_ m : Nat} {s : KSt} {raw : List (List (List Int))} (h : Ahead ns at_ s m raw found) (he : ¬ at_ < ns.length) : PyKg68.answers ns = found := by
  obtain ⟨f, hf⟩ := h.rd
  rw [List.drop_eq_nil_of_le (by omega)] at hf
  have e : raw = [] := by
    cases f <;> exact (Option.some.inj hf).symm
  rw [h.ans, e]
  exact List.append_nil _
/-- a call is taken -/
theorem ahead_step {ns found : List Int} {at_ m : Nat} {s : KSt} {raw : List (List (List Int))} (h : Ahead ns at_ s m raw found) (he : at_ < ns.length) :
    ∃ (k : Kg68.Call) (n q e2 : Nat) (raw' : List (List (List Int))), raw.length = raw'.length + 1 ∧ ns[at_]? = some (q : Int) ∧ (numsOf k).1 = (q : Int) ∧ NUMS[q]? = some (n : Int) ∧ at_ + 1 + n ≤ ns.length ∧ (numsOf k).2 = (ns.drop (at_ + 1)).take n ∧
      Ahead ns e2 (Kg68.spec s k).1 (m + 1) raw' (found ++ (((ansL (Kg68.spec s k)).length : Int) :: ansL (Kg68.spec s k))) ∧
      ((q ≠ 1 ∧ e2 = at_ + 1 + n) ∨ (q = 1 ∧ ∃ (n0 w : Int) (a b : List Int), k = .begin_ n0 w a b ∧ a.length ≤ 30 ∧ b.length ≤ 30 ∧ ns[at_ + 1 + n]? = some (a.length : Int) ∧ at_ + 1 + n + 1 + a.length ≤ ns.length ∧ (ns.drop (at_ + 1 + n + 1)).take a.length = a ∧
        ns[at_ + 1 + n + 1 + a.length]? = some (b.length : Int) ∧ at_ + 1 + n + 1 + a.length + 1 + b.length ≤ ns.length ∧ (ns.drop (at_ + 1 + n + 1 + a.length + 1)).take b.length = b ∧ e2 = at_ + 1 + n + 1 + a.length + 1 + b.length)) := by
  obtain ⟨f, hf⟩ := h.rd
  cases hd : ns.drop at_ with
  | nil =>
    have := congrArg List.length hd
    rw [List.length_drop] at this
    simp at this
    omega
  | cons p r =>
    obtain ⟨d1, d2, d3⟩ := drop_step hd
    rw [hd] at hf
    cases f with
    | zero => cases hf
    | succ f =>
      unfold PyFlat.calls at hf
      cases ec : PyFlat.call PyKg68.shape (p :: r) with
      | none => rw [ec] at hf; cases hf
      | some x =>
        obtain ⟨c, t⟩ := x
        rw [ec] at hf
        dsimp only at hf
        cases ecs : PyFlat.calls PyKg68.shape f t with
        | none => rw [ecs] at hf; cases hf
        | some raw' =>
          rw [ecs] at hf
          have er : c :: raw' = raw := Option.some.inj hf
          subst er
          obtain ⟨k, n, q, ep, hN, hl, hk, hnum, hcase⟩ := call_form ec
          have lr : r.length = ns.length - (at_ + 1) := by rw [← d2, List.length_drop]
          have dr : ∀ i, r.drop i = ns.drop (at_ + 1 + i) := fun i => by rw [← d2, List.drop_drop]
          have stp : Kg68Neutral.step s (PyKg68.whole c) = ((Kg68.spec s k).1, ansL (Kg68.spec s k)) := by
            unfold Kg68Neutral.step
            rw [hk]
            rfl
          have ans : PyKg68.answers ns = (found ++ (((ansL (Kg68.spec s k)).length : Int) :: ansL (Kg68.spec s k))) ++ PyFlat.told (PyFlat.played Kg68Neutral.step (Kg68.spec s k).1 (raw'.map PyKg68.whole)) := by
            rw [h.ans, List.append_assoc]
            congr 1
            show PyFlat.told ((Kg68Neutral.step s (PyKg68.whole c)).2 :: PyFlat.played Kg68Neutral.step (Kg68Neutral.step s (PyKg68.whole c)).1 (raw'.map PyKg68.whole)) = _
            rw [stp]
            unfold PyFlat.told
            rw [List.flatMap_cons]
          have few : m + 1 + raw'.length ≤ 250 := by
            have := h.few
            rw [List.length_cons] at this
            omega
          have ask : ∀ c ∈ raw', Kg68Neutral.asked1 (PyKg68.whole c) = true := fun c hc => h.ask c (List.mem_cons_of_mem _ hc)
          rcases hcase with ⟨n1, rfl⟩ | ⟨rfl, n0, w, a, b, t1, rfl, hw, r1, r2⟩
          · refine ⟨k, n, q, at_ + 1 + n, raw', rfl, by rw [d1, ep], by rw [hnum]; exact ep, hN, by omega, by rw [hnum, d2], ⟨by omega, ⟨f, by rw [← dr]; exact ecs⟩, few, ask, ans⟩, .inl ⟨by omega, rfl⟩⟩
          · have f1 := row_form r1
            have f2 := row_form r2
            rw [dr] at f1
            obtain ⟨g1, g2, g3⟩ := drop_step f1
            rw [f2] at g2
            have g4 : ns.drop (at_ + 1 + n + 1 + a.length) = (b.length : Int) :: (b ++ t) := by
              rw [← List.drop_drop, g2, List.drop_left]
            obtain ⟨g5, g6, g7⟩ := drop_step g4
            have g8 : ns.drop (at_ + 1 + n + 1 + a.length + 1 + b.length) = t := by
              rw [← List.drop_drop, g6, List.drop_left]
            have l1 := congrArg List.length g6
            rw [List.length_drop, List.length_append] at l1
            have hask := h.ask c (by simp)
            rw [hw] at hask
            have hr : Kg68Neutral.row a 30 = true ∧ Kg68Neutral.row b 30 = true := by
              have hask2 : (Kg68Neutral.whole32 n0 && (Kg68Neutral.whole32 w && (Kg68Neutral.row a 30 && Kg68Neutral.row b 30))) = true := hask
              simp only [Bool.and_eq_true] at hask2
              exact hask2.2.2
            have la : a.length ≤ 30 := by
              have := hr.1
              unfold Kg68Neutral.row at this
              rw [Bool.and_eq_true] at this
              exact of_decide_eq_true this.2
            have lb : b.length ≤ 30 := by
              have := hr.2
              unfold Kg68Neutral.row at this
              rw [Bool.and_eq_true] at this
              exact of_decide_eq_true this.2
            refine ⟨.begin_ n0 w a b, n, q, at_ + 1 + n + 1 + a.length + 1 + b.length, raw', rfl, by rw [d1, ep], by rw [hnum]; exact ep, hN, by omega, by rw [hnum, d2], ⟨by omega, ⟨f, by rw [g8]; exact ecs⟩, few, ask, ans⟩,
              .inr ⟨by omega, n0, w, a, b, rfl, la, lb, g1, by omega, by rw [g2, List.take_left], g5, by omega, by rw [g6, List.take_left], rfl⟩⟩
end L2

set_option Elab.async false
set_option linter.all false
set_option maxRecDepth 100000
set_option maxHeartbeats 4000000
namespace L2
open PySem PySem.Spec PyProof.Rows
open Evl
section
variable {K : PySem.W.Frag} {mg : Str → Option Value} {A : Ad} {H H' H1 H2 : Hp} {d dd p : Addr} {yo yo' : Option RaceL} {y : RaceL} {s s2 : KSt} {m i : Nat} {z lo hi : Int} {E : XK} {σ : L2.St} {ta tb te tf : TE} {t : TA} {D : Ends} {tu tz : TS} {b : Bool} {Q : VK} {v : V} {vs xs : List V}
/-! ### list_at -/
theorem cutZ (l : List Int) (a n : Nat) : cutV (zints l) (some ((a : Nat) : Int)) (some ((a + n : Nat) : Int)) = zints ((l.drop a).take n) := by
  unfold cutV zints
  rw [HT.sIx_nat, HT.sIx_nat, List.length_map, ← List.map_drop, ← List.map_take]
  congr 1
  by_cases h : a ≤ l.length
  · rw [Nat.min_eq_left h]
    by_cases h2 : a + n ≤ l.length
    · rw [Nat.min_eq_left h2]; congr 1; omega
    · rw [Nat.min_eq_right (by omega), List.take_of_length_le (by rw [List.length_drop]; omega), List.take_of_length_le (by rw [List.length_drop]; omega)]
  · have m1 : min a l.length = l.length := Nat.min_eq_right (by omega)
    rw [m1, List.drop_eq_nil_of_le (Nat.le_refl _), List.drop_eq_nil_of_le (show l.length ≤ a by omega)]
    simp
theorem s_retT (h : EvL te σ H xs) (hv : ∀ H1, Ex H H1 → Ev tf σ H1 v) (k : ∀ q u H1, H q = none → H u = none → Ex H H1 → H1 q = some (.lst xs) → H1 u = some (.tup [.ref q, v]) → D.rt (.ref u) H1) : tRet (tTup (tCons te (tCons tf tNil))) D σ H :=
  h H (exr H) _ fun q H1 hq e1 h1 => hv H1 e1 H1 (exr _) _ fun H2 e2 => ⟨by show 2 ≤ sizeLine; decide, fun u hu => k q u _ hq (fresh_back (e1.trans e2) hu) ((e1.trans e2).trans (Ex.new hu)) ((Ex.new hu) _ _ (e2 _ _ h1)) upd_same⟩
theorem zints_at {l : List Int} {i : Nat} {n : Int} (h : l[i]? = some n) : (zints l)[i]? = some (.int n) := by
  unfold zints
  rw [List.getElem?_map, h] <;> rfl
theorem len_list_at {vs : List V} {H : Hp} {Q : VK} {E : XK} (h : sp_list_at K A vs H Q E) : vs.length = 2 := by
  obtain ⟨_, _, _, _, rfl, _⟩ := h; rfl
theorem pure_list_at (T : Txt K mg A) (vs : List V) (H : Hp) (Q : VK) (E : XK) (h : sp_list_at K A vs H Q E) : t_list_at K A { nx := fun _ H' => Q .non H', rt := Q } (start n_list_at vs) H := by
  obtain ⟨p, l, a, n, rfl, hp, hn, hl, k⟩ := h
  refine q_asg (v := .int ((a + 1 + n : Nat) : Int)) (ev_is (ev_op (ev_op (ev_var rfl) ev_c rv_plus) (ev_op (ev_var rfl) (ev_var rfl) (rv_ixL hp (atI_nat (zints_at hn)))) rv_plus) (congrArg V.int (by omega))) fun H1 e1 => ?_
  refine s_retT (v := .int ((a + 1 + n : Nat) : Int)) (el_sl (ev_var rfl) (eo_some (ev_is (ev_op (ev_var rfl) ev_c rv_plus) (congrArg V.int (show (a : Int) + 1 = ((a + 1 : Nat) : Int) by omega)))) (eo_some (ev_var rfl)) (ex_l e1 hp)) (fun H2 e2 => ev_var rfl) fun q u H2 hq hu e2 h2 h3 => ?_
  rw [cutZ] at h2
  exact k H2 q u (e1.trans e2) (fresh_back e1 hq) (fresh_back e1 hu) h2 h3
/-! ### the calls handed on -/
theorem q_no {c r : Int} (h : Ev ta σ H (.int c)) (n : c ≠ r) (k : ∀ H1, Ex H H1 → tz D σ H1) : tSeq (tIfS (tTest (tOp rEq ta (tC (.int r)))) tu tNext) tz D σ H :=
  q_when (b := false) (et_is (et_test (ev_op h ev_c (rv_eq rfl))) (by rw [dec_int]; simpa using n)) (fun hb => by cases hb) (fun _ => k)
theorem q_yes {c r : Int} (h : Ev ta σ H (.int c)) (n : c = r) (k : ∀ H1, Ex H H1 → tu { D with nx := tz D } σ H1) : tSeq (tIfS (tTest (tOp rEq ta (tC (.int r)))) tu tNext) tz D σ H :=
  q_when (b := true) (et_is (et_test (ev_op h ev_c (rv_eq rfl))) (by rw [dec_int]; simpa using n)) (fun _ => k) (fun hb => by cases hb)
theorem r_do {C dx a : Addr} {fs : List (Str × V)} {nm : Str} {sp : Sp} (h : Ev ta σ H (.ref a)) (ho : H a = some (.ins C dx fs)) (hl : fs.lookup nm = none) (ht : EvA t σ H vs) (k : ∀ H1, Ex H H1 → sp (.ref a :: (vs ++ [])) H1 D.rt E) :
    tRet (tMeth C nm sp [] E ta t) D σ H := h H (exr H) _ fun H1 e1 => ⟨a, dx, fs, rfl, e1 _ _ ho, hl, ht H1 e1 _ fun H2 e2 => k H2 (e1.trans e2)⟩
theorem r_call {sp : Sp} (ht : EvA t σ H vs) (k : ∀ H1, Ex H H1 → sp (vs ++ []) H1 D.rt E) : tRet (tCall sp [] E t) D σ H := ht H (exr H) _ fun H1 e1 => k H1 e1
theorem DeskRet.mono {x : KSt × Kg68.Ans} (k : DeskRet A H d dd yo s m x Q) (e : Ex H H') : DeskRet A H' d dd yo s m x Q := fun H2 yo' p hd' kp fr own h' => k H2 yo' p hd' (keep_ext e kp) (fun b o hb nb => fr b o (e _ _ hb) nb) own h'
theorem ev_n0 {p : Addr} {x : Int} {r : List Int} (h : Ev ta σ H (.ref p)) (hp : H p = some (.lst (zints (x :: r)))) : Ev (tOp (rIxL K) ta (tC (.int 0))) σ H (.int x) := ev_op h ev_c (rv_ixL (sq_of hp) (atI_nat (j := 0) rfl))
theorem ev_n1 {p : Addr} {x w : Int} {r : List Int} (h : Ev ta σ H (.ref p)) (hp : H p = some (.lst (zints (x :: w :: r)))) : Ev (tOp (rIxL K) ta (tC (.int 1))) σ H (.int w) := ev_op h ev_c (rv_ixL (sq_of hp) (atI_nat (j := 1) rfl))
theorem len_answer_with_car {vs : List V} {H : Hp} {Q : VK} {E : XK} (h : sp_answer_with_car K A vs H Q E) : vs.length = 3 := by
  obtain ⟨_, _, _, _, _, _, _, rfl, _⟩ := h; rfl
theorem pure_answer_with_car (T : Txt K mg A) (vs : List V) (H : Hp) (Q : VK) (E : XK) (h : sp_answer_with_car K A vs H Q E) : t_answer_with_car K A E { nx := fun _ H' => Q .non H', rt := Q } (start n_answer_with_car vs) H := by
  obtain ⟨d, dd, p, yo, s, m, k, rfl, hp, ok, hd, hm, k1, k2⟩ := h
  obtain ⟨v, ho⟩ := hd.obj
  have sd : ∀ (args : List V) {H1}, Ex H H1 → spDesk A args k (.ref d :: (args ++ [])) H1 Q E := fun args H1 e => ⟨d, dd, yo, s, m, by rw [List.append_nil], hd.mono e, hm, fun r h => (k1 r h).mono e, k2.mono e⟩
  cases k with
  | begin_ n w t y => exact absurd ok.1 (by show ¬ (2 : Int) ≤ 1; decide)
  | cross i t => exact q_yes (ev_var rfl) rfl fun H1 e1 => r_do (ev_var rfl) (e1 _ _ ho) deskN_cross (ea_cons (ev_n0 (ev_var rfl) (e1 _ _ hp)) (ea_cons (ev_n1 (ev_var rfl) (e1 _ _ hp)) ea_nil)) fun H2 e2 => ⟨i, t, sd [.int i, .int t] (e1.trans e2)⟩
  | pit i t =>
    refine q_no (ev_var rfl) (by show (3 : Int) ≠ 2; decide) fun H0 e0 => ?_
    exact q_yes (ev_var rfl) rfl fun H1 e1 => r_do (ev_var rfl) ((e0.trans e1) _ _ ho) deskN_pit (ea_cons (ev_n0 (ev_var rfl) ((e0.trans e1) _ _ hp)) (ea_cons (ev_n1 (ev_var rfl) ((e0.trans e1) _ _ hp)) ea_nil)) fun H2 e2 => ⟨i, t, sd [.int i, .int t] ((e0.trans e1).trans e2)⟩
  | through i =>
    refine q_no (ev_var rfl) (by show (4 : Int) ≠ 2; decide) fun Ha ea => q_no (ev_var rfl) (by show (4 : Int) ≠ 3; decide) fun H0 eb => ?_
    have e0 := ea.trans eb
    exact q_yes (ev_var rfl) rfl fun H1 e1 => r_do (ev_var rfl) ((e0.trans e1) _ _ ho) deskN_through (ea_cons (ev_n0 (ev_var rfl) ((e0.trans e1) _ _ hp)) ea_nil) fun H2 e2 => ⟨i, sd [.int i] ((e0.trans e1).trans e2)⟩
  | seconds i t =>
    refine q_no (ev_var rfl) (by show (5 : Int) ≠ 2; decide) fun Ha ea => q_no (ev_var rfl) (by show (5 : Int) ≠ 3; decide) fun Hb eb => q_no (ev_var rfl) (by show (5 : Int) ≠ 4; decide) fun H0 ec => ?_
    have e0 := (ea.trans eb).trans ec
    exact q_yes (ev_var rfl) rfl fun H1 e1 => r_do (ev_var rfl) ((e0.trans e1) _ _ ho) deskN_seconds (ea_cons (ev_n0 (ev_var rfl) ((e0.trans e1) _ _ hp)) (ea_cons (ev_n1 (ev_var rfl) ((e0.trans e1) _ _ hp)) ea_nil)) fun H2 e2 => ⟨i, t, sd [.int i, .int t] ((e0.trans e1).trans e2)⟩
  | send i =>
    refine q_no (ev_var rfl) (by show (6 : Int) ≠ 2; decide) fun Ha ea => q_no (ev_var rfl) (by show (6 : Int) ≠ 3; decide) fun Hb eb => q_no (ev_var rfl) (by show (6 : Int) ≠ 4; decide) fun Hc ec => q_no (ev_var rfl) (by show (6 : Int) ≠ 5; decide) fun H0 ed => ?_
    have e0 := ((ea.trans eb).trans ec).trans ed
    exact q_yes (ev_var rfl) rfl fun H1 e1 => r_do (ev_var rfl) ((e0.trans e1) _ _ ho) deskN_send (ea_cons (ev_n0 (ev_var rfl) ((e0.trans e1) _ _ hp)) ea_nil) fun H2 e2 => ⟨i, sd [.int i] ((e0.trans e1).trans e2)⟩
  | leave i =>
    refine q_no (ev_var rfl) (by show (7 : Int) ≠ 2; decide) fun Ha ea => q_no (ev_var rfl) (by show (7 : Int) ≠ 3; decide) fun Hb eb => q_no (ev_var rfl) (by show (7 : Int) ≠ 4; decide) fun Hc ec => q_no (ev_var rfl) (by show (7 : Int) ≠ 5; decide) fun Hd ed => q_no (ev_var rfl) (by show (7 : Int) ≠ 6; decide) fun H0 ee => ?_
    have e0 := (((ea.trans eb).trans ec).trans ed).trans ee
    exact q_yes (ev_var rfl) rfl fun H1 e1 => r_do (ev_var rfl) ((e0.trans e1) _ _ ho) deskN_leaving (ea_cons (ev_n0 (ev_var rfl) ((e0.trans e1) _ _ hp)) ea_nil) fun H2 e2 => ⟨i, sd [.int i] ((e0.trans e1).trans e2)⟩
  | throw_ i =>
    refine q_no (ev_var rfl) (by show (8 : Int) ≠ 2; decide) fun Ha ea => q_no (ev_var rfl) (by show (8 : Int) ≠ 3; decide) fun Hb eb => q_no (ev_var rfl) (by show (8 : Int) ≠ 4; decide) fun Hc ec => q_no (ev_var rfl) (by show (8 : Int) ≠ 5; decide) fun Hd ed => q_no (ev_var rfl) (by show (8 : Int) ≠ 6; decide) fun He ee => q_no (ev_var rfl) (by show (8 : Int) ≠ 7; decide) fun H1 ef => ?_
    have e1 := ((((ea.trans eb).trans ec).trans ed).trans ee).trans ef
    exact r_do (ev_var rfl) (e1 _ _ ho) deskN_throwing (ea_cons (ev_n0 (ev_var rfl) (e1 _ _ hp)) ea_nil) fun H2 e2 => ⟨i, sd [.int i] (e1.trans e2)⟩
  | halt_ => exact absurd ok.2 (by show ¬ (9 : Int) < 9; decide)
  | now => exact absurd ok.2 (by show ¬ (10 : Int) < 9; decide)
  | card i => exact absurd ok.2 (by show ¬ (11 : Int) < 9; decide)
  | result => exact absurd ok.2 (by show ¬ (12 : Int) < 9; decide)
  | teams => exact absurd ok.2 (by show ¬ (13 : Int) < 9; decide)
theorem len_answer_without_lists {vs : List V} {H : Hp} {Q : VK} {E : XK} (h : sp_answer_without_lists K A vs H Q E) : vs.length = 3 := by
  obtain ⟨_, _, _, _, _, _, _, rfl, _⟩ := h; rfl
theorem pure_answer_without_lists (T : Txt K mg A) (vs : List V) (H : Hp) (Q : VK) (E : XK) (h : sp_answer_without_lists K A vs H Q E) : t_answer_without_lists K A E { nx := fun _ H' => Q .non H', rt := Q } (start n_answer_without_lists vs) H := by
  obtain ⟨d, dd, p, yo, s, m, k, rfl, hp, ok, hd, hm, k1, k2⟩ := h
  obtain ⟨v, ho⟩ := hd.obj
  have sd : ∀ (args : List V) {H1}, Ex H H1 → spDesk A args k (.ref d :: (args ++ [])) H1 Q E := fun args H1 e => ⟨d, dd, yo, s, m, by rw [List.append_nil], hd.mono e, hm, fun r h => (k1 r h).mono e, k2.mono e⟩
  refine q_when (b := decide ((numsOf k).1 < 9)) (et_test (ev_op (ev_var rfl) ev_c rv_lt)) (fun hb H1 e1 => ?_) (fun hb H0 e0 => ?_)
  · exact r_call (ea_cons (ev_var rfl) (ea_cons (ev_var rfl) (ea_cons (ev_var rfl) ea_nil))) fun H2 e2 => ⟨d, dd, p, yo, s, m, k, rfl, (e1.trans e2) _ _ hp, ⟨ok, of_decide_eq_true hb⟩, hd.mono (e1.trans e2), hm, fun r h => (k1 r h).mono (e1.trans e2), k2.mono (e1.trans e2)⟩
  have nb := of_decide_eq_false hb
  cases k with
  | begin_ n w t y => exact absurd ok (by show ¬ (2 : Int) ≤ 1; decide)
  | cross i t => exact absurd (show (2 : Int) < 9 by decide) nb
  | pit i t => exact absurd (show (3 : Int) < 9 by decide) nb
  | through i => exact absurd (show (4 : Int) < 9 by decide) nb
  | seconds i t => exact absurd (show (5 : Int) < 9 by decide) nb
  | send i => exact absurd (show (6 : Int) < 9 by decide) nb
  | leave i => exact absurd (show (7 : Int) < 9 by decide) nb
  | throw_ i => exact absurd (show (8 : Int) < 9 by decide) nb
  | halt_ => exact q_yes (ev_var rfl) rfl fun H1 e1 => r_do (ev_var rfl) ((e0.trans e1) _ _ ho) deskN_stop ea_nil fun H2 e2 => sd [] ((e0.trans e1).trans e2)
  | now =>
    refine q_no (ev_var rfl) (by show (10 : Int) ≠ 9; decide) fun Ha ea => ?_
    refine q_yes (ev_var rfl) rfl fun H1 e1 => r_do (ev_var rfl) (((e0.trans ea).trans e1) _ _ ho) deskN_now ea_nil fun H2 e2 => ?_
    have e3 := ((e0.trans ea).trans e1).trans e2
    exact ⟨d, dd, yo, s, m, rfl, hd.mono e3, hm, fun q H3 hq e4 h4 => ret_same (hd.mono e3) (k2.mono e3) (exr _) hq e4 h4⟩
  | card i =>
    refine q_no (ev_var rfl) (by show (11 : Int) ≠ 9; decide) fun Ha ea => q_no (ev_var rfl) (by show (11 : Int) ≠ 10; decide) fun Hb eb => ?_
    have e0 := (e0.trans ea).trans eb
    exact q_yes (ev_var rfl) rfl fun H1 e1 => r_do (ev_var rfl) ((e0.trans e1) _ _ ho) deskN_card (ea_cons (ev_n0 (ev_var rfl) ((e0.trans e1) _ _ hp)) ea_nil) fun H2 e2 => ⟨i, sd [.int i] ((e0.trans e1).trans e2)⟩
  | result =>
    refine q_no (ev_var rfl) (by show (12 : Int) ≠ 9; decide) fun Ha ea => q_no (ev_var rfl) (by show (12 : Int) ≠ 10; decide) fun Hb eb => q_no (ev_var rfl) (by show (12 : Int) ≠ 11; decide) fun Hc ec => ?_
    have e0 := ((e0.trans ea).trans eb).trans ec
    exact q_yes (ev_var rfl) rfl fun H1 e1 => r_do (ev_var rfl) ((e0.trans e1) _ _ ho) deskN_result ea_nil fun H2 e2 => sd [] ((e0.trans e1).trans e2)
  | teams =>
    refine q_no (ev_var rfl) (by show (13 : Int) ≠ 9; decide) fun Ha ea => q_no (ev_var rfl) (by show (13 : Int) ≠ 10; decide) fun Hb eb => q_no (ev_var rfl) (by show (13 : Int) ≠ 11; decide) fun Hc ec => q_no (ev_var rfl) (by show (13 : Int) ≠ 12; decide) fun Hd ed => ?_
    have e0 := (((e0.trans ea).trans eb).trans ec).trans ed
    exact r_do (ev_var rfl) (e0 _ _ ho) deskN_teams ea_nil fun H2 e2 => sd [] (e0.trans e2)
/-! ### answer -/
theorem r_doS {C dx a : Addr} {fs : List (Str × V)} {nm : Str} {sp : Sp} {E : L2.St → XK} (h : Ev ta σ H (.ref a)) (ho : H a = some (.ins C dx fs)) (hl : fs.lookup nm = none) (ht : EvA t σ H vs) (k : ∀ H1, Ex H H1 → sp (.ref a :: vs) H1 D.rt (E σ)) :
    tRet (tMethS C nm sp E ta t) D σ H := h H (exr H) _ fun H1 e1 => ⟨a, dx, fs, rfl, e1 _ _ ho, hl, ht H1 e1 _ fun H2 e2 => k H2 (e1.trans e2)⟩
theorem r_callS {sp : Sp} {E : L2.St → XK} (ht : EvA t σ H vs) (k : ∀ H1, Ex H H1 → sp vs H1 D.rt (E σ)) : tRet (tCallS sp E t) D σ H := ht H (exr H) _ fun H1 e1 => k H1 e1
theorem len_answer {vs : List V} {H : Hp} {Q : VK} {E : XK} (h : sp_answer K A vs H Q E) : vs.length = 4 := by
  obtain ⟨_, _, _, _, _, _, _, _, rfl, _⟩ := h; rfl
/-- a refusal is caught: its number is answered -/
theorem caught (T : Txt K mg A) {r : Int} {Wout : WX} {P : L2.St → Hp → Prop} {c q : Addr} {n : Int} (hd : DeskAt A H d dd yo s m) (k : DeskRet A H d dd yo s m (s, Kg68.num r) Q) (hσ : σ = [some (.ref d), some (.int n), some (.ref c), some (.ref q), none]) :
    Refd A r H (WE (wAs K (.ref A.cRefused) 4 (t_answer_suite K A) Wout { nx := P, rt := Q }) σ) := by
  subst hσ
  intro dd2 H' e h
  exact ⟨true, T.te, fun _ a ha => ⟨_, rfl, rfl, rfl, dd2, _, _, rfl, h, lk_here, by show 1 ≤ sizeLine; decide, fun p hp => ret_same hd k e hp (Ex.new hp) upd_same⟩, fun z => by cases z⟩
theorem pure_answer (T : Txt K mg A) (vs : List V) (H : Hp) (Q : VK) (E : XK) (h : sp_answer K A vs H Q E) : t_answer K A { nx := fun _ H' => Q .non H', rt := Q } (start n_answer vs) H := by
  obtain ⟨d, dd, p, q, yo, s, m, k, rfl, hp, hl, hd, hm, k2⟩ := h
  obtain ⟨v, ho⟩ := hd.obj
  show t_answer_try K A (wAs K (.ref A.cRefused) 4 (t_answer_suite K A) (fun _ _ _ _ => False) { nx := fun _ H' => Q .non H', rt := Q }) { nx := fun _ H' => Q .non H', rt := Q } (start n_answer [.ref d, .int (numsOf k).1, .ref p, .ref q]) H
  have cg : ∀ {H1}, Ex H H1 → ∀ r, Kg68.spec s k = (s, Kg68.num r) → Refd A r H1 (WE (wAs K (.ref A.cRefused) 4 (t_answer_suite K A) (fun _ _ _ _ => False) { nx := fun _ H' => Q .non H', rt := Q }) (start n_answer [.ref d, .int (numsOf k).1, .ref p, .ref q])) := fun e r h =>
    caught T (hd.mono e) ((h ▸ k2).mono e) rfl
  by_cases hk : (numsOf k).1 = 1
  · obtain ⟨n, w, t, u, rfl⟩ : ∃ n w t u, k = .begin_ n w t u := by
      cases k <;> first | exact ⟨_, _, _, _, rfl⟩ | (exfalso; simp [numsOf] at hk; done)
    obtain ⟨tl, kl, hq, h3, h4, l3, l4⟩ := hl
    refine q_yes (ev_var rfl) rfl fun H1 e1 => ?_
    refine r_doS (ev_var rfl) (e1 _ _ ho) deskN_begin (ea_cons (ev_n0 (ev_var rfl) (e1 _ _ hp)) (ea_cons (ev_n1 (ev_var rfl) (e1 _ _ hp)) (ea_cons (ev_op (ev_var rfl) ev_c (rv_ixL (sq_of (e1 _ _ hq)) (atI_nat (j := 0) rfl))) (ea_cons (ev_op (ev_var rfl) ev_c (rv_ixL (sq_of (e1 _ _ hq)) (atI_nat (j := 1) rfl))) ea_nil)))) fun H2 e2 => ?_
    have e3 := e1.trans e2
    exact ⟨n, w, tl, kl, t, u, e3 _ _ h3, e3 _ _ h4, l3, l4, d, dd, yo, s, m, rfl, hd.mono e3, hm, cg e3, k2.mono e3⟩
  · refine q_no (ev_var rfl) hk fun H1 e1 => ?_
    have h2 : 2 ≤ (numsOf k).1 := by
      cases k <;> first | exact absurd rfl hk | (simp [numsOf]; done)
    refine r_callS (ea_cons (ev_var rfl) (ea_cons (ev_var rfl) (ea_cons (ev_var rfl) ea_nil))) fun H2 e2 => ?_
    have e3 := e1.trans e2
    exact ⟨d, dd, p, yo, s, m, k, rfl, e3 _ _ hp, h2, hd.mono e3, hm, cg e3, k2.mono e3⟩
end
end L2

set_option Elab.async false
set_option linter.all false
set_option maxRecDepth 100000
set_option maxHeartbeats 4000000
namespace L2
open PySem PySem.Spec PyProof.Rows
open Evl
section
variable {K : PySem.W.Frag} {mg : Str → Option Value} {A : Ad} {H H' H1 H2 : Hp} {d dd p : Addr} {yo yo' : Option RaceL} {y : RaceL} {s s2 : KSt} {m i j : Nat} {E : XK} {σ : L2.St} {ta tb te tf : TE} {t : TA} {D : Ends} {tu tz : TS} {Q : VK} {v : V} {vs xs : List V}
theorem DeskAt.frame (h : DeskAt A H d dd yo s m) (he : ∀ b o, OwnD d yo s.cars.length b → H b = some o → H' b = some o) : DeskAt A H' d dd yo s m := by
  cases yo with
  | none => exact ⟨he _ _ (.inl rfl) h.1, h.2⟩
  | some y => exact ⟨he _ _ (.inl rfl) h.1, h.2.1.frame fun b o ob hb => he b o (.inr ⟨y, rfl, ob⟩) hb, h.2.2⟩
theorem q_asgMk {targs : TA} {C : Addr} {sp : Sp} (ha : EvA targs σ H vs) (k : ∀ H1, Ex H H1 → ∀ x dx, H1 x = none → H1 dx = none → dx ≠ x → sp (.ref x :: (vs ++ [])) (upd (upd H1 dx (.own x)) x (.ins C dx [])) (fun v H2 => v = .non ∧ tz D (σ.set i (some (.ref x))) H2) E) :
    tSeq (tAsg (tMake C sp [] E targs) (gName i)) tz D σ H := ha H (exr H) _ fun H1 e1 x dx hx hdx ne => k H1 e1 x dx hx hdx ne
theorem q_listAt {l : List Int} {a n : Nat} (h : Ev ta σ H (.ref p)) (hb : Ev tb σ H (.int (a : Int))) (hp : SqL K H p (zints l)) (hn : l[a]? = some (n : Int)) (hl : a + 1 + n ≤ l.length) (k : ∀ H1 q, Ex H H1 → H1 q = some (.lst (zints ((l.drop (a + 1)).take n))) → tz D ((σ.set i (some (.ref q))).set j (some (.int ((a + 1 + n : Nat) : Int)))) H1) :
    tSeq (tAsg (tCall (sp_list_at K A) [] E (tCons ta (tCons tb tNil))) (gTup K 2 (gCons (gName i) (gCons (gName j) gNil)))) tz D σ H :=
  h H (exr H) _ fun H1 e1 => hb H1 e1 _ fun H2 e2 => ⟨p, l, a, n, rfl, ex_l (e1.trans e2) hp, hn, hl, fun H3 q u e3 _ _ hq hu => ⟨u, _, rfl, st_of hu, rfl, _, _, rfl, _, _, rfl, rfl, k H3 q ((e1.trans e2).trans e3) hq⟩⟩
theorem q_appZ {l : Addr} (hl : H l = some (.lst xs)) (ha : Ev ta σ H (.ref l)) (h : Ev te σ H v) (hz : xs.length < sizeLine) (k : ∀ H1, Ex H H1 → tz D σ (upd H1 l (.lst (xs ++ [v])))) :
    tSeq (tDrop (tBM K "list" rAppend ta (tCons te tNil))) tz D σ H := ha H (Ex.refl H) _ fun H1 e1 =>
  ⟨Or.inl ⟨rfl, xs, sq_of (e1 l _ hl)⟩, h H1 e1 _ fun H2 e2 => ⟨l, xs, v, rfl, rfl, e2 l _ (e1 l _ hl), hz, k H2 (e1.trans e2)⟩⟩
theorem ListsAt.mono {k : Kg68.Call} (h : ListsAt H p k) (e : Ex H H') : ListsAt H' p k := by
  cases k with
  | begin_ n w t u =>
    obtain ⟨tl, kl, h1, h2, h3, h4⟩ := h
    exact ⟨tl, kl, e _ _ h1, e _ _ h2, e _ _ h3, h4⟩
  | _ => exact trivial
/-- a call is answered, its answer put behind the others -/
def t_more (K : PySem.W.Frag) (A : Ad) : TS := (tSeq (tAsg (tCall (sp_answer K A) [] E0 (tCons (tVar 1) (tCons (tVar 4) (tCons (tVar 6) (tCons (tVar 7) tNil))))) (gName 10))
    (tSeq (tDrop (tBM K "list" rAppend (tVar 2) (tCons (tCB (Evl.rLenS K) (tCons (tVar 10) tNil)) tNil)))
    (tSeq (tDrop (tBM K "list" rExtend (tVar 2) (tCons (tVar 10) tNil)))
    (tAsg (tVar 5) (gName 3)))))
/-- what holds at a turn -/
def Wans (A : Ad) (ns : List Int) (H : Hp) (a d dd f : Addr) (j : Nat) (σ : L2.St) (H' : Hp) : Prop := ∃ (at_ m : Nat) (s : KSt) (raw : List (List (List Int))) (found : List Int) (yo : Option RaceL) (v4 v5 v6 v7 v8 v9 v10 : Option V),
  σ = [some (.ref a), some (.ref d), some (.ref f), some (.int (at_ : Int)), v4, v5, v6, v7, v8, v9, v10] ∧ raw.length = j ∧ Ahead ns at_ s m raw found ∧ Ex H H' ∧ DeskAt A H' d dd yo s m ∧ (∀ b o, H b = some o → ¬ OwnD d yo s.cars.length b) ∧
  H f = none ∧ H' f = some (.lst (zints found)) ∧ ¬ OwnD d yo s.cars.length f
theorem more_ok {ns : List Int} {a f : Addr} {e2 q : Nat} {raw' : List (List (List Int))} {found : List Int} {k : Kg68.Call} {P6 P7 : Addr} {v8 v9 v10 : Option V} {rt : VK} {bk ct : L2.St → Hp → Prop} {w3 : V} (hb : (PyKg68.answers ns).length ≤ 10000000) (hm : m ≤ 800)
    (hj : j = raw'.length + 1) (hnum : (numsOf k).1 = (q : Int)) (ah : Ahead ns e2 (Kg68.spec s k).1 (m + 1) raw' (found ++ (((ansL (Kg68.spec s k)).length : Int) :: ansL (Kg68.spec s k))))
    (ex : Ex H H') (hd : DeskAt A H' d dd yo s m) (no : ∀ b o, H b = some o → ¬ OwnD d yo s.cars.length b) (hf0 : H f = none) (hf : H' f = some (.lst (zints found))) (nf : ¬ OwnD d yo s.cars.length f)
    (h6 : H' P6 = some (.lst (zints (numsOf k).2))) (h7 : ListsAt H' P7 k) :
    t_more K A { nx := fun σ2 H2 => ∃ m', m' < j ∧ Wans A ns H a d dd f m' σ2 H2, rt := rt, bk := bk, ct := ct }
      [some (.ref a), some (.ref d), some (.ref f), some w3, some (.int (q : Int)), some (.int (e2 : Int)), some (.ref P6), some (.ref P7), v8, v9, v10] H' := by
  have hlen : found.length + 1 + (ansL (Kg68.spec s k)).length ≤ 10000000 := by
    have h1 := hb
    rw [ah.ans, List.length_append, List.length_append, List.length_cons] at h1
    omega
  refine ⟨_, rfl, _, rfl, _, rfl, _, rfl, d, dd, P6, P7, yo, s, m, k, by rw [hnum]; rfl, h6, h7, hd, hm, fun H2 yo2 pA hd2 kd2 fr2 own2 hA => ?_⟩
  have kf := kd2 f _ hf nf
  have nfA : f ≠ pA := fr2 f _ hf nf
  refine q_appZ (xs := zints found) (v := .int ((ansL (Kg68.spec s k)).length : Int)) kf.1 (ev_var rfl) (ev_is (ev_len (ev_var rfl) (sq_of hA)) (by rw [zints_len])) (by rw [zints_len]; show _ < 2 ^ 24; omega) fun H3 e3 => ?_
  refine q_extV (l := f) (a := pA) (xs := zints found ++ [.int ((ansL (Kg68.spec s k)).length : Int)]) (ys := zints (ansL (Kg68.spec s k))) upd_same (ev_var rfl) (ev_var rfl) (by rw [upd_ne (Ne.symm nfA)]; exact e3 _ _ hA) (by rw [List.length_append, zints_len, zints_len]; show _ + 1 + _ ≤ 2 ^ 24; omega) fun H4 e4 => ?_
  refine s_asg (v := .int (e2 : Int)) (ev_var rfl) fun H5 e5 => ?_
  have go : ∀ b o, H2 b = some o → b ≠ f → H5 b = some o := fun b o hb nb => by
    refine e5 _ _ ?_
    rw [upd_ne nb]
    refine e4 _ _ ?_
    rw [upd_ne nb]
    exact e3 _ _ hb
  refine ⟨raw'.length, by omega, e2, m + 1, (Kg68.spec s k).1, raw', _, yo2, _, _, _, _, _, _, _, rfl, rfl, ah, fun b o hb => ?_, hd2.frame fun b o ob hb => go b o hb fun z => kf.2 (by rw [← z]; exact ob), fun b o hb => (kd2 b o (ex b o hb) (no b o hb)).2, hf0, ?_, kf.2⟩
  · exact go b o (kd2 b o (ex b o hb) (no b o hb)).1 (ne_of_none hb hf0)
  · refine e5 _ _ ?_
    rw [upd_same]
    unfold zints
    simp
theorem len_answers {vs : List V} {H : Hp} {Q : VK} {E : XK} (h : sp_answers K A vs H Q E) : vs.length = 1 := by
  obtain ⟨_, _, rfl, _⟩ := h; rfl
theorem pure_answers (T : Txt K mg A) (vs : List V) (H : Hp) (Q : VK) (E : XK) (h : sp_answers K A vs H Q E) : t_answers K A { nx := fun _ H' => Q .non H', rt := Q } (start n_answers vs) H := by
  obtain ⟨a, ns, rfl, hx0, hask, _, k⟩ := h
  have hx : SqL K H a (zints ns) := hx0
  obtain ⟨raw0, ah0, hb⟩ := ahead_start hask
  refine q_asgMk ea_nil fun H1 e1 d dd hdn hddn ne => ⟨d, dd, rfl, upd_same, fun H2 h1 h2 => ⟨rfl, ?_⟩⟩
  have hdH : H d = none := fresh_back e1 hdn
  have ex2 : Ex H H2 := fun b o hb => by
    have hb1 := e1 _ _ hb
    have n1 : b ≠ d := ne_of_none hb1 hdn
    refine h2 b o ?_ n1
    rw [upd_ne n1, upd_ne (ne_of_none hb1 hddn)]
    exact hb1
  refine q_asgL (xs := []) (el_lst ea_nil (by show 0 ≤ 100000; decide)) fun f H3 hfn e3 hf3 => ?_
  refine q_asg (v := .int ((0 : Nat) : Int)) ev_c fun H4 e4 => ?_
  have fd : f ≠ d := fun z => by rw [z, h1] at hfn; cases hfn
  have hf0 : H f = none := fresh_back ex2 hfn
  refine q_while (Wans A ns H a d dd f) raw0.length ⟨0, 0, Kg68.init, raw0, [], none, _, _, _, _, _, _, _, rfl, rfl, ah0, (ex2.trans e3).trans e4, ⟨e4 _ _ (e3 _ _ h1), rfl⟩, fun b o hb z => ?_, hf0, e4 _ _ hf3, fun z => ?_⟩ fun j σ' H' ⟨at_, m, s, raw, found, yo, v4, v5, v6, v7, v8, v9, v10, es, hj, ah, ex, hd, no, hf0, hf, nf⟩ => ?_
  · rcases z with z | ⟨y, z, _⟩
    · rw [z, hdH] at hb; cases hb
    · cases z
  · rcases z with z | ⟨y, z, _⟩
    · exact fd z
    · cases z
  · subst es
    refine ⟨decide (at_ < ns.length), et_is (et_test (ev_op (ev_var rfl) (ev_len (ev_var rfl) (ex_l ex hx)) rv_lt)) ?_, fun hc G1 g1 => ?_, fun hc G1 g1 => ?_⟩
    · rw [zints_len, Bool.eq_iff_iff]; simp
    · have hlt := of_decide_eq_true hc
      obtain ⟨k, n, q, e2, raw', hl', hq, hnum, hN, hle, hn2, ah', hcase⟩ := ahead_step ah hlt
      have hm : m ≤ 800 := by have := ah.few; omega
      refine ⟨fun σ2 H2 => ∃ m', m' < j ∧ Wans A ns H a d dd f m' σ2 H2, fun σ2 H2 h => h, ?_⟩
      refine q_asg (v := .int (q : Int)) (ev_op (ev_var rfl) (ev_var rfl) (rv_ixL (ex_l (ex.trans g1) hx) (atI_nat (zints_at hq)))) fun G2 g2 => ?_
      refine q_asg (v := .int ((at_ + 1 + n : Nat) : Int)) (ev_is (ev_op (ev_op (ev_var rfl) ev_c rv_plus) (ev_op ev_c (ev_var rfl) (rv_ixT (T.p_NUMBERS G2) (atI_nat (zints_at (l := NUMS) hN)))) rv_plus) (congrArg V.int (by omega))) fun G3 g3 => ?_
      have gx3 := ((ex.trans g1).trans g2).trans g3
      have z6 := el_sl (K := K) (σ := [some (.ref a), some (.ref d), some (.ref f), some (.int (at_ : Int)), some (.int (q : Int)), some (.int ((at_ + 1 + n : Nat) : Int)), v6, v7, v8, v9, v10]) (H := G3) (te := tVar 0) (a := a) (tl := tPart (tOp rPlus (tVar 3) (tC (.int 1)))) (th := tPart (tVar 5)) (ev_var rfl) (eo_some (ev_is (ev_op (ev_var rfl) ev_c rv_plus) (congrArg V.int (show (at_ : Int) + 1 = ((at_ + 1 : Nat) : Int) by omega)))) (eo_some (ev_var rfl)) (ex_l gx3 hx)
      rw [cutZ, ← hn2] at z6
      refine q_asgL z6 fun P6 G4 _ g4 h6 => ?_
      refine q_asgL (xs := []) (el_lst ea_nil (by show 0 ≤ 100000; decide)) fun P7 G5 _ g5 h7 => ?_
      have g15 := (((g1.trans g2).trans g3).trans g4).trans g5
      rcases hcase with ⟨n1, rfl⟩ | ⟨rfl, n0, w, ta, tb, rfl, la, lb, a1, a2, a3, a4, a5, a6, rfl⟩
      · refine q_no (ev_var rfl) (by omega) fun G6 g6 => ?_
        have g16 := g15.trans g6
        refine more_ok hb hm (by omega) hnum ah' (ex.trans g16) (hd.mono g16) no hf0 (g16 _ _ hf) nf ((g5.trans g6) _ _ h6) ?_
        cases k with
        | begin_ n w t u => exact absurd hnum (by show ¬ (1 : Int) = _; omega)
        | _ => exact trivial
      · refine q_yes (ev_var rfl) rfl fun G6 g6 => ?_
        have gx6 := (gx3.trans (g4.trans g5)).trans g6
        refine q_listAt (l := ns) (ev_var rfl) (ev_var rfl) (ex_l gx6 hx) a1 a2 fun G7 q8 g7 hq8 => ?_
        rw [a3] at hq8
        refine q_listAt (l := ns) (a := at_ + 1 + n + 1 + ta.length) (ev_var rfl) (ev_var rfl) (ex_l (gx6.trans g7) hx) a4 a5 fun G8 q9 g8 hq9 => ?_
        rw [a6] at hq9
        refine s_asgL (xs := [.ref q8, .ref q9]) (el_lst (ea_cons (ev_var rfl) (ea_cons (ev_var rfl) ea_nil)) (by show 2 ≤ 100000; decide)) fun P7' G9 _ g9 h7' => ?_
        have g19 := (((g15.trans g6).trans g7).trans g8).trans g9
        exact more_ok hb hm (by omega) hnum ah' (ex.trans g19) (hd.mono g19) no hf0 (g19 _ _ hf) nf (((((g5.trans g6).trans g7).trans g8).trans g9) _ _ h6) ⟨q8, q9, h7', (g8.trans g9) _ _ hq8, g9 _ _ hq9, by omega, by omega⟩
    · refine s_ret (ev_var rfl) fun G2 g2 => k G2 f ?_
      rw [ahead_end ah (of_decide_eq_false hc)]
      exact g2 _ _ (g1 _ _ hf)
end
end L2

set_option Elab.async false
set_option linter.all false
set_option maxRecDepth 100000
set_option maxHeartbeats 4000000
namespace L2
open PySem PySem.Spec PyProof.Rows
section
variable {P : Program} {w : World} {K : PySem.W.Frag} {mg : Str → Option Value} {base : Heap} {A : Ad}
theorem ok_x_init (T : Txt K mg A) : FnOk P w K mg base CX0 1 A.f_x_init A.fd_x_init ["self", "refusal"] (sp_x_init K A) := by
  refine T.F_x_init.ok sc_x_init (fun vs H Q E h => len_x_init h) (fun cdv Ar outer s H vs Q E hr h => ⟨t_x_init K A, ?_, pure_x_init T vs H Q E h⟩)
  exact (pss_cons (ps_expr (pe_veinit rfl T.n_ValueError T.vV (pa_cons (pv 0) (pa_cons pe_str pa_nil))))
      (pss_one (ps_ost (pv 0) (pv 1))))
theorem ok_c_init (T : Txt K mg A) : FnOk P w K mg base CX0 1 A.f_c_init A.fd_c_init ["self", "number", "team", "kind"] (sp_c_init K A) := by
  refine T.F_c_init.ok sc_c_init (fun vs H Q E h => len_c_init h) (fun cdv Ar outer s H vs Q E hr h => ⟨t_c_init K A, ?_, pure_c_init T vs H Q E h⟩)
  exact (pss_cons (ps_fld (pv 0) (pv 1) rfl)
      (pss_cons (ps_fld (pv 0) (pv 2) rfl)
      (pss_cons (ps_fld (pv 0) (pe_lst (pa_cons (pv 3) pa_nil)) rfl)
      (pss_cons (ps_fld (pv 0) (pe_lst pa_nil) rfl)
      (pss_cons (ps_fld (pv 0) (pe_lst pa_nil) rfl)
      (pss_cons (ps_fld (pv 0) pe_bl rfl)
      (pss_cons (ps_fld (pv 0) pe_int rfl)
      (pss_cons (ps_fld (pv 0) pe_bl rfl)
      (pss_one (ps_fld (pv 0) pe_bl rfl))))))))))
theorem ok_c_laps (T : Txt K mg A) : FnOk P w K mg base CX0 1 A.f_c_laps A.fd_c_laps ["self"] (sp_c_laps K A) := by
  refine T.F_c_laps.ok sc_c_laps (fun vs H Q E h => len_c_laps h) (fun cdv Ar outer s H vs Q E hr h => ⟨t_c_laps K A, ?_, pure_c_laps T vs H Q E h⟩)
  exact (pss_one (ps_ret (pe_callB call_len_seq rfl T.n_len bb_len (pa_cons (pe_fld (pv 0) rfl) pa_nil))))
theorem ok_c_last_time (T : Txt K mg A) : FnOk P w K mg base CX0 1 A.f_c_last_time A.fd_c_last_time ["self"] (sp_c_last_time K A) := by
  refine T.F_c_last_time.ok sc_c_last_time (fun vs H Q E h => len_c_last_time h) (fun cdv Ar outer s H vs Q E hr h => ⟨t_c_last_time K A, ?_, pure_c_last_time T vs H Q E h⟩)
  exact (pss_cons (ps_if (pt_cmpR (op_eqNil hr.units) (pe_fld (pv 0) rfl) (pe_lst pa_nil) (nomark _)) (pss_one (ps_ret pe_int)) pss_nil)
      (pss_one (ps_ret (pe_ix ix_list (pe_fld (pv 0) rfl) (pe_un un_neg pe_int) (fun _ _ => rfl)))))
theorem ok_c_take_tyres (T : Txt K mg A) : FnOk P w K mg base CX0 1 A.f_c_take_tyres A.fd_c_take_tyres ["self", "kind"] (sp_c_take_tyres K A) := by
  refine T.F_c_take_tyres.ok sc_c_take_tyres (fun vs H Q E h => len_c_take_tyres h) (fun cdv Ar outer s H vs Q E hr h => ⟨t_c_take_tyres K A, ?_, pure_c_take_tyres T vs H Q E h⟩)
  exact (pss_one (ps_expr (pe_bm PySem.F.plainAttrs_list PySem.F.slot_list_append PySem.F.type_list_append mt_append (pe_fld (pv 0) rfl) (pa_cons (pv 1) pa_nil))))
theorem ok_c_pits (T : Txt K mg A) : FnOk P w K mg base CX0 1 A.f_c_pits A.fd_c_pits ["self"] (sp_c_pits K A) := by
  refine T.F_c_pits.ok sc_c_pits (fun vs H Q E h => len_c_pits h) (fun cdv Ar outer s H vs Q E hr h => ⟨t_c_pits K A, ?_, pure_c_pits T vs H Q E h⟩)
  exact (pss_one (ps_ret (pe_op op_sub (pe_callB call_len_seq rfl T.n_len bb_len (pa_cons (pe_fld (pv 0) rfl) pa_nil)) pe_int)))
theorem ok_c_has_one_kind (T : Txt K mg A) : FnOk P w K mg base CX0 1 A.f_c_has_one_kind A.fd_c_has_one_kind ["self"] (sp_c_has_one_kind K A) := by
  refine T.F_c_has_one_kind.ok sc_c_has_one_kind (fun vs H Q E h => len_c_has_one_kind h) (fun cdv Ar outer s H vs Q E hr h => ⟨t_c_has_one_kind K A, ?_, pure_c_has_one_kind T vs H Q E h⟩)
  exact (pss_one (ps_ret (pe_callB (cr_all rfl) rfl T.n_all bb_all (pa_cons (pe_lc (own := [("kind", 1)]) (g := (gName 1)) (tt := tYes) (te := (tOp rEq (tVar 1) (tOp (rIxL K) (tFld K (tVar 0) "kinds") (tC (.int 0))))) rfl sc_c_has_one_kind.nd (pi_list (pe_fld (pv 0) rfl)) (blkOk_by (N := n_c_has_one_kind) (sc := defScope s_c_has_one_kind) (by decide +kernel)) (fun _ _ _ _ _ => (pg_name (i := 1) sc_c_has_one_kind.nd rfl (Or.inl rfl))) (fun _ _ _ _ _ => pts_nil) (fun _ _ _ _ _ => (pe_cmpR op_eq (pv 1) (pe_ix ix_list (pe_fld (pv 0) rfl) pe_int (fun _ _ => rfl)) (nomark _)))) pa_nil))))
theorem ok_c_go_through (T : Txt K mg A) : FnOk P w K mg base CX0 1 A.f_c_go_through A.fd_c_go_through ["self"] (sp_c_go_through K A) := by
  refine T.F_c_go_through.ok sc_c_go_through (fun vs H Q E h => len_c_go_through h) (fun cdv Ar outer s H vs Q E hr h => ⟨t_c_go_through K A, ?_, pure_c_go_through T vs H Q E h⟩)
  exact (pss_one (ps_fld (pv 0) (pe_slice sl_list (pe_fld (pv 0) rfl) (po_some pe_int) po_none) rfl))
theorem ok_c_ways (T : Txt K mg A) : FnOk P w K mg base CX0 1 A.f_c_ways A.fd_c_ways ["self"] (sp_c_ways K A) := by
  refine T.F_c_ways.ok sc_c_ways (fun vs H Q E h => len_c_ways h) (fun cdv Ar outer s H vs Q E hr h => ⟨t_c_ways K A, ?_, pure_c_ways T vs H Q E h⟩)
  exact (pss_one (ps_ret (pe_callB call_len_seq rfl T.n_len bb_len (pa_cons (pe_fld (pv 0) rfl) pa_nil))))
theorem ok_c_add_seconds (T : Txt K mg A) : FnOk P w K mg base CX0 1 A.f_c_add_seconds A.fd_c_add_seconds ["self", "seconds"] (sp_c_add_seconds K A) := by
  refine T.F_c_add_seconds.ok sc_c_add_seconds (fun vs H Q E h => len_c_add_seconds h) (fun cdv Ar outer s H vs Q E hr h => ⟨t_c_add_seconds K A, ?_, pure_c_add_seconds T vs H Q E h⟩)
  exact (pss_one (ps_fld (pv 0) (pe_op op_add (pe_fld (pv 0) rfl) (pv 1)) rfl))
theorem ok_c_leave (T : Txt K mg A) : FnOk P w K mg base CX0 1 A.f_c_leave A.fd_c_leave ["self"] (sp_c_leave K A) := by
  refine T.F_c_leave.ok sc_c_leave (fun vs H Q E h => len_c_leave h) (fun cdv Ar outer s H vs Q E hr h => ⟨t_c_leave K A, ?_, pure_c_leave T vs H Q E h⟩)
  exact (pss_one (ps_fld (pv 0) pe_bl rfl))
theorem ok_c_throw (T : Txt K mg A) : FnOk P w K mg base CX0 1 A.f_c_throw A.fd_c_throw ["self"] (sp_c_throw K A) := by
  refine T.F_c_throw.ok sc_c_throw (fun vs H Q E h => len_c_throw h) (fun cdv Ar outer s H vs Q E hr h => ⟨t_c_throw K A, ?_, pure_c_throw T vs H Q E h⟩)
  exact (pss_one (ps_fld (pv 0) pe_bl rfl))
theorem ok_many_before (T : Txt K mg A) : FnOk P w K mg base CX0 1 A.f_many_before A.fd_many_before ["times", "fall"] (sp_many_before K A) := by
  refine T.F_many_before.ok sc_many_before (fun vs H Q E h => len_many_before h) (fun cdv Ar outer s H vs Q E hr h => ⟨t_many_before K A, ?_, pure_many_before T vs H Q E h⟩)
  exact (pss_one (ps_ret (pe_callB call_len_seq rfl T.n_len bb_len (pa_cons (pe_lc (own := [("time", 2)]) (g := (gName 2)) (tt := (tTest (tOp rLt (tVar 2) (tVar 1)))) (te := (tVar 2)) rfl sc_many_before.nd (pi_list (pv 0)) (blkOk_by (N := n_many_before) (sc := defScope s_many_before) (by decide +kernel)) (fun _ _ _ _ _ => (pg_name (i := 2) sc_many_before.nd rfl (Or.inl rfl))) (fun _ _ _ _ _ => (pts_one (pt_cmpR op_lt (pv 2) (pv 1) (nomark _)))) (fun _ _ _ _ _ => (pv 2))) pa_nil))))
theorem ok_r_is_void (T : Txt K mg A) : FnOk P w K mg base CX0 1 A.f_r_is_void A.fd_r_is_void ["self"] (sp_r_is_void K A) := by
  refine T.F_r_is_void.ok sc_r_is_void (fun vs H Q E h => len_r_is_void h) (fun cdv Ar outer s H vs Q E hr h => ⟨t_r_is_void K A, ?_, pure_r_is_void T vs H Q E h⟩)
  exact (pss_one (ps_ret (pe_cmpR op_eq (pe_fld (pv 0) rfl) pe_int (nomark _))))
theorem ok_points_by_places (T : Txt K mg A) : FnOk P w K mg base CX0 1 A.f_points_by_places A.fd_points_by_places ["level", "many"] (sp_points_by_places K A) := by
  refine T.F_points_by_places.ok sc_points_by_places (fun vs H Q E h => len_points_by_places h) (fun cdv Ar outer s H vs Q E hr h => ⟨t_points_by_places K A, ?_, pure_points_by_places T vs H Q E h⟩)
  exact (pss_cons (ps_setLc (i := 2) (own := [("points", 3)]) (g := (gName 3)) (tt := tYes) (te := (tOp rTimes (tVar 0) (tVar 3))) rfl sc_points_by_places.nd rfl rfl (sw_true rfl rfl rfl (by decide +kernel)) (pi_tup (pe_slice sl_tupA (pe_glob (v := .ref A.a_POINTS) rfl T.c_POINTS rfl) po_none (po_some (pv 1)))) (blkOk_by (N := n_points_by_places) (sc := defScope s_points_by_places) (by decide +kernel)) (fun _ _ _ _ _ => (pg_name (i := 3) sc_points_by_places.nd rfl (Or.inl rfl))) (fun _ _ _ _ _ => pts_nil) (fun _ _ _ _ _ => (pe_op op_mul (pv 0) (pv 3))))
      (pss_one (ps_ret (pe_op op_cat (pv 2) (pe_op op_rep (pe_lst (pa_cons pe_int pa_nil)) (pe_op op_sub (pv 1) (pe_callB call_len_seq rfl T.n_len bb_len (pa_cons (pv 2) pa_nil))))))))
theorem ok_teams_in_order (T : Txt K mg A) : FnOk P w K mg base CX0 1 A.f_teams_in_order A.fd_teams_in_order ["race"] (sp_teams_in_order K A) := by
  refine T.F_teams_in_order.ok sc_teams_in_order (fun vs H Q E h => len_teams_in_order h) (fun cdv Ar outer s H vs Q E hr h => ⟨t_teams_in_order K A, ?_, pure_teams_in_order T vs H Q E h⟩)
  exact (pss_cons (ps_set (i := 1) sc_teams_in_order.nd rfl (Or.inl rfl) (pe_lst pa_nil))
      (pss_cons (ps_for PassesOwn.never rfl (pi_list (pe_fld (pv 0) rfl)) (pg_name (i := 2) sc_teams_in_order.nd rfl (Or.inl rfl)) (pss_one (ps_if (pt_cmpR op_notIn_seq (pe_fld (pv 2) rfl) (pv 1) (by rfl)) (pss_one (ps_expr (pe_bm PySem.F.plainAttrs_list PySem.F.slot_list_append PySem.F.type_list_append mt_append (pv 1) (pa_cons (pe_fld (pv 2) rfl) pa_nil)))) pss_nil)))
      (pss_one (ps_ret (pv 1)))))
theorem ok_all_within (T : Txt K mg A) : FnOk P w K mg base CX0 1 A.f_all_within A.fd_all_within ["numbers", "low", "high"] (sp_all_within K A) := by
  refine T.F_all_within.ok sc_all_within (fun vs H Q E h => len_all_within h) (fun cdv Ar outer s H vs Q E hr h => ⟨t_all_within K A, ?_, pure_all_within T vs H Q E h⟩)
  exact (pss_one (ps_ret (pe_callB (cr_all rfl) rfl T.n_all bb_all (pa_cons (pe_lc (own := [("number", 3)]) (g := (gName 3)) (tt := tYes) (te := (tAndV (tOp rLe (tVar 1) (tVar 3)) (tOp rLe (tVar 3) (tVar 2)))) rfl sc_all_within.nd (pi_list (pv 0)) (blkOk_by (N := n_all_within) (sc := defScope s_all_within) (by decide +kernel)) (fun _ _ _ _ _ => (pg_name (i := 3) sc_all_within.nd rfl (Or.inl rfl))) (fun _ _ _ _ _ => pts_nil) (fun _ _ _ _ _ => (pe_and (pe_cmpR op_le (pv 1) (pv 3) (nomark _)) (pe_one (pe_cmpR op_le (pv 3) (pv 2) (nomark _)))))) pa_nil))))
theorem ok_d_init (T : Txt K mg A) : FnOk P w K mg base CX0 1 A.f_d_init A.fd_d_init ["self"] (sp_d_init K A) := by
  refine T.F_d_init.ok sc_d_init (fun vs H Q E h => len_d_init h) (fun cdv Ar outer s H vs Q E hr h => ⟨t_d_init K A, ?_, pure_d_init T vs H Q E h⟩)
  exact (pss_one (ps_fld (pv 0) pe_non rfl))
theorem ok_list_at (T : Txt K mg A) : FnOk P w K mg base CX0 1 A.f_list_at A.fd_list_at ["calls", "at"] (sp_list_at K A) := by
  refine T.F_list_at.ok sc_list_at (fun vs H Q E h => len_list_at h) (fun cdv Ar outer s H vs Q E hr h => ⟨t_list_at K A, ?_, pure_list_at T vs H Q E h⟩)
  exact (pss_cons (ps_set (i := 2) sc_list_at.nd rfl (Or.inl rfl) (pe_op op_add (pe_op op_add (pv 1) pe_int) (pe_ix ix_list (pv 0) (pv 1) (fun _ _ => rfl))))
      (pss_one (ps_ret (pe_tup (pa_cons (pe_slice sl_list (pv 0) (po_some (pe_op op_add (pv 1) pe_int)) (po_some (pv 2))) (pa_cons (pv 2) pa_nil))))))
theorem ok_c_take_crossing (T : Txt K mg A) : FnOk P w K mg base CX0 2 A.f_c_take_crossing A.fd_c_take_crossing ["self", "time"] (sp_c_take_crossing K A) := by
  refine T.F_c_take_crossing.ok sc_c_take_crossing (fun vs H Q E h => len_c_take_crossing h) (fun cdv Ar outer s H vs Q E hr h => ⟨t_c_take_crossing K A, ?_, pure_c_take_crossing T vs H Q E h⟩)
  exact (pss_cons (ps_expr (pe_bm PySem.F.plainAttrs_list PySem.F.slot_list_append PySem.F.type_list_append mt_append (pe_fld (pv 0) rfl) (pa_cons (pv 1) pa_nil)))
      (pss_one (ps_if (PW.pt (pw_and (pt_cmpR (op_neD hr.units) (pe_fld (pv 0) rfl) (pe_lst pa_nil) (nomark _)) (pw_and1 (pt_cmpR op_ge (pe_op op_sub (pe_meth0 (pv 0) T.clCar T.m_c_laps (ok_c_laps T) (hr.mono (by decide)) T.b_c_laps .nil pass0) (pe_ix ix_list (pe_fld (pv 0) rfl) pe_int (fun _ _ => rfl))) (pe_glob (v := (.int 4)) rfl T.c_LATE ⟨_, rfl⟩) (nomark _))))) (pss_one (ps_fld (pv 0) pe_bl rfl)) pss_nil)))
theorem ok_c_take_sending (T : Txt K mg A) : FnOk P w K mg base CX0 2 A.f_c_take_sending A.fd_c_take_sending ["self"] (sp_c_take_sending K A) := by
  refine T.F_c_take_sending.ok sc_c_take_sending (fun vs H Q E h => len_c_take_sending h) (fun cdv Ar outer s H vs Q E hr h => ⟨t_c_take_sending K A, ?_, pure_c_take_sending T vs H Q E h⟩)
  exact (pss_one (ps_expr (pe_bm PySem.F.plainAttrs_list PySem.F.slot_list_append PySem.F.type_list_append mt_append (pe_fld (pv 0) rfl) (pa_cons (pe_meth0 (pv 0) T.clCar T.m_c_laps (ok_c_laps T) (hr.mono (by decide)) T.b_c_laps .nil pass0) pa_nil))))
theorem ok_c_penalty (T : Txt K mg A) : FnOk P w K mg base CX0 2 A.f_c_penalty A.fd_c_penalty ["self"] (sp_c_penalty K A) := by
  refine T.F_c_penalty.ok sc_c_penalty (fun vs H Q E h => len_c_penalty h) (fun cdv Ar outer s H vs Q E hr h => ⟨t_c_penalty K A, ?_, pure_c_penalty T vs H Q E h⟩)
  exact (pss_one (ps_ret (pe_op op_add (pe_fld (pv 0) rfl) (pe_op op_mul (pe_glob (v := (.int 20)) rfl T.c_SECONDS_A_WAY ⟨_, rfl⟩) (pe_meth0 (pv 0) T.clCar T.m_c_ways (ok_c_ways T) (hr.mono (by decide)) T.b_c_ways .nil pass0)))))
theorem ok_time_of_laps (T : Txt K mg A) : FnOk P w K mg base CX0 2 A.f_time_of_laps A.fd_time_of_laps ["cars", "laps"] (sp_time_of_laps K A) := by
  refine T.F_time_of_laps.ok sc_time_of_laps (fun vs H Q E h => len_time_of_laps h) (fun cdv Ar outer s H vs Q E hr h => ⟨t_time_of_laps K A, ?_, pure_time_of_laps T vs H Q E h⟩)
  exact (pss_one (ps_ret (pe_callBK (cr_minD rfl) rfl T.n_min bb_min (pa_cons (pe_lc (own := [("car", 2)]) (g := (gName 2)) (tt := (tTest (tOp rGeI (tMeth A.cCar "laps" (sp_c_laps K A) [] E0 (tVar 2) tNil) (tVar 1)))) (te := (tOp (rIxL K) (tFld K (tVar 2) "times") (tOp rMinus (tVar 1) (tC (.int 1))))) rfl sc_time_of_laps.nd (pi_list (pv 0)) (blkOk_by (N := n_time_of_laps) (sc := defScope s_time_of_laps) (by decide +kernel)) (fun _ _ _ _ _ => (pg_name (i := 2) sc_time_of_laps.nd rfl (Or.inl rfl))) (fun _ _ _ _ _ => (pts_one (pt_cmpR op_ge (pe_meth0 (pv 2) T.clCar T.m_c_laps (ok_c_laps T) (hr.mono (by decide)) T.b_c_laps .nil pass0) (pv 1) (nomark _)))) (fun _ _ _ _ _ => (pe_ix ix_list (pe_fld (pv 2) rfl) (pe_op op_sub (pv 1) pe_int) (fun _ _ => rfl)))) pa_nil) (pk_cons pe_non pk_nil))))
theorem ok_r_most_laps (T : Txt K mg A) : FnOk P w K mg base CX0 2 A.f_r_most_laps A.fd_r_most_laps ["self"] (sp_r_most_laps K A) := by
  refine T.F_r_most_laps.ok sc_r_most_laps (fun vs H Q E h => len_r_most_laps h) (fun cdv Ar outer s H vs Q E hr h => ⟨t_r_most_laps K A, ?_, pure_r_most_laps T vs H Q E h⟩)
  exact (pss_one (ps_ret (pe_callB (cr_max rfl) rfl T.n_max bb_max (pa_cons (pe_lc (own := [("car", 1)]) (g := (gName 1)) (tt := tYes) (te := (tMeth A.cCar "laps" (sp_c_laps K A) [] E0 (tVar 1) tNil)) rfl sc_r_most_laps.nd (pi_list (pe_fld (pv 0) rfl)) (blkOk_by (N := n_r_most_laps) (sc := defScope s_r_most_laps) (by decide +kernel)) (fun _ _ _ _ _ => (pg_name (i := 1) sc_r_most_laps.nd rfl (Or.inl rfl))) (fun _ _ _ _ _ => pts_nil) (fun _ _ _ _ _ => (pe_meth0 (pv 1) T.clCar T.m_c_laps (ok_c_laps T) (hr.mono (by decide)) T.b_c_laps .nil pass0))) pa_nil))))
theorem ok_r_is_out (T : Txt K mg A) : FnOk P w K mg base CX0 2 A.f_r_is_out A.fd_r_is_out ["self", "car"] (sp_r_is_out K A) := by
  refine T.F_r_is_out.ok sc_r_is_out (fun vs H Q E h => len_r_is_out h) (fun cdv Ar outer s H vs Q E hr h => ⟨t_r_is_out K A, ?_, pure_r_is_out T vs H Q E h⟩)
  exact (pss_cons (ps_if (PW.pt (pw_or (pt_val (pe_fld (pv 1) rfl)) (pw_or1 (pt_val (pe_fld (pv 1) rfl))))) (pss_one (ps_ret pe_bl)) pss_nil)
      (pss_one (ps_ret (pe_and (pe_not (pe_fld (pv 0) rfl)) (pe_and (pe_cmpR op_isN (pe_fld (pv 0) rfl) pe_non (nomark _)) (pe_one (pe_meth0 (pv 1) T.clCar T.m_c_has_one_kind (ok_c_has_one_kind T) (hr.mono (by decide)) T.b_c_has_one_kind .nil pass0)))))))
theorem ok_d_now (T : Txt K mg A) : FnOk P w K mg base CX0 2 A.f_d_now A.fd_d_now ["self"] (sp_d_now K A) := by
  refine T.F_d_now.ok sc_d_now (fun vs H Q E h => len_d_now h) (fun cdv Ar outer s H vs Q E hr h => ⟨t_d_now K A, ?_, pure_d_now T vs H Q E h⟩)
  exact (pss_cons (ps_if (pt_cmpR op_isN (pe_fld (pv 0) rfl) pe_non (nomark _)) (pss_one (ps_ret (pe_lst (pa_cons pe_int pa_nil)))) pss_nil)
      (pss_cons (ps_setLc (i := 1) (own := [("car", 2)]) (g := (gName 2)) (tt := (tAnd (tNot (tB (tFld K (tVar 2) "has_left"))) (tNot (tB (tFld K (tVar 2) "is_thrown"))))) (te := (tVar 2)) rfl sc_d_now.nd rfl rfl (sw_true rfl rfl rfl (by decide +kernel)) (pi_list (pe_fld (pe_fld (pv 0) rfl) rfl)) (blkOk_by (N := n_d_now) (sc := defScope s_d_now) (by decide +kernel)) (fun _ _ _ _ _ => (pg_name (i := 2) sc_d_now.nd rfl (Or.inl rfl))) (fun _ _ _ _ _ => (pts_one (PW.pt (pw_and (pt_not (pt_val (pe_fld (pv 2) rfl))) (pw_and1 (pt_not (pt_val (pe_fld (pv 2) rfl)))))))) (fun _ _ _ _ _ => (pv 2)))
      (pss_cons (ps_set (i := 3) sc_d_now.nd rfl (Or.inl rfl) (pe_callB cr_sorted3 rfl T.n_sorted bb_sorted (pa_cons (pe_lc (own := [("car", 2)]) (g := (gName 2)) (tt := tYes) (te := (tTup (tCons (tUn rNeg (tMeth A.cCar "laps" (sp_c_laps K A) [] E0 (tVar 2) tNil)) (tCons (tMeth A.cCar "last_time" (sp_c_last_time K A) [] E0 (tVar 2) tNil) (tCons (tFld K (tVar 2) "number") tNil))))) rfl sc_d_now.nd (pi_list (pv 1)) (blkOk_by (N := n_d_now) (sc := defScope s_d_now) (by decide +kernel)) (fun _ _ _ _ _ => (pg_name (i := 2) sc_d_now.nd rfl (Or.inl rfl))) (fun _ _ _ _ _ => pts_nil) (fun _ _ _ _ _ => (pe_tup (pa_cons (pe_un un_neg (pe_meth0 (pv 2) T.clCar T.m_c_laps (ok_c_laps T) (hr.mono (by decide)) T.b_c_laps .nil pass0)) (pa_cons (pe_meth0 (pv 2) T.clCar T.m_c_last_time (ok_c_last_time T) (hr.mono (by decide)) T.b_c_last_time .nil pass0) (pa_cons (pe_fld (pv 2) rfl) pa_nil)))))) pa_nil)))
      (pss_cons (ps_set (i := 4) sc_d_now.nd rfl (Or.inl rfl) (pe_lst (pa_cons (pe_callB call_len_seq rfl T.n_len bb_len (pa_cons (pv 3) pa_nil)) pa_nil)))
      (pss_cons (ps_for PassesOwn.never rfl (pi_list (pv 3)) (pg_tup rfl (pgs_cons (pg_name (i := 5) sc_d_now.nd rfl (Or.inl rfl)) (pgs_cons (pg_name (i := 6) sc_d_now.nd rfl (Or.inl rfl)) (pgs_cons (pg_name (i := 7) sc_d_now.nd rfl (Or.inl rfl)) pgs_nil)))) (pss_one (ps_expr (pe_bm PySem.F.plainAttrs_list PySem.F.slot_list_extend PySem.F.type_list_extend mt_extend (pv 4) (pa_cons (pe_lst (pa_cons (pv 7) (pa_cons (pe_un un_neg (pv 5)) (pa_cons (pv 6) pa_nil)))) pa_nil)))))
      (pss_one (ps_ret (pv 4))))))))
theorem ok_want (T : Txt K mg A) : FnOk P w K mg base (L2.CX P w) 3 A.f_want A.fd_want ["is_so", "refusal"] (sp_want K A) := by
  refine T.F_want.okX sc_want (fun vs H Q E h => len_want h) (fun cdv Ar outer s H vs Q E hr h => ⟨t_want K A E, ?_, pure_want T vs H Q E h⟩)
  exact (pss_one (ps_if (pt_not (pt_val (pv 0))) (pss_one (ps_raise rfl (takes_of rfl rfl rfl rfl) (pmk_oex T.oex T.iC T.tI (ok_x_init T) (hr.mono (by decide)) T.b_x_init .nil pass0 rfl T.gRefused (pa_cons (pv 1) pa_nil)))) pss_nil))
theorem ok_r_init (T : Txt K mg A) : FnOk P w K mg base CX0 3 A.f_r_init A.fd_r_init ["self", "many_laps", "is_wet", "teams", "kinds"] (sp_r_init K A) := by
  refine T.F_r_init.ok sc_r_init (fun vs H Q E h => len_r_init h) (fun cdv Ar outer s H vs Q E hr h => ⟨t_r_init K A, ?_, pure_r_init T vs H Q E h⟩)
  exact (pss_cons (ps_fld (pv 0) (pv 1) rfl)
      (pss_cons (ps_fld (pv 0) (pv 2) rfl)
      (pss_cons (ps_fld (pv 0) (pe_lc (own := [("number", 5), ("team", 6)]) (g := (gTup K 2 (gCons (gName 5) (gCons (gName 6) gNil)))) (tt := tYes) (te := (tMake A.cCar (sp_c_init K A) [] E0 (tCons (tVar 5) (tCons (tVar 6) (tCons (tOp (rIxL K) (tVar 4) (tVar 5)) tNil))))) rfl sc_r_init.nd (pi_enum rfl T.n_enumerate (pa_cons (pv 3) pa_nil)) (blkOk_by (N := n_r_init) (sc := defScope s_r_init) (by decide +kernel)) (fun _ _ _ _ _ => (pg_tup rfl (pgs_cons (pg_name (i := 5) sc_r_init.nd rfl (Or.inl rfl)) (pgs_cons (pg_name (i := 6) sc_r_init.nd rfl (Or.inl rfl)) pgs_nil)))) (fun _ _ _ _ _ => pts_nil) (fun _ _ _ _ _ => (pe_make T.mk_Car (ok_c_init T) (hr.mono (by decide)) rfl T.gCar T.b_c_init .nil pass0 (pa_cons (pv 5) (pa_cons (pv 6) (pa_cons (pe_ix ix_list (pv 4) (pv 5) (fun _ _ => rfl)) pa_nil)))))) rfl)
      (pss_cons (ps_fld (pv 0) pe_int rfl)
      (pss_one (ps_fld (pv 0) pe_non rfl))))))
theorem ok_r_fall (T : Txt K mg A) : FnOk P w K mg base CX0 3 A.f_r_fall A.fd_r_fall ["self"] (sp_r_fall K A) := by
  refine T.F_r_fall.ok sc_r_fall (fun vs H Q E h => len_r_fall h) (fun cdv Ar outer s H vs Q E hr h => ⟨t_r_fall K A, ?_, pure_r_fall T vs H Q E h⟩)
  exact (pss_cons (ps_if (pt_cmpR op_isN (pe_fld (pv 0) rfl) pe_non (nomark _)) (pss_one (ps_ret (pe_call (ok_time_of_laps T) (hr.mono (by decide)) rfl T.g_time_of_laps T.F_time_of_laps.kp T.b_time_of_laps .nil pass0 (pa_cons (pe_fld (pv 0) rfl) (pa_cons (pe_fld (pv 0) rfl) pa_nil))))) pss_nil)
      (pss_cons (ps_if (pt_cmpR op_eq (pe_fld (pv 0) rfl) pe_int (nomark _)) (pss_one (ps_ret pe_int)) pss_nil)
      (pss_one (ps_ret (pe_call (ok_time_of_laps T) (hr.mono (by decide)) rfl T.g_time_of_laps T.F_time_of_laps.kp T.b_time_of_laps .nil pass0 (pa_cons (pe_fld (pv 0) rfl) (pa_cons (pe_fld (pv 0) rfl) pa_nil)))))))
theorem ok_r_take_crossing_of (T : Txt K mg A) : FnOk P w K mg base CX0 3 A.f_r_take_crossing_of A.fd_r_take_crossing_of ["self", "car", "time"] (sp_r_take_crossing_of K A) := by
  refine T.F_r_take_crossing_of.ok sc_r_take_crossing_of (fun vs H Q E h => len_r_take_crossing_of h) (fun cdv Ar outer s H vs Q E hr h => ⟨t_r_take_crossing_of K A, ?_, pure_r_take_crossing_of T vs H Q E h⟩)
  exact (pss_cons (ps_expr (pe_meth (pv 1) T.clCar T.m_c_take_crossing (ok_c_take_crossing T) (hr.mono (by decide)) T.b_c_take_crossing .nil pass0 (pa_cons (pv 2) pa_nil)))
      (pss_one (ps_fld (pv 0) (pv 2) rfl)))
theorem ok_r_be_stopped (T : Txt K mg A) : FnOk P w K mg base CX0 3 A.f_r_be_stopped A.fd_r_be_stopped ["self"] (sp_r_be_stopped K A) := by
  refine T.F_r_be_stopped.ok sc_r_be_stopped (fun vs H Q E h => len_r_be_stopped h) (fun cdv Ar outer s H vs Q E hr h => ⟨t_r_be_stopped K A, ?_, pure_r_be_stopped T vs H Q E h⟩)
  exact (pss_one (ps_fld (pv 0) (pe_callB (call_max2 rfl) rfl T.n_max bb_max (pa_cons pe_int (pa_cons (pe_op op_sub (pe_meth0 (pv 0) T.clRace T.m_r_most_laps (ok_r_most_laps T) (hr.mono (by decide)) T.b_r_most_laps .nil pass0) pe_int) pa_nil))) rfl))
theorem ok_r_has_fallen (T : Txt K mg A) : FnOk P w K mg base CX0 4 A.f_r_has_fallen A.fd_r_has_fallen ["self"] (sp_r_has_fallen K A) := by
  refine T.F_r_has_fallen.ok sc_r_has_fallen (fun vs H Q E h => len_r_has_fallen h) (fun cdv Ar outer s H vs Q E hr h => ⟨t_r_has_fallen K A, ?_, pure_r_has_fallen T vs H Q E h⟩)
  exact (pss_one (ps_ret (pe_cmpR op_notN (pe_meth0 (pv 0) T.clRace T.m_r_fall (ok_r_fall T) (hr.mono (by decide)) T.b_r_fall .nil pass0) pe_non (nomark _))))
theorem ok_d_car_of (T : Txt K mg A) : FnOk P w K mg base (L2.CX P w) 4 A.f_d_car_of A.fd_d_car_of ["self", "number"] (sp_d_car_of K A) := by
  refine T.F_d_car_of.okX sc_d_car_of (fun vs H Q E h => len_d_car_of h) (fun cdv Ar outer s H vs Q E hr h => ⟨t_d_car_of K A E, ?_, pure_d_car_of T vs H Q E h⟩)
  exact (pss_cons (ps_expr (pe_call (ok_want T) (hr.mono (by decide)) rfl T.g_want T.F_want.kp T.b_want .nil (passM (takes_of rfl rfl rfl rfl)) (pa_cons (pe_cmpR op_notN (pe_fld (pv 0) rfl) pe_non (nomark _)) (pa_cons (pe_glob (v := (.int (-1))) rfl T.c_OUT_OF_RANGE ⟨_, rfl⟩) pa_nil))))
      (pss_cons (ps_expr (pe_call (ok_want T) (hr.mono (by decide)) rfl T.g_want T.F_want.kp T.b_want .nil (passM (takes_of rfl rfl rfl rfl)) (pa_cons (pe_and (pe_cmpR op_le pe_int (pv 1) (nomark _)) (pe_one (pe_cmpR op_lt (pv 1) (pe_callB call_len_seq rfl T.n_len bb_len (pa_cons (pe_fld (pe_fld (pv 0) rfl) rfl) pa_nil)) (nomark _)))) (pa_cons (pe_glob (v := (.int (-1))) rfl T.c_OUT_OF_RANGE ⟨_, rfl⟩) pa_nil))))
      (pss_one (ps_ret (pe_ix ix_list (pe_fld (pe_fld (pv 0) rfl) rfl) (pv 1) (fun _ _ => rfl))))))
theorem ok_r_is_home (T : Txt K mg A) : FnOk P w K mg base CX0 5 A.f_r_is_home A.fd_r_is_home ["self", "car"] (sp_r_is_home K A) := by
  refine T.F_r_is_home.ok sc_r_is_home (fun vs H Q E h => len_r_is_home h) (fun cdv Ar outer s H vs Q E hr h => ⟨t_r_is_home K A, ?_, pure_r_is_home T vs H Q E h⟩)
  exact (pss_cons (ps_if (pt_not (pt_val (pe_meth0 (pv 0) T.clRace T.m_r_has_fallen (ok_r_has_fallen T) (hr.mono (by decide)) T.b_r_has_fallen .nil pass0))) (pss_one (ps_ret pe_bl)) pss_nil)
      (pss_one (ps_ret (pe_or (pe_meth0 (pv 0) T.clRace T.m_r_is_void (ok_r_is_void T) (hr.mono (by decide)) T.b_r_is_void .nil pass0) (pe_one (pe_cmpR op_lt (pe_call (ok_many_before T) (hr.mono (by decide)) rfl T.g_many_before T.F_many_before.kp T.b_many_before .nil pass0 (pa_cons (pe_fld (pv 1) rfl) (pa_cons (pe_meth0 (pv 0) T.clRace T.m_r_fall (ok_r_fall T) (hr.mono (by decide)) T.b_r_fall .nil pass0) pa_nil))) (pe_meth0 (pv 1) T.clCar T.m_c_laps (ok_c_laps T) (hr.mono (by decide)) T.b_c_laps .nil pass0) (nomark _)))))))
theorem ok_r_counting (T : Txt K mg A) : FnOk P w K mg base CX0 5 A.f_r_counting A.fd_r_counting ["self", "car"] (sp_r_counting K A) := by
  refine T.F_r_counting.ok sc_r_counting (fun vs H Q E h => len_r_counting h) (fun cdv Ar outer s H vs Q E hr h => ⟨t_r_counting K A, ?_, pure_r_counting T vs H Q E h⟩)
  exact (pss_cons (ps_if (pt_not (pt_val (pe_meth0 (pv 0) T.clRace T.m_r_has_fallen (ok_r_has_fallen T) (hr.mono (by decide)) T.b_r_has_fallen .nil pass0))) (pss_one (ps_ret (pe_meth0 (pv 1) T.clCar T.m_c_laps (ok_c_laps T) (hr.mono (by decide)) T.b_c_laps .nil pass0))) pss_nil)
      (pss_cons (ps_if (pt_val (pe_meth0 (pv 0) T.clRace T.m_r_is_void (ok_r_is_void T) (hr.mono (by decide)) T.b_r_is_void .nil pass0)) (pss_one (ps_ret pe_int)) pss_nil)
      (pss_one (ps_ret (pe_callB (call_min2 rfl) rfl T.n_min bb_min (pa_cons (pe_meth0 (pv 1) T.clCar T.m_c_laps (ok_c_laps T) (hr.mono (by decide)) T.b_c_laps .nil pass0) (pa_cons (pe_op op_add (pe_call (ok_many_before T) (hr.mono (by decide)) rfl T.g_many_before T.F_many_before.kp T.b_many_before .nil pass0 (pa_cons (pe_fld (pv 1) rfl) (pa_cons (pe_meth0 (pv 0) T.clRace T.m_r_fall (ok_r_fall T) (hr.mono (by decide)) T.b_r_fall .nil pass0) pa_nil))) pe_int) pa_nil)))))))
theorem ok_d_want_fallen (T : Txt K mg A) : FnOk P w K mg base (L2.CX P w) 5 A.f_d_want_fallen A.fd_d_want_fallen ["self"] (sp_d_want_fallen K A) := by
  refine T.F_d_want_fallen.okX sc_d_want_fallen (fun vs H Q E h => len_d_want_fallen h) (fun cdv Ar outer s H vs Q E hr h => ⟨t_d_want_fallen K A E, ?_, pure_d_want_fallen T vs H Q E h⟩)
  exact (pss_cons (ps_expr (pe_call (ok_want T) (hr.mono (by decide)) rfl T.g_want T.F_want.kp T.b_want .nil (passM (takes_of rfl rfl rfl rfl)) (pa_cons (pe_cmpR op_notN (pe_fld (pv 0) rfl) pe_non (nomark _)) (pa_cons (pe_glob (v := (.int (-2))) rfl T.c_NO_RACE ⟨_, rfl⟩) pa_nil))))
      (pss_one (ps_expr (pe_call (ok_want T) (hr.mono (by decide)) rfl T.g_want T.F_want.kp T.b_want .nil (passM (takes_of rfl rfl rfl rfl)) (pa_cons (pe_meth0 (pe_fld (pv 0) rfl) T.clRace T.m_r_has_fallen (ok_r_has_fallen T) (hr.mono (by decide)) T.b_r_has_fallen .nil pass0) (pa_cons (pe_glob (v := (.int (-4))) rfl T.c_NOT_NOW ⟨_, rfl⟩) pa_nil))))))
theorem ok_d_begin (T : Txt K mg A) : FnOk P w K mg base (L2.CX P w) 5 A.f_d_begin A.fd_d_begin ["self", "laps", "wet", "teams", "kinds"] (sp_d_begin K A) := by
  refine T.F_d_begin.okX sc_d_begin (fun vs H Q E h => len_d_begin h) (fun cdv Ar outer s H vs Q E hr h => ⟨t_d_begin K A E, ?_, pure_d_begin T vs H Q E h⟩)
  exact (pss_cons (ps_expr (pe_call (ok_want T) (hr.mono (by decide)) rfl T.g_want T.F_want.kp T.b_want .nil (passM (takes_of rfl rfl rfl rfl)) (pa_cons (pe_and (pe_call (ok_all_within T) (hr.mono (by decide)) rfl T.g_all_within T.F_all_within.kp T.b_all_within .nil pass0 (pa_cons (pe_lst (pa_cons (pv 1) pa_nil)) (pa_cons pe_int (pa_cons (pe_glob (v := (.int 100)) rfl T.c_MOST_LAPS ⟨_, rfl⟩) pa_nil)))) (pe_one (pe_cmpR op_in_seq (pv 2) (pe_tup (pa_cons pe_int (pa_cons pe_int pa_nil))) (by rfl)))) (pa_cons (pe_glob (v := (.int (-1))) rfl T.c_OUT_OF_RANGE ⟨_, rfl⟩) pa_nil))))
      (pss_cons (ps_expr (pe_call (ok_want T) (hr.mono (by decide)) rfl T.g_want T.F_want.kp T.b_want .nil (passM (takes_of rfl rfl rfl rfl)) (pa_cons (pe_and (pe_call (ok_all_within T) (hr.mono (by decide)) rfl T.g_all_within T.F_all_within.kp T.b_all_within .nil pass0 (pa_cons (pe_lst (pa_cons (pe_callB call_len_seq rfl T.n_len bb_len (pa_cons (pv 3) pa_nil)) pa_nil)) (pa_cons pe_int (pa_cons (pe_glob (v := (.int 26)) rfl T.c_MOST_CARS ⟨_, rfl⟩) pa_nil)))) (pe_one (pe_cmpR op_eq (pe_callB call_len_seq rfl T.n_len bb_len (pa_cons (pv 4) pa_nil)) (pe_callB call_len_seq rfl T.n_len bb_len (pa_cons (pv 3) pa_nil)) (nomark _)))) (pa_cons (pe_glob (v := (.int (-1))) rfl T.c_OUT_OF_RANGE ⟨_, rfl⟩) pa_nil))))
      (pss_cons (ps_expr (pe_call (ok_want T) (hr.mono (by decide)) rfl T.g_want T.F_want.kp T.b_want .nil (passM (takes_of rfl rfl rfl rfl)) (pa_cons (pe_and (pe_call (ok_all_within T) (hr.mono (by decide)) rfl T.g_all_within T.F_all_within.kp T.b_all_within .nil pass0 (pa_cons (pv 3) (pa_cons pe_int (pa_cons (pe_glob (v := (.int 20)) rfl T.c_LAST_TEAM ⟨_, rfl⟩) pa_nil)))) (pe_one (pe_call (ok_all_within T) (hr.mono (by decide)) rfl T.g_all_within T.F_all_within.kp T.b_all_within .nil pass0 (pa_cons (pv 4) (pa_cons pe_int (pa_cons (pe_glob (v := (.int 4)) rfl T.c_LAST_KIND ⟨_, rfl⟩) pa_nil)))))) (pa_cons (pe_glob (v := (.int (-1))) rfl T.c_OUT_OF_RANGE ⟨_, rfl⟩) pa_nil))))
      (pss_cons (ps_fld (pv 0) (pe_make T.mk_Race (ok_r_init T) (hr.mono (by decide)) rfl T.gRace T.b_r_init .nil pass0 (pa_cons (pv 1) (pa_cons (pe_cmpR op_eq (pv 2) pe_int (nomark _)) (pa_cons (pv 3) (pa_cons (pv 4) pa_nil))))) rfl)
      (pss_one (ps_ret (pe_lst (pa_cons (pe_callB call_len_seq rfl T.n_len bb_len (pa_cons (pv 3) pa_nil)) pa_nil))))))))
theorem ok_d_seconds (T : Txt K mg A) : FnOk P w K mg base (L2.CX P w) 5 A.f_d_seconds A.fd_d_seconds ["self", "number", "many"] (sp_d_seconds K A) := by
  refine T.F_d_seconds.okX sc_d_seconds (fun vs H Q E h => len_d_seconds h) (fun cdv Ar outer s H vs Q E hr h => ⟨t_d_seconds K A E, ?_, pure_d_seconds T vs H Q E h⟩)
  exact (pss_cons (ps_expr (pe_call (ok_want T) (hr.mono (by decide)) rfl T.g_want T.F_want.kp T.b_want .nil (passM (takes_of rfl rfl rfl rfl)) (pa_cons (pe_call (ok_all_within T) (hr.mono (by decide)) rfl T.g_all_within T.F_all_within.kp T.b_all_within .nil pass0 (pa_cons (pe_lst (pa_cons (pv 2) pa_nil)) (pa_cons pe_int (pa_cons (pe_glob (v := (.int 60)) rfl T.c_MOST_SECONDS ⟨_, rfl⟩) pa_nil)))) (pa_cons (pe_glob (v := (.int (-1))) rfl T.c_OUT_OF_RANGE ⟨_, rfl⟩) pa_nil))))
      (pss_cons (ps_set (i := 3) sc_d_seconds.nd rfl (Or.inl rfl) (pe_meth (pv 0) T.clDesk T.m_d_car_of (ok_d_car_of T) (hr.mono (by decide)) T.b_d_car_of .nil (passM (takes_of rfl rfl rfl rfl)) (pa_cons (pv 1) pa_nil)))
      (pss_cons (ps_expr (pe_meth (pv 3) T.clCar T.m_c_add_seconds (ok_c_add_seconds T) (hr.mono (by decide)) T.b_c_add_seconds .nil pass0 (pa_cons (pv 2) pa_nil)))
      (pss_one (ps_ret (pe_lst (pa_cons (pe_fld (pv 3) rfl) pa_nil)))))))
theorem ok_d_throwing (T : Txt K mg A) : FnOk P w K mg base (L2.CX P w) 5 A.f_d_throwing A.fd_d_throwing ["self", "number"] (sp_d_throwing K A) := by
  refine T.F_d_throwing.okX sc_d_throwing (fun vs H Q E h => len_d_throwing h) (fun cdv Ar outer s H vs Q E hr h => ⟨t_d_throwing K A E, ?_, pure_d_throwing T vs H Q E h⟩)
  exact (pss_cons (ps_set (i := 2) sc_d_throwing.nd rfl (Or.inl rfl) (pe_meth (pv 0) T.clDesk T.m_d_car_of (ok_d_car_of T) (hr.mono (by decide)) T.b_d_car_of .nil (passM (takes_of rfl rfl rfl rfl)) (pa_cons (pv 1) pa_nil)))
      (pss_cons (ps_expr (pe_call (ok_want T) (hr.mono (by decide)) rfl T.g_want T.F_want.kp T.b_want .nil (passM (takes_of rfl rfl rfl rfl)) (pa_cons (pe_not (pe_fld (pv 2) rfl)) (pa_cons (pe_glob (v := (.int (-4))) rfl T.c_NOT_NOW ⟨_, rfl⟩) pa_nil))))
      (pss_cons (ps_expr (pe_meth0 (pv 2) T.clCar T.m_c_throw (ok_c_throw T) (hr.mono (by decide)) T.b_c_throw .nil pass0))
      (pss_one (ps_ret (pe_lst (pa_cons pe_int pa_nil)))))))
theorem ok_d_stop (T : Txt K mg A) : FnOk P w K mg base (L2.CX P w) 5 A.f_d_stop A.fd_d_stop ["self"] (sp_d_stop K A) := by
  refine T.F_d_stop.okX sc_d_stop (fun vs H Q E h => len_d_stop h) (fun cdv Ar outer s H vs Q E hr h => ⟨t_d_stop K A E, ?_, pure_d_stop T vs H Q E h⟩)
  exact (pss_cons (ps_expr (pe_call (ok_want T) (hr.mono (by decide)) rfl T.g_want T.F_want.kp T.b_want .nil (passM (takes_of rfl rfl rfl rfl)) (pa_cons (pe_cmpR op_notN (pe_fld (pv 0) rfl) pe_non (nomark _)) (pa_cons (pe_glob (v := (.int (-2))) rfl T.c_NO_RACE ⟨_, rfl⟩) pa_nil))))
      (pss_cons (ps_expr (pe_call (ok_want T) (hr.mono (by decide)) rfl T.g_want T.F_want.kp T.b_want .nil (passM (takes_of rfl rfl rfl rfl)) (pa_cons (pe_not (pe_meth0 (pe_fld (pv 0) rfl) T.clRace T.m_r_has_fallen (ok_r_has_fallen T) (hr.mono (by decide)) T.b_r_has_fallen .nil pass0)) (pa_cons (pe_glob (v := (.int (-4))) rfl T.c_NOT_NOW ⟨_, rfl⟩) pa_nil))))
      (pss_cons (ps_expr (pe_meth0 (pe_fld (pv 0) rfl) T.clRace T.m_r_be_stopped (ok_r_be_stopped T) (hr.mono (by decide)) T.b_r_be_stopped .nil pass0))
      (pss_one (ps_ret (pe_lst (pa_cons (pe_fld (pe_fld (pv 0) rfl) rfl) pa_nil)))))))
theorem ok_time_with_penalties (T : Txt K mg A) : FnOk P w K mg base CX0 6 A.f_time_with_penalties A.fd_time_with_penalties ["race", "car"] (sp_time_with_penalties K A) := by
  refine T.F_time_with_penalties.ok sc_time_with_penalties (fun vs H Q E h => len_time_with_penalties h) (fun cdv Ar outer s H vs Q E hr h => ⟨t_time_with_penalties K A, ?_, pure_time_with_penalties T vs H Q E h⟩)
  exact (pss_one (ps_ret (pe_op op_add (pe_ix ix_list (pe_fld (pv 1) rfl) (pe_op op_sub (pe_meth (pv 0) T.clRace T.m_r_counting (ok_r_counting T) (hr.mono (by decide)) T.b_r_counting .nil pass0 (pa_cons (pv 1) pa_nil)) pe_int) (fun _ _ => rfl)) (pe_op op_mul (pe_glob (v := (.int 1000)) rfl T.c_THOUSANDTHS ⟨_, rfl⟩) (pe_meth0 (pv 1) T.clCar T.m_c_penalty (ok_c_penalty T) (hr.mono (by decide)) T.b_c_penalty .nil pass0)))))
theorem ok_best_lap (T : Txt K mg A) : FnOk P w K mg base CX0 6 A.f_best_lap A.fd_best_lap ["race", "car"] (sp_best_lap K A) := by
  refine T.F_best_lap.ok sc_best_lap (fun vs H Q E h => len_best_lap h) (fun cdv Ar outer s H vs Q E hr h => ⟨t_best_lap K A, ?_, pure_best_lap T vs H Q E h⟩)
  exact (pss_cons (ps_set (i := 2) sc_best_lap.nd rfl (Or.inl rfl) (pe_slice sl_list (pe_fld (pv 1) rfl) po_none (po_some (pe_meth (pv 0) T.clRace T.m_r_counting (ok_r_counting T) (hr.mono (by decide)) T.b_r_counting .nil pass0 (pa_cons (pv 1) pa_nil)))))
      (pss_one (ps_ret (pe_callBK (cr_minD rfl) rfl T.n_min bb_min (pa_cons (pe_lc (own := [("before", 3), ("time", 4)]) (g := (gTup K 2 (gCons (gName 3) (gCons (gName 4) gNil)))) (tt := tYes) (te := (tOp rMinus (tVar 4) (tVar 3))) rfl sc_best_lap.nd (pi_zip rfl T.n_zip (pa_cons (pe_op op_cat (pe_lst (pa_cons pe_int pa_nil)) (pv 2)) (pa_cons (pv 2) pa_nil))) (blkOk_by (N := n_best_lap) (sc := defScope s_best_lap) (by decide +kernel)) (fun _ _ _ _ _ => (pg_tup rfl (pgs_cons (pg_name (i := 3) sc_best_lap.nd rfl (Or.inl rfl)) (pgs_cons (pg_name (i := 4) sc_best_lap.nd rfl (Or.inl rfl)) pgs_nil)))) (fun _ _ _ _ _ => pts_nil) (fun _ _ _ _ _ => (pe_op op_sub (pv 4) (pv 3)))) pa_nil) (pk_cons pe_int pk_nil)))))
theorem ok_level_of (T : Txt K mg A) : FnOk P w K mg base CX0 6 A.f_level_of A.fd_level_of ["race", "some"] (sp_level_of K A) := by
  refine T.F_level_of.ok sc_level_of (fun vs H Q E h => len_level_of h) (fun cdv Ar outer s H vs Q E hr h => ⟨t_level_of K A, ?_, pure_level_of T vs H Q E h⟩)
  exact (pss_cons (ps_if (pt_cmpR (op_eqNil hr.units) (pv 1) (pe_lst pa_nil) (nomark _)) (pss_one (ps_ret (pe_glob (v := (.int 0)) rfl T.c_NONE ⟨_, rfl⟩))) pss_nil)
      (pss_cons (ps_set (i := 2) sc_level_of.nd rfl (Or.inl rfl) (pe_meth (pv 0) T.clRace T.m_r_counting (ok_r_counting T) (hr.mono (by decide)) T.b_r_counting .nil pass0 (pa_cons (pe_ix ix_list (pv 1) pe_int (fun _ _ => rfl)) pa_nil)))
      (pss_cons (ps_if (pt_cmpR op_ge (pe_op op_mul pe_int (pv 2)) (pe_op op_mul pe_int (pe_fld (pv 0) rfl)) (nomark _)) (pss_one (ps_ret (pe_glob (v := (.int 2)) rfl T.c_WHOLE ⟨_, rfl⟩))) pss_nil)
      (pss_cons (ps_if (pt_cmpR op_ge (pv 2) pe_int (nomark _)) (pss_one (ps_ret (pe_glob (v := (.int 1)) rfl T.c_HALF ⟨_, rfl⟩))) pss_nil)
      (pss_one (ps_ret (pe_glob (v := (.int 0)) rfl T.c_NONE ⟨_, rfl⟩)))))))
theorem ok_d_racing_car (T : Txt K mg A) : FnOk P w K mg base (L2.CX P w) 6 A.f_d_racing_car A.fd_d_racing_car ["self", "number"] (sp_d_racing_car K A) := by
  refine T.F_d_racing_car.okX sc_d_racing_car (fun vs H Q E h => len_d_racing_car h) (fun cdv Ar outer s H vs Q E hr h => ⟨t_d_racing_car K A E, ?_, pure_d_racing_car T vs H Q E h⟩)
  exact (pss_cons (ps_set (i := 2) sc_d_racing_car.nd rfl (Or.inl rfl) (pe_meth (pv 0) T.clDesk T.m_d_car_of (ok_d_car_of T) (hr.mono (by decide)) T.b_d_car_of .nil (passM (takes_of rfl rfl rfl rfl)) (pa_cons (pv 1) pa_nil)))
      (pss_cons (ps_expr (pe_call (ok_want T) (hr.mono (by decide)) rfl T.g_want T.F_want.kp T.b_want .nil (passM (takes_of rfl rfl rfl rfl)) (pa_cons (pe_and (pe_not (pe_fld (pv 2) rfl)) (pe_and (pe_not (pe_fld (pv 2) rfl)) (pe_one (pe_not (pe_meth (pe_fld (pv 0) rfl) T.clRace T.m_r_is_home (ok_r_is_home T) (hr.mono (by decide)) T.b_r_is_home .nil pass0 (pa_cons (pv 2) pa_nil)))))) (pa_cons (pe_glob (v := (.int (-4))) rfl T.c_NOT_NOW ⟨_, rfl⟩) pa_nil))))
      (pss_one (ps_ret (pv 2)))))
theorem ok_ordered (T : Txt K mg A) : FnOk P w K mg base CX0 7 A.f_ordered A.fd_ordered ["race"] (sp_ordered K A) := by
  refine T.F_ordered.ok sc_ordered (fun vs H Q E h => len_ordered h) (fun cdv Ar outer s H vs Q E hr h => ⟨t_ordered K A, ?_, pure_ordered T vs H Q E h⟩)
  exact (pss_cons (ps_setLc (i := 1) (own := [("car", 2)]) (g := (gName 2)) (tt := (tAnd (tNot (tB (tMeth A.cRace "is_out" (sp_r_is_out K A) [] E0 (tVar 0) (tCons (tVar 2) tNil)))) (tTest (tOp rGtI (tMeth A.cRace "counting" (sp_r_counting K A) [] E0 (tVar 0) (tCons (tVar 2) tNil)) (tC (.int 0)))))) (te := (tVar 2)) rfl sc_ordered.nd rfl rfl (sw_true rfl rfl rfl (by decide +kernel)) (pi_list (pe_fld (pv 0) rfl)) (blkOk_by (N := n_ordered) (sc := defScope s_ordered) (by decide +kernel)) (fun _ _ _ _ _ => (pg_name (i := 2) sc_ordered.nd rfl (Or.inl rfl))) (fun _ _ _ _ _ => (pts_one (PW.pt (pw_and (pt_not (pt_val (pe_meth (pv 0) T.clRace T.m_r_is_out (ok_r_is_out T) (hr.mono (by decide)) T.b_r_is_out .nil pass0 (pa_cons (pv 2) pa_nil)))) (pw_and1 (pt_cmpR op_gt (pe_meth (pv 0) T.clRace T.m_r_counting (ok_r_counting T) (hr.mono (by decide)) T.b_r_counting .nil pass0 (pa_cons (pv 2) pa_nil)) pe_int (nomark _))))))) (fun _ _ _ _ _ => (pv 2)))
      (pss_cons (ps_set (i := 3) sc_ordered.nd rfl (Or.inl rfl) (pe_callB cr_sorted3 rfl T.n_sorted bb_sorted (pa_cons (pe_lc (own := [("car", 2)]) (g := (gName 2)) (tt := tYes) (te := (tTup (tCons (tUn rNeg (tMeth A.cRace "counting" (sp_r_counting K A) [] E0 (tVar 0) (tCons (tVar 2) tNil))) (tCons (tCall (sp_time_with_penalties K A) [] E0 (tCons (tVar 0) (tCons (tVar 2) tNil))) (tCons (tFld K (tVar 2) "number") tNil))))) rfl sc_ordered.nd (pi_list (pv 1)) (blkOk_by (N := n_ordered) (sc := defScope s_ordered) (by decide +kernel)) (fun _ _ _ _ _ => (pg_name (i := 2) sc_ordered.nd rfl (Or.inl rfl))) (fun _ _ _ _ _ => pts_nil) (fun _ _ _ _ _ => (pe_tup (pa_cons (pe_un un_neg (pe_meth (pv 0) T.clRace T.m_r_counting (ok_r_counting T) (hr.mono (by decide)) T.b_r_counting .nil pass0 (pa_cons (pv 2) pa_nil))) (pa_cons (pe_call (ok_time_with_penalties T) (hr.mono (by decide)) rfl T.g_time_with_penalties T.F_time_with_penalties.kp T.b_time_with_penalties .nil pass0 (pa_cons (pv 0) (pa_cons (pv 2) pa_nil))) (pa_cons (pe_fld (pv 2) rfl) pa_nil)))))) pa_nil)))
      (pss_one (ps_ret (pe_lc (own := [("row", 4)]) (g := (gName 4)) (tt := tYes) (te := (tOp (rIxL K) (tFld K (tVar 0) "cars") (tOp (rIxT K) (tVar 4) (tC (.int 2))))) rfl sc_ordered.nd (pi_list (pv 3)) (blkOk_by (N := n_ordered) (sc := defScope s_ordered) (by decide +kernel)) (fun _ _ _ _ _ => (pg_name (i := 4) sc_ordered.nd rfl (Or.inl rfl))) (fun _ _ _ _ _ => pts_nil) (fun _ _ _ _ _ => (pe_ix ix_list (pe_fld (pv 0) rfl) (pe_ix ix_tup (pv 4) pe_int (fun _ _ => rfl)) (fun _ _ => rfl))))))))
theorem ok_fastest_number (T : Txt K mg A) : FnOk P w K mg base CX0 7 A.f_fastest_number A.fd_fastest_number ["race", "some"] (sp_fastest_number K A) := by
  refine T.F_fastest_number.ok sc_fastest_number (fun vs H Q E h => len_fastest_number h) (fun cdv Ar outer s H vs Q E hr h => ⟨t_fastest_number K A, ?_, pure_fastest_number T vs H Q E h⟩)
  exact (pss_cons (ps_setLc (i := 2) (own := [("car", 3)]) (g := (gName 3)) (tt := tYes) (te := (tCall (sp_best_lap K A) [] E0 (tCons (tVar 0) (tCons (tVar 3) tNil)))) rfl sc_fastest_number.nd rfl rfl (sw_true rfl rfl rfl (by decide +kernel)) (pi_list (pv 1)) (blkOk_by (N := n_fastest_number) (sc := defScope s_fastest_number) (by decide +kernel)) (fun _ _ _ _ _ => (pg_name (i := 3) sc_fastest_number.nd rfl (Or.inl rfl))) (fun _ _ _ _ _ => pts_nil) (fun _ _ _ _ _ => (pe_call (ok_best_lap T) (hr.mono (by decide)) rfl T.g_best_lap T.F_best_lap.kp T.b_best_lap .nil pass0 (pa_cons (pv 0) (pa_cons (pv 3) pa_nil)))))
      (pss_cons (ps_if (pt_cmpR (op_eqNil hr.units) (pv 2) (pe_lst pa_nil) (nomark _)) (pss_one (ps_ret (pe_un un_neg pe_int))) pss_nil)
      (pss_one (ps_ret (pe_fld (pe_ix ix_list (pv 1) (pe_bm PySem.F.plainAttrs_list PySem.F.slot_list_index PySem.F.type_list_index mt_index (pv 2) (pa_cons (pe_callB (cr_min rfl) rfl T.n_min bb_min (pa_cons (pv 2) pa_nil)) pa_nil)) (fun _ _ => rfl)) rfl)))))
theorem ok_d_cross (T : Txt K mg A) : FnOk P w K mg base (L2.CX P w) 7 A.f_d_cross A.fd_d_cross ["self", "number", "time"] (sp_d_cross K A) := by
  refine T.F_d_cross.okX sc_d_cross (fun vs H Q E h => len_d_cross h) (fun cdv Ar outer s H vs Q E hr h => ⟨t_d_cross K A E, ?_, pure_d_cross T vs H Q E h⟩)
  exact (pss_cons (ps_expr (pe_call (ok_want T) (hr.mono (by decide)) rfl T.g_want T.F_want.kp T.b_want .nil (passM (takes_of rfl rfl rfl rfl)) (pa_cons (pe_call (ok_all_within T) (hr.mono (by decide)) rfl T.g_all_within T.F_all_within.kp T.b_all_within .nil pass0 (pa_cons (pe_lst (pa_cons (pv 2) pa_nil)) (pa_cons pe_int (pa_cons (pe_glob (v := (.int 100000000)) rfl T.c_LAST_TIME ⟨_, rfl⟩) pa_nil)))) (pa_cons (pe_glob (v := (.int (-1))) rfl T.c_OUT_OF_RANGE ⟨_, rfl⟩) pa_nil))))
      (pss_cons (ps_set (i := 3) sc_d_cross.nd rfl (Or.inl rfl) (pe_meth (pv 0) T.clDesk T.m_d_racing_car (ok_d_racing_car T) (hr.mono (by decide)) T.b_d_racing_car .nil (passM (takes_of rfl rfl rfl rfl)) (pa_cons (pv 1) pa_nil)))
      (pss_cons (ps_expr (pe_call (ok_want T) (hr.mono (by decide)) rfl T.g_want T.F_want.kp T.b_want .nil (passM (takes_of rfl rfl rfl rfl)) (pa_cons (pe_and (pe_cmpR op_ge (pv 2) (pe_fld (pe_fld (pv 0) rfl) rfl) (nomark _)) (pe_one (pe_cmpR op_gt (pv 2) (pe_meth0 (pv 3) T.clCar T.m_c_last_time (ok_c_last_time T) (hr.mono (by decide)) T.b_c_last_time .nil pass0) (nomark _)))) (pa_cons (pe_glob (v := (.int (-5))) rfl T.c_NOT_SO ⟨_, rfl⟩) pa_nil))))
      (pss_cons (ps_expr (pe_meth (pe_fld (pv 0) rfl) T.clRace T.m_r_take_crossing_of (ok_r_take_crossing_of T) (hr.mono (by decide)) T.b_r_take_crossing_of .nil pass0 (pa_cons (pv 3) (pa_cons (pv 2) pa_nil))))
      (pss_one (ps_ret (pe_lst (pa_cons (pe_meth0 (pv 3) T.clCar T.m_c_laps (ok_c_laps T) (hr.mono (by decide)) T.b_c_laps .nil pass0) (pa_cons (pe_callTy call_int1 rfl T.n_int bb_int (pa_cons (pe_meth (pe_fld (pv 0) rfl) T.clRace T.m_r_is_home (ok_r_is_home T) (hr.mono (by decide)) T.b_r_is_home .nil pass0 (pa_cons (pv 3) pa_nil)) pa_nil)) pa_nil)))))))))
theorem ok_d_pit (T : Txt K mg A) : FnOk P w K mg base (L2.CX P w) 7 A.f_d_pit A.fd_d_pit ["self", "number", "kind"] (sp_d_pit K A) := by
  refine T.F_d_pit.okX sc_d_pit (fun vs H Q E h => len_d_pit h) (fun cdv Ar outer s H vs Q E hr h => ⟨t_d_pit K A E, ?_, pure_d_pit T vs H Q E h⟩)
  exact (pss_cons (ps_expr (pe_call (ok_want T) (hr.mono (by decide)) rfl T.g_want T.F_want.kp T.b_want .nil (passM (takes_of rfl rfl rfl rfl)) (pa_cons (pe_call (ok_all_within T) (hr.mono (by decide)) rfl T.g_all_within T.F_all_within.kp T.b_all_within .nil pass0 (pa_cons (pe_lst (pa_cons (pv 2) pa_nil)) (pa_cons pe_int (pa_cons (pe_glob (v := (.int 4)) rfl T.c_LAST_KIND ⟨_, rfl⟩) pa_nil)))) (pa_cons (pe_glob (v := (.int (-1))) rfl T.c_OUT_OF_RANGE ⟨_, rfl⟩) pa_nil))))
      (pss_cons (ps_set (i := 3) sc_d_pit.nd rfl (Or.inl rfl) (pe_meth (pv 0) T.clDesk T.m_d_racing_car (ok_d_racing_car T) (hr.mono (by decide)) T.b_d_racing_car .nil (passM (takes_of rfl rfl rfl rfl)) (pa_cons (pv 1) pa_nil)))
      (pss_cons (ps_expr (pe_meth (pv 3) T.clCar T.m_c_take_tyres (ok_c_take_tyres T) (hr.mono (by decide)) T.b_c_take_tyres .nil pass0 (pa_cons (pv 2) pa_nil)))
      (pss_one (ps_ret (pe_lst (pa_cons (pe_meth0 (pv 3) T.clCar T.m_c_pits (ok_c_pits T) (hr.mono (by decide)) T.b_c_pits .nil pass0) pa_nil)))))))
theorem ok_d_through (T : Txt K mg A) : FnOk P w K mg base (L2.CX P w) 7 A.f_d_through A.fd_d_through ["self", "number"] (sp_d_through K A) := by
  refine T.F_d_through.okX sc_d_through (fun vs H Q E h => len_d_through h) (fun cdv Ar outer s H vs Q E hr h => ⟨t_d_through K A E, ?_, pure_d_through T vs H Q E h⟩)
  exact (pss_cons (ps_set (i := 2) sc_d_through.nd rfl (Or.inl rfl) (pe_meth (pv 0) T.clDesk T.m_d_racing_car (ok_d_racing_car T) (hr.mono (by decide)) T.b_d_racing_car .nil (passM (takes_of rfl rfl rfl rfl)) (pa_cons (pv 1) pa_nil)))
      (pss_cons (ps_expr (pe_call (ok_want T) (hr.mono (by decide)) rfl T.g_want T.F_want.kp T.b_want .nil (passM (takes_of rfl rfl rfl rfl)) (pa_cons (pe_cmpR op_gt (pe_meth0 (pv 2) T.clCar T.m_c_ways (ok_c_ways T) (hr.mono (by decide)) T.b_c_ways .nil pass0) pe_int (nomark _)) (pa_cons (pe_glob (v := (.int (-5))) rfl T.c_NOT_SO ⟨_, rfl⟩) pa_nil))))
      (pss_cons (ps_expr (pe_meth0 (pv 2) T.clCar T.m_c_go_through (ok_c_go_through T) (hr.mono (by decide)) T.b_c_go_through .nil pass0))
      (pss_one (ps_ret (pe_lst (pa_cons (pe_meth0 (pv 2) T.clCar T.m_c_ways (ok_c_ways T) (hr.mono (by decide)) T.b_c_ways .nil pass0) pa_nil)))))))
theorem ok_d_send (T : Txt K mg A) : FnOk P w K mg base (L2.CX P w) 7 A.f_d_send A.fd_d_send ["self", "number"] (sp_d_send K A) := by
  refine T.F_d_send.okX sc_d_send (fun vs H Q E h => len_d_send h) (fun cdv Ar outer s H vs Q E hr h => ⟨t_d_send K A E, ?_, pure_d_send T vs H Q E h⟩)
  exact (pss_cons (ps_set (i := 2) sc_d_send.nd rfl (Or.inl rfl) (pe_meth (pv 0) T.clDesk T.m_d_racing_car (ok_d_racing_car T) (hr.mono (by decide)) T.b_d_racing_car .nil (passM (takes_of rfl rfl rfl rfl)) (pa_cons (pv 1) pa_nil)))
      (pss_cons (ps_expr (pe_meth0 (pv 2) T.clCar T.m_c_take_sending (ok_c_take_sending T) (hr.mono (by decide)) T.b_c_take_sending .nil pass0))
      (pss_one (ps_ret (pe_lst (pa_cons (pe_meth0 (pv 2) T.clCar T.m_c_ways (ok_c_ways T) (hr.mono (by decide)) T.b_c_ways .nil pass0) pa_nil))))))
theorem ok_d_leaving (T : Txt K mg A) : FnOk P w K mg base (L2.CX P w) 7 A.f_d_leaving A.fd_d_leaving ["self", "number"] (sp_d_leaving K A) := by
  refine T.F_d_leaving.okX sc_d_leaving (fun vs H Q E h => len_d_leaving h) (fun cdv Ar outer s H vs Q E hr h => ⟨t_d_leaving K A E, ?_, pure_d_leaving T vs H Q E h⟩)
  exact (pss_cons (ps_set (i := 2) sc_d_leaving.nd rfl (Or.inl rfl) (pe_meth (pv 0) T.clDesk T.m_d_racing_car (ok_d_racing_car T) (hr.mono (by decide)) T.b_d_racing_car .nil (passM (takes_of rfl rfl rfl rfl)) (pa_cons (pv 1) pa_nil)))
      (pss_cons (ps_expr (pe_meth0 (pv 2) T.clCar T.m_c_leave (ok_c_leave T) (hr.mono (by decide)) T.b_c_leave .nil pass0))
      (pss_one (ps_ret (pe_lst (pa_cons pe_int pa_nil))))))
theorem ok_d_card (T : Txt K mg A) : FnOk P w K mg base (L2.CX P w) 7 A.f_d_card A.fd_d_card ["self", "number"] (sp_d_card K A) := by
  refine T.F_d_card.okX sc_d_card (fun vs H Q E h => len_d_card h) (fun cdv Ar outer s H vs Q E hr h => ⟨t_d_card K A E, ?_, pure_d_card T vs H Q E h⟩)
  exact (pss_cons (ps_set (i := 2) sc_d_card.nd rfl (Or.inl rfl) (pe_meth (pv 0) T.clDesk T.m_d_car_of (ok_d_car_of T) (hr.mono (by decide)) T.b_d_car_of .nil (passM (takes_of rfl rfl rfl rfl)) (pa_cons (pv 1) pa_nil)))
      (pss_cons (ps_set (i := 3) sc_d_card.nd rfl (Or.inl rfl) (pe_fld (pv 0) rfl))
      (pss_cons (ps_set (i := 4) sc_d_card.nd rfl (Or.inl rfl) (pe_lst (pa_cons (pe_meth0 (pv 2) T.clCar T.m_c_laps (ok_c_laps T) (hr.mono (by decide)) T.b_c_laps .nil pass0) (pa_cons (pe_meth (pv 3) T.clRace T.m_r_counting (ok_r_counting T) (hr.mono (by decide)) T.b_r_counting .nil pass0 (pa_cons (pv 2) pa_nil)) (pa_cons (pe_meth0 (pv 2) T.clCar T.m_c_penalty (ok_c_penalty T) (hr.mono (by decide)) T.b_c_penalty .nil pass0) (pa_cons (pe_meth0 (pv 2) T.clCar T.m_c_ways (ok_c_ways T) (hr.mono (by decide)) T.b_c_ways .nil pass0) (pa_cons (pe_meth0 (pv 2) T.clCar T.m_c_pits (ok_c_pits T) (hr.mono (by decide)) T.b_c_pits .nil pass0) pa_nil)))))))
      (pss_one (ps_ret (pe_op op_cat (pv 4) (pe_lst (pa_cons (pe_callTy call_int1 rfl T.n_int bb_int (pa_cons (pe_fld (pv 2) rfl) pa_nil)) (pa_cons (pe_callTy call_int1 rfl T.n_int bb_int (pa_cons (pe_meth (pv 3) T.clRace T.m_r_is_out (ok_r_is_out T) (hr.mono (by decide)) T.b_r_is_out .nil pass0 (pa_cons (pv 2) pa_nil)) pa_nil)) (pa_cons (pe_call (ok_best_lap T) (hr.mono (by decide)) rfl T.g_best_lap T.F_best_lap.kp T.b_best_lap .nil pass0 (pa_cons (pv 3) (pa_cons (pv 2) pa_nil))) pa_nil))))))))))
theorem ok_classed (T : Txt K mg A) : FnOk P w K mg base CX0 8 A.f_classed A.fd_classed ["race"] (sp_classed K A) := by
  refine T.F_classed.ok sc_classed (fun vs H Q E h => len_classed h) (fun cdv Ar outer s H vs Q E hr h => ⟨t_classed K A, ?_, pure_classed T vs H Q E h⟩)
  exact (pss_cons (ps_set (i := 1) sc_classed.nd rfl (Or.inl rfl) (pe_call (ok_ordered T) (hr.mono (by decide)) rfl T.g_ordered T.F_ordered.kp T.b_ordered .nil pass0 (pa_cons (pv 0) pa_nil)))
      (pss_cons (ps_if (pt_cmpR (op_eqNil hr.units) (pv 1) (pe_lst pa_nil) (nomark _)) (pss_one (ps_ret (pe_lst pa_nil))) pss_nil)
      (pss_cons (ps_set (i := 2) sc_classed.nd rfl (Or.inr rfl) (pe_meth (pv 0) T.clRace T.m_r_counting (ok_r_counting T) (hr.mono (by decide)) T.b_r_counting .nil pass0 (pa_cons (pe_ix ix_list (pv 1) pe_int (fun _ _ => rfl)) pa_nil)))
      (pss_one (ps_ret (pe_lc (own := [("car", 3)]) (g := (gName 3)) (tt := (tTest (tOp rGeI (tOp rTimes (tC (.int 10)) (tMeth A.cRace "counting" (sp_r_counting K A) [] E0 (tVar 0) (tCons (tVar 3) tNil))) (tOp rTimes (tC (.int 9)) (tVar 2))))) (te := (tVar 3)) rfl sc_classed.nd (pi_list (pv 1)) (blkOk_by (N := n_classed) (sc := defScope s_classed) (by decide +kernel)) (fun _ _ _ _ _ => (pg_name (i := 3) sc_classed.nd rfl (Or.inl rfl))) (fun _ _ _ _ _ => (pts_one (pt_cmpR op_ge (pe_op op_mul pe_int (pe_meth (pv 0) T.clRace T.m_r_counting (ok_r_counting T) (hr.mono (by decide)) T.b_r_counting .nil pass0 (pa_cons (pv 3) pa_nil))) (pe_op op_mul pe_int (pv 2)) (nomark _)))) (fun _ _ _ _ _ => (pv 3))))))))
theorem ok_halves_of (T : Txt K mg A) : FnOk P w K mg base CX0 8 A.f_halves_of A.fd_halves_of ["race", "some"] (sp_halves_of K A) := by
  refine T.F_halves_of.ok sc_halves_of (fun vs H Q E h => len_halves_of h) (fun cdv Ar outer s H vs Q E hr h => ⟨t_halves_of K A, ?_, pure_halves_of T vs H Q E h⟩)
  exact (pss_cons (ps_set (i := 2) sc_halves_of.nd rfl (Or.inl rfl) (pe_call (ok_level_of T) (hr.mono (by decide)) rfl T.g_level_of T.F_level_of.kp T.b_level_of .nil pass0 (pa_cons (pv 0) (pa_cons (pv 1) pa_nil))))
      (pss_cons (ps_set (i := 3) sc_halves_of.nd rfl (Or.inl rfl) (pe_call (ok_points_by_places T) (hr.mono (by decide)) rfl T.g_points_by_places T.F_points_by_places.kp T.b_points_by_places .nil pass0 (pa_cons (pv 2) (pa_cons (pe_callB call_len_seq rfl T.n_len bb_len (pa_cons (pv 1) pa_nil)) pa_nil))))
      (pss_cons (ps_set (i := 4) sc_halves_of.nd rfl (Or.inl rfl) (pe_call (ok_fastest_number T) (hr.mono (by decide)) rfl T.g_fastest_number T.F_fastest_number.kp T.b_fastest_number .nil pass0 (pa_cons (pv 0) (pa_cons (pv 1) pa_nil))))
      (pss_cons (ps_for PassesOwn.never rfl (pi_enum rfl T.n_enumerate (pa_cons (pe_slice sl_list (pv 1) po_none (po_some (pe_callB call_len_seq rfl T.n_len bb_len (pa_cons (pe_glob (v := .ref A.a_POINTS) rfl T.c_POINTS rfl) pa_nil)))) pa_nil)) (pg_tup rfl (pgs_cons (pg_name (i := 5) sc_halves_of.nd rfl (Or.inl rfl)) (pgs_cons (pg_name (i := 6) sc_halves_of.nd rfl (Or.inl rfl)) pgs_nil))) (pss_one (ps_if (PW.pt (pw_and (pt_cmpR op_eq (pv 2) (pe_glob (v := (.int 2)) rfl T.c_WHOLE ⟨_, rfl⟩) (nomark _)) (pw_and1 (pt_cmpR op_eq (pe_fld (pv 6) rfl) (pv 4) (nomark _))))) (pss_one (ps_asg (pe_op op_add (pe_ix ix_list (pv 3) (pv 5) (fun _ _ => rfl)) (pe_glob (v := (.int 2)) rfl T.c_HALVES_A_POINT ⟨_, rfl⟩)) (pg_sub (pv 3) (pv 5) set_list))) pss_nil)))
      (pss_one (ps_ret (pv 3)))))))
theorem ok_answer_with_car (T : Txt K mg A) : FnOk P w K mg base (L2.CX P w) 8 A.f_answer_with_car A.fd_answer_with_car ["desk", "call", "n"] (sp_answer_with_car K A) := by
  refine T.F_answer_with_car.okX sc_answer_with_car (fun vs H Q E h => len_answer_with_car h) (fun cdv Ar outer s H vs Q E hr h => ⟨t_answer_with_car K A E, ?_, pure_answer_with_car T vs H Q E h⟩)
  exact (pss_cons (ps_if (pt_cmpR op_eq (pv 1) pe_int (nomark _)) (pss_one (ps_ret (pe_meth (pv 0) T.clDesk T.m_d_cross (ok_d_cross T) (hr.mono (by decide)) T.b_d_cross .nil (passM (takes_of rfl rfl rfl rfl)) (pa_cons (pe_ix ix_list (pv 2) pe_int (fun _ _ => rfl)) (pa_cons (pe_ix ix_list (pv 2) pe_int (fun _ _ => rfl)) pa_nil))))) pss_nil)
      (pss_cons (ps_if (pt_cmpR op_eq (pv 1) pe_int (nomark _)) (pss_one (ps_ret (pe_meth (pv 0) T.clDesk T.m_d_pit (ok_d_pit T) (hr.mono (by decide)) T.b_d_pit .nil (passM (takes_of rfl rfl rfl rfl)) (pa_cons (pe_ix ix_list (pv 2) pe_int (fun _ _ => rfl)) (pa_cons (pe_ix ix_list (pv 2) pe_int (fun _ _ => rfl)) pa_nil))))) pss_nil)
      (pss_cons (ps_if (pt_cmpR op_eq (pv 1) pe_int (nomark _)) (pss_one (ps_ret (pe_meth (pv 0) T.clDesk T.m_d_through (ok_d_through T) (hr.mono (by decide)) T.b_d_through .nil (passM (takes_of rfl rfl rfl rfl)) (pa_cons (pe_ix ix_list (pv 2) pe_int (fun _ _ => rfl)) pa_nil)))) pss_nil)
      (pss_cons (ps_if (pt_cmpR op_eq (pv 1) pe_int (nomark _)) (pss_one (ps_ret (pe_meth (pv 0) T.clDesk T.m_d_seconds (ok_d_seconds T) (hr.mono (by decide)) T.b_d_seconds .nil (passM (takes_of rfl rfl rfl rfl)) (pa_cons (pe_ix ix_list (pv 2) pe_int (fun _ _ => rfl)) (pa_cons (pe_ix ix_list (pv 2) pe_int (fun _ _ => rfl)) pa_nil))))) pss_nil)
      (pss_cons (ps_if (pt_cmpR op_eq (pv 1) pe_int (nomark _)) (pss_one (ps_ret (pe_meth (pv 0) T.clDesk T.m_d_send (ok_d_send T) (hr.mono (by decide)) T.b_d_send .nil (passM (takes_of rfl rfl rfl rfl)) (pa_cons (pe_ix ix_list (pv 2) pe_int (fun _ _ => rfl)) pa_nil)))) pss_nil)
      (pss_cons (ps_if (pt_cmpR op_eq (pv 1) pe_int (nomark _)) (pss_one (ps_ret (pe_meth (pv 0) T.clDesk T.m_d_leaving (ok_d_leaving T) (hr.mono (by decide)) T.b_d_leaving .nil (passM (takes_of rfl rfl rfl rfl)) (pa_cons (pe_ix ix_list (pv 2) pe_int (fun _ _ => rfl)) pa_nil)))) pss_nil)
      (pss_one (ps_ret (pe_meth (pv 0) T.clDesk T.m_d_throwing (ok_d_throwing T) (hr.mono (by decide)) T.b_d_throwing .nil (passM (takes_of rfl rfl rfl rfl)) (pa_cons (pe_ix ix_list (pv 2) pe_int (fun _ _ => rfl)) pa_nil))))))))))
theorem ok_halves_of_team (T : Txt K mg A) : FnOk P w K mg base CX0 9 A.f_halves_of_team A.fd_halves_of_team ["race", "team"] (sp_halves_of_team K A) := by
  refine T.F_halves_of_team.ok sc_halves_of_team (fun vs H Q E h => len_halves_of_team h) (fun cdv Ar outer s H vs Q E hr h => ⟨t_halves_of_team K A, ?_, pure_halves_of_team T vs H Q E h⟩)
  exact (pss_cons (ps_set (i := 2) sc_halves_of_team.nd rfl (Or.inl rfl) (pe_call (ok_classed T) (hr.mono (by decide)) rfl T.g_classed T.F_classed.kp T.b_classed .nil pass0 (pa_cons (pv 0) pa_nil)))
      (pss_one (ps_ret (pe_callB (cr_sum rfl) rfl T.n_sum bb_sum (pa_cons (pe_lc (own := [("car", 3), ("halves", 4)]) (g := (gTup K 2 (gCons (gName 3) (gCons (gName 4) gNil)))) (tt := (tTest (tOp rEq (tFld K (tVar 3) "team") (tVar 1)))) (te := (tVar 4)) rfl sc_halves_of_team.nd (pi_zip rfl T.n_zip (pa_cons (pv 2) (pa_cons (pe_call (ok_halves_of T) (hr.mono (by decide)) rfl T.g_halves_of T.F_halves_of.kp T.b_halves_of .nil pass0 (pa_cons (pv 0) (pa_cons (pv 2) pa_nil))) pa_nil))) (blkOk_by (N := n_halves_of_team) (sc := defScope s_halves_of_team) (by decide +kernel)) (fun _ _ _ _ _ => (pg_tup rfl (pgs_cons (pg_name (i := 3) sc_halves_of_team.nd rfl (Or.inl rfl)) (pgs_cons (pg_name (i := 4) sc_halves_of_team.nd rfl (Or.inl rfl)) pgs_nil)))) (fun _ _ _ _ _ => (pts_one (pt_cmpR op_eq (pe_fld (pv 3) rfl) (pv 1) (nomark _)))) (fun _ _ _ _ _ => (pv 4))) pa_nil)))))
theorem ok_d_result (T : Txt K mg A) : FnOk P w K mg base (L2.CX P w) 9 A.f_d_result A.fd_d_result ["self"] (sp_d_result K A) := by
  refine T.F_d_result.okX sc_d_result (fun vs H Q E h => len_d_result h) (fun cdv Ar outer s H vs Q E hr h => ⟨t_d_result K A E, ?_, pure_d_result T vs H Q E h⟩)
  exact (pss_cons (ps_expr (pe_meth0 (pv 0) T.clDesk T.m_d_want_fallen (ok_d_want_fallen T) (hr.mono (by decide)) T.b_d_want_fallen .nil (passM (takes_of rfl rfl rfl rfl))))
      (pss_cons (ps_set (i := 1) sc_d_result.nd rfl (Or.inl rfl) (pe_fld (pv 0) rfl))
      (pss_cons (ps_set (i := 2) sc_d_result.nd rfl (Or.inl rfl) (pe_call (ok_classed T) (hr.mono (by decide)) rfl T.g_classed T.F_classed.kp T.b_classed .nil pass0 (pa_cons (pv 1) pa_nil)))
      (pss_cons (ps_set (i := 3) sc_d_result.nd rfl (Or.inl rfl) (pe_lst (pa_cons (pe_callB call_len_seq rfl T.n_len bb_len (pa_cons (pv 2) pa_nil)) (pa_cons (pe_call (ok_level_of T) (hr.mono (by decide)) rfl T.g_level_of T.F_level_of.kp T.b_level_of .nil pass0 (pa_cons (pv 1) (pa_cons (pv 2) pa_nil))) (pa_cons (pe_call (ok_fastest_number T) (hr.mono (by decide)) rfl T.g_fastest_number T.F_fastest_number.kp T.b_fastest_number .nil pass0 (pa_cons (pv 1) (pa_cons (pv 2) pa_nil))) pa_nil)))))
      (pss_cons (ps_for (passes_of rfl) rfl (pi_zip rfl T.n_zip (pa_cons (pv 2) (pa_cons (pe_call (ok_halves_of T) (hr.mono (by decide)) rfl T.g_halves_of T.F_halves_of.kp T.b_halves_of .nil pass0 (pa_cons (pv 1) (pa_cons (pv 2) pa_nil))) pa_nil))) (pg_tup rfl (pgs_cons (pg_name (i := 4) sc_d_result.nd rfl (Or.inl rfl)) (pgs_cons (pg_name (i := 5) sc_d_result.nd rfl (Or.inl rfl)) pgs_nil))) (pss_one (ps_expr (pe_bm PySem.F.plainAttrs_list PySem.F.slot_list_extend PySem.F.type_list_extend mt_extend (pv 3) (pa_cons (pe_lst (pa_cons (pe_fld (pv 4) rfl) (pa_cons (pe_meth (pv 1) T.clRace T.m_r_counting (ok_r_counting T) (hr.mono (by decide)) T.b_r_counting .nil pass0 (pa_cons (pv 4) pa_nil)) (pa_cons (pe_call (ok_time_with_penalties T) (hr.mono (by decide)) rfl T.g_time_with_penalties T.F_time_with_penalties.kp T.b_time_with_penalties .nil pass0 (pa_cons (pv 1) (pa_cons (pv 4) pa_nil))) (pa_cons (pv 5) pa_nil))))) pa_nil)))))
      (pss_one (ps_ret (pv 3))))))))
theorem ok_d_teams (T : Txt K mg A) : FnOk P w K mg base (L2.CX P w) 10 A.f_d_teams A.fd_d_teams ["self"] (sp_d_teams K A) := by
  refine T.F_d_teams.okX sc_d_teams (fun vs H Q E h => len_d_teams h) (fun cdv Ar outer s H vs Q E hr h => ⟨t_d_teams K A E, ?_, pure_d_teams T vs H Q E h⟩)
  exact (pss_cons (ps_expr (pe_meth0 (pv 0) T.clDesk T.m_d_want_fallen (ok_d_want_fallen T) (hr.mono (by decide)) T.b_d_want_fallen .nil (passM (takes_of rfl rfl rfl rfl))))
      (pss_cons (ps_set (i := 1) sc_d_teams.nd rfl (Or.inl rfl) (pe_call (ok_teams_in_order T) (hr.mono (by decide)) rfl T.g_teams_in_order T.F_teams_in_order.kp T.b_teams_in_order .nil pass0 (pa_cons (pe_fld (pv 0) rfl) pa_nil)))
      (pss_cons (ps_set (i := 2) sc_d_teams.nd rfl (Or.inl rfl) (pe_lst (pa_cons (pe_callB call_len_seq rfl T.n_len bb_len (pa_cons (pv 1) pa_nil)) pa_nil)))
      (pss_cons (ps_for (passes_of rfl) rfl (pi_list (pv 1)) (pg_name (i := 3) sc_d_teams.nd rfl (Or.inl rfl)) (pss_one (ps_expr (pe_bm PySem.F.plainAttrs_list PySem.F.slot_list_extend PySem.F.type_list_extend mt_extend (pv 2) (pa_cons (pe_lst (pa_cons (pv 3) (pa_cons (pe_call (ok_halves_of_team T) (hr.mono (by decide)) rfl T.g_halves_of_team T.F_halves_of_team.kp T.b_halves_of_team .nil pass0 (pa_cons (pe_fld (pv 0) rfl) (pa_cons (pv 3) pa_nil))) pa_nil))) pa_nil)))))
      (pss_one (ps_ret (pv 2)))))))
theorem ok_answer_without_lists (T : Txt K mg A) : FnOk P w K mg base (L2.CX P w) 11 A.f_answer_without_lists A.fd_answer_without_lists ["desk", "call", "n"] (sp_answer_without_lists K A) := by
  refine T.F_answer_without_lists.okX sc_answer_without_lists (fun vs H Q E h => len_answer_without_lists h) (fun cdv Ar outer s H vs Q E hr h => ⟨t_answer_without_lists K A E, ?_, pure_answer_without_lists T vs H Q E h⟩)
  exact (pss_cons (ps_if (pt_cmpR op_lt (pv 1) pe_int (nomark _)) (pss_one (ps_ret (pe_call (ok_answer_with_car T) (hr.mono (by decide)) rfl T.g_answer_with_car T.F_answer_with_car.kp T.b_answer_with_car .nil (passM (takes_of rfl rfl rfl rfl)) (pa_cons (pv 0) (pa_cons (pv 1) (pa_cons (pv 2) pa_nil)))))) pss_nil)
      (pss_cons (ps_if (pt_cmpR op_eq (pv 1) pe_int (nomark _)) (pss_one (ps_ret (pe_meth0 (pv 0) T.clDesk T.m_d_stop (ok_d_stop T) (hr.mono (by decide)) T.b_d_stop .nil (passM (takes_of rfl rfl rfl rfl))))) pss_nil)
      (pss_cons (ps_if (pt_cmpR op_eq (pv 1) pe_int (nomark _)) (pss_one (ps_ret (pe_meth0 (pv 0) T.clDesk T.m_d_now (ok_d_now T) (hr.mono (by decide)) T.b_d_now .nil pass0))) pss_nil)
      (pss_cons (ps_if (pt_cmpR op_eq (pv 1) pe_int (nomark _)) (pss_one (ps_ret (pe_meth (pv 0) T.clDesk T.m_d_card (ok_d_card T) (hr.mono (by decide)) T.b_d_card .nil (passM (takes_of rfl rfl rfl rfl)) (pa_cons (pe_ix ix_list (pv 2) pe_int (fun _ _ => rfl)) pa_nil)))) pss_nil)
      (pss_cons (ps_if (pt_cmpR op_eq (pv 1) pe_int (nomark _)) (pss_one (ps_ret (pe_meth0 (pv 0) T.clDesk T.m_d_result (ok_d_result T) (hr.mono (by decide)) T.b_d_result .nil (passM (takes_of rfl rfl rfl rfl))))) pss_nil)
      (pss_one (ps_ret (pe_meth0 (pv 0) T.clDesk T.m_d_teams (ok_d_teams T) (hr.mono (by decide)) T.b_d_teams .nil (passM (takes_of rfl rfl rfl rfl))))))))))
theorem ok_answer (T : Txt K mg A) : FnOk P w K mg base CX0 12 A.f_answer A.fd_answer ["desk", "call", "n", "lists"] (sp_answer K A) := by
  refine T.F_answer.ok sc_answer (fun vs H Q E h => len_answer h) (fun cdv Ar outer s H vs Q E hr h => ⟨t_answer K A, ?_, pure_answer T vs H Q E h⟩)
  exact (pss_one (ps_try_as (i := 4) (tb := t_answer_try K A) (ts := t_answer_suite K A) (Wout := fun _ _ _ _ => False) rfl rfl sc_answer.nd rfl rfl ⟨rfl, by decide, Or.inl T.gRefused⟩ takes0
        (fun W pn xe tk _ => (pss_cons (ps_if (pt_cmpR op_eq (pv 1) (pe_glob (v := (.int 1)) rfl T.c_BEGIN ⟨_, rfl⟩) (nomark _)) (pss_one (ps_ret (pe_methS (pv 0) T.clDesk T.m_d_begin (ok_d_begin T) (hr.mono (by decide)) T.b_d_begin (fun σ => passAt tk σ) (pa_cons (pe_ix ix_list (pv 2) pe_int (fun _ _ => rfl)) (pa_cons (pe_ix ix_list (pv 2) pe_int (fun _ _ => rfl)) (pa_cons (pe_ix ix_list (pv 3) pe_int (fun _ _ => rfl)) (pa_cons (pe_ix ix_list (pv 3) pe_int (fun _ _ => rfl)) pa_nil))))))) pss_nil)
      (pss_one (ps_ret (pe_callS (ok_answer_without_lists T) (hr.mono (by decide)) rfl T.g_answer_without_lists T.F_answer_without_lists.kp T.b_answer_without_lists (fun σ => passAt tk σ) (pa_cons (pv 0) (pa_cons (pv 1) (pa_cons (pv 2) pa_nil))))))))
        (fun a oe cls d pn hz hf => (pss_one (ps_ret (pe_lst (pa_cons (pe_xf T.xf T.no_refusal hz hf (pv 4)) pa_nil)))))))
theorem ok_answers (T : Txt K mg A) : FnOk P w K mg base CX0 13 A.f_answers A.fd_answers ["calls"] (sp_answers K A) := by
  refine T.F_answers.ok sc_answers (fun vs H Q E h => len_answers h) (fun cdv Ar outer s H vs Q E hr h => ⟨t_answers K A, ?_, pure_answers T vs H Q E h⟩)
  exact (pss_cons (ps_set (i := 1) sc_answers.nd rfl (Or.inl rfl) (pe_make0 T.mk_Desk (ok_d_init T) (hr.mono (by decide)) rfl T.gDesk T.b_d_init .nil pass0))
      (pss_cons (ps_set (i := 2) sc_answers.nd rfl (Or.inl rfl) (pe_lst pa_nil))
      (pss_cons (ps_set (i := 3) sc_answers.nd rfl (Or.inl rfl) pe_int)
      (pss_cons (ps_while PassesOwn.never (pt_cmpR op_lt (pv 3) (pe_callB call_len_seq rfl T.n_len bb_len (pa_cons (pv 0) pa_nil)) (nomark _)) (pss_cons (ps_set (i := 4) sc_answers.nd rfl (Or.inl rfl) (pe_ix ix_list (pv 0) (pv 3) (fun _ _ => rfl)))
      (pss_cons (ps_set (i := 5) sc_answers.nd rfl (Or.inl rfl) (pe_op op_add (pe_op op_add (pv 3) pe_int) (pe_ix ix_tup (pe_glob (v := .ref A.a_NUMBERS) rfl T.c_NUMBERS rfl) (pv 4) (fun _ _ => rfl))))
      (pss_cons (ps_set (i := 6) sc_answers.nd rfl (Or.inl rfl) (pe_slice sl_list (pv 0) (po_some (pe_op op_add (pv 3) pe_int)) (po_some (pv 5))))
      (pss_cons (ps_set (i := 7) sc_answers.nd rfl (Or.inl rfl) (pe_lst pa_nil))
      (pss_cons (ps_if (pt_cmpR op_eq (pv 4) (pe_glob (v := (.int 1)) rfl T.c_BEGIN ⟨_, rfl⟩) (nomark _)) (pss_cons (ps_asg (pe_call (ok_list_at T) (hr.mono (by decide)) rfl T.g_list_at T.F_list_at.kp T.b_list_at .nil pass0 (pa_cons (pv 0) (pa_cons (pv 5) pa_nil))) (pg_tup rfl (pgs_cons (pg_name (i := 8) sc_answers.nd rfl (Or.inl rfl)) (pgs_cons (pg_name (i := 5) sc_answers.nd rfl (Or.inl rfl)) pgs_nil))))
      (pss_cons (ps_asg (pe_call (ok_list_at T) (hr.mono (by decide)) rfl T.g_list_at T.F_list_at.kp T.b_list_at .nil pass0 (pa_cons (pv 0) (pa_cons (pv 5) pa_nil))) (pg_tup rfl (pgs_cons (pg_name (i := 9) sc_answers.nd rfl (Or.inl rfl)) (pgs_cons (pg_name (i := 5) sc_answers.nd rfl (Or.inl rfl)) pgs_nil))))
      (pss_one (ps_set (i := 7) sc_answers.nd rfl (Or.inl rfl) (pe_lst (pa_cons (pv 8) (pa_cons (pv 9) pa_nil))))))) pss_nil)
      (pss_cons (ps_set (i := 10) sc_answers.nd rfl (Or.inl rfl) (pe_call (ok_answer T) (hr.mono (by decide)) rfl T.g_answer T.F_answer.kp T.b_answer .nil pass0 (pa_cons (pv 1) (pa_cons (pv 4) (pa_cons (pv 6) (pa_cons (pv 7) pa_nil))))))
      (pss_cons (ps_expr (pe_bm PySem.F.plainAttrs_list PySem.F.slot_list_append PySem.F.type_list_append mt_append (pv 2) (pa_cons (pe_callB call_len_seq rfl T.n_len bb_len (pa_cons (pv 10) pa_nil)) pa_nil)))
      (pss_cons (ps_expr (pe_bm PySem.F.plainAttrs_list PySem.F.slot_list_extend PySem.F.type_list_extend mt_extend (pv 2) (pa_cons (pv 10) pa_nil)))
      (pss_one (ps_set (i := 3) sc_answers.nd rfl (Or.inl rfl) (pv 5))))))))))))
      (pss_one (ps_ret (pv 2)))))))
end
end L2

set_option Elab.async false
set_option linter.all false
set_option maxRecDepth 100000
set_option maxHeartbeats 4000000
namespace L2
open PySem PySem.Spec PyProof.Rows
/-- a def of the text stands at f -/
def FnAt (K : PySem.W.Frag) (x qual : Str) (st : Stmt) (f : Addr) : Prop := ∃ (oc : Value) (od : Option Addr) (kV doc pm : Value) (an : Option Addr) (cdv ct : Value) (osl : Array (Option Value)),
  K.lookup f = some ⟨oc, od, .func (PySem.W.fnOf x qual (defArgs st) (defBody st) (defScope st) .none kV doc pm an cdv ct), osl⟩ ∧ PySem.W.codeIn K cdv qual = true ∧ PySem.W.keepIn K (.ref f) = true
theorem FnAt.of {K : PySem.W.Frag} {x qual : Str} {st : Stmt} {f : Addr} {oc : Value} {od : Option Addr} {kV doc pm : Value} {an : Option Addr} {cdv ct : Value} {osl : Array (Option Value)}
    (l : K.lookup f = some ⟨oc, od, .func (PySem.W.fnOf x qual (defArgs st) (defBody st) (defScope st) .none kV doc pm an cdv ct), osl⟩) (c : PySem.W.codeIn K cdv qual = true) (k : PySem.W.keepIn K (.ref f) = true) : FnAt K x qual st f := ⟨oc, od, kV, doc, pm, an, cdv, ct, osl, l, c, k⟩
theorem FnAt.fn {K : PySem.W.Frag} {x qual : Str} {st : Stmt} {f : Addr} (h : FnAt K x qual st f) : ∃ fd, Fun K x qual st f fd := by
  obtain ⟨oc, od, kV, doc, pm, an, cdv, ct, osl, l, c, k⟩ := h
  exact ⟨_, fun_mk l c k⟩
theorem exm_self {K : PySem.W.Frag} {S : Addr} (h1 : PySem.W.subIn K (.ref S) (.type "BaseException") = some true) (h2 : PySem.W.isClsIn K S = true) (h3 : PySem.W.typeIn K (.ref S) = some (.type "type")) (h4 : PySem.W.subIn K (.ref S) (.ref S) = some true) :
    PySem.W.exmOne K (.ref S) (.ref S) = some true := by
  have e1 : (PySem.W.subIn K (.ref S) (.type "BaseException") == some true) = true := by rw [h1] <;> rfl
  have e2 : ((PySem.W.clsIn K S).isSome && PySem.W.typeIn K (.ref S) == some (.type "type")) = true := by
    have h2' : (PySem.W.clsIn K S).isSome = true := h2
    rw [h2', h3] <;> rfl
  show (if (PySem.W.subIn K (.ref S) (.type "BaseException") == some true) = true then (if ((PySem.W.clsIn K S).isSome && PySem.W.typeIn K (.ref S) == some (.type "type")) = true then PySem.W.subIn K (.ref S) (.ref S) else none) else none) = some true
  rw [if_pos e1, if_pos e2]
  exact h4
section
variable {K : PySem.W.Frag}
theorem bind_x_init {f : Addr} {fd : FuncData} (F : Fun K "__init__" "Refused.__init__" s_x_init f fd) : Binds K fd ["self", "refusal"] [] := F.binds fun _ _ _ _ _ _ us hl => match us, hl with | [_, _], _ => rfl
theorem bind_want {f : Addr} {fd : FuncData} (F : Fun K "want" "want" s_want f fd) : Binds K fd ["is_so", "refusal"] [] := F.binds fun _ _ _ _ _ _ us hl => match us, hl with | [_, _], _ => rfl
theorem bind_c_init {f : Addr} {fd : FuncData} (F : Fun K "__init__" "Car.__init__" s_c_init f fd) : Binds K fd ["self", "number", "team", "kind"] [] := F.binds fun _ _ _ _ _ _ us hl => match us, hl with | [_, _, _, _], _ => rfl
theorem bind_c_laps {f : Addr} {fd : FuncData} (F : Fun K "laps" "Car.laps" s_c_laps f fd) : Binds K fd ["self"] [] := F.binds fun _ _ _ _ _ _ us hl => match us, hl with | [_], _ => rfl
theorem bind_c_last_time {f : Addr} {fd : FuncData} (F : Fun K "last_time" "Car.last_time" s_c_last_time f fd) : Binds K fd ["self"] [] := F.binds fun _ _ _ _ _ _ us hl => match us, hl with | [_], _ => rfl
theorem bind_c_take_crossing {f : Addr} {fd : FuncData} (F : Fun K "take_crossing" "Car.take_crossing" s_c_take_crossing f fd) : Binds K fd ["self", "time"] [] := F.binds fun _ _ _ _ _ _ us hl => match us, hl with | [_, _], _ => rfl
theorem bind_c_take_tyres {f : Addr} {fd : FuncData} (F : Fun K "take_tyres" "Car.take_tyres" s_c_take_tyres f fd) : Binds K fd ["self", "kind"] [] := F.binds fun _ _ _ _ _ _ us hl => match us, hl with | [_, _], _ => rfl
theorem bind_c_pits {f : Addr} {fd : FuncData} (F : Fun K "pits" "Car.pits" s_c_pits f fd) : Binds K fd ["self"] [] := F.binds fun _ _ _ _ _ _ us hl => match us, hl with | [_], _ => rfl
theorem bind_c_has_one_kind {f : Addr} {fd : FuncData} (F : Fun K "has_one_kind" "Car.has_one_kind" s_c_has_one_kind f fd) : Binds K fd ["self"] [] := F.binds fun _ _ _ _ _ _ us hl => match us, hl with | [_], _ => rfl
theorem bind_c_take_sending {f : Addr} {fd : FuncData} (F : Fun K "take_sending" "Car.take_sending" s_c_take_sending f fd) : Binds K fd ["self"] [] := F.binds fun _ _ _ _ _ _ us hl => match us, hl with | [_], _ => rfl
theorem bind_c_go_through {f : Addr} {fd : FuncData} (F : Fun K "go_through" "Car.go_through" s_c_go_through f fd) : Binds K fd ["self"] [] := F.binds fun _ _ _ _ _ _ us hl => match us, hl with | [_], _ => rfl
theorem bind_c_ways {f : Addr} {fd : FuncData} (F : Fun K "ways" "Car.ways" s_c_ways f fd) : Binds K fd ["self"] [] := F.binds fun _ _ _ _ _ _ us hl => match us, hl with | [_], _ => rfl
theorem bind_c_add_seconds {f : Addr} {fd : FuncData} (F : Fun K "add_seconds" "Car.add_seconds" s_c_add_seconds f fd) : Binds K fd ["self", "seconds"] [] := F.binds fun _ _ _ _ _ _ us hl => match us, hl with | [_, _], _ => rfl
theorem bind_c_penalty {f : Addr} {fd : FuncData} (F : Fun K "penalty" "Car.penalty" s_c_penalty f fd) : Binds K fd ["self"] [] := F.binds fun _ _ _ _ _ _ us hl => match us, hl with | [_], _ => rfl
theorem bind_c_leave {f : Addr} {fd : FuncData} (F : Fun K "leave" "Car.leave" s_c_leave f fd) : Binds K fd ["self"] [] := F.binds fun _ _ _ _ _ _ us hl => match us, hl with | [_], _ => rfl
theorem bind_c_throw {f : Addr} {fd : FuncData} (F : Fun K "throw" "Car.throw" s_c_throw f fd) : Binds K fd ["self"] [] := F.binds fun _ _ _ _ _ _ us hl => match us, hl with | [_], _ => rfl
theorem bind_time_of_laps {f : Addr} {fd : FuncData} (F : Fun K "time_of_laps" "time_of_laps" s_time_of_laps f fd) : Binds K fd ["cars", "laps"] [] := F.binds fun _ _ _ _ _ _ us hl => match us, hl with | [_, _], _ => rfl
theorem bind_many_before {f : Addr} {fd : FuncData} (F : Fun K "many_before" "many_before" s_many_before f fd) : Binds K fd ["times", "fall"] [] := F.binds fun _ _ _ _ _ _ us hl => match us, hl with | [_, _], _ => rfl
theorem bind_r_init {f : Addr} {fd : FuncData} (F : Fun K "__init__" "Race.__init__" s_r_init f fd) : Binds K fd ["self", "many_laps", "is_wet", "teams", "kinds"] [] := F.binds fun _ _ _ _ _ _ us hl => match us, hl with | [_, _, _, _, _], _ => rfl
theorem bind_r_most_laps {f : Addr} {fd : FuncData} (F : Fun K "most_laps" "Race.most_laps" s_r_most_laps f fd) : Binds K fd ["self"] [] := F.binds fun _ _ _ _ _ _ us hl => match us, hl with | [_], _ => rfl
theorem bind_r_fall {f : Addr} {fd : FuncData} (F : Fun K "fall" "Race.fall" s_r_fall f fd) : Binds K fd ["self"] [] := F.binds fun _ _ _ _ _ _ us hl => match us, hl with | [_], _ => rfl
theorem bind_r_has_fallen {f : Addr} {fd : FuncData} (F : Fun K "has_fallen" "Race.has_fallen" s_r_has_fallen f fd) : Binds K fd ["self"] [] := F.binds fun _ _ _ _ _ _ us hl => match us, hl with | [_], _ => rfl
theorem bind_r_is_void {f : Addr} {fd : FuncData} (F : Fun K "is_void" "Race.is_void" s_r_is_void f fd) : Binds K fd ["self"] [] := F.binds fun _ _ _ _ _ _ us hl => match us, hl with | [_], _ => rfl
theorem bind_r_is_home {f : Addr} {fd : FuncData} (F : Fun K "is_home" "Race.is_home" s_r_is_home f fd) : Binds K fd ["self", "car"] [] := F.binds fun _ _ _ _ _ _ us hl => match us, hl with | [_, _], _ => rfl
theorem bind_r_counting {f : Addr} {fd : FuncData} (F : Fun K "counting" "Race.counting" s_r_counting f fd) : Binds K fd ["self", "car"] [] := F.binds fun _ _ _ _ _ _ us hl => match us, hl with | [_, _], _ => rfl
theorem bind_r_is_out {f : Addr} {fd : FuncData} (F : Fun K "is_out" "Race.is_out" s_r_is_out f fd) : Binds K fd ["self", "car"] [] := F.binds fun _ _ _ _ _ _ us hl => match us, hl with | [_, _], _ => rfl
theorem bind_r_take_crossing_of {f : Addr} {fd : FuncData} (F : Fun K "take_crossing_of" "Race.take_crossing_of" s_r_take_crossing_of f fd) : Binds K fd ["self", "car", "time"] [] := F.binds fun _ _ _ _ _ _ us hl => match us, hl with | [_, _, _], _ => rfl
theorem bind_r_be_stopped {f : Addr} {fd : FuncData} (F : Fun K "be_stopped" "Race.be_stopped" s_r_be_stopped f fd) : Binds K fd ["self"] [] := F.binds fun _ _ _ _ _ _ us hl => match us, hl with | [_], _ => rfl
theorem bind_time_with_penalties {f : Addr} {fd : FuncData} (F : Fun K "time_with_penalties" "time_with_penalties" s_time_with_penalties f fd) : Binds K fd ["race", "car"] [] := F.binds fun _ _ _ _ _ _ us hl => match us, hl with | [_, _], _ => rfl
theorem bind_best_lap {f : Addr} {fd : FuncData} (F : Fun K "best_lap" "best_lap" s_best_lap f fd) : Binds K fd ["race", "car"] [] := F.binds fun _ _ _ _ _ _ us hl => match us, hl with | [_, _], _ => rfl
theorem bind_ordered {f : Addr} {fd : FuncData} (F : Fun K "ordered" "ordered" s_ordered f fd) : Binds K fd ["race"] [] := F.binds fun _ _ _ _ _ _ us hl => match us, hl with | [_], _ => rfl
theorem bind_classed {f : Addr} {fd : FuncData} (F : Fun K "classed" "classed" s_classed f fd) : Binds K fd ["race"] [] := F.binds fun _ _ _ _ _ _ us hl => match us, hl with | [_], _ => rfl
theorem bind_level_of {f : Addr} {fd : FuncData} (F : Fun K "level_of" "level_of" s_level_of f fd) : Binds K fd ["race", "some"] [] := F.binds fun _ _ _ _ _ _ us hl => match us, hl with | [_, _], _ => rfl
theorem bind_fastest_number {f : Addr} {fd : FuncData} (F : Fun K "fastest_number" "fastest_number" s_fastest_number f fd) : Binds K fd ["race", "some"] [] := F.binds fun _ _ _ _ _ _ us hl => match us, hl with | [_, _], _ => rfl
theorem bind_points_by_places {f : Addr} {fd : FuncData} (F : Fun K "points_by_places" "points_by_places" s_points_by_places f fd) : Binds K fd ["level", "many"] [] := F.binds fun _ _ _ _ _ _ us hl => match us, hl with | [_, _], _ => rfl
theorem bind_halves_of {f : Addr} {fd : FuncData} (F : Fun K "halves_of" "halves_of" s_halves_of f fd) : Binds K fd ["race", "some"] [] := F.binds fun _ _ _ _ _ _ us hl => match us, hl with | [_, _], _ => rfl
theorem bind_teams_in_order {f : Addr} {fd : FuncData} (F : Fun K "teams_in_order" "teams_in_order" s_teams_in_order f fd) : Binds K fd ["race"] [] := F.binds fun _ _ _ _ _ _ us hl => match us, hl with | [_], _ => rfl
theorem bind_halves_of_team {f : Addr} {fd : FuncData} (F : Fun K "halves_of_team" "halves_of_team" s_halves_of_team f fd) : Binds K fd ["race", "team"] [] := F.binds fun _ _ _ _ _ _ us hl => match us, hl with | [_, _], _ => rfl
theorem bind_all_within {f : Addr} {fd : FuncData} (F : Fun K "all_within" "all_within" s_all_within f fd) : Binds K fd ["numbers", "low", "high"] [] := F.binds fun _ _ _ _ _ _ us hl => match us, hl with | [_, _, _], _ => rfl
theorem bind_d_init {f : Addr} {fd : FuncData} (F : Fun K "__init__" "Desk.__init__" s_d_init f fd) : Binds K fd ["self"] [] := F.binds fun _ _ _ _ _ _ us hl => match us, hl with | [_], _ => rfl
theorem bind_d_car_of {f : Addr} {fd : FuncData} (F : Fun K "car_of" "Desk.car_of" s_d_car_of f fd) : Binds K fd ["self", "number"] [] := F.binds fun _ _ _ _ _ _ us hl => match us, hl with | [_, _], _ => rfl
theorem bind_d_racing_car {f : Addr} {fd : FuncData} (F : Fun K "racing_car" "Desk.racing_car" s_d_racing_car f fd) : Binds K fd ["self", "number"] [] := F.binds fun _ _ _ _ _ _ us hl => match us, hl with | [_, _], _ => rfl
theorem bind_d_want_fallen {f : Addr} {fd : FuncData} (F : Fun K "want_fallen" "Desk.want_fallen" s_d_want_fallen f fd) : Binds K fd ["self"] [] := F.binds fun _ _ _ _ _ _ us hl => match us, hl with | [_], _ => rfl
theorem bind_d_begin {f : Addr} {fd : FuncData} (F : Fun K "begin" "Desk.begin" s_d_begin f fd) : Binds K fd ["self", "laps", "wet", "teams", "kinds"] [] := F.binds fun _ _ _ _ _ _ us hl => match us, hl with | [_, _, _, _, _], _ => rfl
theorem bind_d_cross {f : Addr} {fd : FuncData} (F : Fun K "cross" "Desk.cross" s_d_cross f fd) : Binds K fd ["self", "number", "time"] [] := F.binds fun _ _ _ _ _ _ us hl => match us, hl with | [_, _, _], _ => rfl
theorem bind_d_pit {f : Addr} {fd : FuncData} (F : Fun K "pit" "Desk.pit" s_d_pit f fd) : Binds K fd ["self", "number", "kind"] [] := F.binds fun _ _ _ _ _ _ us hl => match us, hl with | [_, _, _], _ => rfl
theorem bind_d_through {f : Addr} {fd : FuncData} (F : Fun K "through" "Desk.through" s_d_through f fd) : Binds K fd ["self", "number"] [] := F.binds fun _ _ _ _ _ _ us hl => match us, hl with | [_, _], _ => rfl
theorem bind_d_seconds {f : Addr} {fd : FuncData} (F : Fun K "seconds" "Desk.seconds" s_d_seconds f fd) : Binds K fd ["self", "number", "many"] [] := F.binds fun _ _ _ _ _ _ us hl => match us, hl with | [_, _, _], _ => rfl
theorem bind_d_send {f : Addr} {fd : FuncData} (F : Fun K "send" "Desk.send" s_d_send f fd) : Binds K fd ["self", "number"] [] := F.binds fun _ _ _ _ _ _ us hl => match us, hl with | [_, _], _ => rfl
theorem bind_d_leaving {f : Addr} {fd : FuncData} (F : Fun K "leaving" "Desk.leaving" s_d_leaving f fd) : Binds K fd ["self", "number"] [] := F.binds fun _ _ _ _ _ _ us hl => match us, hl with | [_, _], _ => rfl
theorem bind_d_throwing {f : Addr} {fd : FuncData} (F : Fun K "throwing" "Desk.throwing" s_d_throwing f fd) : Binds K fd ["self", "number"] [] := F.binds fun _ _ _ _ _ _ us hl => match us, hl with | [_, _], _ => rfl
theorem bind_d_stop {f : Addr} {fd : FuncData} (F : Fun K "stop" "Desk.stop" s_d_stop f fd) : Binds K fd ["self"] [] := F.binds fun _ _ _ _ _ _ us hl => match us, hl with | [_], _ => rfl
theorem bind_d_now {f : Addr} {fd : FuncData} (F : Fun K "now" "Desk.now" s_d_now f fd) : Binds K fd ["self"] [] := F.binds fun _ _ _ _ _ _ us hl => match us, hl with | [_], _ => rfl
theorem bind_d_card {f : Addr} {fd : FuncData} (F : Fun K "card" "Desk.card" s_d_card f fd) : Binds K fd ["self", "number"] [] := F.binds fun _ _ _ _ _ _ us hl => match us, hl with | [_, _], _ => rfl
theorem bind_d_result {f : Addr} {fd : FuncData} (F : Fun K "result" "Desk.result" s_d_result f fd) : Binds K fd ["self"] [] := F.binds fun _ _ _ _ _ _ us hl => match us, hl with | [_], _ => rfl
theorem bind_d_teams {f : Addr} {fd : FuncData} (F : Fun K "teams" "Desk.teams" s_d_teams f fd) : Binds K fd ["self"] [] := F.binds fun _ _ _ _ _ _ us hl => match us, hl with | [_], _ => rfl
theorem bind_list_at {f : Addr} {fd : FuncData} (F : Fun K "list_at" "list_at" s_list_at f fd) : Binds K fd ["calls", "at"] [] := F.binds fun _ _ _ _ _ _ us hl => match us, hl with | [_, _], _ => rfl
theorem bind_answer_with_car {f : Addr} {fd : FuncData} (F : Fun K "answer_with_car" "answer_with_car" s_answer_with_car f fd) : Binds K fd ["desk", "call", "n"] [] := F.binds fun _ _ _ _ _ _ us hl => match us, hl with | [_, _, _], _ => rfl
theorem bind_answer_without_lists {f : Addr} {fd : FuncData} (F : Fun K "answer_without_lists" "answer_without_lists" s_answer_without_lists f fd) : Binds K fd ["desk", "call", "n"] [] := F.binds fun _ _ _ _ _ _ us hl => match us, hl with | [_, _, _], _ => rfl
theorem bind_answer {f : Addr} {fd : FuncData} (F : Fun K "answer" "answer" s_answer f fd) : Binds K fd ["desk", "call", "n", "lists"] [] := F.binds fun _ _ _ _ _ _ us hl => match us, hl with | [_, _, _, _], _ => rfl
theorem bind_answers {f : Addr} {fd : FuncData} (F : Fun K "answers" "answers" s_answers f fd) : Binds K fd ["calls"] [] := F.binds fun _ _ _ _ _ _ us hl => match us, hl with | [_], _ => rfl
end
theorem all_mk {P : Program} {w : World} {K : PySem.W.Frag} {h : Heap} {mg : Str → Option Value} {fa : Addr} {cRefused cCar cRace cDesk f_x_init f_want f_c_init f_c_laps f_c_last_time f_c_take_crossing f_c_take_tyres f_c_pits f_c_has_one_kind f_c_take_sending f_c_go_through f_c_ways f_c_add_seconds f_c_penalty f_c_leave f_c_throw f_time_of_laps f_many_before f_r_init f_r_most_laps f_r_fall f_r_has_fallen f_r_is_void f_r_is_home f_r_counting f_r_is_out f_r_take_crossing_of f_r_be_stopped f_time_with_penalties f_best_lap f_ordered f_classed f_level_of f_fastest_number f_points_by_places f_halves_of f_teams_in_order f_halves_of_team f_all_within f_d_init f_d_car_of f_d_racing_car f_d_want_fallen f_d_begin f_d_cross f_d_pit f_d_through f_d_seconds f_d_send f_d_leaving f_d_throwing f_d_stop f_d_now f_d_card f_d_result f_d_teams f_list_at f_answer_with_car f_answer_without_lists f_answer f_answers a_POINTS a_NUMBERS : Addr} {t_LATE t_SECONDS_A_WAY t_THOUSANDTHS t_NONE t_HALF t_WHOLE t_HALVES_A_POINT u_POINTS_0 u_POINTS_1 u_POINTS_2 u_POINTS_3 u_POINTS_4 u_POINTS_5 u_POINTS_6 u_POINTS_7 u_POINTS_8 u_POINTS_9 t_OUT_OF_RANGE t_NO_RACE t_NOT_NOW t_NOT_SO t_MOST_LAPS t_MOST_CARS t_LAST_TEAM t_LAST_KIND t_LAST_TIME t_MOST_SECONDS t_BEGIN u_NUMBERS_0 u_NUMBERS_1 u_NUMBERS_2 u_NUMBERS_3 u_NUMBERS_4 u_NUMBERS_5 u_NUMBERS_6 u_NUMBERS_7 u_NUMBERS_8 u_NUMBERS_9 u_NUMBERS_10 u_NUMBERS_11 u_NUMBERS_12 u_NUMBERS_13 : Tok}
    {nm q : Str} {N : Addr} {bs : List Value} {sn : List Str} {sub : List Value} {ab : Bool} {col : Option Bool} {dd : Option Addr} {m0 m1 m2 m3 m5 : Option Value} {od_POINTS : Option Addr} {n_POINTS : Nat} {sl_POINTS : Array (Option Value)} {od_NUMBERS : Option Addr} {n_NUMBERS : Nat} {sl_NUMBERS : Array (Option Value)}
    (X : K.In h) (G : h.Ns mainGlobals mg) (hfa : mg "answers" = some (.ref fa))
    (a_Refused : PySem.W.nsIn K mainGlobals "Refused" = some (some (.ref cRefused)))
    (a_Car : PySem.W.nsIn K mainGlobals "Car" = some (some (.ref cCar)))
    (a_Race : PySem.W.nsIn K mainGlobals "Race" = some (some (.ref cRace)))
    (a_Desk : PySem.W.nsIn K mainGlobals "Desk" = some (some (.ref cDesk)))
    (a_x_init : PySem.W.findIn K (.ref cRefused) "__init__" = some (some (.ref f_x_init)))
    (i_x_init : PySem.W.isFn K (.ref f_x_init) = true)
    (F_x_init : FnAt K "__init__" "Refused.__init__" s_x_init f_x_init)
    (a_want : PySem.W.nsIn K mainGlobals "want" = some (some (.ref f_want)))
    (F_want : FnAt K "want" "want" s_want f_want)
    (a_c_init : PySem.W.findIn K (.ref cCar) "__init__" = some (some (.ref f_c_init)))
    (i_c_init : PySem.W.isFn K (.ref f_c_init) = true)
    (F_c_init : FnAt K "__init__" "Car.__init__" s_c_init f_c_init)
    (a_c_laps : PySem.W.findIn K (.ref cCar) "laps" = some (some (.ref f_c_laps)))
    (i_c_laps : PySem.W.isFn K (.ref f_c_laps) = true)
    (F_c_laps : FnAt K "laps" "Car.laps" s_c_laps f_c_laps)
    (a_c_last_time : PySem.W.findIn K (.ref cCar) "last_time" = some (some (.ref f_c_last_time)))
    (i_c_last_time : PySem.W.isFn K (.ref f_c_last_time) = true)
    (F_c_last_time : FnAt K "last_time" "Car.last_time" s_c_last_time f_c_last_time)
    (a_c_take_crossing : PySem.W.findIn K (.ref cCar) "take_crossing" = some (some (.ref f_c_take_crossing)))
    (i_c_take_crossing : PySem.W.isFn K (.ref f_c_take_crossing) = true)
    (F_c_take_crossing : FnAt K "take_crossing" "Car.take_crossing" s_c_take_crossing f_c_take_crossing)
    (a_c_take_tyres : PySem.W.findIn K (.ref cCar) "take_tyres" = some (some (.ref f_c_take_tyres)))
    (i_c_take_tyres : PySem.W.isFn K (.ref f_c_take_tyres) = true)
    (F_c_take_tyres : FnAt K "take_tyres" "Car.take_tyres" s_c_take_tyres f_c_take_tyres)
    (a_c_pits : PySem.W.findIn K (.ref cCar) "pits" = some (some (.ref f_c_pits)))
    (i_c_pits : PySem.W.isFn K (.ref f_c_pits) = true)
    (F_c_pits : FnAt K "pits" "Car.pits" s_c_pits f_c_pits)
    (a_c_has_one_kind : PySem.W.findIn K (.ref cCar) "has_one_kind" = some (some (.ref f_c_has_one_kind)))
    (i_c_has_one_kind : PySem.W.isFn K (.ref f_c_has_one_kind) = true)
    (F_c_has_one_kind : FnAt K "has_one_kind" "Car.has_one_kind" s_c_has_one_kind f_c_has_one_kind)
    (a_c_take_sending : PySem.W.findIn K (.ref cCar) "take_sending" = some (some (.ref f_c_take_sending)))
    (i_c_take_sending : PySem.W.isFn K (.ref f_c_take_sending) = true)
    (F_c_take_sending : FnAt K "take_sending" "Car.take_sending" s_c_take_sending f_c_take_sending)
    (a_c_go_through : PySem.W.findIn K (.ref cCar) "go_through" = some (some (.ref f_c_go_through)))
    (i_c_go_through : PySem.W.isFn K (.ref f_c_go_through) = true)
    (F_c_go_through : FnAt K "go_through" "Car.go_through" s_c_go_through f_c_go_through)
    (a_c_ways : PySem.W.findIn K (.ref cCar) "ways" = some (some (.ref f_c_ways)))
    (i_c_ways : PySem.W.isFn K (.ref f_c_ways) = true)
    (F_c_ways : FnAt K "ways" "Car.ways" s_c_ways f_c_ways)
    (a_c_add_seconds : PySem.W.findIn K (.ref cCar) "add_seconds" = some (some (.ref f_c_add_seconds)))
    (i_c_add_seconds : PySem.W.isFn K (.ref f_c_add_seconds) = true)
    (F_c_add_seconds : FnAt K "add_seconds" "Car.add_seconds" s_c_add_seconds f_c_add_seconds)
    (a_c_penalty : PySem.W.findIn K (.ref cCar) "penalty" = some (some (.ref f_c_penalty)))
    (i_c_penalty : PySem.W.isFn K (.ref f_c_penalty) = true)
    (F_c_penalty : FnAt K "penalty" "Car.penalty" s_c_penalty f_c_penalty)
    (a_c_leave : PySem.W.findIn K (.ref cCar) "leave" = some (some (.ref f_c_leave)))
    (i_c_leave : PySem.W.isFn K (.ref f_c_leave) = true)
    (F_c_leave : FnAt K "leave" "Car.leave" s_c_leave f_c_leave)
    (a_c_throw : PySem.W.findIn K (.ref cCar) "throw" = some (some (.ref f_c_throw)))
    (i_c_throw : PySem.W.isFn K (.ref f_c_throw) = true)
    (F_c_throw : FnAt K "throw" "Car.throw" s_c_throw f_c_throw)
    (a_time_of_laps : PySem.W.nsIn K mainGlobals "time_of_laps" = some (some (.ref f_time_of_laps)))
    (F_time_of_laps : FnAt K "time_of_laps" "time_of_laps" s_time_of_laps f_time_of_laps)
    (a_many_before : PySem.W.nsIn K mainGlobals "many_before" = some (some (.ref f_many_before)))
    (F_many_before : FnAt K "many_before" "many_before" s_many_before f_many_before)
    (a_r_init : PySem.W.findIn K (.ref cRace) "__init__" = some (some (.ref f_r_init)))
    (i_r_init : PySem.W.isFn K (.ref f_r_init) = true)
    (F_r_init : FnAt K "__init__" "Race.__init__" s_r_init f_r_init)
    (a_r_most_laps : PySem.W.findIn K (.ref cRace) "most_laps" = some (some (.ref f_r_most_laps)))
    (i_r_most_laps : PySem.W.isFn K (.ref f_r_most_laps) = true)
    (F_r_most_laps : FnAt K "most_laps" "Race.most_laps" s_r_most_laps f_r_most_laps)
    (a_r_fall : PySem.W.findIn K (.ref cRace) "fall" = some (some (.ref f_r_fall)))
    (i_r_fall : PySem.W.isFn K (.ref f_r_fall) = true)
    (F_r_fall : FnAt K "fall" "Race.fall" s_r_fall f_r_fall)
    (a_r_has_fallen : PySem.W.findIn K (.ref cRace) "has_fallen" = some (some (.ref f_r_has_fallen)))
    (i_r_has_fallen : PySem.W.isFn K (.ref f_r_has_fallen) = true)
    (F_r_has_fallen : FnAt K "has_fallen" "Race.has_fallen" s_r_has_fallen f_r_has_fallen)
    (a_r_is_void : PySem.W.findIn K (.ref cRace) "is_void" = some (some (.ref f_r_is_void)))
    (i_r_is_void : PySem.W.isFn K (.ref f_r_is_void) = true)
    (F_r_is_void : FnAt K "is_void" "Race.is_void" s_r_is_void f_r_is_void)
    (a_r_is_home : PySem.W.findIn K (.ref cRace) "is_home" = some (some (.ref f_r_is_home)))
    (i_r_is_home : PySem.W.isFn K (.ref f_r_is_home) = true)
    (F_r_is_home : FnAt K "is_home" "Race.is_home" s_r_is_home f_r_is_home)
    (a_r_counting : PySem.W.findIn K (.ref cRace) "counting" = some (some (.ref f_r_counting)))
    (i_r_counting : PySem.W.isFn K (.ref f_r_counting) = true)
    (F_r_counting : FnAt K "counting" "Race.counting" s_r_counting f_r_counting)
    (a_r_is_out : PySem.W.findIn K (.ref cRace) "is_out" = some (some (.ref f_r_is_out)))
    (i_r_is_out : PySem.W.isFn K (.ref f_r_is_out) = true)
    (F_r_is_out : FnAt K "is_out" "Race.is_out" s_r_is_out f_r_is_out)
    (a_r_take_crossing_of : PySem.W.findIn K (.ref cRace) "take_crossing_of" = some (some (.ref f_r_take_crossing_of)))
    (i_r_take_crossing_of : PySem.W.isFn K (.ref f_r_take_crossing_of) = true)
    (F_r_take_crossing_of : FnAt K "take_crossing_of" "Race.take_crossing_of" s_r_take_crossing_of f_r_take_crossing_of)
    (a_r_be_stopped : PySem.W.findIn K (.ref cRace) "be_stopped" = some (some (.ref f_r_be_stopped)))
    (i_r_be_stopped : PySem.W.isFn K (.ref f_r_be_stopped) = true)
    (F_r_be_stopped : FnAt K "be_stopped" "Race.be_stopped" s_r_be_stopped f_r_be_stopped)
    (a_time_with_penalties : PySem.W.nsIn K mainGlobals "time_with_penalties" = some (some (.ref f_time_with_penalties)))
    (F_time_with_penalties : FnAt K "time_with_penalties" "time_with_penalties" s_time_with_penalties f_time_with_penalties)
    (a_best_lap : PySem.W.nsIn K mainGlobals "best_lap" = some (some (.ref f_best_lap)))
    (F_best_lap : FnAt K "best_lap" "best_lap" s_best_lap f_best_lap)
    (a_ordered : PySem.W.nsIn K mainGlobals "ordered" = some (some (.ref f_ordered)))
    (F_ordered : FnAt K "ordered" "ordered" s_ordered f_ordered)
    (a_classed : PySem.W.nsIn K mainGlobals "classed" = some (some (.ref f_classed)))
    (F_classed : FnAt K "classed" "classed" s_classed f_classed)
    (a_level_of : PySem.W.nsIn K mainGlobals "level_of" = some (some (.ref f_level_of)))
    (F_level_of : FnAt K "level_of" "level_of" s_level_of f_level_of)
    (a_fastest_number : PySem.W.nsIn K mainGlobals "fastest_number" = some (some (.ref f_fastest_number)))
    (F_fastest_number : FnAt K "fastest_number" "fastest_number" s_fastest_number f_fastest_number)
    (a_points_by_places : PySem.W.nsIn K mainGlobals "points_by_places" = some (some (.ref f_points_by_places)))
    (F_points_by_places : FnAt K "points_by_places" "points_by_places" s_points_by_places f_points_by_places)
    (a_halves_of : PySem.W.nsIn K mainGlobals "halves_of" = some (some (.ref f_halves_of)))
    (F_halves_of : FnAt K "halves_of" "halves_of" s_halves_of f_halves_of)
    (a_teams_in_order : PySem.W.nsIn K mainGlobals "teams_in_order" = some (some (.ref f_teams_in_order)))
    (F_teams_in_order : FnAt K "teams_in_order" "teams_in_order" s_teams_in_order f_teams_in_order)
    (a_halves_of_team : PySem.W.nsIn K mainGlobals "halves_of_team" = some (some (.ref f_halves_of_team)))
    (F_halves_of_team : FnAt K "halves_of_team" "halves_of_team" s_halves_of_team f_halves_of_team)
    (a_all_within : PySem.W.nsIn K mainGlobals "all_within" = some (some (.ref f_all_within)))
    (F_all_within : FnAt K "all_within" "all_within" s_all_within f_all_within)
    (a_d_init : PySem.W.findIn K (.ref cDesk) "__init__" = some (some (.ref f_d_init)))
    (i_d_init : PySem.W.isFn K (.ref f_d_init) = true)
    (F_d_init : FnAt K "__init__" "Desk.__init__" s_d_init f_d_init)
    (a_d_car_of : PySem.W.findIn K (.ref cDesk) "car_of" = some (some (.ref f_d_car_of)))
    (i_d_car_of : PySem.W.isFn K (.ref f_d_car_of) = true)
    (F_d_car_of : FnAt K "car_of" "Desk.car_of" s_d_car_of f_d_car_of)
    (a_d_racing_car : PySem.W.findIn K (.ref cDesk) "racing_car" = some (some (.ref f_d_racing_car)))
    (i_d_racing_car : PySem.W.isFn K (.ref f_d_racing_car) = true)
    (F_d_racing_car : FnAt K "racing_car" "Desk.racing_car" s_d_racing_car f_d_racing_car)
    (a_d_want_fallen : PySem.W.findIn K (.ref cDesk) "want_fallen" = some (some (.ref f_d_want_fallen)))
    (i_d_want_fallen : PySem.W.isFn K (.ref f_d_want_fallen) = true)
    (F_d_want_fallen : FnAt K "want_fallen" "Desk.want_fallen" s_d_want_fallen f_d_want_fallen)
    (a_d_begin : PySem.W.findIn K (.ref cDesk) "begin" = some (some (.ref f_d_begin)))
    (i_d_begin : PySem.W.isFn K (.ref f_d_begin) = true)
    (F_d_begin : FnAt K "begin" "Desk.begin" s_d_begin f_d_begin)
    (a_d_cross : PySem.W.findIn K (.ref cDesk) "cross" = some (some (.ref f_d_cross)))
    (i_d_cross : PySem.W.isFn K (.ref f_d_cross) = true)
    (F_d_cross : FnAt K "cross" "Desk.cross" s_d_cross f_d_cross)
    (a_d_pit : PySem.W.findIn K (.ref cDesk) "pit" = some (some (.ref f_d_pit)))
    (i_d_pit : PySem.W.isFn K (.ref f_d_pit) = true)
    (F_d_pit : FnAt K "pit" "Desk.pit" s_d_pit f_d_pit)
    (a_d_through : PySem.W.findIn K (.ref cDesk) "through" = some (some (.ref f_d_through)))
    (i_d_through : PySem.W.isFn K (.ref f_d_through) = true)
    (F_d_through : FnAt K "through" "Desk.through" s_d_through f_d_through)
    (a_d_seconds : PySem.W.findIn K (.ref cDesk) "seconds" = some (some (.ref f_d_seconds)))
    (i_d_seconds : PySem.W.isFn K (.ref f_d_seconds) = true)
    (F_d_seconds : FnAt K "seconds" "Desk.seconds" s_d_seconds f_d_seconds)
    (a_d_send : PySem.W.findIn K (.ref cDesk) "send" = some (some (.ref f_d_send)))
    (i_d_send : PySem.W.isFn K (.ref f_d_send) = true)
    (F_d_send : FnAt K "send" "Desk.send" s_d_send f_d_send)
    (a_d_leaving : PySem.W.findIn K (.ref cDesk) "leaving" = some (some (.ref f_d_leaving)))
    (i_d_leaving : PySem.W.isFn K (.ref f_d_leaving) = true)
    (F_d_leaving : FnAt K "leaving" "Desk.leaving" s_d_leaving f_d_leaving)
    (a_d_throwing : PySem.W.findIn K (.ref cDesk) "throwing" = some (some (.ref f_d_throwing)))
    (i_d_throwing : PySem.W.isFn K (.ref f_d_throwing) = true)
    (F_d_throwing : FnAt K "throwing" "Desk.throwing" s_d_throwing f_d_throwing)
    (a_d_stop : PySem.W.findIn K (.ref cDesk) "stop" = some (some (.ref f_d_stop)))
    (i_d_stop : PySem.W.isFn K (.ref f_d_stop) = true)
    (F_d_stop : FnAt K "stop" "Desk.stop" s_d_stop f_d_stop)
    (a_d_now : PySem.W.findIn K (.ref cDesk) "now" = some (some (.ref f_d_now)))
    (i_d_now : PySem.W.isFn K (.ref f_d_now) = true)
    (F_d_now : FnAt K "now" "Desk.now" s_d_now f_d_now)
    (a_d_card : PySem.W.findIn K (.ref cDesk) "card" = some (some (.ref f_d_card)))
    (i_d_card : PySem.W.isFn K (.ref f_d_card) = true)
    (F_d_card : FnAt K "card" "Desk.card" s_d_card f_d_card)
    (a_d_result : PySem.W.findIn K (.ref cDesk) "result" = some (some (.ref f_d_result)))
    (i_d_result : PySem.W.isFn K (.ref f_d_result) = true)
    (F_d_result : FnAt K "result" "Desk.result" s_d_result f_d_result)
    (a_d_teams : PySem.W.findIn K (.ref cDesk) "teams" = some (some (.ref f_d_teams)))
    (i_d_teams : PySem.W.isFn K (.ref f_d_teams) = true)
    (F_d_teams : FnAt K "teams" "Desk.teams" s_d_teams f_d_teams)
    (a_list_at : PySem.W.nsIn K mainGlobals "list_at" = some (some (.ref f_list_at)))
    (F_list_at : FnAt K "list_at" "list_at" s_list_at f_list_at)
    (a_answer_with_car : PySem.W.nsIn K mainGlobals "answer_with_car" = some (some (.ref f_answer_with_car)))
    (F_answer_with_car : FnAt K "answer_with_car" "answer_with_car" s_answer_with_car f_answer_with_car)
    (a_answer_without_lists : PySem.W.nsIn K mainGlobals "answer_without_lists" = some (some (.ref f_answer_without_lists)))
    (F_answer_without_lists : FnAt K "answer_without_lists" "answer_without_lists" s_answer_without_lists f_answer_without_lists)
    (a_answer : PySem.W.nsIn K mainGlobals "answer" = some (some (.ref f_answer)))
    (F_answer : FnAt K "answer" "answer" s_answer f_answer)
    (a_answers : PySem.W.nsIn K mainGlobals "answers" = some (some (.ref f_answers)))
    (F_answers : FnAt K "answers" "answers" s_answers f_answers)
    (pg_Car : PySem.W.plainGet K cCar Str.empty = true)
    (hd_Car : PySem.W.hasDictIn K cCar = true)
    (po_Car : PySem.W.plainOver K cCar = true)
    (sa_Car : PySem.W.findIn K (.ref cCar) "__setattr__" = some (some (.builtin "object.__setattr__")))
    (mk_Car : PySem.W.makesIn K cCar = true)
    (kc_Car : PySem.W.keepIn K (.ref cCar) = true)
    (na_Car_number : PySem.W.findIn K (.ref cCar) "number" = some none)
    (na_Car_team : PySem.W.findIn K (.ref cCar) "team" = some none)
    (na_Car_kinds : PySem.W.findIn K (.ref cCar) "kinds" = some none)
    (na_Car_times : PySem.W.findIn K (.ref cCar) "times" = some none)
    (na_Car_sent : PySem.W.findIn K (.ref cCar) "sent" = some none)
    (na_Car_is_late : PySem.W.findIn K (.ref cCar) "is_late" = some none)
    (na_Car_added : PySem.W.findIn K (.ref cCar) "added" = some none)
    (na_Car_has_left : PySem.W.findIn K (.ref cCar) "has_left" = some none)
    (na_Car_is_thrown : PySem.W.findIn K (.ref cCar) "is_thrown" = some none)
    (pg_Race : PySem.W.plainGet K cRace Str.empty = true)
    (hd_Race : PySem.W.hasDictIn K cRace = true)
    (po_Race : PySem.W.plainOver K cRace = true)
    (sa_Race : PySem.W.findIn K (.ref cRace) "__setattr__" = some (some (.builtin "object.__setattr__")))
    (mk_Race : PySem.W.makesIn K cRace = true)
    (kc_Race : PySem.W.keepIn K (.ref cRace) = true)
    (na_Race_many_laps : PySem.W.findIn K (.ref cRace) "many_laps" = some none)
    (na_Race_is_wet : PySem.W.findIn K (.ref cRace) "is_wet" = some none)
    (na_Race_cars : PySem.W.findIn K (.ref cRace) "cars" = some none)
    (na_Race_last_told : PySem.W.findIn K (.ref cRace) "last_told" = some none)
    (na_Race_counted_for : PySem.W.findIn K (.ref cRace) "counted_for" = some none)
    (pg_Desk : PySem.W.plainGet K cDesk Str.empty = true)
    (hd_Desk : PySem.W.hasDictIn K cDesk = true)
    (po_Desk : PySem.W.plainOver K cDesk = true)
    (sa_Desk : PySem.W.findIn K (.ref cDesk) "__setattr__" = some (some (.builtin "object.__setattr__")))
    (mk_Desk : PySem.W.makesIn K cDesk = true)
    (kc_Desk : PySem.W.keepIn K (.ref cDesk) = true)
    (na_Desk_race : PySem.W.findIn K (.ref cDesk) "race" = some none)
    (xL : K.lookup cRefused = some (excClassObj nm q cRefused N bs [.type "ValueError", .type "Exception", .type "BaseException", .type "object"] true sn sub ab col dd m0 m1 m2 m3 m5 "ValueError.__new__"))
    (xsa : PySem.W.findIn K (.ref cRefused) "__setattr__" = some (some (.builtin "object.__setattr__")))
    (xga : PySem.W.findIn K (.ref cRefused) "__getattribute__" = some (some (.builtin "BaseException.__getattribute__")))
    (xgg : PySem.W.findIn K (.ref cRefused) "__getattr__" = some none)
    (xnb : PySem.W.findIn K (.ref cRefused) "refusal" = some none)
    (xt1 : PySem.W.typeIn K (.ref f_x_init) = some (.type "function"))
    (xkC : PySem.W.keepIn K (.ref cRefused) = true)
    (xeC : PySem.W.subIn K (.ref cRefused) (.type "BaseException") = some true)
    (xtC : PySem.W.typeIn K (.ref cRefused) = some (.type "type"))
    (xhC : PySem.W.hasDictIn K cRefused = true)
    (xiC : PySem.W.isClsIn K cRefused = true)
    (xsC : PySem.W.subIn K (.ref cRefused) (.ref cRefused) = some true)
    (xvV : PySem.W.findCls K (.type "ValueError") (.type "type") "__init__" = some (.val (.builtin "ValueError.__init__")))
    (n_len : PySem.W.nsIn K mainGlobals "len" = some none)
    (n_min : PySem.W.nsIn K mainGlobals "min" = some none)
    (n_max : PySem.W.nsIn K mainGlobals "max" = some none)
    (n_all : PySem.W.nsIn K mainGlobals "all" = some none)
    (n_sum : PySem.W.nsIn K mainGlobals "sum" = some none)
    (n_sorted : PySem.W.nsIn K mainGlobals "sorted" = some none)
    (n_int : PySem.W.nsIn K mainGlobals "int" = some none)
    (n_enumerate : PySem.W.nsIn K mainGlobals "enumerate" = some none)
    (n_zip : PySem.W.nsIn K mainGlobals "zip" = some none)
    (n_ValueError : PySem.W.nsIn K mainGlobals "ValueError" = some none)
    (k_LATE : PySem.W.nsIn K mainGlobals "LATE" = some (some (.int 4 t_LATE)))
    (k_SECONDS_A_WAY : PySem.W.nsIn K mainGlobals "SECONDS_A_WAY" = some (some (.int 20 t_SECONDS_A_WAY)))
    (k_THOUSANDTHS : PySem.W.nsIn K mainGlobals "THOUSANDTHS" = some (some (.int 1000 t_THOUSANDTHS)))
    (k_NONE : PySem.W.nsIn K mainGlobals "NONE" = some (some (.int 0 t_NONE)))
    (k_HALF : PySem.W.nsIn K mainGlobals "HALF" = some (some (.int 1 t_HALF)))
    (k_WHOLE : PySem.W.nsIn K mainGlobals "WHOLE" = some (some (.int 2 t_WHOLE)))
    (k_HALVES_A_POINT : PySem.W.nsIn K mainGlobals "HALVES_A_POINT" = some (some (.int 2 t_HALVES_A_POINT)))
    (k_POINTS : PySem.W.nsIn K mainGlobals "POINTS" = some (some (.ref a_POINTS)))
    (l_POINTS : K.lookup a_POINTS = some ⟨.type "tuple", od_POINTS, .seq #[.int 25 u_POINTS_0, .int 18 u_POINTS_1, .int 15 u_POINTS_2, .int 12 u_POINTS_3, .int 10 u_POINTS_4, .int 8 u_POINTS_5, .int 6 u_POINTS_6, .int 4 u_POINTS_7, .int 2 u_POINTS_8, .int 1 u_POINTS_9] n_POINTS, sl_POINTS⟩)
    (k_OUT_OF_RANGE : PySem.W.nsIn K mainGlobals "OUT_OF_RANGE" = some (some (.int (-1) t_OUT_OF_RANGE)))
    (k_NO_RACE : PySem.W.nsIn K mainGlobals "NO_RACE" = some (some (.int (-2) t_NO_RACE)))
    (k_NOT_NOW : PySem.W.nsIn K mainGlobals "NOT_NOW" = some (some (.int (-4) t_NOT_NOW)))
    (k_NOT_SO : PySem.W.nsIn K mainGlobals "NOT_SO" = some (some (.int (-5) t_NOT_SO)))
    (k_MOST_LAPS : PySem.W.nsIn K mainGlobals "MOST_LAPS" = some (some (.int 100 t_MOST_LAPS)))
    (k_MOST_CARS : PySem.W.nsIn K mainGlobals "MOST_CARS" = some (some (.int 26 t_MOST_CARS)))
    (k_LAST_TEAM : PySem.W.nsIn K mainGlobals "LAST_TEAM" = some (some (.int 20 t_LAST_TEAM)))
    (k_LAST_KIND : PySem.W.nsIn K mainGlobals "LAST_KIND" = some (some (.int 4 t_LAST_KIND)))
    (k_LAST_TIME : PySem.W.nsIn K mainGlobals "LAST_TIME" = some (some (.int 100000000 t_LAST_TIME)))
    (k_MOST_SECONDS : PySem.W.nsIn K mainGlobals "MOST_SECONDS" = some (some (.int 60 t_MOST_SECONDS)))
    (k_BEGIN : PySem.W.nsIn K mainGlobals "BEGIN" = some (some (.int 1 t_BEGIN)))
    (k_NUMBERS : PySem.W.nsIn K mainGlobals "NUMBERS" = some (some (.ref a_NUMBERS)))
    (l_NUMBERS : K.lookup a_NUMBERS = some ⟨.type "tuple", od_NUMBERS, .seq #[.int 0 u_NUMBERS_0, .int 2 u_NUMBERS_1, .int 2 u_NUMBERS_2, .int 2 u_NUMBERS_3, .int 1 u_NUMBERS_4, .int 2 u_NUMBERS_5, .int 1 u_NUMBERS_6, .int 1 u_NUMBERS_7, .int 1 u_NUMBERS_8, .int 0 u_NUMBERS_9, .int 0 u_NUMBERS_10, .int 1 u_NUMBERS_11, .int 0 u_NUMBERS_12, .int 0 u_NUMBERS_13] n_NUMBERS, sl_NUMBERS⟩)
    : ∃ fd : FuncData, (∀ (s : Shared) (us : List Value), us.length = (["calls"] : List Str).length → BindsTo s fd ⟨us, []⟩ ((["calls"] : List Str).zip us)) ∧ ∀ base : Heap, K.In base → base.Ns mainGlobals mg → FnOk P w K mg base CX0 13 fa fd ["calls"] (sp_answers0 K) := by
  have e := hfa.symm.trans (PySem.W.mg_of X G a_answers)
  cases e
  obtain ⟨fd_x_init, G_x_init⟩ := F_x_init.fn
  obtain ⟨fd_want, G_want⟩ := F_want.fn
  obtain ⟨fd_c_init, G_c_init⟩ := F_c_init.fn
  obtain ⟨fd_c_laps, G_c_laps⟩ := F_c_laps.fn
  obtain ⟨fd_c_last_time, G_c_last_time⟩ := F_c_last_time.fn
  obtain ⟨fd_c_take_crossing, G_c_take_crossing⟩ := F_c_take_crossing.fn
  obtain ⟨fd_c_take_tyres, G_c_take_tyres⟩ := F_c_take_tyres.fn
  obtain ⟨fd_c_pits, G_c_pits⟩ := F_c_pits.fn
  obtain ⟨fd_c_has_one_kind, G_c_has_one_kind⟩ := F_c_has_one_kind.fn
  obtain ⟨fd_c_take_sending, G_c_take_sending⟩ := F_c_take_sending.fn
  obtain ⟨fd_c_go_through, G_c_go_through⟩ := F_c_go_through.fn
  obtain ⟨fd_c_ways, G_c_ways⟩ := F_c_ways.fn
  obtain ⟨fd_c_add_seconds, G_c_add_seconds⟩ := F_c_add_seconds.fn
  obtain ⟨fd_c_penalty, G_c_penalty⟩ := F_c_penalty.fn
  obtain ⟨fd_c_leave, G_c_leave⟩ := F_c_leave.fn
  obtain ⟨fd_c_throw, G_c_throw⟩ := F_c_throw.fn
  obtain ⟨fd_time_of_laps, G_time_of_laps⟩ := F_time_of_laps.fn
  obtain ⟨fd_many_before, G_many_before⟩ := F_many_before.fn
  obtain ⟨fd_r_init, G_r_init⟩ := F_r_init.fn
  obtain ⟨fd_r_most_laps, G_r_most_laps⟩ := F_r_most_laps.fn
  obtain ⟨fd_r_fall, G_r_fall⟩ := F_r_fall.fn
  obtain ⟨fd_r_has_fallen, G_r_has_fallen⟩ := F_r_has_fallen.fn
  obtain ⟨fd_r_is_void, G_r_is_void⟩ := F_r_is_void.fn
  obtain ⟨fd_r_is_home, G_r_is_home⟩ := F_r_is_home.fn
  obtain ⟨fd_r_counting, G_r_counting⟩ := F_r_counting.fn
  obtain ⟨fd_r_is_out, G_r_is_out⟩ := F_r_is_out.fn
  obtain ⟨fd_r_take_crossing_of, G_r_take_crossing_of⟩ := F_r_take_crossing_of.fn
  obtain ⟨fd_r_be_stopped, G_r_be_stopped⟩ := F_r_be_stopped.fn
  obtain ⟨fd_time_with_penalties, G_time_with_penalties⟩ := F_time_with_penalties.fn
  obtain ⟨fd_best_lap, G_best_lap⟩ := F_best_lap.fn
  obtain ⟨fd_ordered, G_ordered⟩ := F_ordered.fn
  obtain ⟨fd_classed, G_classed⟩ := F_classed.fn
  obtain ⟨fd_level_of, G_level_of⟩ := F_level_of.fn
  obtain ⟨fd_fastest_number, G_fastest_number⟩ := F_fastest_number.fn
  obtain ⟨fd_points_by_places, G_points_by_places⟩ := F_points_by_places.fn
  obtain ⟨fd_halves_of, G_halves_of⟩ := F_halves_of.fn
  obtain ⟨fd_teams_in_order, G_teams_in_order⟩ := F_teams_in_order.fn
  obtain ⟨fd_halves_of_team, G_halves_of_team⟩ := F_halves_of_team.fn
  obtain ⟨fd_all_within, G_all_within⟩ := F_all_within.fn
  obtain ⟨fd_d_init, G_d_init⟩ := F_d_init.fn
  obtain ⟨fd_d_car_of, G_d_car_of⟩ := F_d_car_of.fn
  obtain ⟨fd_d_racing_car, G_d_racing_car⟩ := F_d_racing_car.fn
  obtain ⟨fd_d_want_fallen, G_d_want_fallen⟩ := F_d_want_fallen.fn
  obtain ⟨fd_d_begin, G_d_begin⟩ := F_d_begin.fn
  obtain ⟨fd_d_cross, G_d_cross⟩ := F_d_cross.fn
  obtain ⟨fd_d_pit, G_d_pit⟩ := F_d_pit.fn
  obtain ⟨fd_d_through, G_d_through⟩ := F_d_through.fn
  obtain ⟨fd_d_seconds, G_d_seconds⟩ := F_d_seconds.fn
  obtain ⟨fd_d_send, G_d_send⟩ := F_d_send.fn
  obtain ⟨fd_d_leaving, G_d_leaving⟩ := F_d_leaving.fn
  obtain ⟨fd_d_throwing, G_d_throwing⟩ := F_d_throwing.fn
  obtain ⟨fd_d_stop, G_d_stop⟩ := F_d_stop.fn
  obtain ⟨fd_d_now, G_d_now⟩ := F_d_now.fn
  obtain ⟨fd_d_card, G_d_card⟩ := F_d_card.fn
  obtain ⟨fd_d_result, G_d_result⟩ := F_d_result.fn
  obtain ⟨fd_d_teams, G_d_teams⟩ := F_d_teams.fn
  obtain ⟨fd_list_at, G_list_at⟩ := F_list_at.fn
  obtain ⟨fd_answer_with_car, G_answer_with_car⟩ := F_answer_with_car.fn
  obtain ⟨fd_answer_without_lists, G_answer_without_lists⟩ := F_answer_without_lists.fn
  obtain ⟨fd_answer, G_answer⟩ := F_answer.fn
  obtain ⟨oc, od, kV, doc, pm, an, cdv, ct, osl, la, ca, ka⟩ := F_answers
  have G_answers := fun_mk (st := s_answers) la ca ka
  have T : Txt K mg {
    f_x_init := f_x_init, fd_x_init := fd_x_init, f_want := f_want, fd_want := fd_want, f_c_init := f_c_init, fd_c_init := fd_c_init, f_c_laps := f_c_laps, fd_c_laps := fd_c_laps, f_c_last_time := f_c_last_time, fd_c_last_time := fd_c_last_time, f_c_take_crossing := f_c_take_crossing, fd_c_take_crossing := fd_c_take_crossing, f_c_take_tyres := f_c_take_tyres, fd_c_take_tyres := fd_c_take_tyres, f_c_pits := f_c_pits, fd_c_pits := fd_c_pits, f_c_has_one_kind := f_c_has_one_kind, fd_c_has_one_kind := fd_c_has_one_kind, f_c_take_sending := f_c_take_sending, fd_c_take_sending := fd_c_take_sending, f_c_go_through := f_c_go_through, fd_c_go_through := fd_c_go_through, f_c_ways := f_c_ways, fd_c_ways := fd_c_ways, f_c_add_seconds := f_c_add_seconds, fd_c_add_seconds := fd_c_add_seconds, f_c_penalty := f_c_penalty, fd_c_penalty := fd_c_penalty, f_c_leave := f_c_leave, fd_c_leave := fd_c_leave, f_c_throw := f_c_throw, fd_c_throw := fd_c_throw, f_time_of_laps := f_time_of_laps, fd_time_of_laps := fd_time_of_laps, f_many_before := f_many_before, fd_many_before := fd_many_before, f_r_init := f_r_init, fd_r_init := fd_r_init, f_r_most_laps := f_r_most_laps, fd_r_most_laps := fd_r_most_laps, f_r_fall := f_r_fall, fd_r_fall := fd_r_fall, f_r_has_fallen := f_r_has_fallen, fd_r_has_fallen := fd_r_has_fallen, f_r_is_void := f_r_is_void, fd_r_is_void := fd_r_is_void, f_r_is_home := f_r_is_home, fd_r_is_home := fd_r_is_home, f_r_counting := f_r_counting, fd_r_counting := fd_r_counting, f_r_is_out := f_r_is_out, fd_r_is_out := fd_r_is_out, f_r_take_crossing_of := f_r_take_crossing_of, fd_r_take_crossing_of := fd_r_take_crossing_of, f_r_be_stopped := f_r_be_stopped, fd_r_be_stopped := fd_r_be_stopped, f_time_with_penalties := f_time_with_penalties, fd_time_with_penalties := fd_time_with_penalties, f_best_lap := f_best_lap, fd_best_lap := fd_best_lap, f_ordered := f_ordered, fd_ordered := fd_ordered, f_classed := f_classed, fd_classed := fd_classed, f_level_of := f_level_of, fd_level_of := fd_level_of, f_fastest_number := f_fastest_number, fd_fastest_number := fd_fastest_number, f_points_by_places := f_points_by_places, fd_points_by_places := fd_points_by_places, f_halves_of := f_halves_of, fd_halves_of := fd_halves_of, f_teams_in_order := f_teams_in_order, fd_teams_in_order := fd_teams_in_order, f_halves_of_team := f_halves_of_team, fd_halves_of_team := fd_halves_of_team, f_all_within := f_all_within, fd_all_within := fd_all_within, f_d_init := f_d_init, fd_d_init := fd_d_init, f_d_car_of := f_d_car_of, fd_d_car_of := fd_d_car_of, f_d_racing_car := f_d_racing_car, fd_d_racing_car := fd_d_racing_car, f_d_want_fallen := f_d_want_fallen, fd_d_want_fallen := fd_d_want_fallen, f_d_begin := f_d_begin, fd_d_begin := fd_d_begin, f_d_cross := f_d_cross, fd_d_cross := fd_d_cross, f_d_pit := f_d_pit, fd_d_pit := fd_d_pit, f_d_through := f_d_through, fd_d_through := fd_d_through, f_d_seconds := f_d_seconds, fd_d_seconds := fd_d_seconds, f_d_send := f_d_send, fd_d_send := fd_d_send, f_d_leaving := f_d_leaving, fd_d_leaving := fd_d_leaving, f_d_throwing := f_d_throwing, fd_d_throwing := fd_d_throwing, f_d_stop := f_d_stop, fd_d_stop := fd_d_stop, f_d_now := f_d_now, fd_d_now := fd_d_now, f_d_card := f_d_card, fd_d_card := fd_d_card, f_d_result := f_d_result, fd_d_result := fd_d_result, f_d_teams := f_d_teams, fd_d_teams := fd_d_teams, f_list_at := f_list_at, fd_list_at := fd_list_at, f_answer_with_car := f_answer_with_car, fd_answer_with_car := fd_answer_with_car, f_answer_without_lists := f_answer_without_lists, fd_answer_without_lists := fd_answer_without_lists, f_answer := f_answer, fd_answer := fd_answer, f_answers := _, fd_answers := _, cRefused := cRefused, cCar := cCar, cRace := cRace, cDesk := cDesk, t_LATE := t_LATE, t_SECONDS_A_WAY := t_SECONDS_A_WAY, t_THOUSANDTHS := t_THOUSANDTHS, t_NONE := t_NONE, t_HALF := t_HALF, t_WHOLE := t_WHOLE, t_HALVES_A_POINT := t_HALVES_A_POINT, a_POINTS := a_POINTS, t_OUT_OF_RANGE := t_OUT_OF_RANGE, t_NO_RACE := t_NO_RACE, t_NOT_NOW := t_NOT_NOW, t_NOT_SO := t_NOT_SO, t_MOST_LAPS := t_MOST_LAPS, t_MOST_CARS := t_MOST_CARS, t_LAST_TEAM := t_LAST_TEAM, t_LAST_KIND := t_LAST_KIND, t_LAST_TIME := t_LAST_TIME, t_MOST_SECONDS := t_MOST_SECONDS, t_BEGIN := t_BEGIN, a_NUMBERS := a_NUMBERS } := {
F_x_init := G_x_init,
    b_x_init := bind_x_init G_x_init,
    F_want := G_want,
    b_want := bind_want G_want,
    g_want := PySem.W.mg_of X G a_want,
    F_c_init := G_c_init,
    b_c_init := bind_c_init G_c_init,
    F_c_laps := G_c_laps,
    b_c_laps := bind_c_laps G_c_laps,
    m_c_laps := ⟨a_c_laps, i_c_laps, G_c_laps.kp⟩,
    F_c_last_time := G_c_last_time,
    b_c_last_time := bind_c_last_time G_c_last_time,
    m_c_last_time := ⟨a_c_last_time, i_c_last_time, G_c_last_time.kp⟩,
    F_c_take_crossing := G_c_take_crossing,
    b_c_take_crossing := bind_c_take_crossing G_c_take_crossing,
    m_c_take_crossing := ⟨a_c_take_crossing, i_c_take_crossing, G_c_take_crossing.kp⟩,
    F_c_take_tyres := G_c_take_tyres,
    b_c_take_tyres := bind_c_take_tyres G_c_take_tyres,
    m_c_take_tyres := ⟨a_c_take_tyres, i_c_take_tyres, G_c_take_tyres.kp⟩,
    F_c_pits := G_c_pits,
    b_c_pits := bind_c_pits G_c_pits,
    m_c_pits := ⟨a_c_pits, i_c_pits, G_c_pits.kp⟩,
    F_c_has_one_kind := G_c_has_one_kind,
    b_c_has_one_kind := bind_c_has_one_kind G_c_has_one_kind,
    m_c_has_one_kind := ⟨a_c_has_one_kind, i_c_has_one_kind, G_c_has_one_kind.kp⟩,
    F_c_take_sending := G_c_take_sending,
    b_c_take_sending := bind_c_take_sending G_c_take_sending,
    m_c_take_sending := ⟨a_c_take_sending, i_c_take_sending, G_c_take_sending.kp⟩,
    F_c_go_through := G_c_go_through,
    b_c_go_through := bind_c_go_through G_c_go_through,
    m_c_go_through := ⟨a_c_go_through, i_c_go_through, G_c_go_through.kp⟩,
    F_c_ways := G_c_ways,
    b_c_ways := bind_c_ways G_c_ways,
    m_c_ways := ⟨a_c_ways, i_c_ways, G_c_ways.kp⟩,
    F_c_add_seconds := G_c_add_seconds,
    b_c_add_seconds := bind_c_add_seconds G_c_add_seconds,
    m_c_add_seconds := ⟨a_c_add_seconds, i_c_add_seconds, G_c_add_seconds.kp⟩,
    F_c_penalty := G_c_penalty,
    b_c_penalty := bind_c_penalty G_c_penalty,
    m_c_penalty := ⟨a_c_penalty, i_c_penalty, G_c_penalty.kp⟩,
    F_c_leave := G_c_leave,
    b_c_leave := bind_c_leave G_c_leave,
    m_c_leave := ⟨a_c_leave, i_c_leave, G_c_leave.kp⟩,
    F_c_throw := G_c_throw,
    b_c_throw := bind_c_throw G_c_throw,
    m_c_throw := ⟨a_c_throw, i_c_throw, G_c_throw.kp⟩,
    F_time_of_laps := G_time_of_laps,
    b_time_of_laps := bind_time_of_laps G_time_of_laps,
    g_time_of_laps := PySem.W.mg_of X G a_time_of_laps,
    F_many_before := G_many_before,
    b_many_before := bind_many_before G_many_before,
    g_many_before := PySem.W.mg_of X G a_many_before,
    F_r_init := G_r_init,
    b_r_init := bind_r_init G_r_init,
    F_r_most_laps := G_r_most_laps,
    b_r_most_laps := bind_r_most_laps G_r_most_laps,
    m_r_most_laps := ⟨a_r_most_laps, i_r_most_laps, G_r_most_laps.kp⟩,
    F_r_fall := G_r_fall,
    b_r_fall := bind_r_fall G_r_fall,
    m_r_fall := ⟨a_r_fall, i_r_fall, G_r_fall.kp⟩,
    F_r_has_fallen := G_r_has_fallen,
    b_r_has_fallen := bind_r_has_fallen G_r_has_fallen,
    m_r_has_fallen := ⟨a_r_has_fallen, i_r_has_fallen, G_r_has_fallen.kp⟩,
    F_r_is_void := G_r_is_void,
    b_r_is_void := bind_r_is_void G_r_is_void,
    m_r_is_void := ⟨a_r_is_void, i_r_is_void, G_r_is_void.kp⟩,
    F_r_is_home := G_r_is_home,
    b_r_is_home := bind_r_is_home G_r_is_home,
    m_r_is_home := ⟨a_r_is_home, i_r_is_home, G_r_is_home.kp⟩,
    F_r_counting := G_r_counting,
    b_r_counting := bind_r_counting G_r_counting,
    m_r_counting := ⟨a_r_counting, i_r_counting, G_r_counting.kp⟩,
    F_r_is_out := G_r_is_out,
    b_r_is_out := bind_r_is_out G_r_is_out,
    m_r_is_out := ⟨a_r_is_out, i_r_is_out, G_r_is_out.kp⟩,
    F_r_take_crossing_of := G_r_take_crossing_of,
    b_r_take_crossing_of := bind_r_take_crossing_of G_r_take_crossing_of,
    m_r_take_crossing_of := ⟨a_r_take_crossing_of, i_r_take_crossing_of, G_r_take_crossing_of.kp⟩,
    F_r_be_stopped := G_r_be_stopped,
    b_r_be_stopped := bind_r_be_stopped G_r_be_stopped,
    m_r_be_stopped := ⟨a_r_be_stopped, i_r_be_stopped, G_r_be_stopped.kp⟩,
    F_time_with_penalties := G_time_with_penalties,
    b_time_with_penalties := bind_time_with_penalties G_time_with_penalties,
    g_time_with_penalties := PySem.W.mg_of X G a_time_with_penalties,
    F_best_lap := G_best_lap,
    b_best_lap := bind_best_lap G_best_lap,
    g_best_lap := PySem.W.mg_of X G a_best_lap,
    F_ordered := G_ordered,
    b_ordered := bind_ordered G_ordered,
    g_ordered := PySem.W.mg_of X G a_ordered,
    F_classed := G_classed,
    b_classed := bind_classed G_classed,
    g_classed := PySem.W.mg_of X G a_classed,
    F_level_of := G_level_of,
    b_level_of := bind_level_of G_level_of,
    g_level_of := PySem.W.mg_of X G a_level_of,
    F_fastest_number := G_fastest_number,
    b_fastest_number := bind_fastest_number G_fastest_number,
    g_fastest_number := PySem.W.mg_of X G a_fastest_number,
    F_points_by_places := G_points_by_places,
    b_points_by_places := bind_points_by_places G_points_by_places,
    g_points_by_places := PySem.W.mg_of X G a_points_by_places,
    F_halves_of := G_halves_of,
    b_halves_of := bind_halves_of G_halves_of,
    g_halves_of := PySem.W.mg_of X G a_halves_of,
    F_teams_in_order := G_teams_in_order,
    b_teams_in_order := bind_teams_in_order G_teams_in_order,
    g_teams_in_order := PySem.W.mg_of X G a_teams_in_order,
    F_halves_of_team := G_halves_of_team,
    b_halves_of_team := bind_halves_of_team G_halves_of_team,
    g_halves_of_team := PySem.W.mg_of X G a_halves_of_team,
    F_all_within := G_all_within,
    b_all_within := bind_all_within G_all_within,
    g_all_within := PySem.W.mg_of X G a_all_within,
    F_d_init := G_d_init,
    b_d_init := bind_d_init G_d_init,
    F_d_car_of := G_d_car_of,
    b_d_car_of := bind_d_car_of G_d_car_of,
    m_d_car_of := ⟨a_d_car_of, i_d_car_of, G_d_car_of.kp⟩,
    F_d_racing_car := G_d_racing_car,
    b_d_racing_car := bind_d_racing_car G_d_racing_car,
    m_d_racing_car := ⟨a_d_racing_car, i_d_racing_car, G_d_racing_car.kp⟩,
    F_d_want_fallen := G_d_want_fallen,
    b_d_want_fallen := bind_d_want_fallen G_d_want_fallen,
    m_d_want_fallen := ⟨a_d_want_fallen, i_d_want_fallen, G_d_want_fallen.kp⟩,
    F_d_begin := G_d_begin,
    b_d_begin := bind_d_begin G_d_begin,
    m_d_begin := ⟨a_d_begin, i_d_begin, G_d_begin.kp⟩,
    F_d_cross := G_d_cross,
    b_d_cross := bind_d_cross G_d_cross,
    m_d_cross := ⟨a_d_cross, i_d_cross, G_d_cross.kp⟩,
    F_d_pit := G_d_pit,
    b_d_pit := bind_d_pit G_d_pit,
    m_d_pit := ⟨a_d_pit, i_d_pit, G_d_pit.kp⟩,
    F_d_through := G_d_through,
    b_d_through := bind_d_through G_d_through,
    m_d_through := ⟨a_d_through, i_d_through, G_d_through.kp⟩,
    F_d_seconds := G_d_seconds,
    b_d_seconds := bind_d_seconds G_d_seconds,
    m_d_seconds := ⟨a_d_seconds, i_d_seconds, G_d_seconds.kp⟩,
    F_d_send := G_d_send,
    b_d_send := bind_d_send G_d_send,
    m_d_send := ⟨a_d_send, i_d_send, G_d_send.kp⟩,
    F_d_leaving := G_d_leaving,
    b_d_leaving := bind_d_leaving G_d_leaving,
    m_d_leaving := ⟨a_d_leaving, i_d_leaving, G_d_leaving.kp⟩,
    F_d_throwing := G_d_throwing,
    b_d_throwing := bind_d_throwing G_d_throwing,
    m_d_throwing := ⟨a_d_throwing, i_d_throwing, G_d_throwing.kp⟩,
    F_d_stop := G_d_stop,
    b_d_stop := bind_d_stop G_d_stop,
    m_d_stop := ⟨a_d_stop, i_d_stop, G_d_stop.kp⟩,
    F_d_now := G_d_now,
    b_d_now := bind_d_now G_d_now,
    m_d_now := ⟨a_d_now, i_d_now, G_d_now.kp⟩,
    F_d_card := G_d_card,
    b_d_card := bind_d_card G_d_card,
    m_d_card := ⟨a_d_card, i_d_card, G_d_card.kp⟩,
    F_d_result := G_d_result,
    b_d_result := bind_d_result G_d_result,
    m_d_result := ⟨a_d_result, i_d_result, G_d_result.kp⟩,
    F_d_teams := G_d_teams,
    b_d_teams := bind_d_teams G_d_teams,
    m_d_teams := ⟨a_d_teams, i_d_teams, G_d_teams.kp⟩,
    F_list_at := G_list_at,
    b_list_at := bind_list_at G_list_at,
    g_list_at := PySem.W.mg_of X G a_list_at,
    F_answer_with_car := G_answer_with_car,
    b_answer_with_car := bind_answer_with_car G_answer_with_car,
    g_answer_with_car := PySem.W.mg_of X G a_answer_with_car,
    F_answer_without_lists := G_answer_without_lists,
    b_answer_without_lists := bind_answer_without_lists G_answer_without_lists,
    g_answer_without_lists := PySem.W.mg_of X G a_answer_without_lists,
    F_answer := G_answer,
    b_answer := bind_answer G_answer,
    g_answer := PySem.W.mg_of X G a_answer,
    F_answers := G_answers,
    b_answers := bind_answers G_answers,
    g_answers := PySem.W.mg_of X G a_answers,
    gRefused := PySem.W.mg_of X G a_Refused,
    gCar := PySem.W.mg_of X G a_Car,
    clCar := ⟨pg_Car, hd_Car, po_Car, sa_Car⟩,
    mk_Car := ⟨mk_Car, a_c_init, i_c_init, kc_Car⟩,
    na_Car_number := na_Car_number,
    na_Car_team := na_Car_team,
    na_Car_kinds := na_Car_kinds,
    na_Car_times := na_Car_times,
    na_Car_sent := na_Car_sent,
    na_Car_is_late := na_Car_is_late,
    na_Car_added := na_Car_added,
    na_Car_has_left := na_Car_has_left,
    na_Car_is_thrown := na_Car_is_thrown,
    gRace := PySem.W.mg_of X G a_Race,
    clRace := ⟨pg_Race, hd_Race, po_Race, sa_Race⟩,
    mk_Race := ⟨mk_Race, a_r_init, i_r_init, kc_Race⟩,
    na_Race_many_laps := na_Race_many_laps,
    na_Race_is_wet := na_Race_is_wet,
    na_Race_cars := na_Race_cars,
    na_Race_last_told := na_Race_last_told,
    na_Race_counted_for := na_Race_counted_for,
    gDesk := PySem.W.mg_of X G a_Desk,
    clDesk := ⟨pg_Desk, hd_Desk, po_Desk, sa_Desk⟩,
    mk_Desk := ⟨mk_Desk, a_d_init, i_d_init, kc_Desk⟩,
    na_Desk_race := na_Desk_race,
    oex := ⟨⟨nm, q, N, bs, _, sn, sub, ab, col, dd, m0, m1, m2, m3, m5, xL, by decide +kernel⟩, xsa, xeC, xtC, xkC⟩,
    xf := ⟨xga, xgg, xeC, xhC⟩,
    no_refusal := xnb,
    iC := a_x_init,
    tI := xt1,
    te := exm_self xeC xiC xtC xsC,
    vV := xvV,
    n_len := PySem.W.mg_none_of X G n_len,
    n_min := PySem.W.mg_none_of X G n_min,
    n_max := PySem.W.mg_none_of X G n_max,
    n_all := PySem.W.mg_none_of X G n_all,
    n_sum := PySem.W.mg_none_of X G n_sum,
    n_sorted := PySem.W.mg_none_of X G n_sorted,
    n_int := PySem.W.mg_none_of X G n_int,
    n_enumerate := PySem.W.mg_none_of X G n_enumerate,
    n_zip := PySem.W.mg_none_of X G n_zip,
    n_ValueError := PySem.W.mg_none_of X G n_ValueError,
    c_LATE := PySem.W.mg_of X G k_LATE,
    c_SECONDS_A_WAY := PySem.W.mg_of X G k_SECONDS_A_WAY,
    c_THOUSANDTHS := PySem.W.mg_of X G k_THOUSANDTHS,
    c_NONE := PySem.W.mg_of X G k_NONE,
    c_HALF := PySem.W.mg_of X G k_HALF,
    c_WHOLE := PySem.W.mg_of X G k_WHOLE,
    c_HALVES_A_POINT := PySem.W.mg_of X G k_HALVES_A_POINT,
    c_POINTS := PySem.W.mg_of X G k_POINTS,
    p_POINTS := fun H => .inr ⟨_, _, _, l_POINTS, rfl, rfl, by show (10 : Nat) ≤ sizeLine; decide, .cons ⟨_, rfl⟩ (.cons ⟨_, rfl⟩ (.cons ⟨_, rfl⟩ (.cons ⟨_, rfl⟩ (.cons ⟨_, rfl⟩ (.cons ⟨_, rfl⟩ (.cons ⟨_, rfl⟩ (.cons ⟨_, rfl⟩ (.cons ⟨_, rfl⟩ (.cons ⟨_, rfl⟩ (.nil))))))))))⟩,
    c_OUT_OF_RANGE := PySem.W.mg_of X G k_OUT_OF_RANGE,
    c_NO_RACE := PySem.W.mg_of X G k_NO_RACE,
    c_NOT_NOW := PySem.W.mg_of X G k_NOT_NOW,
    c_NOT_SO := PySem.W.mg_of X G k_NOT_SO,
    c_MOST_LAPS := PySem.W.mg_of X G k_MOST_LAPS,
    c_MOST_CARS := PySem.W.mg_of X G k_MOST_CARS,
    c_LAST_TEAM := PySem.W.mg_of X G k_LAST_TEAM,
    c_LAST_KIND := PySem.W.mg_of X G k_LAST_KIND,
    c_LAST_TIME := PySem.W.mg_of X G k_LAST_TIME,
    c_MOST_SECONDS := PySem.W.mg_of X G k_MOST_SECONDS,
    c_BEGIN := PySem.W.mg_of X G k_BEGIN,
    c_NUMBERS := PySem.W.mg_of X G k_NUMBERS,
    p_NUMBERS := fun H => .inr ⟨_, _, _, l_NUMBERS, rfl, rfl, by show (14 : Nat) ≤ sizeLine; decide, .cons ⟨_, rfl⟩ (.cons ⟨_, rfl⟩ (.cons ⟨_, rfl⟩ (.cons ⟨_, rfl⟩ (.cons ⟨_, rfl⟩ (.cons ⟨_, rfl⟩ (.cons ⟨_, rfl⟩ (.cons ⟨_, rfl⟩ (.cons ⟨_, rfl⟩ (.cons ⟨_, rfl⟩ (.cons ⟨_, rfl⟩ (.cons ⟨_, rfl⟩ (.cons ⟨_, rfl⟩ (.cons ⟨_, rfl⟩ (.nil))))))))))))))⟩ }
  exact ⟨_, fun s us hu => match us, hu with | [_], _ => .of_eq rfl, fun base _ _ => ok_answers T⟩
end L2

set_option Elab.async false
set_option linter.all false
set_option maxRecDepth 100000
set_option maxHeartbeats 2000000
open PySem PySem.W PyProof.Rows
set_option maxRecDepth 100000 in
set_option maxHeartbeats 40000000 in
theorem PySem.Challenge.cw_racestewards_s01_answers_holds : PySem.Challenge.rw_racestewards_s01_answers.Holds := by
  w_on; k_headS; (case hw => exact ⟨[.list [.int 9]], by decide +kernel, by decide +kernel⟩)
  k_fillS
  refine L2.walk_specK (r := PySem.Challenge.rw_racestewards_s01_answers) (k := 13) (CX := L2.CX0) (ps := ["calls"]) (sp := L2.sp_answers0) (by decide +kernel) rfl rfl ⟨rfl, by decide, by decide⟩ (fun w h Y => PySem.W.kIn_of Y) ?F ?S (fun _ _ _ _ z => z)
  case F =>
    intro w mg fa h Y KX G hmg
    refine' L2.all_mk KX G hmg ?a_Refused ?a_Car ?a_Race ?a_Desk ?a_x_init ?i_x_init ?F_x_init ?a_want ?F_want ?a_c_init ?i_c_init ?F_c_init ?a_c_laps ?i_c_laps ?F_c_laps ?a_c_last_time ?i_c_last_time ?F_c_last_time ?a_c_take_crossing ?i_c_take_crossing ?F_c_take_crossing ?a_c_take_tyres ?i_c_take_tyres ?F_c_take_tyres ?a_c_pits ?i_c_pits ?F_c_pits ?a_c_has_one_kind ?i_c_has_one_kind ?F_c_has_one_kind ?a_c_take_sending ?i_c_take_sending ?F_c_take_sending ?a_c_go_through ?i_c_go_through ?F_c_go_through ?a_c_ways ?i_c_ways ?F_c_ways ?a_c_add_seconds ?i_c_add_seconds ?F_c_add_seconds ?a_c_penalty ?i_c_penalty ?F_c_penalty ?a_c_leave ?i_c_leave ?F_c_leave ?a_c_throw ?i_c_throw ?F_c_throw ?a_time_of_laps ?F_time_of_laps ?a_many_before ?F_many_before ?a_r_init ?i_r_init ?F_r_init ?a_r_most_laps ?i_r_most_laps ?F_r_most_laps ?a_r_fall ?i_r_fall ?F_r_fall ?a_r_has_fallen ?i_r_has_fallen ?F_r_has_fallen ?a_r_is_void ?i_r_is_void ?F_r_is_void ?a_r_is_home ?i_r_is_home ?F_r_is_home ?a_r_counting ?i_r_counting ?F_r_counting ?a_r_is_out ?i_r_is_out ?F_r_is_out ?a_r_take_crossing_of ?i_r_take_crossing_of ?F_r_take_crossing_of ?a_r_be_stopped ?i_r_be_stopped ?F_r_be_stopped ?a_time_with_penalties ?F_time_with_penalties ?a_best_lap ?F_best_lap ?a_ordered ?F_ordered ?a_classed ?F_classed ?a_level_of ?F_level_of ?a_fastest_number ?F_fastest_number ?a_points_by_places ?F_points_by_places ?a_halves_of ?F_halves_of ?a_teams_in_order ?F_teams_in_order ?a_halves_of_team ?F_halves_of_team ?a_all_within ?F_all_within ?a_d_init ?i_d_init ?F_d_init ?a_d_car_of ?i_d_car_of ?F_d_car_of ?a_d_racing_car ?i_d_racing_car ?F_d_racing_car ?a_d_want_fallen ?i_d_want_fallen ?F_d_want_fallen ?a_d_begin ?i_d_begin ?F_d_begin ?a_d_cross ?i_d_cross ?F_d_cross ?a_d_pit ?i_d_pit ?F_d_pit ?a_d_through ?i_d_through ?F_d_through ?a_d_seconds ?i_d_seconds ?F_d_seconds ?a_d_send ?i_d_send ?F_d_send ?a_d_leaving ?i_d_leaving ?F_d_leaving ?a_d_throwing ?i_d_throwing ?F_d_throwing ?a_d_stop ?i_d_stop ?F_d_stop ?a_d_now ?i_d_now ?F_d_now ?a_d_card ?i_d_card ?F_d_card ?a_d_result ?i_d_result ?F_d_result ?a_d_teams ?i_d_teams ?F_d_teams ?a_list_at ?F_list_at ?a_answer_with_car ?F_answer_with_car ?a_answer_without_lists ?F_answer_without_lists ?a_answer ?F_answer ?a_answers ?F_answers ?pg_Car ?hd_Car ?po_Car ?sa_Car ?mk_Car ?kc_Car ?na_Car_number ?na_Car_team ?na_Car_kinds ?na_Car_times ?na_Car_sent ?na_Car_is_late ?na_Car_added ?na_Car_has_left ?na_Car_is_thrown ?pg_Race ?hd_Race ?po_Race ?sa_Race ?mk_Race ?kc_Race ?na_Race_many_laps ?na_Race_is_wet ?na_Race_cars ?na_Race_last_told ?na_Race_counted_for ?pg_Desk ?hd_Desk ?po_Desk ?sa_Desk ?mk_Desk ?kc_Desk ?na_Desk_race ?xL ?xsa ?xga ?xgg ?xnb ?xt1 ?xkC ?xeC ?xtC ?xhC ?xiC ?xsC ?xvV ?n_len ?n_min ?n_max ?n_all ?n_sum ?n_sorted ?n_int ?n_enumerate ?n_zip ?n_ValueError ?k_LATE ?k_SECONDS_A_WAY ?k_THOUSANDTHS ?k_NONE ?k_HALF ?k_WHOLE ?k_HALVES_A_POINT ?k_POINTS ?l_POINTS ?k_OUT_OF_RANGE ?k_NO_RACE ?k_NOT_NOW ?k_NOT_SO ?k_MOST_LAPS ?k_MOST_CARS ?k_LAST_TEAM ?k_LAST_KIND ?k_LAST_TIME ?k_MOST_SECONDS ?k_BEGIN ?k_NUMBERS ?l_NUMBERS
    (case a_Refused => k_is)
    (case a_Car => k_is)
    (case a_Race => k_is)
    (case a_Desk => k_is)
    (case a_x_init => k_is)
    (case i_x_init => k_is)
    (case F_x_init => refine' L2.FnAt.of ?l_F_x_init ?c_F_x_init ?k_F_x_init; (case l_F_x_init => k_is); (case c_F_x_init => k_is); (case k_F_x_init => k_is))
    (case a_want => k_is)
    (case F_want => refine' L2.FnAt.of ?l_F_want ?c_F_want ?k_F_want; (case l_F_want => k_is); (case c_F_want => k_is); (case k_F_want => k_is))
    (case a_c_init => k_is)
    (case i_c_init => k_is)
    (case F_c_init => refine' L2.FnAt.of ?l_F_c_init ?c_F_c_init ?k_F_c_init; (case l_F_c_init => k_is); (case c_F_c_init => k_is); (case k_F_c_init => k_is))
    (case a_c_laps => k_is)
    (case i_c_laps => k_is)
    (case F_c_laps => refine' L2.FnAt.of ?l_F_c_laps ?c_F_c_laps ?k_F_c_laps; (case l_F_c_laps => k_is); (case c_F_c_laps => k_is); (case k_F_c_laps => k_is))
    (case a_c_last_time => k_is)
    (case i_c_last_time => k_is)
    (case F_c_last_time => refine' L2.FnAt.of ?l_F_c_last_time ?c_F_c_last_time ?k_F_c_last_time; (case l_F_c_last_time => k_is); (case c_F_c_last_time => k_is); (case k_F_c_last_time => k_is))
    (case a_c_take_crossing => k_is)
    (case i_c_take_crossing => k_is)
    (case F_c_take_crossing => refine' L2.FnAt.of ?l_F_c_take_crossing ?c_F_c_take_crossing ?k_F_c_take_crossing; (case l_F_c_take_crossing => k_is); (case c_F_c_take_crossing => k_is); (case k_F_c_take_crossing => k_is))
    (case a_c_take_tyres => k_is)
    (case i_c_take_tyres => k_is)
    (case F_c_take_tyres => refine' L2.FnAt.of ?l_F_c_take_tyres ?c_F_c_take_tyres ?k_F_c_take_tyres; (case l_F_c_take_tyres => k_is); (case c_F_c_take_tyres => k_is); (case k_F_c_take_tyres => k_is))
    (case a_c_pits => k_is)
    (case i_c_pits => k_is)
    (case F_c_pits => refine' L2.FnAt.of ?l_F_c_pits ?c_F_c_pits ?k_F_c_pits; (case l_F_c_pits => k_is); (case c_F_c_pits => k_is); (case k_F_c_pits => k_is))
    (case a_c_has_one_kind => k_is)
    (case i_c_has_one_kind => k_is)
    (case F_c_has_one_kind => refine' L2.FnAt.of ?l_F_c_has_one_kind ?c_F_c_has_one_kind ?k_F_c_has_one_kind; (case l_F_c_has_one_kind => k_is); (case c_F_c_has_one_kind => k_is); (case k_F_c_has_one_kind => k_is))
    (case a_c_take_sending => k_is)
    (case i_c_take_sending => k_is)
    (case F_c_take_sending => refine' L2.FnAt.of ?l_F_c_take_sending ?c_F_c_take_sending ?k_F_c_take_sending; (case l_F_c_take_sending => k_is); (case c_F_c_take_sending => k_is); (case k_F_c_take_sending => k_is))
    (case a_c_go_through => k_is)
    (case i_c_go_through => k_is)
    (case F_c_go_through => refine' L2.FnAt.of ?l_F_c_go_through ?c_F_c_go_through ?k_F_c_go_through; (case l_F_c_go_through => k_is); (case c_F_c_go_through => k_is); (case k_F_c_go_through => k_is))
    (case a_c_ways => k_is)
    (case i_c_ways => k_is)
    (case F_c_ways => refine' L2.FnAt.of ?l_F_c_ways ?c_F_c_ways ?k_F_c_ways; (case l_F_c_ways => k_is); (case c_F_c_ways => k_is); (case k_F_c_ways => k_is))
    (case a_c_add_seconds => k_is)
    (case i_c_add_seconds => k_is)
    (case F_c_add_seconds => refine' L2.FnAt.of ?l_F_c_add_seconds ?c_F_c_add_seconds ?k_F_c_add_seconds; (case l_F_c_add_seconds => k_is); (case c_F_c_add_seconds => k_is); (case k_F_c_add_seconds => k_is))
    (case a_c_penalty => k_is)
    (case i_c_penalty => k_is)
    (case F_c_penalty => refine' L2.FnAt.of ?l_F_c_penalty ?c_F_c_penalty ?k_F_c_penalty; (case l_F_c_penalty => k_is); (case c_F_c_penalty => k_is); (case k_F_c_penalty => k_is))
    (case a_c_leave => k_is)
    (case i_c_leave => k_is)
    (case F_c_leave => refine' L2.FnAt.of ?l_F_c_leave ?c_F_c_leave ?k_F_c_leave; (case l_F_c_leave => k_is); (case c_F_c_leave => k_is); (case k_F_c_leave => k_is))
    (case a_c_throw => k_is)
    (case i_c_throw => k_is)
    (case F_c_throw => refine' L2.FnAt.of ?l_F_c_throw ?c_F_c_throw ?k_F_c_throw; (case l_F_c_throw => k_is); (case c_F_c_throw => k_is); (case k_F_c_throw => k_is))
    (case a_time_of_laps => k_is)
    (case F_time_of_laps => refine' L2.FnAt.of ?l_F_time_of_laps ?c_F_time_of_laps ?k_F_time_of_laps; (case l_F_time_of_laps => k_is); (case c_F_time_of_laps => k_is); (case k_F_time_of_laps => k_is))
    (case a_many_before => k_is)
    (case F_many_before => refine' L2.FnAt.of ?l_F_many_before ?c_F_many_before ?k_F_many_before; (case l_F_many_before => k_is); (case c_F_many_before => k_is); (case k_F_many_before => k_is))
    (case a_r_init => k_is)
    (case i_r_init => k_is)
    (case F_r_init => refine' L2.FnAt.of ?l_F_r_init ?c_F_r_init ?k_F_r_init; (case l_F_r_init => k_is); (case c_F_r_init => k_is); (case k_F_r_init => k_is))
    (case a_r_most_laps => k_is)
    (case i_r_most_laps => k_is)
    (case F_r_most_laps => refine' L2.FnAt.of ?l_F_r_most_laps ?c_F_r_most_laps ?k_F_r_most_laps; (case l_F_r_most_laps => k_is); (case c_F_r_most_laps => k_is); (case k_F_r_most_laps => k_is))
    (case a_r_fall => k_is)
    (case i_r_fall => k_is)
    (case F_r_fall => refine' L2.FnAt.of ?l_F_r_fall ?c_F_r_fall ?k_F_r_fall; (case l_F_r_fall => k_is); (case c_F_r_fall => k_is); (case k_F_r_fall => k_is))
    (case a_r_has_fallen => k_is)
    (case i_r_has_fallen => k_is)
    (case F_r_has_fallen => refine' L2.FnAt.of ?l_F_r_has_fallen ?c_F_r_has_fallen ?k_F_r_has_fallen; (case l_F_r_has_fallen => k_is); (case c_F_r_has_fallen => k_is); (case k_F_r_has_fallen => k_is))
    (case a_r_is_void => k_is)
    (case i_r_is_void => k_is)
    (case F_r_is_void => refine' L2.FnAt.of ?l_F_r_is_void ?c_F_r_is_void ?k_F_r_is_void; (case l_F_r_is_void => k_is); (case c_F_r_is_void => k_is); (case k_F_r_is_void => k_is))
    (case a_r_is_home => k_is)
    (case i_r_is_home => k_is)
    (case F_r_is_home => refine' L2.FnAt.of ?l_F_r_is_home ?c_F_r_is_home ?k_F_r_is_home; (case l_F_r_is_home => k_is); (case c_F_r_is_home => k_is); (case k_F_r_is_home => k_is))
    (case a_r_counting => k_is)
    (case i_r_counting => k_is)
    (case F_r_counting => refine' L2.FnAt.of ?l_F_r_counting ?c_F_r_counting ?k_F_r_counting; (case l_F_r_counting => k_is); (case c_F_r_counting => k_is); (case k_F_r_counting => k_is))
    (case a_r_is_out => k_is)
    (case i_r_is_out => k_is)
    (case F_r_is_out => refine' L2.FnAt.of ?l_F_r_is_out ?c_F_r_is_out ?k_F_r_is_out; (case l_F_r_is_out => k_is); (case c_F_r_is_out => k_is); (case k_F_r_is_out => k_is))
    (case a_r_take_crossing_of => k_is)
    (case i_r_take_crossing_of => k_is)
    (case F_r_take_crossing_of => refine' L2.FnAt.of ?l_F_r_take_crossing_of ?c_F_r_take_crossing_of ?k_F_r_take_crossing_of; (case l_F_r_take_crossing_of => k_is); (case c_F_r_take_crossing_of => k_is); (case k_F_r_take_crossing_of => k_is))
    (case a_r_be_stopped => k_is)
    (case i_r_be_stopped => k_is)
    (case F_r_be_stopped => refine' L2.FnAt.of ?l_F_r_be_stopped ?c_F_r_be_stopped ?k_F_r_be_stopped; (case l_F_r_be_stopped => k_is); (case c_F_r_be_stopped => k_is); (case k_F_r_be_stopped => k_is))
    (case a_time_with_penalties => k_is)
    (case F_time_with_penalties => refine' L2.FnAt.of ?l_F_time_with_penalties ?c_F_time_with_penalties ?k_F_time_with_penalties; (case l_F_time_with_penalties => k_is); (case c_F_time_with_penalties => k_is); (case k_F_time_with_penalties => k_is))
    (case a_best_lap => k_is)
    (case F_best_lap => refine' L2.FnAt.of ?l_F_best_lap ?c_F_best_lap ?k_F_best_lap; (case l_F_best_lap => k_is); (case c_F_best_lap => k_is); (case k_F_best_lap => k_is))
    (case a_ordered => k_is)
    (case F_ordered => refine' L2.FnAt.of ?l_F_ordered ?c_F_ordered ?k_F_ordered; (case l_F_ordered => k_is); (case c_F_ordered => k_is); (case k_F_ordered => k_is))
    (case a_classed => k_is)
    (case F_classed => refine' L2.FnAt.of ?l_F_classed ?c_F_classed ?k_F_classed; (case l_F_classed => k_is); (case c_F_classed => k_is); (case k_F_classed => k_is))
    (case a_level_of => k_is)
    (case F_level_of => refine' L2.FnAt.of ?l_F_level_of ?c_F_level_of ?k_F_level_of; (case l_F_level_of => k_is); (case c_F_level_of => k_is); (case k_F_level_of => k_is))
    (case a_fastest_number => k_is)
    (case F_fastest_number => refine' L2.FnAt.of ?l_F_fastest_number ?c_F_fastest_number ?k_F_fastest_number; (case l_F_fastest_number => k_is); (case c_F_fastest_number => k_is); (case k_F_fastest_number => k_is))
    (case a_points_by_places => k_is)
    (case F_points_by_places => refine' L2.FnAt.of ?l_F_points_by_places ?c_F_points_by_places ?k_F_points_by_places; (case l_F_points_by_places => k_is); (case c_F_points_by_places => k_is); (case k_F_points_by_places => k_is))
    (case a_halves_of => k_is)
    (case F_halves_of => refine' L2.FnAt.of ?l_F_halves_of ?c_F_halves_of ?k_F_halves_of; (case l_F_halves_of => k_is); (case c_F_halves_of => k_is); (case k_F_halves_of => k_is))
    (case a_teams_in_order => k_is)
    (case F_teams_in_order => refine' L2.FnAt.of ?l_F_teams_in_order ?c_F_teams_in_order ?k_F_teams_in_order; (case l_F_teams_in_order => k_is); (case c_F_teams_in_order => k_is); (case k_F_teams_in_order => k_is))
    (case a_halves_of_team => k_is)
    (case F_halves_of_team => refine' L2.FnAt.of ?l_F_halves_of_team ?c_F_halves_of_team ?k_F_halves_of_team; (case l_F_halves_of_team => k_is); (case c_F_halves_of_team => k_is); (case k_F_halves_of_team => k_is))
    (case a_all_within => k_is)
    (case F_all_within => refine' L2.FnAt.of ?l_F_all_within ?c_F_all_within ?k_F_all_within; (case l_F_all_within => k_is); (case c_F_all_within => k_is); (case k_F_all_within => k_is))
    (case a_d_init => k_is)
    (case i_d_init => k_is)
    (case F_d_init => refine' L2.FnAt.of ?l_F_d_init ?c_F_d_init ?k_F_d_init; (case l_F_d_init => k_is); (case c_F_d_init => k_is); (case k_F_d_init => k_is))
    (case a_d_car_of => k_is)
    (case i_d_car_of => k_is)
    (case F_d_car_of => refine' L2.FnAt.of ?l_F_d_car_of ?c_F_d_car_of ?k_F_d_car_of; (case l_F_d_car_of => k_is); (case c_F_d_car_of => k_is); (case k_F_d_car_of => k_is))
    (case a_d_racing_car => k_is)
    (case i_d_racing_car => k_is)
    (case F_d_racing_car => refine' L2.FnAt.of ?l_F_d_racing_car ?c_F_d_racing_car ?k_F_d_racing_car; (case l_F_d_racing_car => k_is); (case c_F_d_racing_car => k_is); (case k_F_d_racing_car => k_is))
    (case a_d_want_fallen => k_is)
    (case i_d_want_fallen => k_is)
    (case F_d_want_fallen => refine' L2.FnAt.of ?l_F_d_want_fallen ?c_F_d_want_fallen ?k_F_d_want_fallen; (case l_F_d_want_fallen => k_is); (case c_F_d_want_fallen => k_is); (case k_F_d_want_fallen => k_is))
    (case a_d_begin => k_is)
    (case i_d_begin => k_is)
    (case F_d_begin => refine' L2.FnAt.of ?l_F_d_begin ?c_F_d_begin ?k_F_d_begin; (case l_F_d_begin => k_is); (case c_F_d_begin => k_is); (case k_F_d_begin => k_is))
    (case a_d_cross => k_is)
    (case i_d_cross => k_is)
    (case F_d_cross => refine' L2.FnAt.of ?l_F_d_cross ?c_F_d_cross ?k_F_d_cross; (case l_F_d_cross => k_is); (case c_F_d_cross => k_is); (case k_F_d_cross => k_is))
    (case a_d_pit => k_is)
    (case i_d_pit => k_is)
    (case F_d_pit => refine' L2.FnAt.of ?l_F_d_pit ?c_F_d_pit ?k_F_d_pit; (case l_F_d_pit => k_is); (case c_F_d_pit => k_is); (case k_F_d_pit => k_is))
    (case a_d_through => k_is)
    (case i_d_through => k_is)
    (case F_d_through => refine' L2.FnAt.of ?l_F_d_through ?c_F_d_through ?k_F_d_through; (case l_F_d_through => k_is); (case c_F_d_through => k_is); (case k_F_d_through => k_is))
    (case a_d_seconds => k_is)
    (case i_d_seconds => k_is)
    (case F_d_seconds => refine' L2.FnAt.of ?l_F_d_seconds ?c_F_d_seconds ?k_F_d_seconds; (case l_F_d_seconds => k_is); (case c_F_d_seconds => k_is); (case k_F_d_seconds => k_is))
    (case a_d_send => k_is)
    (case i_d_send => k_is)
    (case F_d_send => refine' L2.FnAt.of ?l_F_d_send ?c_F_d_send ?k_F_d_send; (case l_F_d_send => k_is); (case c_F_d_send => k_is); (case k_F_d_send => k_is))
    (case a_d_leaving => k_is)
    (case i_d_leaving => k_is)
    (case F_d_leaving => refine' L2.FnAt.of ?l_F_d_leaving ?c_F_d_leaving ?k_F_d_leaving; (case l_F_d_leaving => k_is); (case c_F_d_leaving => k_is); (case k_F_d_leaving => k_is))
    (case a_d_throwing => k_is)
    (case i_d_throwing => k_is)
    (case F_d_throwing => refine' L2.FnAt.of ?l_F_d_throwing ?c_F_d_throwing ?k_F_d_throwing; (case l_F_d_throwing => k_is); (case c_F_d_throwing => k_is); (case k_F_d_throwing => k_is))
    (case a_d_stop => k_is)
    (case i_d_stop => k_is)
    (case F_d_stop => refine' L2.FnAt.of ?l_F_d_stop ?c_F_d_stop ?k_F_d_stop; (case l_F_d_stop => k_is); (case c_F_d_stop => k_is); (case k_F_d_stop => k_is))
    (case a_d_now => k_is)
    (case i_d_now => k_is)
    (case F_d_now => refine' L2.FnAt.of ?l_F_d_now ?c_F_d_now ?k_F_d_now; (case l_F_d_now => k_is); (case c_F_d_now => k_is); (case k_F_d_now => k_is))
    (case a_d_card => k_is)
    (case i_d_card => k_is)
    (case F_d_card => refine' L2.FnAt.of ?l_F_d_card ?c_F_d_card ?k_F_d_card; (case l_F_d_card => k_is); (case c_F_d_card => k_is); (case k_F_d_card => k_is))
    (case a_d_result => k_is)
    (case i_d_result => k_is)
    (case F_d_result => refine' L2.FnAt.of ?l_F_d_result ?c_F_d_result ?k_F_d_result; (case l_F_d_result => k_is); (case c_F_d_result => k_is); (case k_F_d_result => k_is))
    (case a_d_teams => k_is)
    (case i_d_teams => k_is)
    (case F_d_teams => refine' L2.FnAt.of ?l_F_d_teams ?c_F_d_teams ?k_F_d_teams; (case l_F_d_teams => k_is); (case c_F_d_teams => k_is); (case k_F_d_teams => k_is))
    (case a_list_at => k_is)
    (case F_list_at => refine' L2.FnAt.of ?l_F_list_at ?c_F_list_at ?k_F_list_at; (case l_F_list_at => k_is); (case c_F_list_at => k_is); (case k_F_list_at => k_is))
    (case a_answer_with_car => k_is)
    (case F_answer_with_car => refine' L2.FnAt.of ?l_F_answer_with_car ?c_F_answer_with_car ?k_F_answer_with_car; (case l_F_answer_with_car => k_is); (case c_F_answer_with_car => k_is); (case k_F_answer_with_car => k_is))
    (case a_answer_without_lists => k_is)
    (case F_answer_without_lists => refine' L2.FnAt.of ?l_F_answer_without_lists ?c_F_answer_without_lists ?k_F_answer_without_lists; (case l_F_answer_without_lists => k_is); (case c_F_answer_without_lists => k_is); (case k_F_answer_without_lists => k_is))
    (case a_answer => k_is)
    (case F_answer => refine' L2.FnAt.of ?l_F_answer ?c_F_answer ?k_F_answer; (case l_F_answer => k_is); (case c_F_answer => k_is); (case k_F_answer => k_is))
    (case a_answers => k_is)
    (case F_answers => refine' L2.FnAt.of ?l_F_answers ?c_F_answers ?k_F_answers; (case l_F_answers => k_is); (case c_F_answers => k_is); (case k_F_answers => k_is))
    (case pg_Car => k_is)
    (case hd_Car => k_is)
    (case po_Car => k_is)
    (case sa_Car => k_is)
    (case mk_Car => k_is)
    (case kc_Car => k_is)
    (case na_Car_number => k_is)
    (case na_Car_team => k_is)
    (case na_Car_kinds => k_is)
    (case na_Car_times => k_is)
    (case na_Car_sent => k_is)
    (case na_Car_is_late => k_is)
    (case na_Car_added => k_is)
    (case na_Car_has_left => k_is)
    (case na_Car_is_thrown => k_is)
    (case pg_Race => k_is)
    (case hd_Race => k_is)
    (case po_Race => k_is)
    (case sa_Race => k_is)
    (case mk_Race => k_is)
    (case kc_Race => k_is)
    (case na_Race_many_laps => k_is)
    (case na_Race_is_wet => k_is)
    (case na_Race_cars => k_is)
    (case na_Race_last_told => k_is)
    (case na_Race_counted_for => k_is)
    (case pg_Desk => k_is)
    (case hd_Desk => k_is)
    (case po_Desk => k_is)
    (case sa_Desk => k_is)
    (case mk_Desk => k_is)
    (case kc_Desk => k_is)
    (case na_Desk_race => k_is)
    (case xL => k_is)
    (case xsa => k_is)
    (case xga => k_is)
    (case xgg => k_is)
    (case xnb => k_is)
    (case xt1 => k_is)
    (case xkC => k_is)
    (case xeC => k_is)
    (case xtC => k_is)
    (case xhC => k_is)
    (case xiC => k_is)
    (case xsC => first | rfl | k_is)
    (case xvV => k_is)
    (case n_len => k_is)
    (case n_min => k_is)
    (case n_max => k_is)
    (case n_all => k_is)
    (case n_sum => k_is)
    (case n_sorted => k_is)
    (case n_int => k_is)
    (case n_enumerate => k_is)
    (case n_zip => k_is)
    (case n_ValueError => k_is)
    (case k_LATE => k_is)
    (case k_SECONDS_A_WAY => k_is)
    (case k_THOUSANDTHS => k_is)
    (case k_NONE => k_is)
    (case k_HALF => k_is)
    (case k_WHOLE => k_is)
    (case k_HALVES_A_POINT => k_is)
    (case k_POINTS => k_is)
    (case l_POINTS => k_is)
    (case k_OUT_OF_RANGE => k_is)
    (case k_NO_RACE => k_is)
    (case k_NOT_NOW => k_is)
    (case k_NOT_SO => k_is)
    (case k_MOST_LAPS => k_is)
    (case k_MOST_CARS => k_is)
    (case k_LAST_TEAM => k_is)
    (case k_LAST_KIND => k_is)
    (case k_LAST_TIME => k_is)
    (case k_MOST_SECONDS => k_is)
    (case k_BEGIN => k_is)
    (case k_NUMBERS => k_is)
    (case l_NUMBERS => k_is)
  case S =>
    intro K H xs a hO hwi hask hx
    cases hx with
    | cons h1 h2 =>
      cases h2
      cases h1 with
      | lst hs ha =>
        have e := L2.ints_dw a.1 _ ha
        subst e
        have q : ((Codec.inLen 0 17000 a.1 && a.1.all (Codec.inInt (-2147483648) 2147483647)) && true) = true := hwi
        rw [Bool.and_eq_true, Bool.and_eq_true] at q
        exact ⟨_, a.1, rfl, hs, hask, (Codec.inNat_iff.mp q.1.1).2, fun H' p hp => .lst (L2.SqL.of hp) (L2.dw_ints _)⟩
