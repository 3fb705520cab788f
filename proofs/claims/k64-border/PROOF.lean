import PyProof.Rows.All
import HandS.Base
import HandS.Call
import HandS.Dict
import PyProof.EqKinds
import PyProof.TupleKey
import HandS.ExcCtx
import HandS.HotCalls
import HandS.ForMost
import HandS.ForExc
import HandS.IsInst
import HandS.Wide
import HandS.StrMore
import HandS.TupAny
import HandS.TupMul
import HandS.SortRule
import KE.KSortTupAny
import HandS.Zip
import KE.GoesEnum
import HandS.ExcInit
import HandS.ExcField
import HandS.TryMany
import HandS.ExcIs
import KE.KExcIs
import HandS.Deep
import KE.KSortTup
import PyProof.FactsAll.tuple_2
import KE.KDictSum
import KE.KDictCopyH
import HandS.Rev
import HandS.RevTup
import PyProof.StrOps
import PyProof.FactsAll.subtypes_3
import HandS.WideBits
import HandS.Text
import HandS.Defaults
import HandS.New
import HandS.TupSets
import HandS.SetBool
import HandS.DictComp
import HandS.Strs
import PySem.Challenge.RW_plainbehind_k64_border_whole
set_option Elab.async false
set_option linter.all false
set_option maxRecDepth 100000
set_option exponentiation.threshold 4000
/-! Tree: keys of dicts that are nested tuples of ints and texts. -/
namespace L2.Fn
open PySem PySem.Spec PyProof.Rows

inductive NK where | i (n : Int) | s (x : List Nat) | t (l : List NK)
mutual
def NK.dec : (a b : NK) → Decidable (a = b)
  | .i a, .i b => if h : a = b then Decidable.isTrue (by rw [h]) else Decidable.isFalse (fun e => h (by injection e))
  | .s a, .s b => if h : a = b then Decidable.isTrue (by rw [h]) else Decidable.isFalse (fun e => h (by injection e))
  | .t a, .t b => match NK.decs a b with
    | Decidable.isTrue h => Decidable.isTrue (by rw [h])
    | Decidable.isFalse h => Decidable.isFalse (fun e => h (by injection e))
  | .i _, .s _ => Decidable.isFalse (fun e => nomatch e)
  | .i _, .t _ => Decidable.isFalse (fun e => nomatch e)
  | .s _, .i _ => Decidable.isFalse (fun e => nomatch e)
  | .s _, .t _ => Decidable.isFalse (fun e => nomatch e)
  | .t _, .i _ => Decidable.isFalse (fun e => nomatch e)
  | .t _, .s _ => Decidable.isFalse (fun e => nomatch e)
def NK.decs : (a b : List NK) → Decidable (a = b)
  | [], [] => Decidable.isTrue rfl
  | [], _ :: _ => Decidable.isFalse (fun e => nomatch e)
  | _ :: _, [] => Decidable.isFalse (fun e => nomatch e)
  | x :: a, y :: b => match NK.dec x y with
    | Decidable.isFalse h => Decidable.isFalse (fun e => h (by injection e))
    | Decidable.isTrue h => match NK.decs a b with
      | Decidable.isTrue h2 => Decidable.isTrue (by rw [h, h2])
      | Decidable.isFalse h2 => Decidable.isFalse (fun e => h2 (by injection e))
end
instance : DecidableEq NK := NK.dec
mutual
def NK.dep : NK → Nat
  | .i _ => 0
  | .s _ => 0
  | .t l => 1 + NK.deps l
def NK.deps : List NK → Nat
  | [] => 0
  | k :: l => max (NK.dep k) (NK.deps l)
end
mutual
inductive IsTree (h : Heap) : NK → Value → Prop
  | i (n : Int) (t : Tok) : IsTree h (.i n) (.int n t)
  | s (x : List Nat) (t : Tok) : IsTree h (.s x) (.str ⟨x.toArray⟩ t)
  | t {a : Addr} {items : Array Value} {ks : List NK} : h.IsTuple a items → AreTree h ks items.toList → IsTree h (.t ks) (.ref a)
inductive AreTree (h : Heap) : List NK → List Value → Prop
  | nil : AreTree h [] []
  | cons {k : NK} {v : Value} {ks : List NK} {vs : List Value} : IsTree h k v → AreTree h ks vs → AreTree h (k :: ks) (v :: vs)
end
theorem str_of_inj {x y : List Nat} {t u : Tok} (h : Value.str ⟨x.toArray⟩ t = Value.str ⟨y.toArray⟩ u) : x = y := by
  injection h with h _
  injection h with h
  simpa using congrArg Array.toList h
theorem isTuple_inj {h : Heap} {a : Addr} {x y : Array Value} (p : h.IsTuple a x) (q : h.IsTuple a y) : x = y := by
  obtain ⟨o, ho, _, n, hd⟩ := p
  obtain ⟨o', ho', _, n', hd'⟩ := q
  obtain rfl : o = o' := Option.some.inj (ho.symm.trans ho')
  rw [hd] at hd'
  injection hd'
mutual
theorem IsTree.inj {h : Heap} : ∀ {x y : NK} {v : Value}, IsTree h x v → IsTree h y v → x = y
  | _, _, _, .i _ _, .i _ _ => rfl
  | _, _, _, .s x t, q => by
    generalize hv : Value.str ⟨x.toArray⟩ t = v at q
    cases q with
    | i => cases hv
    | s y u => rw [str_of_inj hv]
    | t => cases hv
  | _, _, _, .t p r, .t p' r' => by
    have := isTuple_inj p p'
    subst this
    rw [AreTree.inj r r']
theorem AreTree.inj {h : Heap} : ∀ {x y : List NK} {v : List Value}, AreTree h x v → AreTree h y v → x = y
  | _, _, _, .nil, .nil => rfl
  | _, _, _, .cons p r, .cons p' r' => by rw [IsTree.inj p p', AreTree.inj r r']
end
theorem isTuple_keeps {h h' : Heap} {a d : Addr} {o : Obj} {es ep} {items : Array Value} (x : h.IsTuple a items) (ho : h.get? d = some o) (hd : o.data = .dict es ep) (hs : Heap.SameBut d h h') : h'.IsTuple a items := by
  obtain ⟨o', ho', hc, n, hd'⟩ := x
  have hne : a ≠ d := by
    rintro rfl
    obtain rfl : o' = o := Option.some.inj (ho'.symm.trans ho)
    rw [hd] at hd'
    exact nomatch hd'
  exact ⟨o', (hs.2 a hne).trans ho', hc, n, hd'⟩
mutual
theorem IsTree.mono {h h' : Heap} (k : ∀ a items, h.IsTuple a items → h'.IsTuple a items) : ∀ {x : NK} {v : Value}, IsTree h x v → IsTree h' x v
  | _, _, .i n t => .i n t
  | _, _, .s x t => .s x t
  | _, _, .t p r => .t (k _ _ p) (AreTree.mono k r)
theorem AreTree.mono {h h' : Heap} (k : ∀ a items, h.IsTuple a items → h'.IsTuple a items) : ∀ {x : List NK} {v : List Value}, AreTree h x v → AreTree h' x v
  | _, _, .nil => .nil
  | _, _, .cons p r => .cons (IsTree.mono k p) (AreTree.mono k r)
end
theorem isTuple_typeIs {s : Shared} {a : Addr} {items : Array Value} (x : s.heap.IsTuple a items) : s.TypeIs (.ref a) "tuple" := let ⟨o, ho, hc, _⟩ := x; ⟨o, ho, hc⟩
section
variable (w : World)
mutual
def NK.hash : NK → Int
  | .i n => keyH w (.inl n)
  | .s x => keyH w (.inr ⟨x.toArray⟩)
  | .t l => reduceHash (Builtin.Tuple.tupleHashOf (NK.hashes l))
def NK.hashes : List NK → List Int
  | [] => []
  | k :: l => NK.hash k :: NK.hashes l
end
end
mutual
def NK.draws : NK → Nat
  | .i _ => 1
  | .s _ => 1
  | .t l => NK.drawsL l + 1
def NK.drawsL : List NK → Nat
  | [] => 0
  | k :: l => NK.draws k + NK.drawsL l
end
theorem NK.hashes_app (w : World) : ∀ a b : List NK, NK.hashes w (a ++ b) = NK.hashes w a ++ NK.hashes w b
  | [], b => rfl
  | k :: a, b => by rw [List.cons_append, NK.hashes, NK.hashes, NK.hashes_app w a b, List.cons_append]
theorem NK.drawsL_app : ∀ a b : List NK, NK.drawsL (a ++ b) = NK.drawsL a + NK.drawsL b
  | [], b => by rw [List.nil_append, NK.drawsL, Nat.zero_add]
  | k :: a, b => by rw [List.cons_append, NK.drawsL, NK.drawsL, NK.drawsL_app a b, Nat.add_assoc]
theorem NK.deps_mem {n : Nat} : ∀ {a b : List NK} {k : NK}, NK.deps (a ++ k :: b) ≤ n → k.dep ≤ n
  | [], b, k, h => by rw [List.nil_append, NK.deps] at h; omega
  | x :: a, b, k, h => by rw [List.cons_append, NK.deps] at h; exact NK.deps_mem (a := a) (b := b) (by omega)
section
variable {P : Program} {w : World}
theorem tree_hash : ∀ (n : Nat) (k : NK) (A : Around) (E : Value → Shared → Prop) (s : Shared) (v : Value) (Q : Int → Shared → Prop), k.dep ≤ n → A.units + n < cLine → IsTree s.heap k v →
    Q (k.hash w) { s with toks := s.toks + k.draws } → wpAny (model P w) A (PySem.pyHash v) Q E s := by
  intro n
  induction n with
  | zero =>
    intro k A E s v Q hd hu r h
    cases r with
    | i m t => exact (mixKind P w).pyHash (mixKind_int P w m t) h
    | s x t => exact (mixKind P w).pyHash (mixKind_str P w ⟨x.toArray⟩ t) h
    | t p r => rw [NK.dep] at hd; omega
  | succ n ih =>
    intro k A E s v Q hd hu r h
    cases r with
    | i m t => exact (mixKind P w).pyHash (mixKind_int P w m t) h
    | s x t => exact (mixKind P w).pyHash (mixKind_str P w ⟨x.toArray⟩ t) h
    | @t a items ks p r =>
      have hT := isTuple_typeIs p
      rw [NK.dep] at hd
      have hus : A.units < cLine := by omega
      obtain ⟨o, ho, _, nn, hdat⟩ := p
      unfold pyHash
      first | unfold pyHashByItsType | skip
      first | refine wpAny_bind (wpAny_cRoomFor_or (.inr hus) ?_) | skip
      refine wpAny_bind (wpAny_specialOf hT PySem.F.slot_tuple_hash.lookup ?_)
      show wpAny _ _ (if (some (Value.builtin "tuple.__hash__") == some Value.none) = true then _ else _) Q E s
      rw [if_neg (by rw [beq_builtin_none]; exact Bool.false_ne_true)]
      refine wpAny_bind (wpAny_specialOf hT PySem.F.slot_tuple_hash.lookup ?_)
      show wpAny _ _ (callSpecialIfBoundUnlessNone? (.ref a) "__hash__" _ >>= _) Q E s
      refine wpAny_bind (wpAny_callSpecialIfBoundUnlessNone?_slot hT PySem.F.slot_tuple_hash (wpAny_call_entry PySem.F.slot_tuple_hash hT PySem.F.entry_tuple_hash ?_ (PySem.F.args_tuple_hash_1 _)))
      show wpAny _ _ (Builtin.Tuple.tupleItemsOf (.ref a) >>= _) _ _ s
      refine wpAny_bind (wpAny_tupleItemsOf ho hdat ?_)
      refine wpAny_bind ?_
      rw [← Array.forIn_toList]
      refine wpAny_forIn_list _
        (fun rest (b : Array Int) s' => ∃ done left, ks = done ++ left ∧ AreTree s.heap left rest ∧ b.toList = NK.hashes w done ∧ s' = { s with toks := s.toks + NK.drawsL done })
        _ ?_ ?_ _ _ ⟨[], ks, rfl, r, rfl, rfl⟩
      · rintro x rest b s' ⟨done, left, e, hl, hb, rfl⟩
        cases hl with
        | @cons k _ ks' _ h1 hl' =>
          have hk : k.dep ≤ n := NK.deps_mem (a := done) (b := ks') (by rw [← e]; omega)
          refine wpAny_bind (ih k _ _ _ x _ hk (show A.in1.units + n < cLine by show A.units + 1 + n < cLine; omega) h1 ?_)
          have e3 : ks = (done ++ [k]) ++ ks' := by rw [e]; simp
          have e4 : (b.push (k.hash w)).toList = NK.hashes w (done ++ [k]) := by rw [NK.hashes_app, ← hb]; simp [NK.hashes]
          have e5 : NK.drawsL (done ++ [k]) = NK.drawsL done + k.draws := by rw [NK.drawsL_app]; simp [NK.drawsL]
          first
            | exact wpAny_pure ⟨done ++ [k], ks', e3, hl', e4, by rw [e5, Nat.add_assoc]⟩
            | exact wpAny_bind (wpAny_pure (wpAny_pure ⟨done ++ [k], ks', e3, hl', e4, by rw [e5, Nat.add_assoc]⟩))
      · rintro b s' ⟨done, left, e, hl, hb, rfl⟩
        cases hl
        rw [List.append_nil] at e
        subst e
        show wpAny _ _ (retInt (Builtin.Tuple.tupleHashOf b.toList)) _ _ _
        rw [hb]
        rw [NK.hash, NK.draws] at h
        refine wpAny_ret_mkInt ?_
        show wpAny _ _ (if (decide (-(2 : Int) ^ 63 ≤ Builtin.Tuple.tupleHashOf (NK.hashes w ks)) && decide (Builtin.Tuple.tupleHashOf (NK.hashes w ks) < 2 ^ 63)) = true then _ else _) Q E _
        unfold reduceHash at h
        by_cases hr : (decide (-(2 : Int) ^ 63 ≤ Builtin.Tuple.tupleHashOf (NK.hashes w ks)) && decide (Builtin.Tuple.tupleHashOf (NK.hashes w ks) < 2 ^ 63)) = true
        · rw [if_pos hr]
          rw [if_pos hr] at h
          exact wpAny_pure (by simpa [Nat.add_assoc] using h)
        · rw [if_neg hr]
          rw [if_neg hr] at h
          exact wpAny_bind (wpAny_rule (wpAny_pure (by simpa [Nat.add_assoc] using h)))
theorem eq_atom {x y : NK} {A : Around} {E : Value → Shared → Prop} {s : Shared} {u v : Value} {Q : Bool → Shared → Prop} (hu : A.units < cLine) (rx : IsTree s.heap x u) (ry : IsTree s.heap y v) (hn : ¬ (∃ a, x = .t a) ∨ ¬ ∃ b, y = .t b)
    (h : Q (decide (x = y)) s) : wpAny (model P w) A (PySem.eqBool u v) Q E s := by
  cases rx with
  | i m t =>
    cases ry with
    | i m' t' => exact wpAny_eqBool_int (by rw [show (m == m') = decide (NK.i m = NK.i m') by by_cases e : m = m' <;> simp [e]]; exact h)
    | s x' t' => exact SeqAt.EqAt.int_str m t _ t' _ _ _ _ (by rw [show decide (NK.i m = NK.s x') = false from decide_eq_false (fun e => nomatch e)] at h; exact h)
    | @t b items ks p r => exact SeqAt.EqAt.int_tuple m t p hu _ _ _ _ (by rw [show decide (NK.i m = NK.t ks) = false from decide_eq_false (fun e => nomatch e)] at h; exact h)
  | s x t =>
    cases ry with
    | i m' t' => exact SeqAt.EqAt.str_int _ t m' t' _ _ _ _ (by rw [show decide (NK.s x = NK.i m') = false from decide_eq_false (fun e => nomatch e)] at h; exact h)
    | s x' t' =>
      refine wpAny_eqBool_str ?_
      have e : decide ((⟨x.toArray⟩ : Str) = ⟨x'.toArray⟩) = decide (NK.s x = NK.s x') := by
        by_cases g : x = x'
        · subst g; simp
        · have g1 : ¬ (⟨x.toArray⟩ : Str) = ⟨x'.toArray⟩ := fun e => g (by simpa using congrArg Array.toList (congrArg Str.cps e))
          have g2 : ¬ NK.s x = NK.s x' := fun e => g (by injection e)
          rw [decide_eq_false g1, decide_eq_false g2]
      rw [e]
      exact h
    | @t b items ks p r => exact SeqAt.EqAt.str_tuple _ t p hu _ _ _ _ (by rw [show decide (NK.s x = NK.t ks) = false from decide_eq_false (fun e => nomatch e)] at h; exact h)
  | @t a items ks p r =>
    cases ry with
    | i m' t' => exact SeqAt.EqAt.tuple_int m' t' p hu _ _ _ _ (by rw [show decide (NK.t ks = NK.i m') = false from decide_eq_false (fun e => nomatch e)] at h; exact h)
    | s x' t' => exact SeqAt.EqAt.tuple_str _ t' p hu _ _ _ _ (by rw [show decide (NK.t ks = NK.s x') = false from decide_eq_false (fun e => nomatch e)] at h; exact h)
    | t p' r' =>
      rcases hn with hn | hn
      · exact absurd ⟨_, rfl⟩ hn
      · exact absurd ⟨_, rfl⟩ hn
theorem AreTree.length {h : Heap} : ∀ {ks : List NK} {vs : List Value}, AreTree h ks vs → ks.length = vs.length
  | _, _, .nil => rfl
  | _, _, .cons _ r => by rw [List.length_cons, List.length_cons, r.length]
theorem tree_eq : ∀ (n : Nat) (x y : NK) (A : Around) (E : Value → Shared → Prop) (s : Shared) (u v : Value) (Q : Bool → Shared → Prop), x.dep ≤ n → y.dep ≤ n → A.units + n < cLine → IsTree s.heap x u → IsTree s.heap y v →
    Q (decide (x = y)) s → wpAny (model P w) A (PySem.eqBool u v) Q E s := by
  intro n
  induction n with
  | zero =>
    intro x y A E s u v Q hx hy hu rx ry h
    refine eq_atom hu rx ry (.inl ?_) h
    rintro ⟨a, rfl⟩
    rw [NK.dep] at hx
    omega
  | succ n ih =>
    intro x y A E s u v Q hx hy hu rx ry h
    by_cases gx : ∃ a, x = .t a
    · by_cases gy : ∃ b, y = .t b
      · obtain ⟨kx, rfl⟩ := gx
        obtain ⟨ky, rfl⟩ := gy
        cases rx with
        | @t a xs _ px rx =>
          cases ry with
          | @t b ys _ py ry =>
            rw [NK.dep] at hx hy
            have hTa := isTuple_typeIs px
            have hTb := isTuple_typeIs py
            obtain ⟨oa, hoa, _, na, hda⟩ := px
            obtain ⟨ob, hob, _, nb, hdb⟩ := py
            unfold eqBool
            try with_reducible refine wpAny_holding ?_
            show wpAny _ _ (if (Value.ref a == Value.ref b) = true then _ else _) Q E s
            by_cases hab : (Value.ref a == Value.ref b) = true
            · rw [if_pos hab]
              have e : a = b := by have := eq_of_beq hab; injection this
              subst e
              have e1 : oa = ob := Option.some.inj (hoa.symm.trans hob)
              subst e1
              rw [hda] at hdb
              injection hdb with e2
              subst e2
              have e3 := AreTree.inj rx ry
              subst e3
              exact wpAny_bind (wpAny_rule (wpAny_pure (by simpa using h)))
            · rw [if_neg hab]
              refine wpAny_bind (wpAny_richCompare_same_room (op := .Eq) hTa hTb PySem.F.slot_tuple_eq (wpAny_call_entry PySem.F.slot_tuple_eq hTa PySem.F.entry_tuple_eq ?_ (PySem.F.args_tuple_eq_2 _ _)) (by omega))
              show wpAny _ _ (isInstance (.ref b) (.type "tuple") >>= _) _ _ s
              refine wpAny_bind (wpAny_isInstance hTb isSubtype_tuple_tuple ?_)
              simp only [Bool.not_true, Bool.false_eq_true, if_false]
              refine wpAny_bind (wpAny_tupleItemsOf hoa hda ?_)
              refine wpAny_bind (wpAny_tupleItemsOf hob hdb ?_)
              refine wpAny_bind ?_
              refine wpAny_forIn_list _
                (fun rest r s' => r.1 = none ∧ s' = s ∧ ∃ x' y' xs' ys', rest = List.zip xs' ys' ∧ AreTree s.heap x' xs' ∧ AreTree s.heap y' ys' ∧ (∀ k ∈ x', NK.dep k ≤ n) ∧ (∀ k ∈ y', NK.dep k ≤ n) ∧ decide (x' = y') = decide (kx = ky) ∧ (xs'.length == ys'.length) = (xs.size == ys.size))
                _ ?_ ?_ _ _ ⟨rfl, rfl, kx, ky, xs.toList, ys.toList, rfl, rx, ry, ?_, ?_, rfl, by simp⟩
              · rintro ⟨u, v⟩ rest r s' ⟨hr, rfl, x', y', xs', ys', hz, hx', hy', dx, dy, hdec, hlen⟩
                cases hx' with
                | nil => simp at hz
                | @cons k1 u' x'' xs'' h1 hx'' =>
                  cases hy' with
                  | nil => simp at hz
                  | @cons k2 v' y'' ys'' h2 hy'' =>
                    simp only [List.zip_cons_cons, List.cons.injEq, Prod.mk.injEq] at hz
                    obtain ⟨⟨rfl, rfl⟩, rfl⟩ := hz
                    refine wpAny_bind (ih k1 k2 _ _ _ u v _ (dx _ List.mem_cons_self) (dy _ List.mem_cons_self) (show A.units + 1 + n < cLine by omega) h1 h2 ?_)
                    by_cases hk : k1 = k2
                    · subst hk
                      rw [decide_eq_true rfl]
                      simp only [Bool.not_true, Bool.false_eq_true, if_false]
                      refine wpAny_pure ⟨rfl, rfl, x'', y'', xs'', ys'', rfl, hx'', hy'', fun k z => dx k (List.mem_cons_of_mem _ z), fun k z => dy k (List.mem_cons_of_mem _ z), ?_, by simpa using hlen⟩
                      rw [← hdec]
                      by_cases hxy : x'' = y''
                      · simp [hxy]
                      · simp [hxy]
                    · rw [decide_eq_false hk]
                      simp only [Bool.not_false, if_true]
                      have hf : decide (kx = ky) = false := by rw [← hdec]; simp [hk]
                      have hf2 : decide (NK.t kx = NK.t ky) = false := by
                        rw [decide_eq_false_iff_not] at hf ⊢
                        exact fun e => hf (by injection e)
                      rw [hf2] at h
                      exact wpAny_bind (wpAny_pure (wpAny_pure (wpAny_pure ⟨_, rfl, (fun e => nomatch e), wpAny_truthy_bool h⟩)))
              · rintro ⟨r1, r2⟩ s' ⟨hr, rfl, x', y', xs', ys', hz, hx', hy', dx, dy, hdec, hlen⟩
                simp only at hr
                subst hr
                refine wpAny_pure ?_
                have hfin : (xs.size == ys.size) = decide (NK.t kx = NK.t ky) := by
                  have e0 : decide (NK.t kx = NK.t ky) = decide (kx = ky) := by
                    by_cases g : kx = ky
                    · subst g; simp
                    · rw [decide_eq_false g, decide_eq_false fun e => g (by injection e)]
                  rw [e0, ← hdec, ← hlen]
                  cases hx' with
                  | nil =>
                    cases hy' with
                    | nil => simp
                    | cons _ _ => simp
                  | cons _ _ =>
                    cases hy' with
                    | nil => simp
                    | cons _ _ => simp at hz
                refine ⟨.bool (xs.size == ys.size), rfl, (fun e => nomatch e), ?_⟩
                rw [hfin]
                exact wpAny_truthy_bool h
              · intro k hk
                obtain ⟨l, r, e⟩ := List.append_of_mem hk
                exact NK.deps_mem (a := l) (b := r) (by rw [← e]; omega)
              · intro k hk
                obtain ⟨l, r, e⟩ := List.append_of_mem hk
                exact NK.deps_mem (a := l) (b := r) (by rw [← e]; omega)
      · exact eq_atom (by omega) rx ry (.inr gy) h
    · exact eq_atom (by omega) rx ry (.inl gx) h
theorem tree_quiet : ∀ (n : Nat) (x : NK) (A : Around) (E : Value → Shared → Prop) (s : Shared) (u : Value) (Q : Bool → Shared → Prop), x.dep ≤ n → IsTree s.heap x u → Q true s → wpAny (model P w) A (eqIsQuiet n u) Q E s := by
  intro n
  induction n with
  | zero =>
    intro x A E s u Q hx rx h
    cases rx with
    | i m t => rw [eqIsQuiet_byValue _ rfl]; exact wpAny_pure h
    | s m t => rw [eqIsQuiet_byValue _ rfl]; exact wpAny_pure h
    | t p r => rw [NK.dep] at hx; omega
  | succ n ih =>
    intro x A E s u Q hx rx h
    cases rx with
    | i m t => rw [eqIsQuiet_byValue _ rfl]; exact wpAny_pure h
    | s m t => rw [eqIsQuiet_byValue _ rfl]; exact wpAny_pure h
    | @t a items ks p r =>
      rw [NK.dep] at hx
      have hT := isTuple_typeIs p
      obtain ⟨o, ho, _, nn, hd⟩ := p
      unfold eqIsQuiet
      refine wpAny_bind (wpAny_specialOf hT PySem.F.slot_tuple_eq.lookup ?_)
      show wpAny _ _ (isInstance (.ref a) (.type "tuple") >>= _) _ _ s
      refine wpAny_bind (wpAny_isInstance hT isSubtype_tuple_tuple ?_)
      simp only [Bool.not_true, Bool.false_eq_true, if_false]
      refine wpAny_bind (wpAny_seqItems ho hd ?_)
      refine wpAny_bind ?_
      show wpAny _ _ (forIn items _ _) _ _ s
      rw [← Array.forIn_toList]
      refine wpAny_forIn_list _ (fun rest r s' => r.1 = none ∧ s' = s ∧ ∃ left, AreTree s.heap left rest ∧ ∀ k ∈ left, NK.dep k ≤ n) _ ?_ ?_ _ _ ⟨rfl, rfl, ks, r, ?_⟩
      · rintro v rest r s' ⟨hr, rfl, left, hl, hall⟩
        cases hl with
        | cons h1 h2 =>
          refine wpAny_bind (ih _ _ _ _ _ _ (hall _ List.mem_cons_self) h1 ?_)
          simp only [Bool.not_true, Bool.false_eq_true, if_false]
          exact wpAny_pure ⟨rfl, rfl, _, h2, fun k hk => hall k (List.mem_cons_of_mem _ hk)⟩
      · rintro ⟨r1, r2⟩ s' ⟨hr, rfl, _⟩
        simp only at hr
        subst hr
        exact wpAny_pure h
      · intro k hk
        obtain ⟨l, r, e⟩ := List.append_of_mem hk
        exact NK.deps_mem (a := l) (b := r) (by rw [← e]; omega)
/-- keys that are nested tuples, eight deep at most -/
def treeKind (P : Program) (w : World) : HeapKind P w NK where
  is := fun h k a => IsTree h k (.ref a) ∧ k.dep ≤ 8
  hash := NK.hash w
  draws := NK.draws
  room := fun A => A.units + 8 < cLine
  inj := fun hx hy => hx.1.inj hy.1
  keeps := fun x ho hd hs => ⟨x.1.mono fun a items p => isTuple_keeps p ho hd hs, x.2⟩
  pyHash := fun hu hk h => tree_hash 8 _ _ _ _ _ _ hk.2 hu hk.1 h
  eqBool := fun hu hx hy h => tree_eq 8 _ _ _ _ _ _ _ _ hx.2 hy.2 hu hx.1 hy.1 h
  quiet := fun hk h => tree_quiet 8 _ _ _ _ _ _ hk.2 hk.1 h
end
end L2.Fn
/-! Fn, part A: pure data, what represents it, and how it lasts. -/
namespace L2.Fn
open PySem PySem.Spec PyProof.Rows

/-- a dict's key: [k] of an int or a text, else the items of a tuple -/
abbrev PK := List (Int ⊕ List Nat)
/-- pure data (never changed) -/
inductive D where
  | non | bl (b : Bool) | int (i : Int) | str (s : List Nat) | tup (l : List D) | ktup (l : List D) | lst (l : List D) | dct (b : Bool) (ks : List NK) (vs : List D) | obj (n : Nat) | fn (x : Str) | exn (a dd : Addr) (x f : Str) (d : D)
/-- what a name may hold: pure data, or a list of one's own that may still be changed -/
inductive M where
  | dat (d : D) | lst (l : List M) | dct (b : Bool) (kvs : List (NK × D))

/-- what the text's top says: the written part, the module's names -/
structure Top where
  K : PySem.W.Frag
  mg : Str → Option Value
  w : World

abbrev Ob := List (Addr × Addr)
abbrev Ob.ads (φ : Ob) : List Addr := φ.map (·.1)

def FzL (T : Top) (H : Hp) (a : Addr) (xs : List V) : Prop := (∃ o, H a = some (.frz o (.lst xs))) ∨
  ∃ (o : Obj) (its : Array Value) (n : Nat), T.K.lookup a = some o ∧ o.cls = .type "list" ∧ o.dict = none ∧ o.data = .seq its n ∧ its.size ≤ sizeLine ∧ Vals xs its.toList
theorem FzL.seq {T : Top} {H : Hp} {a : Addr} {xs : List V} (h : FzL T H a xs) : SqL T.K H a xs := by
  rcases h with ⟨o, h⟩ | h
  · exact .inl (.inr ⟨o, h⟩)
  · exact .inr h
def pkK : Key → Int ⊕ List Nat
  | .inl i => .inl i
  | .inr x => .inr x.cps.toList
def nkK : Key → NK
  | .inl i => .i i
  | .inr x => .s x.cps.toList
mutual
def NK.toD : NK → D
  | .i n => .int n
  | .s x => .str x
  | .t l => .tup (NK.toDs l)
def NK.toDs : List NK → List D
  | [] => []
  | k :: l => NK.toD k :: NK.toDs l
end
/-- a dict whose keys are nested tuples: what is true of its object -/
def dNφ (w : World) (a : Addr) (kvs : List (NK × Addr × V)) : Heap → Prop := fun h => kvs.length ≤ sizeLine ∧ (a == sysModules) = false ∧ (∀ x ∈ kvs, x.1.dep ≤ 8) ∧
  ∃ xs : List (NK × Addr × Value), Paired (fun (p : NK × Addr × V) (q : NK × Addr × Value) => p.1 = q.1 ∧ p.2.1 = q.2.1 ∧ RelV p.2.2 q.2.2) kvs xs ∧
  ∃ o es ep, h.get? a = some o ∧ o.ExactDict ∧ o.data = .dict es ep ∧ es.toList = xs.map (fun x => ⟨NK.hash w x.1, .ref x.2.1, x.2.2⟩) ∧ (xs.map (·.1)).Nodup
def dN (w : World) (a : Addr) (kvs : List (NK × Addr × V)) : HO := .ext (dNφ w a kvs)
/-- a dict's keys (with their tuples) and values -/
inductive DKV (w : World) (a : Addr) : HO → Bool → List NK → List V → List D → List V → Prop where
  | k (kvs : List (Key × V)) : DKV w a (.dK kvs) false (kvs.map fun p => nkK p.1) [] [] (kvs.map (·.2))
  | t (kvs : List (NK × Addr × V)) : DKV w a (dN w a kvs) true (kvs.map (·.1)) (kvs.map fun x => .ref x.2.1) (kvs.map fun x => x.1.toD) (kvs.map (·.2.2))
/-- what may stand at an own place -/
def OwnO : HO → Prop
  | .lst _ | .dK _ | .ext _ => True
  | _ => False
theorem DKV.own {w : World} {a : Addr} {h : HO} {b : Bool} {ks : List NK} {kv : List V} {kd : List D} {xs : List V} (d : DKV w a h b ks kv kd xs) : OwnO h := by cases d <;> trivial
def KTup (T : Top) (a : Addr) (xs : List V) : Prop := ∃ (o : Obj) (its : Array Value) (n : Nat), T.K.lookup a = some o ∧ o.cls = .type "tuple" ∧ o.data = .seq its n ∧ its.size ≤ sizeLine ∧ Vals xs its.toList ∧ o.dict = none
/-- a tuple that is known to have no dict: the top's, or one that was made so -/
def KN (T : Top) (H : Hp) (a : Addr) (xs : List V) : Prop := KTup T a xs ∨ ∃ o : Obj, H a = some (.frz o (.tup xs)) ∧ o.cls = .type "tuple" ∧ o.dict = none
theorem KN.sq {T : Top} {H : Hp} {a : Addr} {xs : List V} (h : KN T H a xs) : SqT T.K H a xs := by
  rcases h with ⟨o, its, n, h1, h2, h3, h4, h5, _⟩ | ⟨o, h, _⟩
  · exact .inr ⟨o, its, n, h1, h2, h3, h4, h5⟩
  · exact .inl (.inr ⟨o, h⟩)
mutual
inductive FD (T : Top) (φ : Ob) (H : Hp) : V → D → Prop where
  | non : FD T φ H .non .non
  | bl (b : Bool) : FD T φ H (.bl b) (.bl b)
  | int (i : Int) : FD T φ H (.int i) (.int i)
  | str (s : List Nat) : FD T φ H (.str ⟨s.toArray⟩) (.str s)
  | tup {a : Addr} {xs : List V} {ds : List D} : H a = some (.tup xs) → FDs T φ H xs ds → FD T φ H (.ref a) (.tup ds)
  | ktup {a : Addr} {xs : List V} {ds : List D} : KN T H a xs → FDs T φ H xs ds → FD T φ H (.ref a) (.ktup ds)
  | dct {a : Addr} {o : Obj} {h : HO} {b : Bool} {ks : List NK} {kv xs : List V} {kd vs : List D} : H a = some (.frz o h) → DKV T.w a h b ks kv kd xs → FDs T φ H kv kd → FDs T φ H xs vs → FD T φ H (.ref a) (.dct b ks vs)
  | lst {a : Addr} {xs : List V} {ds : List D} : FzL T H a xs → FDs T φ H xs ds → FD T φ H (.ref a) (.lst ds)
  | obj {a dx : Addr} {n : Nat} : φ[n]? = some (a, dx) → FD T φ H (.ref a) (.obj n)
  | fn {x : Str} {f : Addr} : T.mg x = some (.ref f) → FD T φ H (.ref f) (.fn x)
  | exn {a dd C : Addr} {x f : Str} {v : V} {d : D} : T.mg x = some (.ref C) → H dd = some (.xd [(f, v)]) → FD T φ H v d → FD T φ H (.ref a) (.exn a dd x f d)
inductive FDs (T : Top) (φ : Ob) (H : Hp) : List V → List D → Prop where
  | nil : FDs T φ H [] []
  | cons {v : V} {vs : List V} {d : D} {ds : List D} : FD T φ H v d → FDs T φ H vs ds → FDs T φ H (v :: vs) (d :: ds)
end
mutual
inductive Rep (T : Top) (φ : Ob) (H : Hp) : V → M → List Addr → Prop where
  | dat {v : V} {d : D} : FD T φ H v d → Rep T φ H v (.dat d) []
  | lst {a : Addr} {vs : List V} {ms : List M} {f : List Addr} : H a = some (.lst vs) → Reps T φ H vs ms f → Rep T φ H (.ref a) (.lst ms) (a :: f)
  | dct {a : Addr} {h : HO} {b : Bool} {kvs : List (NK × D)} {kv xs : List V} {kd : List D} : H a = some h → DKV T.w a h b (kvs.map (·.1)) kv kd xs → FDs T φ H kv kd → FDs T φ H xs (kvs.map (·.2)) → Rep T φ H (.ref a) (.dct b kvs) [a]
inductive Reps (T : Top) (φ : Ob) (H : Hp) : List V → List M → List Addr → Prop where
  | nil : Reps T φ H [] [] []
  | cons {v : V} {vs : List V} {m : M} {ms : List M} {f g : List Addr} : Rep T φ H v m f → Reps T φ H vs ms g → Reps T φ H (v :: vs) (m :: ms) (f ++ g)
end

/-- the frame's slots -/
abbrev Ev := List (Option M)
inductive RepE (T : Top) (φ : Ob) (H : Hp) : St → Ev → List Addr → Prop where
  | nil : RepE T φ H [] [] []
  | skip {x : Option V} {σ : St} {ρ : Ev} {f : List Addr} : RepE T φ H σ ρ f → RepE T φ H (x :: σ) (none :: ρ) f
  | cons {v : V} {m : M} {σ : St} {ρ : Ev} {f g : List Addr} : Rep T φ H v m f → RepE T φ H σ ρ g → RepE T φ H (some v :: σ) (some m :: ρ) (f ++ g)
/-- instances: the class's name, the attributes -/
structure Ins where
  cls : Str
  fs : List (Str × M)
abbrev Sto := List Ins
inductive RepS (T : Top) (H : Hp) (Φ : Ob) : Ob → Sto → List Addr → Prop where
  | nil : RepS T H Φ [] [] []
  | cons {a dx C : Addr} {φ : Ob} {i : Ins} {S : Sto} {vs : List V} {f g : List Addr} : T.mg i.cls = some (.ref C) → H a = some (.ins C dx ((i.fs.map (·.1)).zip vs)) → vs.length = i.fs.length →
      Reps T Φ H vs (i.fs.map (·.2)) f → RepS T H Φ φ S g → RepS T H Φ ((a, dx) :: φ) (i :: S) (f ++ g)

/-! ### how it lasts -/
/-- pure things are kept -/
structure Ext (H H' : Hp) : Prop where
  tup : ∀ a xs, H a = some (.tup xs) → H' a = some (.tup xs)
  frz : ∀ a o u, H a = some (.frz o u) → H' a = some (.frz o u)
  xd : ∀ a fs, H a = some (.xd fs) → H' a = some (.xd fs)
theorem Ext.refl (H : Hp) : Ext H H := ⟨fun _ _ h => h, fun _ _ _ h => h, fun _ _ h => h⟩
theorem Ext.trans {H H1 H2 : Hp} (a : Ext H H1) (b : Ext H1 H2) : Ext H H2 := ⟨fun x y h => b.tup x y (a.tup x y h), fun x y z h => b.frz x y z (a.frz x y z h), fun x y h => b.xd x y (a.xd x y h)⟩
def Pre (φ φ' : Ob) : Prop := ∀ (n : Nat) (p : Addr × Addr), φ[n]? = some p → φ'[n]? = some p
theorem Pre.refl (φ : Ob) : Pre φ φ := fun _ _ h => h
theorem Pre.trans {a b c : Ob} (x : Pre a b) (y : Pre b c) : Pre a c := fun n p h => y n p (x n p h)
section
variable {T : Top} {φ φ' : Ob} {H H' : Hp}
theorem Ext.seqT {a : Addr} {xs : List V} (e : Ext H H') (h : SqT T.K H a xs) : SqT T.K H' a xs := by
  rcases h with (h | ⟨o, h⟩) | h
  · exact .inl (.inl (e.tup _ _ h))
  · exact .inl (.inr ⟨o, e.frz _ _ _ h⟩)
  · exact .inr h
theorem Ext.fzl {a : Addr} {xs : List V} (e : Ext H H') (h : FzL T H a xs) : FzL T H' a xs := by
  rcases h with ⟨o, h⟩ | h
  · exact .inl ⟨o, e.frz _ _ _ h⟩
  · exact .inr h
mutual
theorem FD.ext (e : Ext H H') (p : Pre φ φ') : ∀ {v : V} {d : D}, FD T φ H v d → FD T φ' H' v d
  | _, _, .non => .non
  | _, _, .bl b => .bl b
  | _, _, .int i => .int i
  | _, _, .str s => .str s
  | _, _, .tup h r => .tup (e.tup _ _ h) (FDs.ext e p r)
  | _, _, .ktup h r => .ktup (h.imp id fun ⟨o, q, c⟩ => ⟨o, e.frz _ _ _ q, c⟩) (FDs.ext e p r)
  | _, _, .dct h d q r => .dct (e.frz _ _ _ h) d (FDs.ext e p q) (FDs.ext e p r)
  | _, _, .lst h r => .lst (e.fzl h) (FDs.ext e p r)
  | _, _, .obj h => .obj (p _ _ h)
  | _, _, .fn h => .fn h
  | _, _, .exn h1 h2 r => .exn h1 (e.xd _ _ h2) (FD.ext e p r)
theorem FDs.ext (e : Ext H H') (p : Pre φ φ') : ∀ {v : List V} {d : List D}, FDs T φ H v d → FDs T φ' H' v d
  | _, _, .nil => .nil
  | _, _, .cons h r => .cons (FD.ext e p h) (FDs.ext e p r)
end
mutual
/-- .. and what stands at the own places -/
theorem Rep.ext (e : Ext H H') (p : Pre φ φ') : ∀ {v : V} {m : M} {f : List Addr}, Rep T φ H v m f → (∀ a o, a ∈ f → H a = some o → H' a = some o) → Rep T φ' H' v m f
  | _, _, _, .dat h, _ => .dat (h.ext e p)
  | _, _, _, .dct h d q r, k => .dct (k _ _ List.mem_cons_self h) d (q.ext e p) (r.ext e p)
  | _, _, _, .lst (a := a) (vs := vs) h r, k => .lst (k a _ List.mem_cons_self h) (Reps.ext e p r fun b xs hb => k b xs (List.mem_cons_of_mem _ hb))
theorem Reps.ext (e : Ext H H') (p : Pre φ φ') : ∀ {v : List V} {m : List M} {f : List Addr}, Reps T φ H v m f → (∀ a o, a ∈ f → H a = some o → H' a = some o) → Reps T φ' H' v m f
  | _, _, _, .nil, _ => .nil
  | _, _, _, .cons h r, k => .cons (Rep.ext e p h fun b xs hb => k b xs (List.mem_append_left _ hb)) (Reps.ext e p r fun b xs hb => k b xs (List.mem_append_right _ hb))
end
theorem RepE.ext (e : Ext H H') (p : Pre φ φ') : ∀ {σ : St} {ρ : Ev} {f : List Addr}, RepE T φ H σ ρ f → (∀ a o, a ∈ f → H a = some o → H' a = some o) → RepE T φ' H' σ ρ f
  | _, _, _, .nil, _ => .nil
  | _, _, _, .skip r, k => .skip (RepE.ext e p r k)
  | _, _, _, .cons h r, k => .cons (Rep.ext e p h fun b xs hb => k b xs (List.mem_append_left _ hb)) (RepE.ext e p r fun b xs hb => k b xs (List.mem_append_right _ hb))
theorem RepS.ext {Φ Φ' : Ob} (e : Ext H H') (p : Pre Φ Φ') : ∀ {φ : Ob} {S : Sto} {f : List Addr}, RepS T H Φ φ S f → (∀ a o, a ∈ f → H a = some o → H' a = some o) →
    (∀ a C dx fs, a ∈ φ.ads → H a = some (.ins C dx fs) → H' a = some (.ins C dx fs)) → RepS T H' Φ' φ S f
  | _, _, _, .nil, _, _ => .nil
  | _, _, _, .cons hC h hl r t, k, q => .cons hC (q _ _ _ _ List.mem_cons_self h) hl (Reps.ext e p r fun b xs hb => k b xs (List.mem_append_left _ hb))
      (RepS.ext e p t (fun b xs hb => k b xs (List.mem_append_right _ hb)) fun a C dx fs ha => q a C dx fs (List.mem_cons_of_mem _ ha))

/-! ### what stands at own places -/
mutual
theorem Rep.own : ∀ {v : V} {m : M} {f : List Addr}, Rep T φ H v m f → ∀ a ∈ f, ∃ o, H a = some o ∧ OwnO o
  | _, _, _, .dat _, _, h => nomatch h
  | _, _, _, .dct e d _ _, b, h => by
    rw [List.mem_singleton.mp h]
    exact ⟨_, e, d.own⟩
  | _, _, _, .lst e r, b, h => (List.mem_cons.mp h).elim (fun z => ⟨.lst _, z ▸ e, trivial⟩) fun h => Reps.own r b h
theorem Reps.own : ∀ {v : List V} {m : List M} {f : List Addr}, Reps T φ H v m f → ∀ a ∈ f, ∃ o, H a = some o ∧ OwnO o
  | _, _, _, .nil, _, h => nomatch h
  | _, _, _, .cons x r, b, h => (List.mem_append.mp h).elim (fun h => Rep.own x b h) fun h => Reps.own r b h
end
theorem RepE.own : ∀ {σ : St} {ρ : Ev} {f : List Addr}, RepE T φ H σ ρ f → ∀ a ∈ f, ∃ o, H a = some o ∧ OwnO o
  | _, _, _, .nil, _, h => nomatch h
  | _, _, _, .skip r, b, h => RepE.own r b h
  | _, _, _, .cons x r, b, h => (List.mem_append.mp h).elim (fun h => Rep.own x b h) fun h => RepE.own r b h
theorem RepS.own {Φ : Ob} : ∀ {φ : Ob} {S : Sto} {f : List Addr}, RepS T H Φ φ S f → ∀ a ∈ f ++ φ.ads, (∃ o, H a = some o ∧ OwnO o) ∨ ∃ C dx fs, H a = some (.ins C dx fs)
  | _, _, _, .nil, _, h => nomatch h
  | _, _, _, .cons (f := f) (g := g) hC e hl r t, b, h => by
    rcases List.mem_append.mp h with h | h
    · rcases List.mem_append.mp h with h | h
      · exact .inl (r.own b h)
      · exact RepS.own t b (List.mem_append_left _ h)
    · rcases List.mem_cons.mp h with h | h
      · refine .inr ?_
        have z : b = _ := h
        subst z
        exact ⟨_, _, _, e⟩
      · exact RepS.own t b (List.mem_append_right _ h)
end
end L2.Fn
/-! Fn, part B: readings of expressions over pure values. -/
namespace L2.Fn
open PySem PySem.Spec PyProof.Rows

abbrev WP := M → Sto → Prop
structure Exn where
  cls : Str
  fs : List (Str × D)
abbrev XP := Exn → Sto → Prop
/-- an expression's reading: the slots, the instances, what is wanted of a value, of an exception -/
abbrev FE := Ev → Sto → WP → XP → Prop

inductive RepX (T : Top) (φ : Ob) (H : Hp) : Value → Option Addr → Exn → Prop where
  | own0 {x : Str} {C : Addr} : T.mg x = some (.ref C) → RepX T φ H (.ref C) none ⟨x, []⟩
  | own1 {x f : Str} {C dd : Addr} {v : V} {d : D} : T.mg x = some (.ref C) → H dd = some (.xd [(f, v)]) → FD T φ H v d → RepX T φ H (.ref C) (some dd) ⟨x, [(f, d)]⟩

structure Good (T : Top) (φ : Ob) (H : Hp) (σ : St) (ρ : Ev) (S : Sto) (fe fs : List Addr) : Prop where
  env : RepE T φ H σ ρ fe
  sto : RepS T H φ φ S fs
  nd : (fe ++ (fs ++ φ.ads)).Nodup
structure Aft (φ : Ob) (fs : List Addr) (H : Hp) (φ' : Ob) (fs' fm : List Addr) (H' : Hp) : Prop where
  pre : Pre φ φ'
  keep : ∀ a o, a ∉ fs ++ φ.ads → H a = some o → H' a = some o
  new : ∀ a ∈ fm ++ (fs' ++ φ'.ads), a ∈ fs ++ φ.ads ∨ H a = none
  nd : (fm ++ (fs' ++ φ'.ads)).Nodup

section
variable {T : Top} {φ φ1 φ2 : Ob} {H H1 H2 : Hp} {S S1 S2 : Sto} {σ : St} {ρ : Ev} {fe fs fs1 fs2 fm fm1 fm2 : List Addr}
theorem own_no {α : Prop} {a : Addr} {o : HO} (h : (∃ u, H a = some u ∧ OwnO u) ∨ ∃ C dx fs, H a = some (.ins C dx fs)) (k : H a = some o) (n : ¬ OwnO o) (n2 : ∀ C dx fs, o ≠ .ins C dx fs) : α := by
  rcases h with ⟨u, q, w⟩ | ⟨C, dx, fs, q⟩
  · rw [k] at q
    cases q
    exact (n w).elim
  · rw [k] at q
    cases q
    exact (n2 _ _ _ rfl).elim
theorem lst_not {a : Addr} {xs ys : List V} (h : H a = some (.lst xs)) (k : H a = some (.tup ys)) : False := by rw [h] at k; cases k
theorem Aft.ext (A : Aft φ fs H φ1 fs1 fm H1) (R : RepS T H φ φ S fs) : Ext H H1 := by
  refine ⟨fun a xs h => A.keep a _ (fun z => ?_) h, fun a o u h => A.keep a _ (fun z => ?_) h, fun a u h => A.keep a _ (fun z => ?_) h⟩
  · exact own_no (R.own a z) h (fun z => z) (fun _ _ _ z => nomatch z)
  · exact own_no (R.own a z) h (fun z => z) (fun _ _ _ z => nomatch z)
  · exact own_no (R.own a z) h (fun z => z) (fun _ _ _ z => nomatch z)
theorem Aft.refl (nd : (fs ++ φ.ads).Nodup) : Aft φ fs H φ fs [] H := ⟨Pre.refl _, fun _ _ _ h => h, fun _ h => .inl h, nd⟩
/-- things that no step touches stay: they stand beside what the store owns -/
theorem Aft.rep {v : V} {m : M} (A : Aft φ fs H φ1 fs1 fm1 H1) (R : RepS T H φ φ S fs) (r : Rep T φ H v m fm) (d : ∀ a ∈ fm, a ∉ fs ++ φ.ads) : Rep T φ1 H1 v m fm :=
  r.ext (A.ext R) A.pre fun a xs ha h => A.keep a _ (d a ha) h
theorem Aft.reps {v : List V} {m : List M} (A : Aft φ fs H φ1 fs1 fm1 H1) (R : RepS T H φ φ S fs) (r : Reps T φ H v m fm) (d : ∀ a ∈ fm, a ∉ fs ++ φ.ads) : Reps T φ1 H1 v m fm :=
  r.ext (A.ext R) A.pre fun a xs ha h => A.keep a _ (d a ha) h
theorem Aft.fd {v : V} {d : D} (A : Aft φ fs H φ1 fs1 fm1 H1) (R : RepS T H φ φ S fs) (r : FD T φ H v d) : FD T φ1 H1 v d := r.ext (A.ext R) A.pre
theorem Good.disj (G : Good T φ H σ ρ S fe fs) : ∀ a ∈ fe, a ∉ fs ++ φ.ads := fun a h k => (List.nodup_append.mp G.nd).2.2 a h a k rfl
theorem Good.ndS (G : Good T φ H σ ρ S fe fs) : (fs ++ φ.ads).Nodup := (List.nodup_append.mp G.nd).2.1
theorem Aft.disj (A : Aft φ fs H φ1 fs1 fm1 H1) : ∀ a ∈ fm1, a ∉ fs1 ++ φ1.ads := fun a h k => (List.nodup_append.mp A.nd).2.2 a h a k rfl
theorem Aft.ndS (A : Aft φ fs H φ1 fs1 fm1 H1) : (fs1 ++ φ1.ads).Nodup := (List.nodup_append.mp A.nd).2.1
/-- the frame's own things stand apart from what is new -/
theorem Aft.apart (A : Aft φ fs H φ1 fs1 fm1 H1) {f : List Addr} (d : ∀ a ∈ f, a ∉ fs ++ φ.ads) (o : ∀ a ∈ f, H a ≠ none) : ∀ a ∈ f, a ∉ fm1 ++ (fs1 ++ φ1.ads) := fun a h k => by
  rcases A.new a k with z | z
  · exact d a h z
  · exact o a h z
theorem Aft.good (A : Aft φ fs H φ1 fs1 fm1 H1) (G : Good T φ H σ ρ S fe fs) (R1 : RepS T H1 φ1 φ1 S1 fs1) : Good T φ1 H1 σ ρ S1 fe fs1 := by
  refine ⟨G.env.ext (A.ext G.sto) A.pre fun a xs ha h => A.keep a _ (G.disj a ha) h, R1, ?_⟩
  refine List.nodup_append.mpr ⟨(List.nodup_append.mp G.nd).1, A.ndS, fun a h b k e => ?_⟩
  subst e
  refine A.apart G.disj (fun a ha => ?_) a h (List.mem_append_right _ k)
  obtain ⟨xs, q, _⟩ := G.env.own a ha
  rw [q]
  exact fun z => nomatch z
theorem Aft.drop (A : Aft φ fs H φ1 fs1 fm1 H1) : Aft φ fs H φ1 fs1 [] H1 := ⟨A.pre, A.keep, fun a h => A.new a (List.mem_append_right _ h), A.ndS⟩
theorem Aft.trans (A : Aft φ fs H φ1 fs1 fm1 H1) (B : Aft φ1 fs1 H1 φ2 fs2 fm2 H2) : Aft φ fs H φ2 fs2 fm2 H2 := by
  refine ⟨A.pre.trans B.pre, fun a o n h => ?_, fun a h => ?_, B.nd⟩
  · refine B.keep a o (fun z => ?_) (A.keep a o n h)
    rcases A.new a (List.mem_append_right _ z) with q | q
    · exact n q
    · rw [q] at h; cases h
  · rcases B.new a h with z | z
    · exact A.new a (List.mem_append_right _ z)
    · by_cases hm : a ∈ fs ++ φ.ads
      · exact .inl hm
      · refine .inr ?_
        cases q : H a with
        | none => rfl
        | some o => rw [A.keep a o hm q] at z; cases z
/-- a first new thing is kept beside a second one -/
theorem Aft.both (A : Aft φ fs H φ1 fs1 fm1 H1) (B : Aft φ1 fs1 H1 φ2 fs2 fm2 H2) (o : ∀ a ∈ fm1, H1 a ≠ none) : Aft φ fs H φ2 fs2 (fm1 ++ fm2) H2 := by
  have C := A.trans B
  refine ⟨C.pre, C.keep, fun a h => ?_, ?_⟩
  · rw [List.append_assoc] at h
    rcases List.mem_append.mp h with h | h
    · exact A.new a (List.mem_append_left _ h)
    · exact C.new a h
  · rw [List.append_assoc]
    refine List.nodup_append.mpr ⟨(List.nodup_append.mp A.nd).1, B.nd, fun a h b k e => ?_⟩
    subst e
    exact B.apart A.disj o a h k
end
theorem Rep.own' {T : Top} {φ : Ob} {H : Hp} {v : V} {m : M} {f : List Addr} (r : Rep T φ H v m f) : ∀ a ∈ f, H a ≠ none := fun a h z => by
  obtain ⟨xs, q, _⟩ := r.own a h
  rw [q] at z; cases z
theorem Reps.own' {T : Top} {φ : Ob} {H : Hp} {v : List V} {m : List M} {f : List Addr} (r : Reps T φ H v m f) : ∀ a ∈ f, H a ≠ none := fun a h z => by
  obtain ⟨xs, q, _⟩ := r.own a h
  rw [q] at z; cases z

/-- what is wished of an exception -/
def WxE (T : Top) (φ : Ob) (fs : List Addr) (H : Hp) (σ : St) (E : XP) (W : WX) : Prop :=
  ∀ (x : Exn) (S' : Sto) (c : Value) (d : Option Addr) (H' : Hp) (φ' : Ob) (fs' : List Addr), E x S' → Aft φ fs H φ' fs' [] H' → RepX T φ' H' c d x → RepS T H' φ' φ' S' fs' → W c d σ H'
theorem WxE.aft {T : Top} {φ φ1 : Ob} {fs fs1 fm : List Addr} {H H1 : Hp} {σ : St} {E : XP} {W : WX} (h : WxE T φ fs H σ E W) (A : Aft φ fs H φ1 fs1 fm H1) : WxE T φ1 fs1 H1 σ E W :=
  fun x S' c d H' φ' fs' e a => h x S' c d H' φ' fs' e (A.trans a)
/-- a new value of one's own -/
def LE (T : Top) (W : WX) (t : FE) : TE := fun σ H Q => ∃ (ρ : Ev) (S : Sto) (φ : Ob) (fe fs : List Addr) (E : XP) (Qm : WP), Good T φ H σ ρ S fe fs ∧ t ρ S Qm E ∧ WxE T φ fs H σ E W ∧
  ∀ (m : M) (S' : Sto) (v : V) (H' : Hp) (φ' : Ob) (fs' fm : List Addr), Qm m S' → Aft φ fs H φ' fs' fm H' → Rep T φ' H' v m fm → RepS T H' φ' φ' S' fs' → Q v H'
/-- a value that may be the frame's -/
def LB (T : Top) (W : WX) (t : FE) : TE := fun σ H Q => ∃ (ρ : Ev) (S : Sto) (φ : Ob) (fe fs : List Addr) (E : XP) (Qm : WP), Good T φ H σ ρ S fe fs ∧ t ρ S Qm E ∧ WxE T φ fs H σ E W ∧
  ∀ (m : M) (S' : Sto) (v : V) (H' : Hp) (φ' : Ob) (fs' fm : List Addr), Qm m S' → Aft φ fs H φ' fs' [] H' → Rep T φ' H' v m fm → (∀ a ∈ fm, a ∉ fs' ++ φ'.ads) → RepS T H' φ' φ' S' fs' → Q v H'
theorem PE.weak {X : Cx} {e : Expr} {t t' : TE} (h : PE X e t) (k : ∀ σ H Q, t' σ H Q → t σ H Q) : PE X e t' := ⟨fun pins s σ H Q I w => h.run pins s σ H Q I (k _ _ _ w)⟩
theorem PT.weak {X : Cx} {e : Expr} {t t' : TT} (h : PT X e t) (k : ∀ σ H Q, t' σ H Q → t σ H Q) : PT X e t' := ⟨fun pins s σ H Q I w => h.run pins s σ H Q I (k _ _ _ w)⟩

section
variable {X : Cx} {T : Top} {W : WX} {e a b : Expr} {t ta tb : FE} {pos : Pos}
/-- an own value may be looked at -/
theorem fe_lb (h : PE X e (LE T W t)) : PE X e (LB T W t) := PE.weak h fun σ H Q ⟨ρ, S, φ, fe, fs, E, Qm, G, w, hx, k⟩ =>
  ⟨ρ, S, φ, fe, fs, E, Qm, G, w, hx, fun m S' v H' φ' fs' fm q A r R => k m S' v H' φ' fs' fm q A.drop r A.disj R⟩
def fDat (t : FE) : FE := fun ρ S Q E => t ρ S (fun m S' => match m with
  | .dat d => Q (.dat d) S'
  | _ => False) E
/-- what is looked at is pure -/
theorem fe_dat (h : PE X e (LB T W t)) : PE X e (LE T W (fDat t)) := PE.weak h fun σ H Q ⟨ρ, S, φ, fe, fs, E, Qm, G, w, hx, k⟩ => by
  refine ⟨ρ, S, φ, fe, fs, E, _, G, w, hx, fun m S' v H' φ' fs' fm q A r dj R => ?_⟩
  cases m with
  | lst ms => exact False.elim q
  | dct ms => exact False.elim q
  | dat d =>
    cases r with
    | dat r => exact k (.dat d) S' v H' φ' fs' [] q A (.dat r) R
/-- a name -/
def fVar (i : Nat) : FE := fun ρ S Q _ => ∃ m, ρ[i]? = some (some m) ∧ Q m S
theorem RepE.get {φ : Ob} {H : Hp} : ∀ {σ : St} {ρ : Ev} {f : List Addr} {i : Nat} {m : M}, RepE T φ H σ ρ f → ρ[i]? = some (some m) → ∃ v g, σ[i]? = some (some v) ∧ Rep T φ H v m g ∧ ∀ a ∈ g, a ∈ f
  | _, _, _, i, _, .nil, h => by simp at h
  | _, _, _, 0, _, .skip r, h => by simp at h
  | _, _, _, i + 1, _, .skip r, h => by
    obtain ⟨v, g, h1, h2, h3⟩ := RepE.get (i := i) r (by simpa using h)
    exact ⟨v, g, by simpa using h1, h2, h3⟩
  | _, _, _, 0, _, .cons (v := v) (f := f) x r, h => by
    simp at h
    subst h
    exact ⟨v, f, by simp, x, fun a z => List.mem_append_left _ z⟩
  | _, _, _, i + 1, _, .cons x r, h => by
    obtain ⟨v, g, h1, h2, h3⟩ := RepE.get (i := i) r (by simpa using h)
    exact ⟨v, g, by simpa using h1, h2, fun a z => List.mem_append_right _ (h3 a z)⟩
theorem fe_var {i : Nat} (h : PE X e (tVar i)) : PE X e (LB T W (fVar i)) := PE.weak h fun σ H Q ⟨ρ, S, φ, fe, fs, E, Qm, G, ⟨m, hm, w⟩, hx, k⟩ => by
  obtain ⟨v, g, h1, h2, h3⟩ := G.env.get hm
  exact ⟨v, h1, k m S v H φ fs g w (Aft.refl G.ndS) h2 (fun a z => G.disj a (h3 a z)) G.sto⟩
/-- a constant -/
def fC (d : D) : FE := fun _ S Q _ => Q (.dat d) S
theorem fe_c {v : V} {d : D} (h : PE X e (tC v)) (r : ∀ φ H, FD T φ H v d) : PE X e (LE T W (fC d)) := PE.weak h fun σ H Q ⟨ρ, S, φ, fe, fs, E, Qm, G, w, hx, k⟩ =>
  k (.dat d) S v H φ fs [] w (Aft.refl G.ndS) (.dat (r _ _)) G.sto

/-! ### operators -/
/-- what a step lays beside what stands -/
structure Fresh (H H' : Hp) (fm : List Addr) : Prop where
  keep : ∀ a o, H a = some o → H' a = some o
  new : ∀ a ∈ fm, H a = none
  nd : fm.Nodup
theorem Fresh.refl (H : Hp) : Fresh H H [] := ⟨fun _ _ h => h, fun _ h => (nomatch h), List.nodup_nil⟩
theorem Fresh.upd {H : Hp} {p : Addr} {o : HO} (h : H p = none) : Fresh H (upd H p o) [p] := ⟨fun a u q => by rw [upd_ne (ne_of_none q h)]; exact q, fun a z => by rw [List.mem_singleton.mp z]; exact h, by simp⟩
theorem Fresh.upd0 {H : Hp} {p : Addr} {o : HO} (h : H p = none) : Fresh H (L2.upd H p o) [] := ⟨fun a u q => by rw [upd_ne (ne_of_none q h)]; exact q, fun _ z => (nomatch z), List.nodup_nil⟩
theorem Fresh.ext {H H' : Hp} {fm : List Addr} (F : Fresh H H' fm) : Ext H H' := ⟨fun a _ h => F.keep a _ h, fun a _ _ h => F.keep a _ h, fun a _ h => F.keep a _ h⟩
theorem Fresh.aft {T : Top} {H H' : Hp} {fm fs : List Addr} {φ : Ob} {S : Sto} (F : Fresh H H' fm) (R : RepS T H φ φ S fs) (nd : (fs ++ φ.ads).Nodup) : Aft φ fs H φ fs fm H' := by
  refine ⟨Pre.refl _, fun a o _ h => F.keep a o h, fun a h => (List.mem_append.mp h).elim (fun z => .inr (F.new a z)) .inl, ?_⟩
  refine List.nodup_append.mpr ⟨F.nd, nd, fun a h b k e => ?_⟩
  subst e
  have z := F.new a h
  rcases R.own a k with ⟨_, q, _⟩ | ⟨_, _, _, q⟩ <;> rw [z] at q <;> cases q
theorem Fresh.sto {T : Top} {H H' : Hp} {fm fs : List Addr} {φ : Ob} {S : Sto} (F : Fresh H H' fm) (R : RepS T H φ φ S fs) : RepS T H' φ φ S fs :=
  R.ext F.ext (Pre.refl _) (fun a _ _ h => F.keep a _ h) fun a _ _ _ _ h => F.keep a _ h
/-- an operator of two values, told purely -/
def Op2 (T : Top) (r : R2) (o : M → M → (M → Prop) → Prop) : Prop := ∀ (φ : Ob) (H : Hp) (x y : V) (m1 m2 : M) (f1 f2 : List Addr) (Q : VK) (Qm : M → Prop), Rep T φ H x m1 f1 → Rep T φ H y m2 f2 → o m1 m2 Qm →
  (∀ m v H' fm, Qm m → Fresh H H' fm → Rep T φ H' v m fm → Q v H') → r x y H Q
theorem Op2.or {r r' : R2} {o o' : M → M → (M → Prop) → Prop} (h : Op2 T r o) (h' : Op2 T r' o') : Op2 T (fun x y H Q => r x y H Q ∨ r' x y H Q) (fun a b Q => o a b Q ∨ o' a b Q) :=
  fun φ H x y m1 m2 f1 f2 Q Qm r1 r2 w k => w.elim (fun w => .inl (h φ H x y m1 m2 f1 f2 Q Qm r1 r2 w k)) fun w => .inr (h' φ H x y m1 m2 f1 f2 Q Qm r1 r2 w k)
theorem Op2.imp {r : R2} {o o' : M → M → (M → Prop) → Prop} (h : Op2 T r o) (i : ∀ a b Q, o' a b Q → o a b Q) : Op2 T r o' := fun φ H x y m1 m2 f1 f2 Q Qm r1 r2 w k => h φ H x y m1 m2 f1 f2 Q Qm r1 r2 (i _ _ _ w) k
def fBin (o : M → M → (M → Prop) → Prop) (ta tb : FE) : FE := fun ρ S Q E => ta ρ S (fun m1 S1 => tb ρ S1 (fun m2 S2 => o m1 m2 fun m => Q m S2) E) E
/-- two looks, one behind the other -/
theorem two_looks {σ : St} {H : Hp} {Q : VK} {k : V → V → Hp → Prop} {o : M → M → (M → Prop) → Prop} (h : LE T W (fBin o ta tb) σ H Q)
    (hk : ∀ (φ : Ob) (H : Hp) (x y : V) (m1 m2 : M) (f1 f2 : List Addr) (Qm : M → Prop), Rep T φ H x m1 f1 → Rep T φ H y m2 f2 → o m1 m2 Qm → (∀ m v H' fm, Qm m → Fresh H H' fm → Rep T φ H' v m fm → Q v H') → k x y H) :
    LB T W ta σ H fun x H1 => LB T W tb σ H1 fun y H2 => k x y H2 := by
  obtain ⟨ρ, S, φ, fe, fs, E, Qm, G, w, hx, fin⟩ := h
  refine ⟨ρ, S, φ, fe, fs, E, _, G, w, hx, fun m1 S1 x H1 φ1 fs1 f1 w1 A1 r1 d1 R1 => ?_⟩
  refine ⟨ρ, S1, φ1, fe, fs1, E, _, A1.good G R1, w1, hx.aft A1, fun m2 S2 y H2 φ2 fs2 f2 w2 A2 r2 d2 R2 => ?_⟩
  refine hk φ2 H2 x y m1 m2 f1 f2 _ (A2.rep R1 r1 d1) r2 w2 fun m v H' fm q F r => ?_
  exact fin m S2 v H' φ2 fs2 fm q ((A1.trans A2).trans (F.aft R2 A2.ndS)) r (F.sto R2)
theorem fe_op {op : Operator} {r : R2} {o : M → M → (M → Prop) → Prop} (ho : OpR X (binaryOp op) r) (h2 : Op2 T r o) (ha : PE X a (LB T W ta)) (hb : PE X b (LB T W tb)) : PE X (.BinOp a op b pos) (LE T W (fBin o ta tb)) :=
  PE.weak (pe_op ho ha hb) fun σ H Q h => two_looks h fun φ H x y m1 m2 f1 f2 Qm r1 r2 w k => h2 φ H x y m1 m2 f1 f2 Q Qm r1 r2 w k
theorem fe_cmp {op : CmpOp} {r : R2} {o : M → M → (M → Prop) → Prop} (ho : OpR X (compareOp op) r) (h2 : Op2 T r o) (ha : PE X a (LB T W ta)) (hb : PE X b (LB T W tb)) (hm : behindInMarks op b = false) :
    PE X (.Compare a [op] [b] pos) (LE T W (fBin o ta tb)) :=
  PE.weak (pe_cmpR ho ha hb hm) fun σ H Q h => two_looks h fun φ H x y m1 m2 f1 f2 Qm r1 r2 w k => h2 φ H x y m1 m2 f1 f2 Q Qm r1 r2 w k
theorem fe_ix {r : R2} {o : M → M → (M → Prop) → Prop} (ho : IxR X r) (h2 : Op2 T r o) (ha : PE X a (LB T W ta)) (hb : PE X b (LB T W tb)) (hs : PlainIx b) : PE X (.Subscript a b pos) (LE T W (fBin o ta tb)) :=
  PE.weak (pe_ix ho ha hb hs) fun σ H Q h => two_looks h fun φ H x y m1 m2 f1 f2 Qm r1 r2 w k => h2 φ H x y m1 m2 f1 f2 Q Qm r1 r2 w k
/-- .. and a part of the first one -/
def Op2B (T : Top) (r : R2) (o : M → M → (M → Prop) → Prop) : Prop := ∀ (φ : Ob) (H : Hp) (x y : V) (m1 m2 : M) (f1 f2 : List Addr) (Q : VK) (Qm : M → Prop), Rep T φ H x m1 f1 → Rep T φ H y m2 f2 → o m1 m2 Qm →
  (∀ m v fm, Qm m → Rep T φ H v m fm → (∀ a ∈ fm, a ∈ f1) → Q v H) → r x y H Q
theorem fb_ix {r : R2} {o : M → M → (M → Prop) → Prop} (ho : IxR X r) (h2 : Op2B T r o) (ha : PE X a (LB T W ta)) (hb : PE X b (LB T W tb)) (hs : PlainIx b) : PE X (.Subscript a b pos) (LB T W (fBin o ta tb)) :=
  PE.weak (pe_ix ho ha hb hs) fun σ H Q ⟨ρ, S, φ, fe, fs, E, Qm, G, w, hx, fin⟩ => by
    refine ⟨ρ, S, φ, fe, fs, E, _, G, w, hx, fun m1 S1 x H1 φ1 fs1 f1 w1 A1 r1 d1 R1 => ?_⟩
    refine ⟨ρ, S1, φ1, fe, fs1, E, _, A1.good G R1, w1, hx.aft A1, fun m2 S2 y H2 φ2 fs2 f2 w2 A2 r2 d2 R2 => ?_⟩
    refine h2 φ2 H2 x y m1 m2 f1 f2 Q _ (A2.rep R1 r1 d1) r2 w2 fun m v fm q r hs => ?_
    exact fin m S2 v H2 φ2 fs2 fm q (A1.trans A2) r (fun a ha => fun z => A2.apart d1 r1.own' a (hs a ha) (List.mem_append_right _ z)) R2
end
end L2.Fn
/-! Fn, part C: freezing, tests, argument lists, displays, calls. -/
namespace L2.Fn
open PySem PySem.Spec PyProof.Rows

/-! ### an own list becomes pure -/
mutual
def M.toD : M → D
  | .dat d => d
  | .lst l => .lst (M.toDs l)
  | .dct b kvs => .dct b (kvs.map (·.1)) (kvs.map (·.2))
def M.toDs : List M → List D
  | [] => []
  | m :: l => m.toD :: M.toDs l
end
theorem M.toDs_eq (l : List M) : M.toDs l = l.map M.toD := by
  induction l with
  | nil => rfl
  | cons m l ih => rw [M.toDs, ih]; rfl
theorem M.toDs_dat (l : List D) : M.toDs (l.map .dat) = l := by
  induction l with
  | nil => rfl
  | cons m l ih => rw [List.map_cons, M.toDs, ih]; rfl
theorem OwnO.mut {h : HO} (w : OwnO h) : Mut (some h) := by cases h <;> first | trivial | exact False.elim w
/-- what a lock changes -/
structure Lk (f : List Addr) (H H' : Hp) : Prop where
  keep : ∀ a, a ∉ f → H' a = H a
  lock : ∀ a ∈ f, ∃ u o, H a = some u ∧ OwnO u ∧ H' a = some (.frz o u)
theorem Lk.ext {f : List Addr} {H H' : Hp} (k : Lk f H H') : Ext H H' := by
  have no : ∀ (a : Addr) (u : HO), H a = some u → ¬ OwnO u → a ∉ f := fun a u h n z => by
    obtain ⟨_, _, q, w, _⟩ := k.lock a z
    rw [h] at q
    cases q
    exact n w
  refine ⟨fun a xs h => ?_, fun a o u h => ?_, fun a u h => ?_⟩
  · rw [k.keep a (no a _ h fun z => z)]; exact h
  · rw [k.keep a (no a _ h fun z => z)]; exact h
  · rw [k.keep a (no a _ h fun z => z)]; exact h
section
variable {X : Cx} {pins : List (Addr × Obj)} {σ : St} {s : Shared} {T : Top} {φ : Ob}
mutual
theorem frz_m : ∀ {H : Hp} {v : V} {m : M} {f : List Addr}, Inv X pins σ H s → Rep T φ H v m f → f.Nodup → ∃ H', Inv X pins σ H' s ∧ Lk f H H' ∧ FD T φ H' v m.toD
  | H, _, _, _, I, .dat r, _ => ⟨H, I, ⟨fun _ _ => rfl, fun _ z => (nomatch z)⟩, r⟩
  | H, _, _, _, I, .lst (a := a) (vs := vs) (f := f) e r, nd => by
    obtain ⟨H1, I1, k, rs⟩ := frz_l I r (List.nodup_cons.mp nd).2
    have ha : a ∉ f := (List.nodup_cons.mp nd).1
    have e1 : H1 a = some (.lst vs) := (k.keep a ha).trans e
    obtain ⟨o, I2⟩ := I1.lock e1 trivial
    have k2 : Lk (a :: f) H (upd H1 a (.frz o (.lst vs))) := by
      refine ⟨fun b hb => ?_, fun b hb => ?_⟩
      · rw [upd_ne fun z => hb (by rw [z]; exact List.mem_cons_self)]
        exact k.keep b fun z => hb (List.mem_cons_of_mem _ z)
      · by_cases q : b = a
        · subst q; exact ⟨_, o, e, trivial, upd_same⟩
        · rcases List.mem_cons.mp hb with z | z
          · exact absurd z q
          · obtain ⟨xs, u, q1, q0, q2⟩ := k.lock b z
            exact ⟨xs, u, q1, q0, by rw [upd_ne q]; exact q2⟩
    have ex : Ext H1 (upd H1 a (.frz o (.lst vs))) := by
      refine ⟨fun b xs h => ?_, fun b u w h => ?_, fun b u h => ?_⟩
      · rw [upd_ne fun z => by rw [z, e1] at h; cases h]; exact h
      · rw [upd_ne fun z => by rw [z, e1] at h; cases h]; exact h
      · rw [upd_ne fun z => by rw [z, e1] at h; cases h]; exact h
    exact ⟨_, I2, k2, .lst (.inl ⟨o, upd_same⟩) (rs.ext ex (Pre.refl _))⟩
  | H, _, _, _, I, .dct (a := a) (h := h) e d q0 r, _ => by
    obtain ⟨o, I2⟩ := I.lock e (OwnO.mut d.own)
    have ex : Ext H (upd H a (.frz o h)) := by
      refine ⟨fun b xs h' => ?_, fun b u w h' => ?_, fun b u h' => ?_⟩
      · rw [upd_ne fun z => by rw [z, e] at h'; cases h'; exact False.elim d.own]; exact h'
      · rw [upd_ne fun z => by rw [z, e] at h'; cases h'; exact False.elim d.own]; exact h'
      · rw [upd_ne fun z => by rw [z, e] at h'; cases h'; exact False.elim d.own]; exact h'
    refine ⟨_, I2, ⟨fun b hb => upd_ne fun z => hb (by rw [z]; exact List.mem_singleton.mpr rfl), fun b hb => ?_⟩, .dct upd_same d (q0.ext ex (Pre.refl _)) (r.ext ex (Pre.refl _))⟩
    rw [List.mem_singleton.mp hb]
    exact ⟨_, o, e, d.own, upd_same⟩
theorem frz_l : ∀ {H : Hp} {v : List V} {m : List M} {f : List Addr}, Inv X pins σ H s → Reps T φ H v m f → f.Nodup → ∃ H', Inv X pins σ H' s ∧ Lk f H H' ∧ FDs T φ H' v (M.toDs m)
  | H, _, _, _, I, .nil, _ => ⟨H, I, ⟨fun _ _ => rfl, fun _ z => (nomatch z)⟩, .nil⟩
  | H, _, _, _, I, .cons (f := f) (g := g) r rs, nd => by
    obtain ⟨n1, n2, n3⟩ := List.nodup_append.mp nd
    obtain ⟨H1, I1, k1, r1⟩ := frz_m I r n1
    have rs1 : Reps T φ H1 _ _ g := rs.ext k1.ext (Pre.refl _) fun a xs ha h => (k1.keep a fun z => n3 a z a ha rfl).trans h
    obtain ⟨H2, I2, k2, r2⟩ := frz_l I1 rs1 n2
    refine ⟨H2, I2, ⟨fun b hb => ?_, fun b hb => ?_⟩, .cons (r1.ext k2.ext (Pre.refl _)) r2⟩
    · rw [k2.keep b fun z => hb (List.mem_append_right _ z)]
      exact k1.keep b fun z => hb (List.mem_append_left _ z)
    · rcases List.mem_append.mp hb with z | z
      · obtain ⟨xs, o, q1, q0, q2⟩ := k1.lock b z
        exact ⟨xs, o, q1, q0, (k2.keep b fun w => n3 b z b w rfl).trans q2⟩
      · obtain ⟨xs, o, q1, q0, q2⟩ := k2.lock b z
        exact ⟨xs, o, (k1.keep b fun w => n3 b w b z rfl).symm.trans q1, q0, q2⟩
end
end
theorem Lk.aft {T : Top} {φ φ1 : Ob} {fs fs1 fm f : List Addr} {H H1 H2 : Hp} (k : Lk f H1 H2) (A : Aft φ fs H φ1 fs1 fm H1) (hf : ∀ a ∈ f, a ∈ fm) : Aft φ fs H φ1 fs1 [] H2 := by
  refine ⟨A.pre, fun a o n h => ?_, fun a h => A.new a (List.mem_append_right _ h), A.ndS⟩
  have e := A.keep a o n h
  rw [k.keep a fun z => ?_]; exact e
  rcases A.new a (List.mem_append_left _ (hf a z)) with q | q
  · exact n q
  · rw [h] at q; cases q
theorem Lk.sto {T : Top} {φ : Ob} {S : Sto} {fs f : List Addr} {H1 H2 : Hp} (k : Lk f H1 H2) (R : RepS T H1 φ φ S fs) (d : ∀ a ∈ f, a ∉ fs ++ φ.ads) : RepS T H2 φ φ S fs :=
  R.ext k.ext (Pre.refl _) (fun a xs ha h => (k.keep a fun z => d a z (List.mem_append_left _ ha)).trans h) fun a C dx gs ha h => (k.keep a fun z => d a z (List.mem_append_right _ ha)).trans h
def fFrz (t : FE) : FE := fun ρ S Q E => t ρ S (fun m S' => Q (.dat m.toD) S') E
section
variable {X : Cx} {T : Top} {W : WX} {e a b : Expr} {t ta tb : FE} {pos : Pos} {es rest : List Expr}
theorem fe_frz (h : PE X e (LE T W t)) : PE X e (LE T W (fFrz t)) := by
  refine ⟨fun pins s σ H Q I ⟨ρ, S, φ, fe, fs, E, Qm, G, w, hx, k⟩ => ?_⟩
  refine thn (h.run pins s σ H (fun v H' => ∃ (m : M) (S' : Sto) (φ' : Ob) (fs' fm : List Addr), Qm (.dat m.toD) S' ∧ Aft φ fs H φ' fs' fm H' ∧ Rep T φ' H' v m fm ∧ RepS T H' φ' φ' S' fs') I
    ⟨ρ, S, φ, fe, fs, E, _, G, w, hx, fun m S' v H' φ' fs' fm q A r R => ⟨m, S', φ', fs', fm, q, A, r, R⟩⟩) fun u s' ⟨v, H', I', rv, m, S', φ', fs', fm, q, A, r, R⟩ => ?_
  obtain ⟨H2, I2, lk, r2⟩ := frz_m I' r (List.nodup_append.mp A.nd).1
  exact ⟨v, H2, I2, rv, k _ S' v H2 φ' fs' [] q (lk.aft (T := T) A fun _ z => z) (.dat r2) (lk.sto R A.disj)⟩

/-! ### tests -/
abbrev FT := Ev → Sto → (Bool → Sto → Prop) → XP → Prop
def LT (T : Top) (W : WX) (t : FT) : TT := fun σ H Q => ∃ (ρ : Ev) (S : Sto) (φ : Ob) (fe fs : List Addr) (E : XP) (Qm : Bool → Sto → Prop), Good T φ H σ ρ S fe fs ∧ t ρ S Qm E ∧ WxE T φ fs H σ E W ∧
  ∀ (m : Bool) (S' : Sto) (H' : Hp) (φ' : Ob) (fs' : List Addr), Qm m S' → Aft φ fs H φ' fs' [] H' → RepS T H' φ' φ' S' fs' → Q m H'
/-- the truth of a value -/
def oTru (m : M) (Q : Bool → Prop) : Prop := match m with
  | .dat .non => Q false
  | .dat (.bl b) => Q b
  | .dat (.int i) => Q (i != 0)
  | .dat (.str s) => s.length ≤ sizeLine ∧ Q (!s.isEmpty)
  | .dat (.tup l) => Q (!l.isEmpty)
  | .dat (.lst l) => Q (!l.isEmpty)
  | .lst l => Q (!l.isEmpty)
  | _ => False
theorem FDs.isEmpty {φ : Ob} {H : Hp} {v : List V} {d : List D} (r : FDs T φ H v d) : v.isEmpty = d.isEmpty := by cases r <;> rfl
theorem Reps.isEmpty {φ : Ob} {H : Hp} {v : List V} {d : List M} {f : List Addr} (r : Reps T φ H v d f) : v.isEmpty = d.isEmpty := by cases r <;> rfl
theorem oTru_ok {φ : Ob} {H : Hp} {x : V} {m : M} {f : List Addr} {Q : Bool → Prop} (r : Rep T φ H x m f) (w : oTru m Q) : ∃ k, TruV T.K x H k ∧ Q k := by
  cases r with
  | @dat v d r =>
    cases r with
    | non => exact ⟨_, rfl, w⟩
    | bl b => exact ⟨_, rfl, w⟩
    | int i => exact ⟨_, rfl, w⟩
    | str s => exact ⟨!s.isEmpty, ⟨w.1, by cases s <;> simp [Str.length]; omega⟩, w.2⟩
    | tup h r => exact ⟨_, .inr (.inl ⟨_, SqT.of h, rfl⟩), by rw [r.isEmpty]; exact w⟩
    | ktup h r => exact w.elim
    | dct h q0 q1 r => exact w.elim
    | lst h r => exact ⟨_, .inl ⟨_, h.seq, rfl⟩, by rw [r.isEmpty]; exact w⟩
    | obj h => exact w.elim
    | fn h => exact w.elim
    | exn h => exact w.elim
  | lst e r => exact ⟨_, .inl ⟨_, SqL.of e, rfl⟩, by rw [r.isEmpty]; exact w⟩
  | dct e d q0 r => exact w.elim
def fTru (t : FE) : FT := fun ρ S Q E => t ρ S (fun m S' => oTru m fun b => Q b S') E
theorem ft_val (hK : X.K = T.K) (h : PE X e (LB T W t)) (he : ∀ whole, isTrue e X.env whole = (do let v ← whole; standAt e.pos; holding [v] (truthy v)) := by intro _; rfl) : PT X e (LT T W (fTru t)) :=
  PT.weak (pt_truth h he) fun σ H Q ⟨ρ, S, φ, fe, fs, E, Qm, G, w, hx, k⟩ => by
    refine ⟨ρ, S, φ, fe, fs, E, _, G, w, hx, fun m S' v H' φ' fs' fm q A r d R => ?_⟩
    rw [hK]
    obtain ⟨b, h1, h2⟩ := oTru_ok r q
    exact ⟨b, h1, k b S' H' φ' fs' h2 A R⟩
def fBl (t : FE) : FT := fun ρ S Q E => t ρ S (fun m S' => ∃ b, m = .dat (.bl b) ∧ Q b S') E
/-- a comparison as a test -/
theorem ft_cmp {op : CmpOp} {r : R2} {o : M → M → (M → Prop) → Prop} (ho : OpR X (compareOp op) r) (h2 : Op2 T r o) (ha : PE X a (LB T W ta)) (hb : PE X b (LB T W tb)) (hm : behindInMarks op b = false) :
    PT X (.Compare a [op] [b] pos) (LT T W (fBl (fBin o ta tb))) :=
  PT.weak (pt_cmpR ho ha hb hm) fun σ H Q ⟨ρ, S, φ, fe, fs, E, Qm, G, w, hx, k⟩ => by
    refine two_looks (T := T) (W := W) (Q := fun x H' => ∃ b, x = .bl b ∧ Q b H') ⟨ρ, S, φ, fe, fs, E, _, G, w, hx, fun m S' v H' φ' fs' fm q A r R => ?_⟩ fun φ H x y m1 m2 f1 f2 Qm r1 r2 w k => h2 φ H x y m1 m2 f1 f2 _ Qm r1 r2 w k
    obtain ⟨b, rfl, q⟩ := q
    cases r with
    | dat r =>
      cases r with
      | bl => exact ⟨b, rfl, k b S' H' φ' fs' q A.drop R⟩
def fNot (t : FT) : FT := fun ρ S Q E => t ρ S (fun b S' => Q (!b) S') E
theorem ft_not {t : FT} (h : PT X e (LT T W t)) : PT X (.UnaryOp .Not e pos) (LT T W (fNot t)) := PT.weak (pt_not h) fun σ H Q ⟨ρ, S, φ, fe, fs, E, Qm, G, w, hx, k⟩ =>
  ⟨ρ, S, φ, fe, fs, E, _, G, w, hx, fun b S' H' φ' fs' q A R => k (!b) S' H' φ' fs' q A R⟩
structure PWw (X : Cx) (e : Expr) (t : TT) : Prop where
  h : PW X e t
theorem PW.weak {t t' : TT} (h : PW X e t) (k : ∀ σ H Q, t' σ H Q → t σ H Q) : PW X e t' := ⟨fun wh pins s σ H Q I w => h.run wh pins s σ H Q I (k _ _ _ w)⟩
def fAnd (t u : FT) : FT := fun ρ S Q E => t ρ S (fun b S' => if b = true then u ρ S' Q E else Q false S') E
def fOr (t u : FT) : FT := fun ρ S Q E => t ρ S (fun b S' => if b = true then Q true S' else u ρ S' Q E) E
theorem LT.next {t : FT} {σ : St} {H : Hp} {Q : Bool → Hp → Prop} {ρ : Ev} {S : Sto} {φ : Ob} {fe fs : List Addr} {E : XP} {Qm : Bool → Sto → Prop} {H' : Hp} {φ' : Ob} {fs' : List Addr} {S' : Sto}
    (G : Good T φ H σ ρ S fe fs) (hx : WxE T φ fs H σ E W) (k : ∀ (m : Bool) (S' : Sto) (H' : Hp) (φ' : Ob) (fs' : List Addr), Qm m S' → Aft φ fs H φ' fs' [] H' → RepS T H' φ' φ' S' fs' → Q m H')
    (A : Aft φ fs H φ' fs' [] H') (R : RepS T H' φ' φ' S' fs') (w : t ρ S' Qm E) : LT T W t σ H' Q :=
  ⟨ρ, S', φ', fe, fs', E, Qm, A.good G R, w, hx.aft A, fun b S2 H2 φ2 fs2 q A2 R2 => k b S2 H2 φ2 fs2 q (A.trans A2) R2⟩
theorem fw_one_and {t : FT} (h : PT X a (LT T W t)) : PW X (.BoolOp .And [a] pos) (LT T W t) := pw_and1 h
theorem fw_one_or {t : FT} (h : PT X a (LT T W t)) : PW X (.BoolOp .Or [a] pos) (LT T W t) := pw_or1 h
theorem fw_and {t u : FT} (ha : PT X a (LT T W t)) (hb : PW X (.BoolOp .And (b :: rest) pos) (LT T W u)) : PW X (.BoolOp .And (a :: b :: rest) pos) (LT T W (fAnd t u)) :=
  PW.weak (pw_and ha hb) fun σ H Q ⟨ρ, S, φ, fe, fs, E, Qm, G, w, hx, k⟩ => ⟨ρ, S, φ, fe, fs, E, _, G, w, hx, fun c S' H' φ' fs' q A R => by
    cases c with
    | true => exact LT.next G hx k A R q
    | false => exact k false S' H' φ' fs' q A R⟩
theorem fw_or {t u : FT} (ha : PT X a (LT T W t)) (hb : PW X (.BoolOp .Or (b :: rest) pos) (LT T W u)) : PW X (.BoolOp .Or (a :: b :: rest) pos) (LT T W (fOr t u)) :=
  PW.weak (pw_or ha hb) fun σ H Q ⟨ρ, S, φ, fe, fs, E, Qm, G, w, hx, k⟩ => ⟨ρ, S, φ, fe, fs, E, _, G, w, hx, fun c S' H' φ' fs' q A R => by
    cases c with
    | true => exact k true S' H' φ' fs' q A R
    | false => exact LT.next G hx k A R q⟩
/-- a test in a value's place -/
theorem LE.next {t : FE} {σ : St} {H : Hp} {Q : VK} {ρ : Ev} {S : Sto} {φ : Ob} {fe fs : List Addr} {E : XP} {Qm : WP} {H' : Hp} {φ' : Ob} {fs' fm0 : List Addr} {S' : Sto}
    (G : Good T φ H σ ρ S fe fs) (hx : WxE T φ fs H σ E W) (k : ∀ (m : M) (S' : Sto) (v : V) (H' : Hp) (φ' : Ob) (fs' fm : List Addr), Qm m S' → Aft φ fs H φ' fs' fm H' → Rep T φ' H' v m fm → RepS T H' φ' φ' S' fs' → Q v H')
    (A : Aft φ fs H φ' fs' fm0 H') (R : RepS T H' φ' φ' S' fs') (w : t ρ S' Qm E) : LE T W t σ H' Q :=
  ⟨ρ, S', φ', fe, fs', E, Qm, A.good G R, w, hx.aft A, fun m S2 v H2 φ2 fs2 fm q A2 r R2 => k m S2 v H2 φ2 fs2 fm q (A.trans A2) r R2⟩
def fIf (c : FT) (t u : FE) : FE := fun ρ S Q E => c ρ S (fun b S' => if b = true then t ρ S' Q E else u ρ S' Q E) E
theorem fe_if {c : Expr} {tc : FT} (hc : PT X c (LT T W tc)) (ha : PE X a (LE T W ta)) (hb : PE X b (LE T W tb)) : PE X (.IfExp c a b pos) (LE T W (fIf tc ta tb)) :=
  PE.weak (pe_ifExp hc ha hb) fun σ H Q ⟨ρ, S, φ, fe, fs, E, Qm, G, w, hx, k⟩ => ⟨ρ, S, φ, fe, fs, E, _, G, w, hx, fun c S' H' φ' fs' q A R => by
    cases c with
    | true => exact LE.next G hx k A R q
    | false => exact LE.next G hx k A R q⟩
/-- and, or, not of truth values -/
def fAndV (t u : FE) : FE := fun ρ S Q E => t ρ S (fun m S' => ∃ b, m = .dat (.bl b) ∧ if b = true then u ρ S' Q E else Q (.dat (.bl false)) S') E
def fOrV (t u : FE) : FE := fun ρ S Q E => t ρ S (fun m S' => ∃ b, m = .dat (.bl b) ∧ if b = true then Q (.dat (.bl true)) S' else u ρ S' Q E) E
def fNotV (t : FE) : FE := fun ρ S Q E => t ρ S (fun m S' => ∃ b, m = .dat (.bl b) ∧ Q (.dat (.bl (!b))) S') E
theorem fe_and {op : BoolOp} (ha : PE X a (LE T W ta)) (hb : PE X (.BoolOp .And (b :: rest) pos) (LE T W tb)) : PE X (.BoolOp .And (a :: b :: rest) pos) (LE T W (fAndV ta tb)) :=
  PE.weak (pe_and ha hb) fun σ H Q ⟨ρ, S, φ, fe, fs, E, Qm, G, w, hx, k⟩ => ⟨ρ, S, φ, fe, fs, E, _, G, w, hx, fun m S' v H' φ' fs' fm q A r R => by
    obtain ⟨c, rfl, q⟩ := q
    cases r with
    | dat r =>
      cases r with
      | bl =>
        refine ⟨c, rfl, ?_⟩
        cases c with
        | true => exact LE.next G hx k A R q
        | false => exact k _ S' _ H' φ' fs' [] q A (.dat (.bl _)) R⟩
theorem fe_or {op : BoolOp} (ha : PE X a (LE T W ta)) (hb : PE X (.BoolOp .Or (b :: rest) pos) (LE T W tb)) : PE X (.BoolOp .Or (a :: b :: rest) pos) (LE T W (fOrV ta tb)) :=
  PE.weak (pe_or ha hb) fun σ H Q ⟨ρ, S, φ, fe, fs, E, Qm, G, w, hx, k⟩ => ⟨ρ, S, φ, fe, fs, E, _, G, w, hx, fun m S' v H' φ' fs' fm q A r R => by
    obtain ⟨c, rfl, q⟩ := q
    cases r with
    | dat r =>
      cases r with
      | bl =>
        refine ⟨c, rfl, ?_⟩
        cases c with
        | true => exact k _ S' _ H' φ' fs' [] q A (.dat (.bl _)) R
        | false => exact LE.next G hx k A R q⟩
theorem fe_not (ha : PE X a (LE T W ta)) : PE X (.UnaryOp .Not a pos) (LE T W (fNotV ta)) :=
  PE.weak (pe_not ha) fun σ H Q ⟨ρ, S, φ, fe, fs, E, Qm, G, w, hx, k⟩ => ⟨ρ, S, φ, fe, fs, E, _, G, w, hx, fun m S' v H' φ' fs' fm q A r R => by
    obtain ⟨c, rfl, q⟩ := q
    cases r with
    | dat r =>
      cases r with
      | bl => exact ⟨c, rfl, k _ S' _ H' φ' fs' [] q A (.dat (.bl _)) R⟩⟩
theorem fe_one {op : BoolOp} (ha : PE X a (LE T W ta)) : PE X (.BoolOp op [a] pos) (LE T W ta) := pe_one ha

/-! ### argument lists -/
abbrev FA := Ev → Sto → (List M → Sto → Prop) → XP → Prop
/-- looked at -/
def LAB (T : Top) (W : WX) (t : FA) : TA := fun σ H Q => ∃ (ρ : Ev) (S : Sto) (φ : Ob) (fe fs : List Addr) (E : XP) (Qm : List M → Sto → Prop), Good T φ H σ ρ S fe fs ∧ t ρ S Qm E ∧ WxE T φ fs H σ E W ∧
  ∀ (m : List M) (S' : Sto) (v : List V) (H' : Hp) (φ' : Ob) (fs' fm : List Addr), Qm m S' → Aft φ fs H φ' fs' [] H' → Reps T φ' H' v m fm → (∀ a ∈ fm, a ∉ fs' ++ φ'.ads) → RepS T H' φ' φ' S' fs' → Q v H'
/-- new and one's own -/
def LAE (T : Top) (W : WX) (t : FA) : TA := fun σ H Q => ∃ (ρ : Ev) (S : Sto) (φ : Ob) (fe fs : List Addr) (E : XP) (Qm : List M → Sto → Prop), Good T φ H σ ρ S fe fs ∧ t ρ S Qm E ∧ WxE T φ fs H σ E W ∧
  ∀ (m : List M) (S' : Sto) (v : List V) (H' : Hp) (φ' : Ob) (fs' fm : List Addr), Qm m S' → Aft φ fs H φ' fs' fm H' → Reps T φ' H' v m fm → RepS T H' φ' φ' S' fs' → Q v H'
def fNil : FA := fun _ S Q _ => Q [] S
def fCons (t : FE) (u : FA) : FA := fun ρ S Q E => t ρ S (fun m S1 => u ρ S1 (fun ms S2 => Q (m :: ms) S2) E) E
theorem PA.weak {t t' : TA} (h : PA X es t) (k : ∀ σ H Q, t' σ H Q → t σ H Q) : PA X es t' := ⟨fun p pins s σ H Q I w => h.run p pins s σ H Q I (k _ _ _ w)⟩
theorem fb_nil : PA X [] (LAB T W fNil) := PA.weak pa_nil fun σ H Q ⟨ρ, S, φ, fe, fs, E, Qm, G, w, hx, k⟩ => k [] S [] H φ fs [] w (Aft.refl G.ndS) .nil (fun _ z => nomatch z) G.sto
theorem fa_nil : PA X [] (LAE T W fNil) := PA.weak pa_nil fun σ H Q ⟨ρ, S, φ, fe, fs, E, Qm, G, w, hx, k⟩ => k [] S [] H φ fs [] w (Aft.refl G.ndS) .nil G.sto
theorem fb_cons {u : FA} (ha : PE X e (LB T W t)) (hr : PA X es (LAB T W u)) (hs : starEach (e :: es) X.env = (false, eval e X.env) :: starEach es X.env := by rfl) : PA X (e :: es) (LAB T W (fCons t u)) :=
  PA.weak (pa_cons ha hr hs) fun σ H Q ⟨ρ, S, φ, fe, fs, E, Qm, G, w, hx, k⟩ => by
    refine ⟨ρ, S, φ, fe, fs, E, _, G, w, hx, fun m S1 v H1 φ1 fs1 f1 q A1 r1 d1 R1 => ?_⟩
    refine ⟨ρ, S1, φ1, fe, fs1, E, _, A1.good G R1, q, hx.aft A1, fun ms S2 vs H2 φ2 fs2 f2 q2 A2 r2 d2 R2 => ?_⟩
    refine k (m :: ms) S2 (v :: vs) H2 φ2 fs2 (f1 ++ f2) q2 (A1.trans A2) (.cons (A2.rep R1 r1 d1) r2) (fun a z => ?_) R2
    rcases List.mem_append.mp z with z | z
    · exact fun y => A2.apart d1 r1.own' a z (List.mem_append_right _ y)
    · exact d2 a z
theorem fa_cons {u : FA} (ha : PE X e (LE T W t)) (hr : PA X es (LAE T W u)) (hs : starEach (e :: es) X.env = (false, eval e X.env) :: starEach es X.env := by rfl) : PA X (e :: es) (LAE T W (fCons t u)) :=
  PA.weak (pa_cons ha hr hs) fun σ H Q ⟨ρ, S, φ, fe, fs, E, Qm, G, w, hx, k⟩ => by
    refine ⟨ρ, S, φ, fe, fs, E, _, G, w, hx, fun m S1 v H1 φ1 fs1 f1 q A1 r1 R1 => ?_⟩
    refine ⟨ρ, S1, φ1, fe, fs1, E, _, A1.good G R1, q, hx.aft A1, fun ms S2 vs H2 φ2 fs2 f2 q2 A2 r2 R2 => ?_⟩
    exact k (m :: ms) S2 (v :: vs) H2 φ2 fs2 (f1 ++ f2) q2 (A1.both A2 r1.own') (.cons (A2.rep R1 r1 A1.disj) r2) R2

/-! ### displays -/
theorem Reps.len {φ : Ob} {H : Hp} : ∀ {v : List V} {m : List M} {f : List Addr}, Reps T φ H v m f → v.length = m.length
  | _, _, _, .nil => rfl
  | _, _, _, .cons _ r => by rw [List.length_cons, List.length_cons, r.len]
theorem FDs.len {φ : Ob} {H : Hp} : ∀ {v : List V} {m : List D}, FDs T φ H v m → v.length = m.length
  | _, _, .nil => rfl
  | _, _, .cons _ r => by rw [List.length_cons, List.length_cons, r.len]
theorem Reps.dats {φ : Ob} {H : Hp} : ∀ {v : List V} {m : List M} {f : List Addr}, Reps T φ H v m f → ∀ {ds : List D}, m = ds.map .dat → FDs T φ H v ds ∧ f = []
  | _, _, _, .nil, [], _ => ⟨.nil, rfl⟩
  | _, _, _, .nil, _ :: _, h => by cases h
  | _, _, _, .cons x r, [], h => by cases h
  | _, _, _, .cons (f := f) x r, d :: ds, h => by
    injection h with h1 h2
    subst h1
    obtain ⟨z, e⟩ := r.dats h2
    cases x with
    | dat x => exact ⟨.cons x z, by rw [e] <;> rfl⟩
theorem FDs.reps {φ : Ob} {H : Hp} : ∀ {v : List V} {ds : List D}, FDs T φ H v ds → Reps T φ H v (ds.map .dat) []
  | _, _, .nil => .nil
  | _, _, .cons x r => .cons (.dat x) r.reps
/-- [..] -/
def fLst (t : FA) : FE := fun ρ S Q E => t ρ S (fun ms S' => ms.length ≤ sizeLine ∧ Q (.lst ms) S') E
theorem fe_lst {u : FA} (h : PA X es (LAE T W u)) : PE X (.List es pos) (LE T W (fLst u)) := PE.weak (pe_lst h) fun σ H Q ⟨ρ, S, φ, fe, fs, E, Qm, G, w, hx, k⟩ => by
  refine ⟨ρ, S, φ, fe, fs, E, _, G, w, hx, fun ms S1 vs H1 φ1 fs1 f1 q A1 r1 R1 => ⟨by rw [r1.len]; exact q.1, fun p hp => ?_⟩⟩
  have F : Fresh H1 (upd H1 p (.lst vs)) [p] := Fresh.upd hp
  have B := F.aft R1 A1.ndS
  have np : ∀ a ∈ f1, a ≠ p := fun a h z => by rw [z] at h; exact r1.own' p h hp
  refine k (.lst ms) S1 (.ref p) _ φ1 fs1 (p :: f1) q.2 ?_ (.lst upd_same (r1.ext F.ext (Pre.refl _) fun a xs _ h => F.keep a _ h)) (F.sto R1)
  have C := A1.both B r1.own'
  refine ⟨C.pre, C.keep, fun a h => C.new a ?_, ?_⟩
  · rw [List.append_assoc]
    rcases List.mem_cons.mp h with h | h
    · exact List.mem_append_right _ (List.mem_append_left _ (List.mem_singleton.mpr h))
    · rcases List.mem_append.mp h with h | h
      · exact List.mem_append_left _ h
      · exact List.mem_append_right _ (List.mem_append_right _ h)
  · have nd := C.nd
    rw [List.append_assoc] at nd
    have q1 := List.nodup_append.mp nd
    have q2 := List.nodup_append.mp q1.2.1
    refine List.nodup_cons.mpr ⟨fun z => ?_, ?_⟩
    · rcases List.mem_append.mp z with z | z
      · exact np p z rfl
      · exact q2.2.2 p (List.mem_singleton.mpr rfl) p z rfl
    · exact List.nodup_append.mpr ⟨q1.1, q2.2.1, fun a h b h' => q1.2.2 a h b (List.mem_append_right _ h')⟩
/-- (..) -/
def fTup (t : FA) : FE := fun ρ S Q E => t ρ S (fun ms S' => ms.length ≤ sizeLine ∧ ∃ ds : List D, ms = ds.map .dat ∧ Q (.dat (.tup ds)) S') E
theorem fe_tup {u : FA} {x1 : Nat} (h : PA X es (LAE T W u)) : PE X (.Tuple es x1 pos) (LE T W (fTup u)) := PE.weak (pe_tup h) fun σ H Q ⟨ρ, S, φ, fe, fs, E, Qm, G, w, hx, k⟩ => by
  refine ⟨ρ, S, φ, fe, fs, E, _, G, w, hx, fun ms S1 vs H1 φ1 fs1 f1 q A1 r1 R1 => ⟨by rw [r1.len]; exact q.1, fun p hp => ?_⟩⟩
  obtain ⟨_, ds, e, q⟩ := q
  obtain ⟨r, e1⟩ := r1.dats e
  have F : Fresh H1 (upd H1 p (.tup vs)) [] := Fresh.upd0 hp
  exact k _ S1 (.ref p) _ φ1 fs1 [] q (A1.trans (F.aft R1 A1.ndS)) (.dat (.tup upd_same (r.ext F.ext (Pre.refl _)))) (F.sto R1)

/-! ### calls of what is built in -/
def OpN (T : Top) (r : List V → Hp → VK → Prop) (o : List M → (M → Prop) → Prop) : Prop := ∀ (φ : Ob) (H : Hp) (vs : List V) (ms : List M) (f : List Addr) (Q : VK) (Qm : M → Prop), Reps T φ H vs ms f → o ms Qm →
  (∀ m v H' fm, Qm m → Fresh H H' fm → Rep T φ H' v m fm → Q v H') → r vs H Q
def fCB (o : List M → (M → Prop) → Prop) (t : FA) : FE := fun ρ S Q E => t ρ S (fun ms S' => o ms fun m => Q m S') E
theorem fCB_ok {r : List V → Hp → VK → Prop} {o : List M → (M → Prop) → Prop} {u : FA} {σ : St} {H : Hp} {Q : VK} (h2 : OpN T r o) (h : LE T W (fCB o u) σ H Q) : LAB T W u σ H fun vs H1 => r vs H1 Q := by
  obtain ⟨ρ, S, φ, fe, fs, E, Qm, G, w, hx, k⟩ := h
  refine ⟨ρ, S, φ, fe, fs, E, _, G, w, hx, fun ms S1 vs H1 φ1 fs1 f1 q A1 r1 d1 R1 => ?_⟩
  exact h2 φ1 H1 vs ms f1 Q _ r1 q fun m v H' fm q F r => k m S1 v H' φ1 fs1 fm q (A1.trans (F.aft R1 A1.ndS)) r (F.sto R1)
theorem fe_callB {x : Str} {p : Pos} {u : FA} {id : String} {r : List V → Hp → VK → Prop} {o : List M → (M → Prop) → Prop} (hc : CallR X (.builtin id) r) (h2 : OpN T r o) (hg : Gl X x) (hm : X.mg x = none) (hv : bootBuiltins x = some (.builtin id)) (ha : PA X (e :: es) (LAB T W u))
    (hn : x ≠ "__name__" := by decide) (hdb : (x == ("__debug__" : Str)) = false := by decide) (he : starEach (e :: es) X.env = (false, eval e X.env) :: starEach es X.env := by rfl) (hpl : (backTo pos (starEach es X.env)).any (·.1) = false := by rfl) :
    PE X (.Call (.Name x p) (e :: es) [] pos) (LE T W (fCB o u)) := PE.weak (pe_callB hc hg hm hv ha hn hdb he hpl) fun σ H Q h => fCB_ok h2 h
theorem fe_callTy {x : Str} {p : Pos} {u : FA} {Ty : String} {r : List V → Hp → VK → Prop} {o : List M → (M → Prop) → Prop} (hc : CallR X (.type Ty) r) (h2 : OpN T r o) (hg : Gl X x) (hm : X.mg x = none) (hv : bootBuiltins x = some (.type Ty)) (ha : PA X (e :: es) (LAB T W u))
    (hn : x ≠ "__name__" := by decide) (hdb : (x == ("__debug__" : Str)) = false := by decide) (he : starEach (e :: es) X.env = (false, eval e X.env) :: starEach es X.env := by rfl) (hpl : (backTo pos (starEach es X.env)).any (·.1) = false := by rfl) :
    PE X (.Call (.Name x p) (e :: es) [] pos) (LE T W (fCB o u)) := PE.weak (pe_callTy hc hg hm hv ha hn hdb he hpl) fun σ H Q h => fCB_ok h2 h

/-! ### methods of what is built in -/
def OpM (T : Top) (Ty : String) (r : V → List V → Hp → VK → Prop) (o : M → List M → (M → Prop) → Prop) : Prop := ∀ (φ : Ob) (H : Hp) (x : V) (m : M) (f : List Addr), Rep T φ H x m f → ∀ (Q : VK) (Qm : M → Prop) (H' : Hp) (vs : List V) (ms : List M) (f' : List Addr),
  Rep T φ H' x m f → Reps T φ H' vs ms f' → o m ms Qm → (∀ m v H2 fm, Qm m → Fresh H' H2 fm → Rep T φ H2 v m fm → Q v H2) → r x vs H' Q
end

/-! ### defs of the text -/
abbrev FF := List D → Sto → WP → XP → Prop
def LF (T : Top) (wf : FF) : Sp := fun vs H Q Ex => ∃ (ds : List D) (S : Sto) (φ : Ob) (fs : List Addr) (E : XP) (Qm : WP), FDs T φ H vs ds ∧ RepS T H φ φ S fs ∧ (fs ++ φ.ads).Nodup ∧ wf ds S Qm E ∧
  (∀ (x : Exn) (S' : Sto) (c : Value) (d : Option Addr) (H' : Hp) (φ' : Ob) (fs' : List Addr), E x S' → Aft φ fs H φ' fs' [] H' → RepX T φ' H' c d x → RepS T H' φ' φ' S' fs' → Ex c d H') ∧
  ∀ (m : M) (S' : Sto) (v : V) (H' : Hp) (φ' : Ob) (fs' fm : List Addr), Qm m S' → Aft φ fs H φ' fs' fm H' → Rep T φ' H' v m fm → RepS T H' φ' φ' S' fs' → Q v H'
def fCall (wf : FF) (t : FA) : FE := fun ρ S Q E => t ρ S (fun ms S' => ∃ ds : List D, ms = ds.map .dat ∧ wf ds S' Q E) E
section
variable {X : Cx} {T : Top} {W : WX} {e a b : Expr} {t ta tb : FE} {pos : Pos} {es rest : List Expr}
theorem fCall_ok {wf : FF} {u : FA} {σ : St} {H : Hp} {Q : VK} (h : LE T W (fCall wf u) σ H Q) : LAB T W u σ H fun vs H1 => LF T wf vs H1 Q (WE W σ) := by
  obtain ⟨ρ, S, φ, fe, fs, E, Qm, G, w, hx, k⟩ := h
  refine ⟨ρ, S, φ, fe, fs, E, _, G, w, hx, fun ms S1 vs H1 φ1 fs1 f1 q A1 r1 d1 R1 => ?_⟩
  obtain ⟨ds, e, q⟩ := q
  obtain ⟨r, _⟩ := r1.dats e
  exact ⟨ds, S1, φ1, fs1, E, Qm, r, R1, A1.ndS, q, fun x S' c d H' φ' fs' y A2 rx R2 => hx x S' c d H' φ' fs' y (A1.trans A2) rx R2, fun m S2 v H2 φ2 fs2 fm q A2 r R2 => k m S2 v H2 φ2 fs2 fm q (A1.trans A2) r R2⟩
theorem fe_call {k : Nat} {f : Addr} {fd : FuncData} {ps : List Str} {wf : FF} {x : Str} {p : Pos} {u : FA} (F : FnOk X.prog X.w X.K X.mg X.base (L2N.CX X.prog X.w) k f fd ps (LF T wf)) (hr : Room k X.A) (hg : Gl X x) (hm : X.mg x = some (.ref f))
    (hk : PySem.W.keepIn X.K (.ref f) = true) (hb : Binds X.K fd ps []) (tk : L2N.Takes X W) (ha : PA X (e :: es) (LAB T W u)) (hdb : (x == ("__debug__" : Str)) = false := by decide)
    (he : starEach (e :: es) X.env = (false, eval e X.env) :: starEach es X.env := by rfl) (hpl : (backTo pos (starEach es X.env)).any (·.1) = false := by rfl) : PE X (.Call (.Name x p) (e :: es) [] pos) (LE T W (fCall wf u)) :=
  PE.weak (pe_callS F hr hg hm hk hb (L2N.passAt tk) ha hdb he hpl) fun σ H Q h => fCall_ok h
end
end L2.Fn
/-! Fn, part D: statements, blocks, loops, the bodies of defs. -/
namespace L2.Fn
open PySem PySem.Spec PyProof.Rows

/-- what is wanted behind a statement -/
structure EndP where
  nx : Ev → Sto → Prop
  rt : WP
  bk : Ev → Sto → Prop := fun _ _ => False
  ct : Ev → Sto → Prop := fun _ _ => False
  ex : Exn → Ev → Sto → Prop := fun _ _ _ => False
abbrev FS := EndP → Ev → Sto → Prop

structure AftS (φ : Ob) (fe fs : List Addr) (H : Hp) (φ' : Ob) (fe' fs' : List Addr) (H' : Hp) : Prop where
  pre : Pre φ φ'
  keep : ∀ a o, a ∉ fe ++ (fs ++ φ.ads) → H a = some o → H' a = some o
  new : ∀ a ∈ fe' ++ (fs' ++ φ'.ads), a ∈ fe ++ (fs ++ φ.ads) ∨ H a = none
section
variable {T : Top} {φ φ1 φ2 : Ob} {H H1 H2 : Hp} {S S1 S2 : Sto} {σ : St} {ρ : Ev} {fe fe1 fe2 fs fs1 fs2 fm fm1 fm2 : List Addr}
theorem AftS.refl : AftS φ fe fs H φ fe fs H := ⟨Pre.refl _, fun _ _ _ h => h, fun _ h => .inl h⟩
theorem AftS.trans (A : AftS φ fe fs H φ1 fe1 fs1 H1) (B : AftS φ1 fe1 fs1 H1 φ2 fe2 fs2 H2) : AftS φ fe fs H φ2 fe2 fs2 H2 := by
  refine ⟨A.pre.trans B.pre, fun a o n h => ?_, fun a h => ?_⟩
  · refine B.keep a o (fun z => ?_) (A.keep a o n h)
    rcases A.new a z with q | q
    · exact n q
    · rw [q] at h; cases h
  · rcases B.new a h with z | z
    · exact A.new a z
    · by_cases hm : a ∈ fe ++ (fs ++ φ.ads)
      · exact .inl hm
      · refine .inr ?_
        cases q : H a with
        | none => rfl
        | some o => rw [A.keep a o hm q] at z; cases z
/-- behind an expression -/
theorem Aft.s (A : Aft φ fs H φ1 fs1 fm H1) : AftS φ fe fs H φ1 (fm ++ fe) fs1 H1 := by
  refine ⟨A.pre, fun a o n h => A.keep a o (fun z => n (List.mem_append_right _ z)) h, fun a h => ?_⟩
  rw [List.append_assoc] at h
  rcases List.mem_append.mp h with h | h
  · rcases A.new a (List.mem_append_left _ h) with z | z
    · exact .inl (List.mem_append_right _ z)
    · exact .inr z
  · rcases List.mem_append.mp h with h | h
    · exact .inl (List.mem_append_left _ h)
    · rcases A.new a (List.mem_append_right _ h) with z | z
      · exact .inl (List.mem_append_right _ z)
      · exact .inr z
theorem AftS.sub {fe3 : List Addr} (A : AftS φ fe fs H φ1 fe1 fs1 H1) (h : ∀ a ∈ fe3, a ∈ fe1) : AftS φ fe fs H φ1 fe3 fs1 H1 :=
  ⟨A.pre, A.keep, fun a z => (List.mem_append.mp z).elim (fun z => A.new a (List.mem_append_left _ (h a z))) fun z => A.new a (List.mem_append_right _ z)⟩
end
/-- what the reading's ends ask -/
structure EndOk (T : Top) (φ : Ob) (fe fs : List Addr) (H : Hp) (P : EndP) (W : WX) (D : Ends) : Prop where
  nx : ∀ ρ' S' σ' H' φ' fe' fs', P.nx ρ' S' → AftS φ fe fs H φ' fe' fs' H' → Good T φ' H' σ' ρ' S' fe' fs' → D.nx σ' H'
  bk : ∀ ρ' S' σ' H' φ' fe' fs', P.bk ρ' S' → AftS φ fe fs H φ' fe' fs' H' → Good T φ' H' σ' ρ' S' fe' fs' → D.bk σ' H'
  ct : ∀ ρ' S' σ' H' φ' fe' fs', P.ct ρ' S' → AftS φ fe fs H φ' fe' fs' H' → Good T φ' H' σ' ρ' S' fe' fs' → D.ct σ' H'
  rt : ∀ m S' v H' φ' fm fs', P.rt m S' → AftS φ fe fs H φ' fm fs' H' → (fm ++ (fs' ++ φ'.ads)).Nodup → Rep T φ' H' v m fm → RepS T H' φ' φ' S' fs' → D.rt v H'
  ex : ∀ x ρ' S' c d σ' H' φ' fe' fs', P.ex x ρ' S' → AftS φ fe fs H φ' fe' fs' H' → Good T φ' H' σ' ρ' S' fe' fs' → RepX T φ' H' c d x → W c d σ' H'
section
variable {T : Top} {φ φ1 φ2 : Ob} {H H1 H2 : Hp} {S S1 S2 : Sto} {σ : St} {ρ : Ev} {fe fe1 fe2 fs fs1 fs2 fm fm1 fm2 : List Addr} {P : EndP} {W : WX} {D : Ends}
theorem EndOk.aft (k : EndOk T φ fe fs H P W D) (A : AftS φ fe fs H φ1 fe1 fs1 H1) : EndOk T φ1 fe1 fs1 H1 P W D :=
  ⟨fun ρ' S' σ' H' φ' fe' fs' p a g => k.nx ρ' S' σ' H' φ' fe' fs' p (A.trans a) g, fun ρ' S' σ' H' φ' fe' fs' p a g => k.bk ρ' S' σ' H' φ' fe' fs' p (A.trans a) g,
   fun ρ' S' σ' H' φ' fe' fs' p a g => k.ct ρ' S' σ' H' φ' fe' fs' p (A.trans a) g, fun m S' v H' φ' fm fs' p a n r R => k.rt m S' v H' φ' fm fs' p (A.trans a) n r R,
   fun x ρ' S' c d σ' H' φ' fe' fs' p a g r => k.ex x ρ' S' c d σ' H' φ' fe' fs' p (A.trans a) g r⟩
theorem EndOk.wx (k : EndOk T φ fe fs H P W D) (G : Good T φ H σ ρ S fe fs) : WxE T φ fs H σ (fun x S' => P.ex x ρ S') W :=
  fun x S' c d H' φ' fs' e A r R => k.ex x ρ S' c d σ H' φ' fe fs' e (A.s.sub fun a z => List.mem_append_right _ z) (A.good G R) r
end
def LS (T : Top) (W : WX) (t : FS) : TS := fun D σ H => ∃ (ρ : Ev) (S : Sto) (φ : Ob) (fe fs : List Addr) (P : EndP), Good T φ H σ ρ S fe fs ∧ t P ρ S ∧ EndOk T φ fe fs H P W D
theorem PS.weak {X : Cx} {e : Stmt} {t t' : TS} (h : PS X e t) (k : ∀ D σ H, t' D σ H → t D σ H) : PS X e t' := ⟨fun pins s σ H D I w => h.run pins s σ H D I (k _ _ _ w)⟩
theorem PSs.weak {X : Cx} {e : List Stmt} {t t' : TS} (h : PSs X e t) (k : ∀ D σ H, t' D σ H → t D σ H) : PSs X e t' := ⟨fun pins s σ H D I w => h.run pins s σ H D I (k _ _ _ w)⟩

section
variable {X : Cx} {T : Top} {W : WX} {e a b : Expr} {t ta tb : FE} {pos : Pos} {es : List Expr} {st : Stmt} {rest body : List Stmt} {u w : FS}
def fNext : FS := fun P ρ S => P.nx ρ S
def fSeq (t u : FS) : FS := fun P ρ S => t { P with nx := u P } ρ S
theorem fs_nil : PSs X [] (LS T W fNext) := PSs.weak pss_nil fun D σ H ⟨ρ, S, φ, fe, fs, P, G, w, k⟩ => k.nx ρ S σ H φ fe fs w AftS.refl G
theorem fs_one (h : PS X st (LS T W u)) : PSs X [st] (LS T W u) := pss_one h
theorem fs_cons (h : PS X st (LS T W u)) (hr : PSs X rest (LS T W w)) : PSs X (st :: rest) (LS T W (fSeq u w)) := PSs.weak (pss_cons h hr) fun D σ H ⟨ρ, S, φ, fe, fs, P, G, q, k⟩ =>
  ⟨ρ, S, φ, fe, fs, { P with nx := w P }, G, q, ⟨fun ρ' S' σ' H' φ' fe' fs' p A G' => ⟨ρ', S', φ', fe', fs', P, G', p, k.aft A⟩, k.bk, k.ct, k.rt, k.ex⟩⟩
theorem fs_pass : PS X (.Pass pos) (LS T W fNext) := PS.weak ps_pass fun D σ H ⟨ρ, S, φ, fe, fs, P, G, w, k⟩ => k.nx ρ S σ H φ fe fs w AftS.refl G
def fBreak : FS := fun P ρ S => P.bk ρ S
def fCont : FS := fun P ρ S => P.ct ρ S
theorem fs_break : PS X (.Break pos) (LS T W fBreak) := PS.weak ps_break fun D σ H ⟨ρ, S, φ, fe, fs, P, G, w, k⟩ => k.bk ρ S σ H φ fe fs w AftS.refl G
theorem fs_continue : PS X (.Continue pos) (LS T W fCont) := PS.weak ps_continue fun D σ H ⟨ρ, S, φ, fe, fs, P, G, w, k⟩ => k.ct ρ S σ H φ fe fs w AftS.refl G
theorem fs_doc {x : Str} {j : Nat} {pos' : Pos} : PS X (.Expr (.Constant (.str x) j pos) pos') (LS T W fNext) := PS.weak ps_doc fun D σ H ⟨ρ, S, φ, fe, fs, P, G, w, k⟩ => k.nx ρ S σ H φ fe fs w AftS.refl G
def fDrop (t : FE) : FS := fun P ρ S => t ρ S (fun _ S' => P.nx ρ S') fun x S' => P.ex x ρ S'
theorem fs_expr (he : PE X e (LB T W t)) (hs : swapsWith e none pos.line X.env = pure false := by rfl) : PS X (.Expr e pos) (LS T W (fDrop t)) := PS.weak (ps_expr he hs) fun D σ H ⟨ρ, S, φ, fe, fs, P, G, w, k⟩ =>
  ⟨ρ, S, φ, fe, fs, _, _, G, w, k.wx G, fun m S' v H' φ' fs' fm q A r d R => k.nx ρ S' σ H' φ' fe fs' q (A.s.sub fun a z => List.mem_append_right _ z) (A.good G R)⟩
def fRet (t : FE) : FS := fun P ρ S => t ρ S P.rt fun x S' => P.ex x ρ S'
theorem fs_ret (he : PE X e (LE T W t)) : PS X (.Return (some e) pos) (LS T W (fRet t)) := PS.weak (ps_ret he) fun D σ H ⟨ρ, S, φ, fe, fs, P, G, w, k⟩ =>
  ⟨ρ, S, φ, fe, fs, _, _, G, w, k.wx G, fun m S' v H' φ' fs' fm q A r R => k.rt m S' v H' φ' fm fs' q (A.s.sub fun a z => List.mem_append_left _ z) A.nd r R⟩
/-- return x: what the name holds goes out -/
theorem RepE.get1 {φ : Ob} {H : Hp} : ∀ {σ : St} {ρ : Ev} {f : List Addr} {i : Nat} {m : M}, RepE T φ H σ ρ f → f.Nodup → ρ[i]? = some (some m) → ∃ v g, σ[i]? = some (some v) ∧ Rep T φ H v m g ∧ (∀ a ∈ g, a ∈ f) ∧ g.Nodup
  | _, _, _, i, _, .nil, _, h => by simp at h
  | _, _, _, 0, _, .skip r, _, h => by simp at h
  | _, _, _, i + 1, _, .skip r, nd, h => by
    obtain ⟨v, g, h1, h2, h3⟩ := RepE.get1 (i := i) r nd (by simpa using h)
    exact ⟨v, g, by simpa using h1, h2, h3⟩
  | _, _, _, 0, _, .cons (v := v) (f := f) x r, nd, h => by
    simp at h
    subst h
    exact ⟨v, f, by simp, x, fun a z => List.mem_append_left _ z, (List.nodup_append.mp nd).1⟩
  | _, _, _, i + 1, _, .cons x r, nd, h => by
    obtain ⟨v, g, h1, h2, h3, h4⟩ := RepE.get1 (i := i) r (List.nodup_append.mp nd).2.1 (by simpa using h)
    exact ⟨v, g, by simpa using h1, h2, fun a z => List.mem_append_right _ (h3 a z), h4⟩
def fRetV (i : Nat) : FS := fun P ρ S => ∃ m, ρ[i]? = some (some m) ∧ P.rt m S
theorem fs_retV {i : Nat} (he : PE X e (tVar i)) : PS X (.Return (some e) pos) (LS T W (fRetV i)) := PS.weak (ps_ret he) fun D σ H ⟨ρ, S, φ, fe, fs, P, G, ⟨m, hm, w⟩, k⟩ => by
  have nd := List.nodup_append.mp G.nd
  obtain ⟨v, g, h1, h2, h3, h4⟩ := G.env.get1 nd.1 hm
  exact ⟨v, h1, k.rt m S v H φ g fs w (AftS.refl.sub h3) (List.nodup_append.mpr ⟨h4, nd.2.1, fun a h b h' => nd.2.2 a (h3 a h) b h'⟩) h2 G.sto⟩
def fRetN : FS := fun P _ S => P.rt (.dat .non) S
theorem fs_retN : PS X (.Return none pos) (LS T W fRetN) := PS.weak ps_retN fun D σ H ⟨ρ, S, φ, fe, fs, P, G, w, k⟩ =>
  k.rt _ S _ H φ [] fs w (AftS.refl.sub fun _ z => nomatch z) G.ndS (.dat .non) G.sto
def fIfS (c : FT) (t u : FS) : FS := fun P ρ S => c ρ S (fun b S' => if b = true then t P ρ S' else u P ρ S') fun x S' => P.ex x ρ S'
theorem fs_if {c : Expr} {x y : List Stmt} {tc : FT} (hc : PT X c (LT T W tc)) (ha : PSs X x (LS T W u)) (hb : PSs X y (LS T W w)) : PS X (.If c x y pos) (LS T W (fIfS tc u w)) :=
  PS.weak (ps_if hc ha hb) fun D σ H ⟨ρ, S, φ, fe, fs, P, G, q, k⟩ => ⟨ρ, S, φ, fe, fs, _, _, G, q, k.wx G, fun b S' H' φ' fs' q A R => by
    have B : AftS φ fe fs H φ' fe fs' H' := A.s.sub fun a z => List.mem_append_right _ z
    cases b with
    | true => exact ⟨ρ, S', φ', fe, fs', P, A.good G R, q, k.aft B⟩
    | false => exact ⟨ρ, S', φ', fe, fs', P, A.good G R, q, k.aft B⟩⟩
theorem fs_never : PS X st (LS T W fun _ _ _ => False) := PS.weak ps_never fun D σ H ⟨ρ, S, φ, fe, fs, P, G, w, k⟩ => w

/-! ### targets -/
abbrev FG := M → Ev → (Ev → Prop) → Prop
abbrev FGs := List D → Ev → (Ev → Prop) → Prop
/-- the value stands apart from the frame and the instances; slots are set, nothing else -/
def LG (T : Top) (vs : List Nat) (g : FG) : TG := fun v σ H Q => ∃ (m : M) (ρ : Ev) (S : Sto) (φ : Ob) (fm fe fs : List Addr) (Qm : Ev → Prop), Rep T φ H v m fm ∧ Good T φ H σ ρ S fe fs ∧ (fm ++ fe).Nodup ∧ (∀ a ∈ fm, a ∉ fs ++ φ.ads) ∧ g m ρ Qm ∧
  ∀ ρ' σ' fe', Qm ρ' → (∀ a ∈ fe', a ∈ fm ++ fe) → Good T φ H σ' ρ' S fe' fs → wipe σ' vs = wipe σ vs → Q σ' H
def LGs (T : Top) (vs : List Nat) (g : FGs) : TGs := fun v σ H Q => ∃ (ds : List D) (ρ : Ev) (S : Sto) (φ : Ob) (fe fs : List Addr) (Qm : Ev → Prop), FDs T φ H v ds ∧ Good T φ H σ ρ S fe fs ∧ g ds ρ Qm ∧
  ∀ ρ' σ' fe', Qm ρ' → (∀ a ∈ fe', a ∈ fe) → Good T φ H σ' ρ' S fe' fs → wipe σ' vs = wipe σ vs → Q σ' H
theorem PG.weak {e : Expr} {t t' : TG} (h : PG X e t) (k : ∀ v σ H Q, t' v σ H Q → t v σ H Q) : PG X e t' := ⟨fun pins s σ H v u Q I r w => h.run pins s σ H v u Q I r (k _ _ _ _ w)⟩
theorem PGs.weak {e : List Expr} {t t' : TGs} (h : PGs X e t) (k : ∀ v σ H Q, t' v σ H Q → t v σ H Q) : PGs X e t' := ⟨fun pins s σ H v u Q I r w => h.run pins s σ H v u Q I r (k _ _ _ _ w)⟩
theorem RepE.set {φ : Ob} {H : Hp} {v : V} {m : M} {fm : List Addr} (x : Rep T φ H v m fm) : ∀ {σ : St} {ρ : Ev} {f : List Addr} {i : Nat}, RepE T φ H σ ρ f → (fm ++ f).Nodup → i < ρ.length →
    ∃ f', RepE T φ H (σ.set i (some v)) (ρ.set i (some m)) f' ∧ (∀ a ∈ f', a ∈ fm ++ f) ∧ f'.Nodup
  | _, _, _, i, .nil, _, h => absurd h (Nat.not_lt_zero _)
  | _, _, _, 0, .skip (f := f) r, nd, _ => ⟨fm ++ f, .cons x r, fun _ z => z, nd⟩
  | _, _, _, i + 1, .skip r, nd, h => by
    obtain ⟨f', h1, h2, h3⟩ := RepE.set x (i := i) r nd (by simpa using h)
    exact ⟨f', .skip h1, h2, h3⟩
  | _, _, _, 0, .cons (f := f) (g := g) y r, nd, _ => by
    have q := List.nodup_append.mp nd
    refine ⟨fm ++ g, .cons x r, fun a z => ?_, List.nodup_append.mpr ⟨q.1, (List.nodup_append.mp q.2.1).2.1, fun a h b h' => q.2.2 a h b (List.mem_append_right _ h')⟩⟩
    rcases List.mem_append.mp z with z | z
    · exact List.mem_append_left _ z
    · exact List.mem_append_right _ (List.mem_append_right _ z)
  | _, _, _, i + 1, .cons (f := f) (g := g) y r, nd, h => by
    have q := List.nodup_append.mp nd
    have q2 := List.nodup_append.mp q.2.1
    obtain ⟨f', h1, h2, h3⟩ := RepE.set x (i := i) r (List.nodup_append.mpr ⟨q.1, q2.2.1, fun a h b h' => q.2.2 a h b (List.mem_append_right _ h')⟩) (by simpa using h)
    refine ⟨f ++ f', .cons y h1, fun a z => ?_, List.nodup_append.mpr ⟨q2.1, h3, fun a h b h' e => ?_⟩⟩
    · rcases List.mem_append.mp z with z | z
      · exact List.mem_append_right _ (List.mem_append_left _ z)
      · rcases List.mem_append.mp (h2 a z) with z | z
        · exact List.mem_append_left _ z
        · exact List.mem_append_right _ (List.mem_append_right _ z)
    · rcases List.mem_append.mp (h2 b h') with z | z
      · exact q.2.2 b z a (List.mem_append_left _ h) e.symm
      · exact q2.2.2 a h b z e
theorem RepE.len {φ : Ob} {H : Hp} : ∀ {σ : St} {ρ : Ev} {f : List Addr}, RepE T φ H σ ρ f → σ.length = ρ.length
  | _, _, _, .nil => rfl
  | _, _, _, .skip r => by rw [List.length_cons, List.length_cons, r.len]
  | _, _, _, .cons _ r => by rw [List.length_cons, List.length_cons, r.len]
def gN (i : Nat) : FG := fun m ρ Q => i < ρ.length ∧ Q (ρ.set i (some m))
theorem wipe_set {σ : St} {i : Nat} {x : Option V} : ∀ {vs : List Nat}, i ∈ vs → wipe (σ.set i x) vs = wipe σ vs
  | v :: vs, h => by
    unfold wipe
    by_cases e : i ∈ vs
    · rw [wipe_set e]
    · have ev : v = i := by
        rcases List.mem_cons.mp h with z | z
        · exact z.symm
        · exact absurd z e
      subst ev
      have sw : ∀ (us : List Nat), v ∉ us → wipe (σ.set v x) us = (wipe σ us).set v x := by
        intro us
        induction us with
        | nil => intro _; rfl
        | cons u us ih =>
          intro hu
          unfold wipe
          rw [ih fun z => hu (List.mem_cons_of_mem _ z)]
          exact List.set_comm _ _ fun z => hu (by rw [z]; exact List.mem_cons_self)
      rw [sw vs e, List.set_set]
/-- a slot set -/
theorem Good.setN {φ : Ob} {H : Hp} {v : V} {m : M} {σ : St} {ρ : Ev} {S : Sto} {fm fe fs : List Addr} {i : Nat} (G : Good T φ H σ ρ S fe fs) (r : Rep T φ H v m fm) (nd : (fm ++ fe).Nodup) (d : ∀ a ∈ fm, a ∉ fs ++ φ.ads) (hi : i < ρ.length) :
    ∃ fe', (∀ a ∈ fe', a ∈ fm ++ fe) ∧ Good T φ H (σ.set i (some v)) (ρ.set i (some m)) S fe' fs := by
  obtain ⟨f', h1, h2, h3⟩ := G.env.set r nd hi
  refine ⟨f', h2, h1, G.sto, List.nodup_append.mpr ⟨h3, G.ndS, fun a h b h' e => ?_⟩⟩
  subst e
  rcases List.mem_append.mp (h2 a h) with z | z
  · exact d a z h'
  · exact G.disj a z h'
theorem fg_name {vs : List Nat} {i : Nat} (h : PG X e (gName i)) (hv : i ∈ vs := by decide) : PG X e (LG T vs (gN i)) := PG.weak h fun v σ H Q ⟨m, ρ, S, φ, fm, fe, fs, Qm, r, G, nd, d, w, k⟩ => by
  obtain ⟨fe', h1, h2⟩ := G.setN r nd d w.1
  exact k _ _ fe' w.2 h1 h2 (wipe_set hv)
def gNilP : FGs := fun ds ρ Q => ds = [] ∧ Q ρ
def gConsP (g : FG) (gs : FGs) : FGs := fun ds ρ Q => ∃ d r, ds = d :: r ∧ g (.dat d) ρ fun ρ' => gs r ρ' Q
theorem FDs.of_nil {φ : Ob} {H : Hp} {v : List V} (r : FDs T φ H v []) : v = [] := by cases r; rfl
theorem fgs_nil {vs : List Nat} : PGs X [] (LGs T vs gNilP) := PGs.weak pgs_nil fun v σ H Q ⟨ds, ρ, S, φ, fe, fs, Qm, r, G, w, k⟩ => by
  obtain ⟨e, w⟩ := w
  subst e
  exact ⟨r.of_nil, k ρ σ fe w (fun _ z => z) G rfl⟩
theorem fgs_cons {vs : List Nat} {g : FG} {gs : FGs} (h1 : PG X e (LG T vs g)) (h2 : PGs X es (LGs T vs gs)) (hs : (assignEach (e :: es) X.env).map (·.2) = assign e X.env :: (assignEach es X.env).map (·.2) := by rfl) : PGs X (e :: es) (LGs T vs (gConsP g gs)) :=
  PGs.weak (pgs_cons h1 h2 hs) fun v σ H Q ⟨ds, ρ, S, φ, fe, fs, Qm, r, G, w, k⟩ => by
    obtain ⟨d, rr, e, w⟩ := w
    subst e
    cases r with
    | @cons v vs d ds x r =>
      exact ⟨v, vs, rfl, .dat d, ρ, S, φ, [], fe, fs, _, .dat x, G, (List.nodup_append.mp G.nd).1, fun _ z => (nomatch z), w, fun ρ' σ' fe' q sub G' hw =>
        ⟨rr, ρ', S, φ, fe', fs, Qm, r, G', q, fun ρ2 σ2 fe2 q2 sub2 G2 hw2 => k ρ2 σ2 fe2 q2 (fun a z => sub a (sub2 a z)) G2 (hw2.trans hw)⟩⟩
def gTupP (n : Nat) (gs : FGs) : FG := fun m ρ Q => match m with
  | .dat (.tup ds) => ds.length = n ∧ gs ds ρ Q
  | _ => False
theorem fg_tup {vs : List Nat} {kk n : Nat} {gs : FGs} (hK : X.K = T.K) (hc : X.calm = true) (h : PGs X es (LGs T vs gs)) (hn : (assignEach es X.env).length = n := by rfl) (hst : (assignEach es X.env).findIdx? (·.1) = none := by rfl) : PG X (.Tuple es kk pos) (LG T vs (gTupP n gs)) :=
  PG.weak (pg_tup hc h hn hst) fun v σ H Q ⟨m, ρ, S, φ, fm, fe, fs, Qm, r, G, nd, d, w, k⟩ => by
    cases r with
    | dct => exact w.elim
    | lst => exact w.elim
    | @dat v d r =>
      cases r with
      | @tup a xs ds hq rs =>
        exact ⟨a, xs, rfl, by rw [hK]; exact SqT.of hq, by rw [rs.len]; exact w.1, ds, ρ, S, φ, fe, fs, Qm, rs, G, w.2, k⟩
      | _ => exact w.elim
def fAsg (t : FE) (g : FG) : FS := fun P ρ S => t ρ S (fun m S' => g m ρ fun ρ' => P.nx ρ' S') fun x S' => P.ex x ρ S'
theorem lAsg {vs : List Nat} {g : FG} {D : Ends} {σ : St} {H : Hp} (h : LS T W (fAsg t g) D σ H) : LE T W t σ H fun x H1 => LG T vs g x σ H1 D.nx := by
  obtain ⟨ρ, S, φ, fe, fs, P, G, w, k⟩ := h
  refine ⟨ρ, S, φ, fe, fs, _, _, G, w, k.wx G, fun m S' v H' φ' fs' fm q A r R => ?_⟩
  have G' := A.good G R
  refine ⟨m, ρ, S', φ', fm, fe, fs', _, r, G', List.nodup_append.mpr ⟨(List.nodup_append.mp A.nd).1, (List.nodup_append.mp G.nd).1, fun a h b h' e => ?_⟩, A.disj, q, fun ρ2 σ2 fe2 q2 sub G2 _ => k.nx ρ2 S' σ2 H' φ' fe2 fs' q2 (A.s.sub sub) G2⟩
  subst e
  refine A.apart G.disj (fun a ha => ?_) a h' (List.mem_append_left _ h)
  obtain ⟨xs, q, _⟩ := G.env.own a ha
  rw [q]
  exact fun z => nomatch z
theorem fs_asg {vs : List Nat} {tg : Expr} {g : FG} (he : PE X e (LE T W t)) (hg : PG X tg (LG T vs g)) (hs : swapsWithSole [tg] e pos.line X.env = pure false := by rfl) (hw : swappedStores [tg] e X.env = pure none := by rfl)
    (h1 : (assignEach [tg] X.env).map (·.2) = [assign tg X.env] := by rfl) : PS X (.Assign [tg] e pos) (LS T W (fAsg t g)) := PS.weak (ps_asg he hg hs hw h1) fun D σ H h => lAsg h
theorem lSet {D : Ends} {σ : St} {H : Hp} {i : Nat} (h : LS T W (fAsg t (gN i)) D σ H) : tAsg (LE T W t) (gName i) D σ H := by
  obtain ⟨ρ, S, φ, fe, fs, E, Qm, G, w, hx, k⟩ := lAsg (vs := [i]) h
  refine ⟨ρ, S, φ, fe, fs, E, Qm, G, w, hx, fun m S' v H' φ' fs' fm q A r R => ?_⟩
  obtain ⟨m, ρ, S, φ, fm, fe, fs, Qm, r, G, nd, d, w, k⟩ := k m S' v H' φ' fs' fm q A r R
  obtain ⟨fe', h1, h2⟩ := G.setN r nd d w.1
  exact k _ _ fe' w.2 h1 h2 (wipe_set (by simp))
/-- name = value -/
theorem fs_set {i : Nat} {x : Str} {pos' : Pos} (hN : X.N.Nodup) (hi : X.N[i]? = some x) (hx : Loc X.env.scope x) (he : PE X e (LE T W t)) (hs : swapsWith e (some (.Name x pos')) pos.line X.env = pure false := by rfl) (hf : X.fn x = true ∨ X.env.scope.names.lookup x = some .local := by first | exact .inl rfl | exact .inr rfl | assumption) :
    PS X (.Assign [.Name x pos'] e pos) (LS T W (fAsg t (gN i))) := PS.weak (ps_set hN hi hx he hs hf) fun D σ H h => lSet h

/-! ### loops -/
def fWhile (c : FT) (b : FS) : FS := fun P ρ S => ∃ I : Nat → Ev → Sto → Prop, (∃ n, I n ρ S) ∧ ∀ n ρ S, I n ρ S →
  c ρ S (fun k S' => if k = true then b { P with nx := fun ρ' S' => ∃ n', n' < n ∧ I n' ρ' S', ct := fun ρ' S' => ∃ n', n' < n ∧ I n' ρ' S', bk := P.nx } ρ S' else P.nx ρ S') fun x S' => P.ex x ρ S'
theorem fs_while {c : Expr} {tc : FT} (hp : PassesOwn (model X.prog X.w) X.A X.env X.xe) (hc : PT X c (LT T W tc)) (hb : PSs X body (LS T W u)) : PS X (.While c body [] pos) (LS T W (fWhile tc u)) :=
  PS.weak (ps_while hp hc hb) fun D σ H ⟨ρ, S, φ, fe, fs, P, G, ⟨I, ⟨n, hn⟩, turn⟩, k⟩ => by
    refine ⟨fun m σ' H' => ∃ (ρ' : Ev) (S' : Sto) (φ' : Ob) (fe' fs' : List Addr), I m ρ' S' ∧ AftS φ fe fs H φ' fe' fs' H' ∧ Good T φ' H' σ' ρ' S' fe' fs', ⟨n, ρ, S, φ, fe, fs, hn, AftS.refl, G⟩, fun m σ1 H1 ⟨ρ1, S1, φ1, fe1, fs1, h1, A1, G1⟩ => ?_⟩
    have k1 := k.aft A1
    refine ⟨ρ1, S1, φ1, fe1, fs1, _, _, G1, turn m ρ1 S1 h1, k1.wx G1, fun b S2 H2 φ2 fs2 q A2 R2 => ?_⟩
    have B : AftS φ1 fe1 fs1 H1 φ2 fe1 fs2 H2 := A2.s.sub fun a z => List.mem_append_right _ z
    have G2 := A2.good G1 R2
    cases b with
    | false => exact k1.nx ρ1 S2 σ1 H2 φ2 fe1 fs2 q B G2
    | true =>
      refine ⟨fun σ' H' => ∃ m', m' < m ∧ ∃ (ρ' : Ev) (S' : Sto) (φ' : Ob) (fe' fs' : List Addr), I m' ρ' S' ∧ AftS φ fe fs H φ' fe' fs' H' ∧ Good T φ' H' σ' ρ' S' fe' fs', fun σ' H' z => z, ?_⟩
      have k2 := k1.aft B
      refine ⟨ρ1, S2, φ2, fe1, fs2, _, G2, q, ⟨fun ρ' S' σ' H' φ' fe' fs' p A G' => ?_, fun ρ' S' σ' H' φ' fe' fs' p A G' => k2.nx ρ' S' σ' H' φ' fe' fs' p A G', fun ρ' S' σ' H' φ' fe' fs' p A G' => ?_, k2.rt, k2.ex⟩⟩
      · obtain ⟨m', hm, hI⟩ := p
        exact ⟨m', hm, ρ', S', φ', fe', fs', hI, (A1.trans B).trans A, G'⟩
      · obtain ⟨m', hm, hI⟩ := p
        exact ⟨m', hm, ρ', S', φ', fe', fs', hI, (A1.trans B).trans A, G'⟩
abbrev FI := Ev → Sto → (List D → Sto → Prop) → XP → Prop
/-- what a for walks: pure items -/
def Walks (T : Top) (φ : Ob) (J : It) (H : Hp) (ds : List D) : Prop := ∀ (i : Nat) (H2 : Hp) (φ2 : Ob), Ext H H2 → Pre φ φ2 →
  (∀ d, ds[i]? = some d → J.go i H2 ∧ ∀ x H3, J.yld i H2 x H3 → Fresh H2 H3 [] ∧ FD T φ2 H3 x d) ∧ (ds.length ≤ i → J.stop i H2)
def LI (T : Top) (W : WX) (t : FI) : TI := fun σ H R => ∃ (ρ : Ev) (S : Sto) (φ : Ob) (fe fs : List Addr) (E : XP) (Qm : List D → Sto → Prop), Good T φ H σ ρ S fe fs ∧ t ρ S Qm E ∧ WxE T φ fs H σ E W ∧
  ∀ ds S' J H' φ' fs', Qm ds S' → Aft φ fs H φ' fs' [] H' → RepS T H' φ' φ' S' fs' → Walks T φ' J H' ds → R J H'
theorem PI.weak {tg iter : Expr} {t t' : TI} (h : PI X tg iter t) (k : ∀ σ H Q, t' σ H Q → t σ H Q) : PI X tg iter t' := ⟨fun pins s σ H R I w => h.run pins s σ H R I (k _ _ _ w)⟩
def forW (g : FG) (b : FS) (P : EndP) : List D → Ev → Sto → Prop
  | [], ρ, S => P.nx ρ S
  | d :: ds, ρ, S => g (.dat d) ρ fun ρ1 => b { P with nx := forW g b P ds, ct := forW g b P ds, bk := P.nx } ρ1 S
def fFor (t : FI) (g : FG) (b : FS) : FS := fun P ρ S => t ρ S (fun ds S' => forW g b P ds ρ S') fun x S' => P.ex x ρ S'
theorem AftS.ext {φ φ1 : Ob} {H H1 : Hp} {σ : St} {ρ : Ev} {S : Sto} {fe fs fe1 fs1 : List Addr} (A : AftS φ fe fs H φ1 fe1 fs1 H1) (G : Good T φ H σ ρ S fe fs) : Ext H H1 := by
  have no : ∀ (a : Addr) (u : HO), H a = some u → ¬ OwnO u → (∀ C dx fs, u ≠ .ins C dx fs) → a ∉ fe ++ (fs ++ φ.ads) := fun a u h n n2 z => by
    rcases List.mem_append.mp z with z | z
    · exact own_no (.inl (G.env.own a z)) h n n2
    · exact own_no (G.sto.own a z) h n n2
  exact ⟨fun a xs h => A.keep a _ (no a _ h (fun z => z) fun _ _ _ z => nomatch z) h, fun a o u h => A.keep a _ (no a _ h (fun z => z) fun _ _ _ z => nomatch z) h, fun a u h => A.keep a _ (no a _ h (fun z => z) fun _ _ _ z => nomatch z) h⟩
theorem fs_for {vs : List Nat} {tg iter : Expr} {ti : FI} {g : FG} (hp : PassesOwn (model X.prog X.w) X.A X.env X.xe) (hc : X.calm = true) (hi : PI X tg iter (LI T W ti)) (hg : PG X tg (LG T vs g)) (hb : PSs X body (LS T W u))
    (hs : ∀ x, foldedSetIterable iter X.env x = pure x := by intro _; rfl) : PS X (.For tg iter body [] pos) (LS T W (fFor ti g u)) :=
  PS.weak (ps_for hp hc hi hg hb hs) fun D σ H ⟨ρ, S, φ, fe, fs, P, G, w, k⟩ => by
    refine ⟨ρ, S, φ, fe, fs, _, _, G, w, k.wx G, fun ds S0 J H0 φ0 fs0 q A0 R0 wk => ?_⟩
    have G0 := A0.good G R0
    have B0 : AftS φ fe fs H φ0 fe fs0 H0 := A0.s.sub fun a z => List.mem_append_right _ z
    refine ⟨fun i m σ' H' => i + m = ds.length ∧ ∃ (ρ' : Ev) (S' : Sto) (φ' : Ob) (fe' fs' : List Addr), forW g u P (ds.drop i) ρ' S' ∧ AftS φ0 fe fs0 H0 φ' fe' fs' H' ∧ Good T φ' H' σ' ρ' S' fe' fs', ⟨ds.length, by omega, ρ, S0, φ0, fe, fs0, q, AftS.refl, G0⟩, ?_⟩
    intro i m σ1 H1 ⟨him, ρ1, S1, φ1, fe1, fs1, h1, A1, G1⟩
    have wk1 := wk i H1 φ1 (A1.ext G0) A1.pre
    have k1 := k.aft (B0.trans A1)
    by_cases hi : ds.length ≤ i
    · rw [List.drop_of_length_le hi] at h1
      exact .inl ⟨wk1.2 hi, k1.nx ρ1 S1 σ1 H1 φ1 fe1 fs1 h1 AftS.refl G1⟩
    · have hlt : i < ds.length := by omega
      rw [List.drop_eq_getElem_cons hlt] at h1
      obtain ⟨go, yl⟩ := wk1.1 ds[i] (List.getElem?_eq_getElem hlt)
      refine .inr ⟨go, fun σ' H' => ∃ m', m' < m ∧ (i + 1) + m' = ds.length ∧ ∃ (ρ' : Ev) (S' : Sto) (φ' : Ob) (fe' fs' : List Addr), forW g u P (ds.drop (i + 1)) ρ' S' ∧ AftS φ0 fe fs0 H0 φ' fe' fs' H' ∧ Good T φ' H' σ' ρ' S' fe' fs', fun σ' H' z => z, fun x H2 hy => ?_⟩
      obtain ⟨F, rd⟩ := yl x H2 hy
      have A2 := F.aft G1.sto G1.ndS
      have R2 := F.sto G1.sto
      have G2 := A2.good G1 R2
      have B2 : AftS φ1 fe1 fs1 H1 φ1 fe1 fs1 H2 := A2.s.sub fun a z => List.mem_append_right _ z
      refine ⟨.dat ds[i], ρ1, S1, φ1, [], fe1, fs1, _, .dat rd, G2, (List.nodup_append.mp G2.nd).1, fun _ z => (nomatch z), h1, fun ρ3 σ3 fe3 q3 sub3 G3 _ => ?_⟩
      have B3 : AftS φ1 fe1 fs1 H1 φ1 fe3 fs1 H2 := B2.sub sub3
      have k3 := k1.aft B3
      have C3 : AftS φ0 fe fs0 H0 φ1 fe3 fs1 H2 := A1.trans B3
      refine ⟨ρ3, S1, φ1, fe3, fs1, _, G3, q3, ⟨fun ρ' S' σ' H' φ' fe' fs' p A G' => ?_, fun ρ' S' σ' H' φ' fe' fs' p A G' => k3.nx ρ' S' σ' H' φ' fe' fs' p A G', fun ρ' S' σ' H' φ' fe' fs' p A G' => ?_, k3.rt, k3.ex⟩⟩
      · exact ⟨m - 1, by omega, by omega, ρ', S', φ', fe', fs', p, C3.trans A, G'⟩
      · exact ⟨m - 1, by omega, by omega, ρ', S', φ', fe', fs', p, C3.trans A, G'⟩
end

/-! ### the body of a def -/
def blanks : Nat → Ev
  | 0 => []
  | n + 1 => none :: blanks n
theorem blanks_eq : ∀ n, blanks n = List.replicate n none
  | 0 => rfl
  | n + 1 => by rw [blanks, blanks_eq n]; rfl
/-- a def's ends -/
def endOf (Q : WP) (E : XP) : EndP := { nx := fun _ S' => Q (.dat .non) S', rt := Q, ex := fun x _ S' => E x S' }
theorem endOf_nx (Q : WP) (E : XP) (ρ : Ev) (S : Sto) : (endOf Q E).nx ρ S = Q (.dat .non) S := rfl
theorem endOf_rt (Q : WP) (E : XP) : (endOf Q E).rt = Q := rfl
theorem endOf_ex (Q : WP) (E : XP) (x : Exn) (ρ : Ev) (S : Sto) : (endOf Q E).ex x ρ S = E x S := rfl
def mkW (n np : Nat) (r : FS) : FF := fun ds S Q E => ds.length = np ∧ r (endOf Q E) (ds.map (fun d => some (.dat d)) ++ blanks (n - np)) S
theorem RepE.start {T : Top} {φ : Ob} {H : Hp} (k : Nat) : ∀ {vs : List V} {ds : List D}, FDs T φ H vs ds → RepE T φ H (vs.map some ++ List.replicate k none) (ds.map (fun d => some (.dat d)) ++ List.replicate k none) []
  | _, _, .nil => by
    show RepE T φ H (List.replicate k none) (List.replicate k none) []
    induction k with
    | zero => exact .nil
    | succ k ih => exact .skip ih
  | _, _, .cons x r => .cons (f := []) (g := []) (.dat x) (RepE.start k r)
theorem fn_ok {P : Program} {w : World} {K : PySem.W.Frag} {mg : Str → Option Value} {base : Heap} {T : Top} {x qual : Str} {st : Stmt} {f : Addr} {fd : FuncData} {N ps : List Str} {k : Nat} {r : FS} (F : Fun K x qual st f fd) (S : FnScope N ps (defScope st))
    (hb : ∀ (cdv : Value) (A : Around) (outer : List Env) (s : Shared) (H : Hp) (E : XK), Room k (A.deeper (envOfC qual (defScope st) s.heap.objs.size f cdv)) →
      PSs (cxOf (L2N.CX P w) P w K mg base N qual (defScope st) f cdv A outer s H E) (defBody st) (LS T (fun c d _ H' => E c d H') r)) :
    FnOk P w K mg base (L2N.CX P w) (k + 1) f fd ps (LF T (mkW N.length ps.length r)) := by
  obtain ⟨oc, od, kV, doc, pm, an, cdv, ct, osl, rfl, lk, hcd⟩ := F.ex
  refine fn_of lk hcd S (fun vs H Q E h => ?_) (fun A outer s H vs Q E hr h => ⟨_, hb cdv A outer s H E hr, ?_⟩)
  · obtain ⟨ds, S, φ, fs, _, _, h1, _, _, h2, _⟩ := h
    rw [h1.len]; exact h2.1
  · obtain ⟨ds, S, φ, fs, Ex, Qm, h1, R, nd, h2, hx, k⟩ := h
    refine ⟨_, S, φ, [], fs, _, ⟨?_, R, nd⟩, h2.2, ⟨fun ρ' S' σ' H' φ' fe' fs' p A G' => ?_, fun ρ' S' σ' H' φ' fe' fs' p A G' => p.elim, fun ρ' S' σ' H' φ' fe' fs' p A G' => p.elim, fun m S' v H' φ' fm fs' p A n r R => ?_, fun x ρ' S' c d σ' H' φ' fe' fs' p A G' r => ?_⟩⟩
    · unfold L2.start
      rw [h1.len, h2.1, blanks_eq]
      exact RepE.start _ h1
    · exact k _ S' _ H' φ' fs' [] p ⟨A.pre, A.keep, fun a z => A.new a (List.mem_append_right _ z), G'.ndS⟩ (.dat .non) G'.sto
    · exact k m S' v H' φ' fs' fm p ⟨A.pre, A.keep, A.new, n⟩ r R
    · exact hx x S' c d H' φ' fs' p ⟨A.pre, A.keep, fun a z => A.new a (List.mem_append_right _ z), G'.ndS⟩ r G'.sto
end L2.Fn
/-! Fn, part E: what the operators, the built-ins and the loops' heads do, told purely. -/
namespace L2.Fn
open PySem PySem.Spec PyProof.Rows

/-! ### lists and tuples as they are looked at -/
def M.asL : M → Option (List M)
  | .lst ms => some ms
  | .dat (.lst ds) => some (ds.map .dat)
  | _ => none
def M.asT : M → Option (List D)
  | .dat (.tup ds) => some ds
  | .dat (.ktup ds) => some ds
  | _ => none
/-- the pure items of a list -/
def M.ds : M → Option (List D)
  | .lst ms => some (ms.map M.toD)
  | .dat (.lst ds) => some ds
  | .dat (.tup ds) => some ds
  | _ => none
section
variable {T : Top} {φ : Ob} {H : Hp}
theorem asL_ok {v : V} {m : M} {f : List Addr} (r : Rep T φ H v m f) {ms : List M} (e : m.asL = some ms) : ∃ a xs g, v = .ref a ∧ SqL T.K H a xs ∧ Reps T φ H xs ms g ∧ ∀ b ∈ g, b ∈ f := by
  cases r with
  | lst h r => cases e; exact ⟨_, _, _, rfl, SqL.of h, r, fun b z => List.mem_cons_of_mem _ z⟩
  | dat r =>
    cases r with
    | lst h r => cases e; exact ⟨_, _, _, rfl, h.seq, r.reps, fun b z => z⟩
    | _ => cases e
  | dct => cases e
theorem asT_ok {v : V} {m : M} {f : List Addr} (r : Rep T φ H v m f) {ds : List D} (e : m.asT = some ds) : ∃ a xs, v = .ref a ∧ SqT T.K H a xs ∧ FDs T φ H xs ds := by
  cases r with
  | lst h r => cases e
  | dat r =>
    cases r with
    | tup h r => cases e; exact ⟨_, _, rfl, SqT.of h, r⟩
    | ktup h r => cases e; exact ⟨_, _, rfl, h.sq, r⟩
    | _ => cases e
  | dct => cases e
theorem Reps.get {φ : Ob} : ∀ {v : List V} {m : List M} {f : List Addr} {i : Nat} {x : M}, Reps T φ H v m f → m[i]? = some x → ∃ w g, v[i]? = some w ∧ Rep T φ H w x g ∧ ∀ a ∈ g, a ∈ f
  | _, _, _, i, _, .nil, h => by simp at h
  | _, _, _, 0, _, .cons (v := v) (f := f) x r, h => by
    simp at h
    subst h
    exact ⟨v, f, by simp, x, fun a z => List.mem_append_left _ z⟩
  | _, _, _, i + 1, _, .cons x r, h => by
    obtain ⟨v, g, h1, h2, h3⟩ := Reps.get (i := i) r (by simpa using h)
    exact ⟨v, g, by simpa using h1, h2, fun a z => List.mem_append_right _ (h3 a z)⟩
theorem FDs.get {φ : Ob} : ∀ {v : List V} {m : List D} {i : Nat} {x : D}, FDs T φ H v m → m[i]? = some x → ∃ w, v[i]? = some w ∧ FD T φ H w x
  | _, _, i, _, .nil, h => by simp at h
  | _, _, 0, _, .cons (v := v) x r, h => by
    simp at h
    subst h
    exact ⟨v, by simp, x⟩
  | _, _, i + 1, _, .cons x r, h => by
    obtain ⟨v, h1, h2⟩ := FDs.get (i := i) r (by simpa using h)
    exact ⟨v, by simpa using h1, h2⟩
theorem FDs.app {φ : Ob} : ∀ {v w : List V} {m n : List D}, FDs T φ H v m → FDs T φ H w n → FDs T φ H (v ++ w) (m ++ n)
  | _, _, _, _, .nil, s => s
  | _, _, _, _, .cons x r, s => .cons x (r.app s)
theorem FDs.take {φ : Ob} : ∀ {v : List V} {m : List D} (n : Nat), FDs T φ H v m → FDs T φ H (v.take n) (m.take n)
  | _, _, 0, _ => by simpa using FDs.nil
  | _, _, _ + 1, .nil => .nil
  | _, _, n + 1, .cons x r => .cons x (r.take n)
theorem FDs.drop {φ : Ob} : ∀ {v : List V} {m : List D} (n : Nat), FDs T φ H v m → FDs T φ H (v.drop n) (m.drop n)
  | _, _, 0, r => r
  | _, _, _ + 1, .nil => .nil
  | _, _, n + 1, .cons _ r => r.drop n
theorem FDs.rep {φ : Ob} {v : List V} {m : List D} (r : FDs T φ H v m) : ∀ n : Nat, FDs T φ H (List.replicate n v).flatten (List.replicate n m).flatten
  | 0 => .nil
  | n + 1 => by rw [List.replicate_succ, List.replicate_succ, List.flatten_cons, List.flatten_cons]; exact r.app (r.rep n)
/-- own lists of pure items -/
theorem Reps.toD {φ : Ob} : ∀ {v : List V} {m : List M} {f : List Addr}, Reps T φ H v m f → f = [] → FDs T φ H v (m.map M.toD)
  | _, _, _, .nil, _ => .nil
  | _, _, _, .cons (f := f) (g := g) x r, h => by
    have h1 : f = [] := (List.append_eq_nil_iff.mp h).1
    have h2 : g = [] := (List.append_eq_nil_iff.mp h).2
    refine .cons ?_ (r.toD h2)
    cases x with
    | dat x => exact x
    | lst => cases h1
    | dct => cases h1
end
/-- all items are pure -/
def dats : List M → Option (List D)
  | [] => some []
  | .dat d :: r => (dats r).map (d :: ·)
  | .lst _ :: _ => none
  | .dct _ _ :: _ => none
theorem dats_map : ∀ ds : List D, dats (ds.map .dat) = some ds
  | [] => rfl
  | d :: ds => by rw [List.map_cons, dats, dats_map ds]; rfl
theorem dats_eq : ∀ {ms : List M} {ds : List D}, dats ms = some ds → ms = ds.map .dat
  | [], ds, h => by cases h; rfl
  | .dat d :: r, ds, h => by
    rw [dats] at h
    cases q : dats r with
    | none => rw [q] at h; cases h
    | some e =>
      rw [q] at h
      cases h
      rw [dats_eq q]; rfl
  | .lst _ :: _, ds, h => by cases h
  | .dct _ _ :: _, ds, h => by cases h
def M.ld (m : M) : Option (List D) := m.asL.bind dats
theorem ld_dat (ds : List D) : (M.dat (.lst ds)).ld = some ds := dats_map ds
theorem ld_lst (ds : List D) : (M.lst (ds.map .dat)).ld = some ds := dats_map ds
section
variable {T : Top} {φ : Ob} {H : Hp}
theorem ld_ok {v : V} {m : M} {f : List Addr} (r : Rep T φ H v m f) {ds : List D} (e : m.ld = some ds) : ∃ a xs, v = .ref a ∧ SqL T.K H a xs ∧ FDs T φ H xs ds := by
  unfold M.ld at e
  cases q : m.asL with
  | none => rw [q] at e; cases e
  | some ms =>
    rw [q] at e
    obtain ⟨a, xs, g, h1, h2, h3, _⟩ := asL_ok r q
    exact ⟨a, xs, h1, h2, (h3.dats (dats_eq e)).1⟩
theorem str_cat (a b : List Nat) : (⟨a.toArray⟩ : Str) ++ ⟨b.toArray⟩ = ⟨(a ++ b).toArray⟩ := congrArg Str.mk (show a.toArray ++ b.toArray = _ by simp)
theorem str_len (a : List Nat) : (⟨a.toArray⟩ : Str).length = a.length := by simp [Str.length]
theorem str_inj {a b : List Nat} : ((⟨a.toArray⟩ : Str) = ⟨b.toArray⟩) ↔ a = b := by
  constructor
  · intro h; injection h with h; simpa using h
  · intro h; rw [h]
end

/-! ### list + list, each of one's own or locked -/
section
variable {X : Cx} {pins : List (Addr × Obj)} {σ : St} {H : Hp} {s : Shared}
theorem inv_rdL {l : Addr} {xs : List V} (I : Inv X pins σ H s) (h : Rd H l (.lst xs)) : ∃ (its : List Value) (n : Nat), xs.length ≤ sizeLine ∧ Vals xs its ∧ xs.length = its.length ∧ s.heap.get? l = some { cls := .type "list", data := .seq its.toArray n } := by
  obtain ⟨z, its, n, r, e⟩ := h.ok I.hok
  exact ⟨its, n, z, r, r.length, e⟩
def rCatR : R2 := fun x y H Q => ∃ l b xs zs, x = .ref l ∧ y = .ref b ∧ Rd H l (.lst xs) ∧ Rd H b (.lst zs) ∧ xs.length + zs.length ≤ sizeLine ∧ ∀ p, H p = none → Q (.ref p) (upd H p (.lst (xs ++ zs)))
theorem op_catR : OpR X (binaryOp .Add) rCatR := by
  intro pins s σ H x y v u Q I rx ry h
  obtain ⟨l, b, xs, zs, rfl, rfl, hH, hB, hz, q⟩ := h
  cases rx
  cases ry
  obtain ⟨its, n, z, r, hl, e⟩ := inv_rdL I hH
  obtain ⟨its2, n2, z2, r2, hl2, e2⟩ := inv_rdL I hB
  refine PySem.P.add_list e e2 ?_ (by rw [List.size_toArray, List.size_toArray]; omega)
  have ea : its.toArray ++ its2.toArray = (its ++ its2).toArray := by simp
  rw [ea]
  exact ⟨.ref _, _, I.lnew (t' := s.toks) (r.append r2) (by rw [List.length_append]; omega), rfl, q _ I.fresh⟩
end
/-- a list that stands in the abstract heap (not a written one) -/
def M.isL : M → Bool
  | .lst _ => true
  | .dat (.lst _) => true
  | _ => false

section
variable {T : Top}
/-! ### + - * // % ** -/
def oAdd (a b : M) (Q : M → Prop) : Prop := match a, b with
  | .dat (.int i), .dat (.int j) => Q (.dat (.int (i + j)))
  | .dat (.str s), .dat (.str t) => s.length + t.length ≤ sizeLine ∧ Q (.dat (.str (s ++ t)))
  | .dat (.tup s), .dat (.tup t) => s.length + t.length ≤ sizeLine ∧ Q (.dat (.tup (s ++ t)))
  | _, _ => False
def rAddA (K : PySem.W.Frag) : R2 := fun x y H Q => ((rI0 fun i j => .int (i + j)) x y H Q ∨ (∃ i j, x = .str i ∧ y = .str j ∧ i.length + j.length ≤ sizeLine ∧ Q (.str (i ++ j)) H)) ∨ rCatA K x y H Q
theorem op_addA {X : Cx} : OpR X (binaryOp .Add) (rAddA X.K) := (op_add.or op_add_str).or op_catA
theorem o_add : Op2 T (rAddA T.K) oAdd := by
  intro φ H x y m1 m2 f1 f2 Q Qm r1 r2 w k
  cases r1 with
  | lst => exact w.elim
  | dct => exact w.elim
  | dat r1 =>
    cases r2 with
    | lst => cases r1 <;> exact w.elim
    | dct => cases r1 <;> exact w.elim
    | dat r2 =>
      cases r1 with
      | int i =>
        cases r2 with
        | int j => exact .inl (.inl ⟨i, j, rfl, rfl, k _ _ H [] w (Fresh.refl H) (.dat (.int _))⟩)
        | _ => exact w.elim
      | str a =>
        cases r2 with
        | str b =>
          refine .inl (.inr ⟨_, _, rfl, rfl, by rw [str_len, str_len]; exact w.1, ?_⟩)
          rw [str_cat]
          exact k _ _ H [] w.2 (Fresh.refl H) (.dat (.str _))
        | _ => exact w.elim
      | @tup a xs ds h1 s1 =>
        cases r2 with
        | @tup b ys es h2 s2 =>
          refine .inr ⟨a, b, xs, ys, rfl, rfl, SqT.of h1, SqT.of h2, by rw [s1.len, s2.len]; exact w.1, fun e => ?_, fun e e2 => ?_, fun e e2 p hp => ?_⟩
          · subst e
            cases s1
            exact k _ _ H [] w.2 (Fresh.refl H) (.dat (.tup h2 s2))
          · subst e2
            cases s2
            refine k _ _ H [] w.2 (Fresh.refl H) (.dat (.tup h1 ?_))
            rw [List.append_nil]
            exact s1
          · have F : Fresh H (upd H p (.tup (xs ++ ys))) [] := Fresh.upd0 hp
            exact k _ _ _ [] w.2 F (.dat (.tup upd_same ((s1.app s2).ext F.ext (Pre.refl _))))
        | _ => exact w.elim
      | _ => exact w.elim
/-- list + list: the items pure -/
def oCat (a b : M) (Q : M → Prop) : Prop := ∃ s : List D, a.ld = some s ∧ ∃ t : List D, b.ld = some t ∧ s.length + t.length ≤ sizeLine ∧ Q (.lst ((s ++ t).map .dat))
/-- .. the top has no lists of its own -/
def NoLists (K : PySem.W.Frag) : Prop := ∀ a o, K.lookup a = some o → o.cls ≠ .type "list"
theorem sql_rd (hK : NoLists T.K) {H : Hp} {a : Addr} {xs : List V} (h : SqL T.K H a xs) : Rd H a (.lst xs) := by
  rcases h with h | ⟨o, its, n, hk, hc, _⟩
  · exact h
  · exact absurd hc (hK a o hk)
theorem o_cat (hK : NoLists T.K) : Op2 T rCatR oCat := by
  intro φ H x y m1 m2 f1 f2 Q Qm r1 r2 ⟨s, e1, t, e2, hz, w⟩ k
  obtain ⟨a, xs, rfl, h1, s1⟩ := ld_ok r1 e1
  obtain ⟨b, ys, rfl, h2, s2⟩ := ld_ok r2 e2
  refine ⟨a, b, xs, ys, rfl, rfl, sql_rd hK h1, sql_rd hK h2, by rw [s1.len, s2.len]; exact hz, fun p hp => ?_⟩
  have F : Fresh H (upd H p (.lst (xs ++ ys))) [p] := Fresh.upd hp
  exact k _ _ _ [p] w F (.lst upd_same ((s1.app s2).ext F.ext (Pre.refl _)).reps)
def oInt (g : Int → Int → Int) (c : Int → Int → Prop) (a b : M) (Q : M → Prop) : Prop := match a, b with
  | .dat (.int i), .dat (.int j) => c i j ∧ Q (.dat (.int (g i j)))
  | _, _ => False
theorem o_int {g : Int → Int → Int} {c c' : Int → Int → Prop} (hc : ∀ i j, c' i j → c i j) : Op2 T (rI c fun i j => .int (g i j)) (oInt g c') := by
  intro φ H x y m1 m2 f1 f2 Q Qm r1 r2 w k
  cases r1 with
  | lst => exact w.elim
  | dct => exact w.elim
  | dat r1 =>
    cases r2 with
    | lst => cases r1 <;> exact w.elim
    | dct => cases r1 <;> exact w.elim
    | dat r2 =>
      cases r1 with
      | int i =>
        cases r2 with
        | int j => exact ⟨i, j, rfl, rfl, hc i j w.1, k _ _ H [] w.2 (Fresh.refl H) (.dat (.int _))⟩
        | _ => exact w.elim
      | _ => exact w.elim
def oInt0 (g : Int → Int → D) (a b : M) (Q : M → Prop) : Prop := match a, b with
  | .dat (.int i), .dat (.int j) => Q (.dat (g i j))
  | _, _ => False
theorem o_int0 {g : Int → Int → V} {g' : Int → Int → D} (hg : ∀ φ H i j, FD T φ H (g i j) (g' i j)) : Op2 T (rI0 g) (oInt0 g') := by
  intro φ H x y m1 m2 f1 f2 Q Qm r1 r2 w k
  cases r1 with
  | lst => exact w.elim
  | dct => exact w.elim
  | dat r1 =>
    cases r2 with
    | lst => cases r1 <;> exact w.elim
    | dct => cases r1 <;> exact w.elim
    | dat r2 =>
      cases r1 with
      | int i =>
        cases r2 with
        | int j => exact ⟨i, j, rfl, rfl, k _ _ H [] w (Fresh.refl H) (.dat (hg _ _ i j))⟩
        | _ => exact w.elim
      | _ => exact w.elim
abbrev oSub := oInt0 fun i j => .int (i - j)
theorem o_sub : Op2 T (rI0 fun i j => .int (i - j)) oSub := o_int0 fun _ _ _ _ => .int _
abbrev oMul := oInt (fun i j => i * j) CMulW
abbrev oFDiv := oInt (fun i j => i / j) CDivW
abbrev oMod := oInt (fun i j => i % j) fun _ j => 0 < j
abbrev oPow := oInt (fun i j => i ^ j.toNat) CPow
theorem o_mul : Op2 T (rI CMulW fun i j => .int (i * j)) oMul := o_int fun _ _ h => h
theorem o_fdiv : Op2 T (rI CDivW fun i j => .int (i / j)) oFDiv := o_int fun _ _ h => h
theorem o_mod : Op2 T (rI (fun _ j => 0 < j) fun i j => .int (i % j)) oMod := o_int fun _ _ h => h
theorem o_pow : Op2 T (rI CPow fun i j => .int (i ^ j.toNat)) oPow := o_int fun _ _ h => h
abbrev oLt := oInt0 fun i j => .bl (decide (i < j))
abbrev oLe := oInt0 fun i j => .bl (decide (i ≤ j))
abbrev oGt := oInt0 fun i j => .bl (decide (j < i))
abbrev oGe := oInt0 fun i j => .bl (decide (j ≤ i))
theorem o_lt : Op2 T (rI0 fun i j => .bl (decide (i < j))) oLt := o_int0 fun _ _ _ _ => .bl _
theorem o_le : Op2 T (rI0 fun i j => .bl (decide (i ≤ j))) oLe := o_int0 fun _ _ _ _ => .bl _
theorem o_gt : Op2 T (rI0 fun i j => .bl (decide (j < i))) oGt := o_int0 fun _ _ _ _ => .bl _
theorem o_ge : Op2 T (rI0 fun i j => .bl (decide (j ≤ i))) oGe := o_int0 fun _ _ _ _ => .bl _
/-- list * int -/
def oRep (a b : M) (Q : M → Prop) : Prop := match b with
  | .dat (.int j) => ∃ s : List D, a = .lst (s.map .dat) ∧ -(2 ^ 63) ≤ j ∧ j < 2 ^ 63 ∧ s.length * j.toNat ≤ sizeLine ∧ Q (.lst ((List.replicate j.toNat s).flatten.map .dat))
  | _ => False
theorem o_rep : Op2 T rRep oRep := by
  intro φ H x y m1 m2 f1 f2 Q Qm r1 r2 w k
  cases r2 with
  | lst => exact w.elim
  | dct => exact w.elim
  | dat r2 =>
    cases r2 with
    | int j =>
      obtain ⟨s, rfl, h1, h2, hz, w⟩ := w
      cases r1 with
      | @lst a vs ms f h rs =>
        obtain ⟨s1, _⟩ := rs.dats rfl
        refine ⟨a, j, vs, rfl, rfl, h, h1, h2, by rw [s1.len]; exact hz, fun p hp => ?_⟩
        have F : Fresh H (upd H p (.lst (List.replicate j.toNat vs).flatten)) [p] := Fresh.upd hp
        exact k _ _ _ [p] w F (.lst upd_same ((s1.rep j.toNat).ext F.ext (Pre.refl _)).reps)
    | _ => exact w.elim
/-! ### == != of flat things -/
def D.flat : D → Bool
  | .non => true
  | .bl _ => true
  | .int _ => true
  | .str _ => true
  | _ => false
/-- == where it is plain: the same kind, or one of them None, a number or a truth value beside a text -/
def eqF : D → D → Option Bool
  | .non, .non => some true
  | .int a, .int b => some (decide (a = b))
  | .bl a, .bl b => some (decide (a = b))
  | .str a, .str b => some (decide (a = b))
  | .non, .int _ => some false | .int _, .non => some false | .non, .bl _ => some false | .bl _, .non => some false | .non, .str _ => some false | .str _, .non => some false
  | .int _, .str _ => some false | .str _, .int _ => some false | .bl _, .str _ => some false | .str _, .bl _ => some false
  | _, _ => none
theorem eqF_ok {φ : Ob} {H : Hp} {x y : V} {a b : D} {c : Bool} (r1 : FD T φ H x a) (r2 : FD T φ H y b) (e : eqF a b = some c) : scal x y = true ∧ decide (x = y) = c := by
  cases r1 <;> cases r2 <;> first | (cases e; done) | skip
  all_goals
    injection e with e
    subst e
    refine ⟨rfl, ?_⟩
    first
      | rfl
      | (simp; done)
      | exact decide_eq_decide.mpr ⟨fun h => by injection h, fun h => by rw [h]⟩
      | exact decide_eq_decide.mpr ⟨fun h => by injection h with h; exact str_inj.mp h, fun h => by rw [h]⟩
def oEq (a b : M) (Q : M → Prop) : Prop := match a, b with
  | .dat d, .dat e => ∃ c, eqF d e = some c ∧ Q (.dat (.bl c))
  | _, _ => False
def oNe (a b : M) (Q : M → Prop) : Prop := match a, b with
  | .dat d, .dat e => ∃ c, eqF d e = some c ∧ Q (.dat (.bl (!c)))
  | _, _ => False
theorem o_eq : Op2 T rEq oEq := by
  intro φ H x y m1 m2 f1 f2 Q Qm r1 r2 w k
  cases r1 with
  | lst => exact w.elim
  | dct => exact w.elim
  | dat r1 =>
    cases r2 with
    | lst => exact w.elim
    | dct => exact w.elim
    | dat r2 =>
      obtain ⟨c, e, w⟩ := w
      obtain ⟨h1, h2⟩ := eqF_ok r1 r2 e
      exact ⟨h1, by rw [h2]; exact k _ _ H [] w (Fresh.refl H) (.dat (.bl _))⟩
theorem o_ne : Op2 T rNe oNe := by
  intro φ H x y m1 m2 f1 f2 Q Qm r1 r2 w k
  cases r1 with
  | lst => exact w.elim
  | dct => exact w.elim
  | dat r1 =>
    cases r2 with
    | lst => exact w.elim
    | dct => exact w.elim
    | dat r2 =>
      obtain ⟨c, e, w⟩ := w
      obtain ⟨h1, h2⟩ := eqF_ok r1 r2 e
      exact ⟨h1, by rw [h2]; exact k _ _ H [] w (Fresh.refl H) (.dat (.bl _))⟩
/-! ### in -/
def eqvF : D → D → Bool
  | .non, .non => true
  | .bl a, .bl b => a == b
  | .bl a, .int b => (if a then 1 else 0) == b
  | .int a, .bl b => a == (if b then 1 else 0)
  | .int a, .int b => a == b
  | .str a, .str b => decide (a = b)
  | _, _ => false
theorem eqvF_ok {φ : Ob} {H : Hp} {x y : V} {a b : D} (r1 : FD T φ H x a) (r2 : FD T φ H y b) (fa : a.flat = true) (fb : b.flat = true) : flatV x = true ∧ flatV y = true ∧ eqV x y = eqvF a b := by
  cases r1 <;> cases r2 <;> first | (cases fa; done) | (cases fb; done) | skip
  all_goals
    refine ⟨rfl, rfl, ?_⟩
    first
      | rfl
      | (show ((⟨_⟩ : Str) == ⟨_⟩) = _
         rw [Bool.beq_eq_decide_eq]
         exact decide_eq_decide.mpr ⟨fun h => str_inj.mp h, fun h => by rw [h]⟩)
theorem flat_all {φ : Ob} {H : Hp} : ∀ {xs : List V} {ds : List D}, FDs T φ H xs ds → ds.all D.flat = true → xs.all flatV = true ∧ ∀ (x : V) (d : D), FD T φ H x d → d.flat = true → inV x xs = ds.any fun y => eqvF y d
  | _, _, .nil, _ => ⟨rfl, fun _ _ _ _ => rfl⟩
  | _, _, .cons (v := v) (d := d) y r, h => by
    rw [List.all_cons, Bool.and_eq_true] at h
    obtain ⟨i1, i2⟩ := flat_all r h.2
    refine ⟨by rw [List.all_cons, i1, (eqvF_ok y y h.1 h.1).1]; rfl, fun x e rx hx => ?_⟩
    unfold inV
    rw [List.any_cons, List.any_cons, (eqvF_ok y rx h.1 hx).2.2]
    have := i2 x e rx hx
    unfold inV at this
    rw [this]
def oIn (neg : Bool) (a b : M) (Q : M → Prop) : Prop := match a, b with
  | .dat (.str [c]), .dat (.str t) => Q (.dat (.bl (neg ^^ decide (c ∈ t))))
  | .dat d, .dat (.tup ds) => d.flat = true ∧ ds.all D.flat = true ∧ Q (.dat (.bl (neg ^^ ds.any fun y => eqvF y d)))
  | .dat d, .dat (.ktup ds) => d.flat = true ∧ ds.all D.flat = true ∧ Q (.dat (.bl (neg ^^ ds.any fun y => eqvF y d)))
  | .dat d, m => ∃ ds, m.ld = some ds ∧ d.flat = true ∧ ds.all D.flat = true ∧ Q (.dat (.bl (neg ^^ ds.any fun y => eqvF y d)))
  | _, _ => False
def rInA (K : PySem.W.Frag) (neg : Bool) : R2 := fun x y H Q => (∃ (c : Nat) (z : Str), x = .str ⟨#[c]⟩ ∧ y = .str z ∧ Q (.bl (neg ^^ decide (c ∈ z.cps.toList))) H) ∨ rIn K neg x y H Q
theorem op_inA {X : Cx} : OpR X (compareOp .In) (rInA X.K false) := by
  intro pins s σ H x y v u Q I rx ry h
  rcases h with ⟨c, z, e1, e2, q⟩ | h
  · exact op_in_sign pins s σ H x y v u Q I rx ry ⟨c, z, e1, e2, by simpa using q⟩
  · exact op_in_seq pins s σ H x y v u Q I rx ry h
theorem op_notInA {X : Cx} : OpR X (compareOp .NotIn) (rInA X.K true) := by
  intro pins s σ H x y v u Q I rx ry h
  rcases h with ⟨c, z, e1, e2, q⟩ | h
  · exact op_notIn_sign pins s σ H x y v u Q I rx ry ⟨c, z, e1, e2, by simpa using q⟩
  · exact op_notIn_seq pins s σ H x y v u Q I rx ry h
theorem o_in {neg : Bool} : Op2 T (rInA T.K neg) (oIn neg) := by
  intro φ H x y m1 m2 f1 f2 Q Qm r1 r2 w k
  have seq : ∀ (p : Addr) (xs : List V) (d : D) (ds : List D), y = .ref p → (SqL T.K H p xs ∨ SqT T.K H p xs) → FD T φ H x d → FDs T φ H xs ds → d.flat = true → ds.all D.flat = true → Qm (.dat (.bl (neg ^^ ds.any fun y => eqvF y d))) → rInA T.K neg x y H Q := by
    intro p xs d ds e hs rx rs fd fa q
    obtain ⟨h1, h2⟩ := flat_all rs fa
    refine .inr ⟨p, xs, e, hs, (eqvF_ok rx rx fd fd).1, h1, ?_⟩
    rw [h2 x d rx fd]
    have e2 : (if neg = true then !(ds.any fun y => eqvF y d) else ds.any fun y => eqvF y d) = (neg ^^ ds.any fun y => eqvF y d) := by cases neg <;> simp
    rw [e2]
    exact k _ _ H [] q (Fresh.refl H) (.dat (.bl _))
  unfold oIn at w
  split at w
  · cases r1 with
    | dat r1 =>
      cases r1
      cases r2 with
      | dat r2 =>
        cases r2
        exact .inl ⟨_, _, rfl, rfl, k _ _ H [] w (Fresh.refl H) (.dat (.bl _))⟩
  · cases r1 with
    | dat r1 =>
      cases r2 with
      | dat r2 =>
        cases r2 with
        | tup h rs => exact seq _ _ _ _ rfl (.inr (SqT.of h)) r1 rs w.1 w.2.1 w.2.2
  · cases r1 with
    | dat r1 =>
      cases r2 with
      | dat r2 =>
        cases r2 with
        | ktup h rs => exact seq _ _ _ _ rfl (.inr h.sq) r1 rs w.1 w.2.1 w.2.2
  · obtain ⟨ds, e, w⟩ := w
    obtain ⟨a, xs, e1, h, rs⟩ := ld_ok r2 e
    cases r1 with
    | dat r1 => exact seq _ _ _ _ e1 (.inl h) r1 rs w.1 w.2.1 w.2.2
  · exact w.elim
/-! ### x[i] -/
/-- the item at i, a pure one -/
def oIx (a b : M) (Q : M → Prop) : Prop := match b with
  | .dat (.int i) => match a with
    | .dat (.str s) => s.length ≤ sizeLine ∧ ∃ c, atI s i = some c ∧ Q (.dat (.str [c]))
    | .dat (.tup ds) => ∃ d, atI ds i = some d ∧ Q (.dat d)
    | .dat (.ktup ds) => ∃ d, atI ds i = some d ∧ Q (.dat d)
    | .dat (.lst ds) => ∃ d, atI ds i = some d ∧ Q (.dat d)
    | .lst ms => ∃ m, atI ms i = some m ∧ Q m
    | _ => False
  | _ => False
theorem atI_reps {φ : Ob} {H : Hp} {v : List V} {m : List M} {f : List Addr} {i : Int} {x : M} (r : Reps T φ H v m f) (h : atI m i = some x) : ∃ w g, atI v i = some w ∧ Rep T φ H w x g ∧ ∀ a ∈ g, a ∈ f := by
  unfold atI at h ⊢
  rw [← r.len] at h
  cases q : ixN v.length i with
  | none => rw [q] at h; cases h
  | some j =>
    rw [q] at h
    exact r.get h
theorem atI_map {α β : Type} (g : α → β) (xs : List α) (i : Int) : atI (xs.map g) i = (atI xs i).map g := by
  unfold atI
  rw [List.length_map]
  cases ixN xs.length i with
  | none => rfl
  | some j => simp
theorem o_ix : Op2B T (rIx T.K) oIx := by
  intro φ H x y m1 m2 f1 f2 Q Qm r1 r2 w k
  · cases r2 with
    | lst => exact w.elim
    | dct => exact w.elim
    | dat r2 =>
      cases r2 with
      | int i =>
        cases r1 with
        | @lst a vs ms f h rs =>
          obtain ⟨m, e, w⟩ := w
          obtain ⟨u, g, h1, h2, h3⟩ := atI_reps rs e
          exact .inl ⟨a, vs, i, u, rfl, rfl, SqL.of h, h1, k m u g w h2 fun b z => List.mem_cons_of_mem _ (h3 b z)⟩
        | dct => exact w.elim
        | dat r1 =>
          cases r1 with
          | str s =>
            obtain ⟨hz, c, e, w⟩ := w
            exact .inr (.inr ⟨_, i, c, rfl, rfl, by rw [str_len]; exact hz, e, k _ _ [] w (.dat (.str [c])) fun _ z => nomatch z⟩)
          | @tup a xs ds h rs =>
            obtain ⟨d, e, w⟩ := w
            have e' : atI (ds.map M.dat) i = some (.dat d) := by rw [atI_map, e]; rfl
            obtain ⟨u, g, h1, h2, h3⟩ := atI_reps rs.reps e'
            exact .inr (.inl ⟨a, xs, i, u, rfl, rfl, SqT.of h, h1, k _ u g w h2 h3⟩)
          | @ktup a xs ds h rs =>
            obtain ⟨d, e, w⟩ := w
            have e' : atI (ds.map M.dat) i = some (.dat d) := by rw [atI_map, e]; rfl
            obtain ⟨u, g, h1, h2, h3⟩ := atI_reps rs.reps e'
            exact .inr (.inl ⟨a, xs, i, u, rfl, rfl, h.sq, h1, k _ u g w h2 h3⟩)
          | @lst a xs ds h rs =>
            obtain ⟨d, e, w⟩ := w
            have e' : atI (ds.map M.dat) i = some (.dat d) := by rw [atI_map, e]; rfl
            obtain ⟨u, g, h1, h2, h3⟩ := atI_reps rs.reps e'
            exact .inl ⟨a, xs, i, u, rfl, rfl, h.seq, h1, k _ u g w h2 h3⟩
          | _ => exact w.elim
      | _ => exact w.elim
end
end L2.Fn
/-! Fn, part F: own lists changed, frozen names, what is walked, comprehensions. -/
namespace L2.Fn
open PySem PySem.Spec PyProof.Rows

/-! ### a slot is changed in its place -/
section
variable {T : Top} {φ φ' : Ob} {H H' : Hp}
/-- the slot i apart from the others -/
theorem RepE.at' : ∀ {σ : St} {ρ : Ev} {f : List Addr} {i : Nat} {m : M}, RepE T φ H σ ρ f → ρ[i]? = some (some m) → ∃ v g f1 f2, σ[i]? = some (some v) ∧ Rep T φ H v m g ∧ f = f1 ++ (g ++ f2) ∧
    ∀ (φ' : Ob) (H' : Hp) (m' : M) (g' : List Addr), Ext H H' → Pre φ φ' → (∀ a xs, a ∈ f1 ++ f2 → H a = some xs → H' a = some xs) → Rep T φ' H' v m' g' → RepE T φ' H' σ (ρ.set i (some m')) (f1 ++ (g' ++ f2))
  | _, _, _, i, _, .nil, h => by simp at h
  | _, _, _, 0, _, .skip r, h => by simp at h
  | _, _, _, i + 1, _, .skip r, h => by
    obtain ⟨v, g, f1, f2, h1, h2, h3, h4⟩ := RepE.at' (i := i) r (by simpa using h)
    exact ⟨v, g, f1, f2, by simpa using h1, h2, h3, fun φ' H' m' g' e p k x => .skip (h4 φ' H' m' g' e p k x)⟩
  | _, _, _, 0, _, .cons (v := v) (f := f) (g := g) x r, h => by
    simp at h
    subst h
    exact ⟨v, f, [], g, by simp, x, rfl, fun φ' H' m' g' e p k y => by
      have z := RepE.cons y (r.ext e p k)
      exact z⟩
  | _, _, _, i + 1, _, .cons (f := f) (g := g0) x r, h => by
    obtain ⟨v, g, f1, f2, h1, h2, h3, h4⟩ := RepE.at' (i := i) r (by simpa using h)
    refine ⟨v, g, f ++ f1, f2, by simpa using h1, h2, by rw [h3, List.append_assoc], fun φ' H' m' g' e p k y => ?_⟩
    rw [List.append_assoc]
    exact .cons (x.ext e p fun a xs ha => k a xs (List.mem_append_left _ (List.mem_append_left _ ha))) (h4 φ' H' m' g' e p (fun a xs ha => k a xs (by rw [List.append_assoc]; exact List.mem_append_right _ ha)) y)
theorem Reps.app : ∀ {v w : List V} {m n : List M} {f g : List Addr}, Reps T φ H v m f → Reps T φ H w n g → Reps T φ H (v ++ w) (m ++ n) (f ++ g)
  | _, _, _, _, _, _, .nil, s => s
  | _, _, _, _, _, _, .cons x r, s => by rw [List.append_assoc]; exact .cons x (r.app s)
theorem Reps.set {y : V} {n : M} {fm : List Addr} (x : Rep T φ H y n fm) : ∀ {v : List V} {m : List M} {f : List Addr} {i : Nat}, Reps T φ H v m f → (fm ++ f).Nodup → i < m.length →
    ∃ f', Reps T φ H (v.set i y) (m.set i n) f' ∧ (∀ a ∈ f', a ∈ fm ++ f) ∧ f'.Nodup
  | _, _, _, i, .nil, _, h => absurd h (Nat.not_lt_zero _)
  | _, _, _, 0, .cons (f := f) (g := g) y r, nd, _ => by
    have q := List.nodup_append.mp nd
    refine ⟨fm ++ g, .cons x r, fun a z => ?_, List.nodup_append.mpr ⟨q.1, (List.nodup_append.mp q.2.1).2.1, fun a h b h' => q.2.2 a h b (List.mem_append_right _ h')⟩⟩
    rcases List.mem_append.mp z with z | z
    · exact List.mem_append_left _ z
    · exact List.mem_append_right _ (List.mem_append_right _ z)
  | _, _, _, i + 1, .cons (f := f) (g := g) y r, nd, h => by
    have q := List.nodup_append.mp nd
    have q2 := List.nodup_append.mp q.2.1
    obtain ⟨f', h1, h2, h3⟩ := Reps.set x (i := i) r (List.nodup_append.mpr ⟨q.1, q2.2.1, fun a h b h' => q.2.2 a h b (List.mem_append_right _ h')⟩) (by simpa using h)
    refine ⟨f ++ f', .cons y h1, fun a z => ?_, List.nodup_append.mpr ⟨q2.1, h3, fun a h b h' e => ?_⟩⟩
    · rcases List.mem_append.mp z with z | z
      · exact List.mem_append_right _ (List.mem_append_left _ z)
      · rcases List.mem_append.mp (h2 a z) with z | z
        · exact List.mem_append_left _ z
        · exact List.mem_append_right _ (List.mem_append_right _ z)
    · rcases List.mem_append.mp (h2 b h') with z | z
      · exact q.2.2 b z a (List.mem_append_left _ h) e.symm
      · exact q2.2.2 a h b z e
/-- the item i apart from the others -/
theorem Reps.at' : ∀ {v : List V} {ms : List M} {f : List Addr} {i : Nat} {m : M}, Reps T φ H v ms f → ms[i]? = some m → ∃ w g f1 f2, v[i]? = some w ∧ Rep T φ H w m g ∧ f = f1 ++ (g ++ f2) ∧
    ∀ (φ' : Ob) (H' : Hp) (m' : M) (g' : List Addr), Ext H H' → Pre φ φ' → (∀ a xs, a ∈ f1 ++ f2 → H a = some xs → H' a = some xs) → Rep T φ' H' w m' g' → Reps T φ' H' v (ms.set i m') (f1 ++ (g' ++ f2))
  | _, _, _, i, _, .nil, h => by simp at h
  | _, _, _, 0, _, .cons (v := v) (f := f) (g := g) x r, h => by
    simp at h
    subst h
    exact ⟨v, f, [], g, by simp, x, rfl, fun φ' H' m' g' e p k y => by
      have z := Reps.cons y (r.ext e p k)
      exact z⟩
  | _, _, _, i + 1, _, .cons (f := f) (g := g0) x r, h => by
    obtain ⟨v, g, f1, f2, h1, h2, h3, h4⟩ := Reps.at' (i := i) r (by simpa using h)
    refine ⟨v, g, f ++ f1, f2, by simpa using h1, h2, by rw [h3, List.append_assoc], fun φ' H' m' g' e p k y => ?_⟩
    rw [List.append_assoc]
    exact .cons (x.ext e p fun a xs ha => k a xs (List.mem_append_left _ (List.mem_append_left _ ha))) (h4 φ' H' m' g' e p (fun a xs ha => k a xs (by rw [List.append_assoc]; exact List.mem_append_right _ ha)) y)
/-- an own list at a is written -/
theorem upd_extO {a : Addr} {x o : HO} (h : H a = some x) (ow : OwnO x) : Ext H (upd H a o) := by
  refine ⟨fun b ys e => ?_, fun b u w e => ?_, fun b u e => ?_⟩
  · rw [upd_ne fun z => by rw [z, h] at e; cases e; exact False.elim ow]; exact e
  · rw [upd_ne fun z => by rw [z, h] at e; cases e; exact False.elim ow]; exact e
  · rw [upd_ne fun z => by rw [z, h] at e; cases e; exact False.elim ow]; exact e
theorem RepS.wrO {Φ φ : Ob} {S : Sto} {fs : List Addr} {a : Addr} {x o : HO} (R : RepS T H Φ φ S fs) (h : H a = some x) (ow : OwnO x) (n : a ∉ fs ++ φ.ads) : RepS T (upd H a o) Φ φ S fs :=
  R.ext (upd_extO h ow) (Pre.refl _) (fun b ys hb e => by rw [upd_ne fun z => n (by rw [← z]; exact List.mem_append_left _ hb)]; exact e)
    fun b C dx gs hb e => by rw [upd_ne fun z => n (by rw [← z]; exact List.mem_append_right _ hb)]; exact e
/-- a slot's list is changed: g, f1, f2 as RepE.at' tells -/
theorem Good.wrO {v : V} {σ : St} {ρ : Ev} {S : Sto} {fe fs f1 f2 g g' fm : List Addr} {i : Nat} {m' : M} {a : Addr} {x y : HO} (G : Good T φ H σ ρ S fe fs) (e : fe = f1 ++ (g ++ f2)) (ha : a ∈ g) (hH : H a = some x) (ow : OwnO x)
    (w : ∀ (φ' : Ob) (H' : Hp) (m' : M) (g' : List Addr), Ext H H' → Pre φ φ' → (∀ a xs, a ∈ f1 ++ f2 → H a = some xs → H' a = some xs) → Rep T φ' H' v m' g' → RepE T φ' H' σ (ρ.set i (some m')) (f1 ++ (g' ++ f2)))
    (r : Rep T φ (upd H a y) v m' g') (hg : ∀ b ∈ g', b ∈ g ++ fm) (nd : g'.Nodup) (d : ∀ b ∈ fm, b ∉ fe ++ (fs ++ φ.ads)) :
    Good T φ (upd H a y) σ (ρ.set i (some m')) S (f1 ++ (g' ++ f2)) fs ∧ AftS φ (fm ++ fe) fs H φ (f1 ++ (g' ++ f2)) fs (upd H a y) := by
  have nds := List.nodup_append.mp G.nd
  have n1 := List.nodup_append.mp (e ▸ nds.1)
  have n2 := List.nodup_append.mp n1.2.1
  have afe : a ∈ fe := by rw [e]; exact List.mem_append_right _ (List.mem_append_left _ ha)
  have keepE : ∀ b zs, b ∈ f1 ++ f2 → H b = some zs → upd H a y b = some zs := fun b zs hb q => by
    rw [upd_ne fun z => ?_]; exact q
    subst z
    rcases List.mem_append.mp hb with hb | hb
    · exact n1.2.2 b hb b (List.mem_append_left _ ha) rfl
    · exact n2.2.2 b ha b hb rfl
  have sub : ∀ b ∈ f1 ++ (g' ++ f2), b ∈ fm ++ fe := fun b hb => by
    rw [e]
    rcases List.mem_append.mp hb with hb | hb
    · exact List.mem_append_right _ (List.mem_append_left _ hb)
    · rcases List.mem_append.mp hb with hb | hb
      · rcases List.mem_append.mp (hg b hb) with hb | hb
        · exact List.mem_append_right _ (List.mem_append_right _ (List.mem_append_left _ hb))
        · exact List.mem_append_left _ hb
      · exact List.mem_append_right _ (List.mem_append_right _ (List.mem_append_right _ hb))
  refine ⟨⟨w φ _ m' g' (upd_extO hH ow) (Pre.refl _) keepE r, G.sto.wrO hH ow (G.disj a afe), ?_⟩, ⟨Pre.refl _, fun b o n h => ?_, fun b h => ?_⟩⟩
  · refine List.nodup_append.mpr ⟨?_, nds.2.1, fun b hb c hc z => ?_⟩
    · have dg : ∀ b ∈ g', ∀ c, c ∈ f1 ++ f2 → b ≠ c := fun b hb c hc z => by
        subst z
        rcases List.mem_append.mp (hg b hb) with q | q
        · rcases List.mem_append.mp hc with hc | hc
          · exact n1.2.2 b hc b (List.mem_append_left _ q) rfl
          · exact n2.2.2 b q b hc rfl
        · refine d b q (List.mem_append_left _ ?_)
          rw [e]
          rcases List.mem_append.mp hc with hc | hc
          · exact List.mem_append_left _ hc
          · exact List.mem_append_right _ (List.mem_append_right _ hc)
      refine List.nodup_append.mpr ⟨n1.1, List.nodup_append.mpr ⟨nd, n2.2.1, fun b hb c hc => dg b hb c (List.mem_append_right _ hc)⟩, fun b hb c hc z => ?_⟩
      subst z
      rcases List.mem_append.mp hc with hc | hc
      · exact dg b hc b (List.mem_append_left _ hb) rfl
      · exact n1.2.2 b hb b (List.mem_append_right _ hc) rfl
    · subst z
      rcases List.mem_append.mp (sub b hb) with q | q
      · exact d b q (List.mem_append_right _ hc)
      · exact G.disj b q hc
  · rw [upd_ne fun z => n (by rw [z]; exact List.mem_append_left _ (List.mem_append_right _ afe))]; exact h
  · rcases List.mem_append.mp h with h | h
    · exact .inl (List.mem_append_left _ (sub b h))
    · exact .inl (List.mem_append_right _ h)
theorem upd_ext {a : Addr} {xs : List V} {o : HO} (h : H a = some (.lst xs)) : Ext H (upd H a o) := upd_extO h trivial
theorem RepS.wr {Φ φ : Ob} {S : Sto} {fs : List Addr} {a : Addr} {xs : List V} {o : HO} (R : RepS T H Φ φ S fs) (h : H a = some (.lst xs)) (n : a ∉ fs ++ φ.ads) : RepS T (upd H a o) Φ φ S fs := R.wrO h trivial n
theorem Good.wr {v : V} {σ : St} {ρ : Ev} {S : Sto} {fe fs f1 f2 g g' fm : List Addr} {i : Nat} {m' : M} {a : Addr} {xs ys : List V} (G : Good T φ H σ ρ S fe fs) (e : fe = f1 ++ (g ++ f2)) (ha : a ∈ g) (hH : H a = some (.lst xs))
    (w : ∀ (φ' : Ob) (H' : Hp) (m' : M) (g' : List Addr), Ext H H' → Pre φ φ' → (∀ a xs, a ∈ f1 ++ f2 → H a = some xs → H' a = some xs) → Rep T φ' H' v m' g' → RepE T φ' H' σ (ρ.set i (some m')) (f1 ++ (g' ++ f2)))
    (r : Rep T φ (upd H a (.lst ys)) v m' g') (hg : ∀ b ∈ g', b ∈ g ++ fm) (nd : g'.Nodup) (d : ∀ b ∈ fm, b ∉ fe ++ (fs ++ φ.ads)) :
    Good T φ (upd H a (.lst ys)) σ (ρ.set i (some m')) S (f1 ++ (g' ++ f2)) fs ∧ AftS φ (fm ++ fe) fs H φ (f1 ++ (g' ++ f2)) fs (upd H a (.lst ys)) := Good.wrO G e ha hH trivial w r hg nd d
end
theorem σ_set_same {σ : St} {i : Nat} {v : V} (h : σ[i]? = some (some v)) : σ.set i (some v) = σ := by
  apply List.ext_getElem?
  intro j
  by_cases e : i = j
  · subst e
    rw [h, List.getElem?_set_self (List.getElem?_eq_some_iff.mp h).1]
  · rw [List.getElem?_set_ne e]

section
variable {X : Cx} {T : Top} {W : WX} {e a b ej : Expr} {t ta tb tj : FE} {pos : Pos} {es : List Expr} {st : Stmt} {rest body : List Stmt} {u w : FS}
/-! ### x.append(e) -/
def fApp (i : Nat) (t : FE) : FS := fun P ρ S => ∃ ms, ρ[i]? = some (some (.lst ms)) ∧ ms.length < sizeLine ∧ t ρ S (fun m S' => P.nx (ρ.set i (some (.lst (ms ++ [m])))) S') fun x S' => P.ex x ρ S'
theorem lApp {D : Ends} {σ : St} {H : Hp} {i : Nat} (hK : X.K = T.K) (h : LS T W (fApp i t) D σ H) : tDrop (tBM X.K "list" rAppend (tVar i) (tCons (LE T W t) tNil)) D σ H := by
  obtain ⟨ρ, S, φ, fe, fs, P, G, ⟨ms, hm, hz, w⟩, k⟩ := h
  obtain ⟨v, g, f1, f2, hv, r, e, wr⟩ := G.env.at' hm
  cases r with
  | @lst a vs ms f hH rs =>
    refine ⟨.ref a, hv, .inl ⟨rfl, vs, SqL.of hH⟩, ρ, S, φ, fe, fs, _, _, G, w, k.wx G, fun m S1 y H1 φ1 fs1 fm q A r1 R1 => ?_⟩
    have G1 := A.good G R1
    have afe : ∀ b ∈ a :: f, b ∈ fe := fun b hb => by rw [e]; exact List.mem_append_right _ (List.mem_append_left _ hb)
    have hH1 : H1 a = some (.lst vs) := A.keep a _ (G.disj a (afe a List.mem_cons_self)) hH
    obtain ⟨v', g', f1', f2', hv', r', e', wr'⟩ := G1.env.at' hm
    rw [hv] at hv'
    cases hv'
    cases r' with
    | @lst a' vs' ms' f' hH' rs' =>
      rw [hH1] at hH'
      cases hH'
      have ap := A.apart G.disj (fun b hb => by obtain ⟨zs, q, _⟩ := G.env.own b hb; rw [q]; exact fun z => nomatch z)
      have dj : ∀ b ∈ fm, b ∉ fe ++ (fs1 ++ φ1.ads) := fun b hb hc => by
        rcases List.mem_append.mp hc with hc | hc
        · exact ap b hc (List.mem_append_left _ hb)
        · exact A.disj b hb hc
      have nde := (List.nodup_append.mp G1.nd).1
      have n1 := List.nodup_append.mp (e' ▸ nde)
      have n2 := (List.nodup_append.mp n1.2.1).1
      have afe' : ∀ b ∈ a :: f', b ∈ fe := fun b hb => by rw [e']; exact List.mem_append_right _ (List.mem_append_left _ hb)
      have nda := List.nodup_cons.mp n2
      have ex : Ext H1 (upd H1 a (.lst (vs ++ [y]))) := upd_ext hH1
      have kp : ∀ b zs, b ∈ f' ++ fm → H1 b = some zs → upd H1 a (.lst (vs ++ [y])) b = some zs := fun b zs hb q => by
        rw [upd_ne fun z => ?_]; exact q
        subst z
        rcases List.mem_append.mp hb with hb | hb
        · exact nda.1 hb
        · exact dj b hb (List.mem_append_left _ (afe' b List.mem_cons_self))
      have rr : Rep T φ1 (upd H1 a (.lst (vs ++ [y]))) (.ref a) (.lst (ms ++ [m])) (a :: (f' ++ (fm ++ []))) :=
        .lst upd_same (Reps.app (rs'.ext ex (Pre.refl _) fun b zs hb => kp b zs (List.mem_append_left _ hb)) (.cons (r1.ext ex (Pre.refl _) fun b zs hb => kp b zs (List.mem_append_right _ hb)) .nil))
      rw [List.append_nil] at rr
      have n3 : a ∉ f' ++ fm := fun z => by
        rcases List.mem_append.mp z with z | z
        · exact nda.1 z
        · exact dj a z (List.mem_append_left _ (afe' a List.mem_cons_self))
      have n4 : (f' ++ fm).Nodup := List.nodup_append.mpr ⟨nda.2, (List.nodup_append.mp A.nd).1, fun b hb c hc z => by
        subst z
        exact dj b hc (List.mem_append_left _ (afe' b (List.mem_cons_of_mem _ hb)))⟩
      obtain ⟨G2, A2⟩ := Good.wr (fm := fm) G1 e' List.mem_cons_self hH1 wr' rr (fun b hb => by simpa using hb) (List.nodup_cons.mpr ⟨n3, n4⟩) dj
      refine ⟨a, vs, y, rfl, rfl, hH1, by rw [rs'.len]; exact hz, ?_⟩
      exact k.nx _ S1 σ _ φ1 _ fs1 q (A.s.trans A2) G2
theorem fs_append {i : Nat} {ex : Expr} {apos cpos : Pos} (hK : X.K = T.K) (hx : PE X ex (tVar i)) (he : PE X e (LE T W t))
    (hbase : attributeBase ex "append" X.env (eval ex X.env) = eval ex X.env := by rfl)
    (hpl : (((backTo cpos (starEach [e] X.env)).all fun x => !x.1) && (backToKw cpos (keywordEach [] X.env)).all (fun x => x.1.isSome) && decide ([e].length + ([] : List Keyword).length + (if ([] : List Keyword).isEmpty then 0 else 1) < 30)) = true := by rfl)
    (hline : (apos.endLine == cpos.line) = true := by rfl) (h1 : starEach [e] X.env = (false, eval e X.env) :: starEach [] X.env := by rfl) (h2 : (backTo cpos (starEach [] X.env)).any (·.1) = false := by rfl)
    (hs : swapsWith (.Call (.Attribute ex "append" apos) [e] [] cpos) none pos.line X.env = pure false := by rfl) :
    PS X (.Expr (.Call (.Attribute ex "append" apos) [e] [] cpos) pos) (LS T W (fApp i t)) :=
  PS.weak (ps_expr (pe_bm PySem.F.plainAttrs_list PySem.F.slot_list_append PySem.F.type_list_append mt_append hx (pa_cons he pa_nil h1) hbase hpl hline h1 h2) hs) fun D σ H h => lApp hK h

/-! ### names frozen -/
def fFz (i : Nat) (w : FS) : FS := fun P ρ S => ∃ m, ρ[i]? = some (some m) ∧ w P (ρ.set i (some (.dat m.toD))) S
theorem fs_fz {i : Nat} (h : PSs X rest (LS T W w)) : PSs X rest (LS T W (fFz i w)) := by
  refine ⟨fun pins s σ H D I ⟨ρ, S, φ, fe, fs, P, G, ⟨m, hm, q⟩, k⟩ => ?_⟩
  obtain ⟨v, g, f1, f2, hv, r, e, wr⟩ := G.env.at' hm
  have nds := List.nodup_append.mp G.nd
  have n1 := List.nodup_append.mp (e ▸ nds.1)
  have n2 := List.nodup_append.mp n1.2.1
  obtain ⟨H2, I2, lk, rd⟩ := frz_m I r n2.1
  have gfe : ∀ b ∈ g, b ∈ fe := fun b hb => by rw [e]; exact List.mem_append_right _ (List.mem_append_left _ hb)
  have E2 : RepE T φ H2 σ (ρ.set i (some (.dat m.toD))) (f1 ++ ([] ++ f2)) := wr φ H2 _ [] lk.ext (Pre.refl _) (fun b zs hb q => (lk.keep b fun z => by
    rcases List.mem_append.mp hb with hb | hb
    · exact n1.2.2 b hb b (List.mem_append_left _ z) rfl
    · exact n2.2.2 b z b hb rfl).trans q) (.dat rd)
  have sub : ∀ b ∈ f1 ++ ([] ++ f2), b ∈ fe := fun b hb => by
    rw [e]
    rcases List.mem_append.mp hb with hb | hb
    · exact List.mem_append_left _ hb
    · exact List.mem_append_right _ (List.mem_append_right _ hb)
  have G2 : Good T φ H2 σ (ρ.set i (some (.dat m.toD))) S (f1 ++ ([] ++ f2)) fs := by
    refine ⟨E2, lk.sto G.sto fun b hb => G.disj b (gfe b hb), List.nodup_append.mpr ⟨List.nodup_append.mpr ⟨n1.1, n2.2.1, fun b hb c hc => n1.2.2 b hb c (List.mem_append_right _ hc)⟩, nds.2.1, fun b hb c hc => nds.2.2 b (sub b hb) c hc⟩⟩
  have A2 : AftS φ fe fs H φ (f1 ++ ([] ++ f2)) fs H2 := ⟨Pre.refl _, fun b o n h => (lk.keep b fun z => n (List.mem_append_left _ (gfe b z))).trans h, fun b h => (List.mem_append.mp h).elim (fun h => .inl (List.mem_append_left _ (sub b h))) fun h => .inl (List.mem_append_right _ h)⟩
  exact h.run pins s σ H2 D I2 ⟨_, S, φ, _, fs, P, G2, q, k.aft A2⟩

/-! ### what is walked -/
def iAny (K : PySem.W.Frag) (te : TE) : TI := fun σ H R => te σ H fun v H1 => (∃ a, v = .ref a ∧ (∃ xs, SqL K H1 a xs) ∧ R (Itl K a) H1) ∨ (∃ a, v = .ref a ∧ (∃ xs, SqT K H1 a xs) ∧ R (Itt K a) H1) ∨ ∃ x, v = .str x ∧ R (Its x) H1
theorem pi_any {tg : Expr} {te : TE} (he : PE X e te) : PI X tg e (iAny X.K te) := by
  refine ⟨fun pins s σ H R I h => ?_⟩
  refine thn (he.run pins s σ H _ I h) fun v s1 ⟨y, H1, I1, r1, q1⟩ => ?_
  rcases q1 with ⟨a, e, ⟨xs, hq⟩, q⟩ | ⟨a, e, ⟨xs, hq⟩, q⟩ | ⟨x, ex, q⟩
  · subst e
    cases r1
    obtain ⟨its, rv, p, hz⟩ := I1.list hq
    refine wpAny_pyIter_list p.isList ?_
    refine ⟨s1.heap.objs.size, [s1.heap.objs.size], _, _, H1, rfl, I1.kept (t' := s1.toks) fun b o e => Heap.get?_push_of_some _ e, turn_list a _, ⟨_, Heap.get?_push_size _ rfl, rfl, rfl⟩, fun b hb => ?_, q⟩
    have e : b = s1.heap.objs.size := by simpa using hb
    subst e
    exact I1.fpOk (Nat.le_refl _) (I1.hok.fresh (Nat.le_refl _))
  · subst e
    cases r1
    obtain ⟨its, rv, p, hz⟩ := I1.tuple hq
    refine wpAny_pyIter_tuple (show s1.heap.IsTuple a its.toArray from p) ?_
    refine ⟨s1.heap.objs.size, [s1.heap.objs.size], _, _, H1, rfl, I1.kept (t' := s1.toks) fun b o e => Heap.get?_push_of_some _ e, turn_tuple a _, ⟨_, Heap.get?_push_size _ rfl, rfl, rfl⟩, fun b hb => ?_, q⟩
    have e : b = s1.heap.objs.size := by simpa using hb
    subst e
    exact I1.fpOk (Nat.le_refl _) (I1.hok.fresh (Nat.le_refl _))
  · subst ex
    obtain ⟨t, rfl⟩ := r1
    cases ha : x.cps.all (· < 128)
    · exact wpAny_pyIter_wide ha (pi_one (tk := s1.toks) I1 _ (turn_str _ x t "str_iterator" (.inr rfl)) ⟨_, Heap.get?_push_size _ rfl, rfl, rfl⟩ q)
    · exact wpAny_pyIter_ascii ha (pi_one (tk := s1.toks) I1 _ (turn_str _ x t "str_ascii_iterator" (.inl rfl)) ⟨_, Heap.get?_push_size _ rfl, rfl, rfl⟩ q)
/-- the items that a for walks: those of a pure list or tuple, the signs of a text -/
def oWalk (m : M) (Q : List D → Prop) : Prop := match m with
  | .dat (.lst ds) => Q ds
  | .dat (.ktup ds) => Q ds
  | .dat (.tup ds) => Q ds
  | .dat (.str s) => Q (s.map fun c => .str [c])
  | _ => False
def fWalk (t : FE) : FI := fun ρ S Q E => t ρ S (fun m S' => oWalk m fun ds => Q ds S') E
theorem walks_list {φ : Ob} {H : Hp} {a : Addr} {xs : List V} {ds : List D} (h : FzL T H a xs) (rs : FDs T φ H xs ds) : Walks T φ (Itl T.K a) H ds := by
  intro i H2 φ2 ex p
  have h2 : SqL T.K H2 a xs := (ex.fzl h).seq
  refine ⟨fun d hd => ?_, fun hi => ⟨xs, h2, by rw [rs.len]; exact hi⟩⟩
  obtain ⟨x, hx, rx⟩ := rs.get hd
  refine ⟨⟨xs, x, h2, hx⟩, fun y H3 ⟨e, hy⟩ => ?_⟩
  subst e
  have := hy xs h2
  rw [hx] at this
  cases this
  exact ⟨Fresh.refl _, rx.ext ex p⟩
theorem walks_tup {φ : Ob} {H : Hp} {a : Addr} {xs : List V} {ds : List D} (h : SqT T.K H a xs) (rs : FDs T φ H xs ds) : Walks T φ (Itt T.K a) H ds := by
  intro i H2 φ2 ex p
  have h2 : SqT T.K H2 a xs := ex.seqT h
  refine ⟨fun d hd => ?_, fun hi => ⟨xs, h2, by rw [rs.len]; exact hi⟩⟩
  obtain ⟨x, hx, rx⟩ := rs.get hd
  refine ⟨⟨xs, x, h2, hx⟩, fun y H3 ⟨e, hy⟩ => ?_⟩
  subst e
  have := hy xs h2
  rw [hx] at this
  cases this
  exact ⟨Fresh.refl _, rx.ext ex p⟩
theorem walks_str {φ : Ob} {H : Hp} (s : List Nat) : Walks T φ (Its ⟨s.toArray⟩) H (s.map fun c => .str [c]) := by
  intro i H2 φ2 ex p
  refine ⟨fun d hd => ?_, fun hi => by simpa [Its] using hi⟩
  rw [List.getElem?_map] at hd
  cases q : s[i]? with
  | none => rw [q] at hd; cases hd
  | some c =>
    rw [q] at hd
    cases hd
    refine ⟨?_, fun y H3 ⟨e, c', hc, hy⟩ => ?_⟩
    · show i < s.toArray.size
      simpa using (List.getElem?_eq_some_iff.mp q).1
    · subst e
      have e2 : c = c' := by
        have : s[i]? = some c' := by simpa using hc
        rw [q] at this
        exact Option.some.inj this
      subst e2
      subst hy
      exact ⟨Fresh.refl _, .str [c]⟩
theorem fi_any {tg : Expr} (hK : X.K = T.K) (he : PE X e (LB T W t)) : PI X tg e (LI T W (fWalk t)) := PI.weak (pi_any he) fun σ H R ⟨ρ, S, φ, fe, fs, E, Qm, G, w, hx, k⟩ => by
  refine ⟨ρ, S, φ, fe, fs, E, _, G, w, hx, fun m S' v H' φ' fs' fm q A r d R' => ?_⟩
  rw [hK]
  cases r with
  | lst => exact q.elim
  | dct => exact q.elim
  | dat r =>
    cases r with
    | str s => exact .inr (.inr ⟨_, rfl, k _ S' _ H' φ' fs' q A R' (walks_str s)⟩)
    | @tup a xs ds h rs => exact .inr (.inl ⟨a, rfl, ⟨xs, SqT.of h⟩, k _ S' _ H' φ' fs' q A R' (walks_tup (SqT.of h) rs)⟩)
    | @ktup a xs ds h rs => exact .inr (.inl ⟨a, rfl, ⟨xs, h.sq⟩, k _ S' _ H' φ' fs' q A R' (walks_tup h.sq rs)⟩)
    | @lst a xs ds h rs => exact .inl ⟨a, rfl, ⟨xs, h.seq⟩, k _ S' _ H' φ' fs' q A R' (walks_list h rs)⟩
    | _ => exact q.elim
/-- lo, lo + 1, .. (n of them) -/
def rng (lo : Int) (n : Nat) : List D := (List.range n).map fun k => .int (lo + (k : Nat))
theorem walks_rng {φ : Ob} {H : Hp} (lo : Int) (n : Nat) : Walks T φ (Itr lo n) H (rng lo n) := by
  intro i H2 φ2 ex p
  refine ⟨fun d hd => ?_, fun hi => by simpa [rng, Itr] using hi⟩
  unfold rng at hd
  rw [List.getElem?_map] at hd
  by_cases hi : i < n
  · rw [List.getElem?_range hi] at hd
    cases hd
    refine ⟨hi, fun y H3 ⟨e, hy⟩ => ?_⟩
    subst e
    subst hy
    exact ⟨Fresh.refl _, .int _⟩
  · rw [List.getElem?_eq_none (by simpa using hi)] at hd
    cases hd
def oR1 (ms : List M) (Q : List D → Prop) : Prop := match ms with
  | [.dat (.int j)] => -(2 ^ 62) ≤ j ∧ j < 2 ^ 62 ∧ Q (rng 0 j.toNat)
  | _ => False
def oR2 (ms : List M) (Q : List D → Prop) : Prop := match ms with
  | [.dat (.int i), .dat (.int j)] => (-(2 ^ 62) ≤ i ∧ i < 2 ^ 62 ∧ -(2 ^ 62) ≤ j ∧ j < 2 ^ 62) ∧ Q (rng i (j - i).toNat)
  | _ => False
def fRng (o : List M → (List D → Prop) → Prop) (t : FA) : FI := fun ρ S Q E => t ρ S (fun ms S' => o ms fun ds => Q ds S') E
theorem fi_rng1 {tg : Expr} {ta : FA} {p : Pos} (hg : Gl X "range") (hm : X.mg "range" = none) (ha : PA X [a] (LAB T W ta)) (hs : starEach [a] X.env = [(false, eval a X.env)] := by rfl) : PI X tg (.Call (.Name "range" p) [a] [] pos) (LI T W (fRng oR1 ta)) :=
  PI.weak (pi_range1 hg hm ha hs) fun σ H R ⟨ρ, S, φ, fe, fs, E, Qm, G, w, hx, k⟩ => by
    refine ⟨ρ, S, φ, fe, fs, E, _, G, w, hx, fun ms S' vs H' φ' fs' fm q A r d R' => ?_⟩
    unfold oR1 at q
    split at q
    · cases r with
      | cons x r =>
        cases r
        cases x with
        | dat x =>
          cases x with
          | int => exact ⟨_, rfl, q.1, q.2.1, k _ S' _ H' φ' fs' q.2.2 A R' (walks_rng _ _)⟩
    · exact q.elim
theorem fi_rng2 {tg : Expr} {ta : FA} {p : Pos} (hg : Gl X "range") (hm : X.mg "range" = none) (ha : PA X [a, b] (LAB T W ta)) (hs : starEach [a, b] X.env = [(false, eval a X.env), (false, eval b X.env)] := by rfl) (hs2 : starEach [b] X.env = [(false, eval b X.env)] := by rfl) :
    PI X tg (.Call (.Name "range" p) [a, b] [] pos) (LI T W (fRng oR2 ta)) :=
  PI.weak (pi_range2 hg hm ha hs hs2) fun σ H R ⟨ρ, S, φ, fe, fs, E, Qm, G, w, hx, k⟩ => by
    refine ⟨ρ, S, φ, fe, fs, E, _, G, w, hx, fun ms S' vs H' φ' fs' fm q A r d R' => ?_⟩
    unfold oR2 at q
    split at q
    · cases r with
      | cons x r =>
        cases r with
        | cons y r =>
          cases r
          cases x with
          | dat x =>
            cases x with
            | int =>
              cases y with
              | dat y =>
                cases y with
                | int => exact ⟨_, _, rfl, q.1, k _ S' _ H' φ' fs' q.2 A R' (walks_rng _ _)⟩
    · exact q.elim

/-! ### [e for x in xs if c] -/
def wipeE (ρ : Ev) : List Nat → Ev
  | [] => ρ
  | v :: vs => (wipeE ρ vs).set v none
theorem RepE.unset {φ : Ob} {H : Hp} : ∀ {σ : St} {ρ : Ev} {f : List Addr} (i : Nat), RepE T φ H σ ρ f → ∃ f', RepE T φ H (σ.set i none) (ρ.set i none) f' ∧ f'.Sublist f
  | _, _, _, i, .nil => ⟨[], .nil, List.Sublist.refl _⟩
  | _, _, _, 0, .skip r => ⟨_, .skip r, List.Sublist.refl _⟩
  | _, _, _, i + 1, .skip r => by
    obtain ⟨f', h1, h2⟩ := RepE.unset i r
    exact ⟨f', .skip h1, h2⟩
  | _, _, _, 0, .cons (f := f) (g := g) y r => ⟨g, .skip r, List.sublist_append_right _ _⟩
  | _, _, _, i + 1, .cons (f := f) (g := g) y r => by
    obtain ⟨f', h1, h2⟩ := RepE.unset i r
    exact ⟨f ++ f', .cons y h1, List.Sublist.append_left h2 f⟩
theorem RepE.wiped {φ : Ob} {H : Hp} {σ : St} {ρ : Ev} {f : List Addr} (r : RepE T φ H σ ρ f) : ∀ vs : List Nat, ∃ f', RepE T φ H (wipe σ vs) (wipeE ρ vs) f' ∧ f'.Sublist f
  | [] => ⟨f, r, List.Sublist.refl _⟩
  | v :: vs => by
    obtain ⟨f1, h1, h2⟩ := r.wiped vs
    obtain ⟨f2, h3, h4⟩ := h1.unset v
    exact ⟨f2, h3, h4.trans h2⟩
theorem wipe_wipe (σ : St) : ∀ vs us : List Nat, (∀ v ∈ vs, v ∈ us) → wipe (wipe σ vs) us = wipe σ us
  | [], us, _ => rfl
  | v :: vs, us, h => by
    show wipe ((wipe σ vs).set v none) us = _
    rw [wipe_set (h v List.mem_cons_self), wipe_wipe σ vs us fun w hw => h w (List.mem_cons_of_mem _ hw)]
abbrev noX : XP := fun _ _ => False
def compW (g : FG) (c : FT) (t : FE) (vs : List Nat) (ρ : Ev) (Q : WP) : List D → List M → Sto → Prop
  | [], acc, S => Q (.lst acc) S
  | d :: ds, acc, S => g (.dat d) (wipeE ρ vs) fun ρ1 => c ρ1 S (fun b S2 => if b = true then t ρ1 S2 (fun m S3 => acc.length < sizeLine ∧ compW g c t vs ρ Q ds (acc ++ [m]) S3) noX else compW g c t vs ρ Q ds acc S2) noX
def fComp (ti : FI) (g : FG) (c : FT) (t : FE) (vs : List Nat) : FE := fun ρ S Q E => ti ρ S (fun ds S' => compW g c t vs ρ Q ds [] S') E
abbrev W0 : WX := fun _ _ _ _ => False
theorem lComp {ti : FI} {g : FG} {c : FT} {vs : List Nat} {σ : St} {H : Hp} {Q : VK} (h : LE T W (fComp ti g c t vs) σ H Q) : tLc (LI T W ti) (LG T vs g) (LT T W0 c) (LE T W0 t) vs σ H Q := by
  obtain ⟨ρ, S, φ, fe, fs, E, Qm, G, w, hx, k⟩ := h
  refine ⟨ρ, S, φ, fe, fs, E, _, G, w, hx, fun ds S0 J H0 φ0 fs0 q0 A0 R0 wk D hD => ?_⟩
  have F0 : Fresh H0 (upd H0 D (.lst [])) [D] := Fresh.upd hD
  have B0 := F0.aft R0 A0.ndS
  refine ⟨fun i m H1 => i + m = ds.length ∧ ∃ (acc : List M) (vs' : List V) (fa : List Addr) (S1 : Sto) (φ1 : Ob) (fs1 : List Addr), compW g c t vs ρ Qm (ds.drop i) acc S1 ∧ Aft φ fs H φ1 fs1 (D :: fa) H1 ∧ Ext H0 H1 ∧ Pre φ0 φ1 ∧ H1 D = some (.lst vs') ∧ Reps T φ1 H1 vs' acc fa ∧ RepS T H1 φ1 φ1 S1 fs1,
    ⟨ds.length, by omega, [], [], [], S0, φ0, fs0, q0, A0.trans B0, F0.ext, Pre.refl _, upd_same, .nil, F0.sto R0⟩, ?_⟩
  intro i m H1 ⟨him, acc, vs', fa, S1, φ1, fs1, h1, A1, ex1, pr1, hD1, ra, R1⟩
  have wk1 := wk i H1 φ1 ex1 pr1
  by_cases hi : ds.length ≤ i
  · rw [List.drop_of_length_le hi] at h1
    exact .inl ⟨wk1.2 hi, k _ S1 _ H1 φ1 fs1 (D :: fa) h1 A1 (.lst hD1 ra) R1⟩
  · have hlt : i < ds.length := by omega
    rw [List.drop_eq_getElem_cons hlt] at h1
    obtain ⟨go, yl⟩ := wk1.1 ds[i] (List.getElem?_eq_getElem hlt)
    refine .inr ⟨go, fun H' => ∃ m', m' < m ∧ (i + 1) + m' = ds.length ∧ ∃ (acc : List M) (vs' : List V) (fa : List Addr) (S1 : Sto) (φ1 : Ob) (fs1 : List Addr), compW g c t vs ρ Qm (ds.drop (i + 1)) acc S1 ∧ Aft φ fs H φ1 fs1 (D :: fa) H' ∧ Ext H0 H' ∧ Pre φ0 φ1 ∧ H' D = some (.lst vs') ∧ Reps T φ1 H' vs' acc fa ∧ RepS T H' φ1 φ1 S1 fs1, fun H' z => z, fun x H2 hy => ?_⟩
    obtain ⟨F2, rd⟩ := yl x H2 hy
    have A2 := F2.aft R1 A1.ndS
    have R2 := F2.sto R1
    -- the frame in the block
    have G1 := A1.good G R1
    have G2 := A2.good G1 R2
    obtain ⟨fw, gw, sl⟩ := G2.env.wiped vs
    have Gw : Good T φ1 H2 (wipe σ vs) (wipeE ρ vs) S1 fw fs1 := ⟨gw, R2, List.nodup_append.mpr ⟨(List.nodup_append.mp G2.nd).1.sublist sl, G2.ndS, fun a h b h' => (List.nodup_append.mp G2.nd).2.2 a (sl.subset h) b h'⟩⟩
    have ob : ∀ a ∈ D :: fa, H1 a ≠ none := fun a ha => by
      rcases List.mem_cons.mp ha with z | z
      · rw [z, hD1]; exact fun z => nomatch z
      · exact ra.own' a z
    have A12 : Aft φ fs H φ1 fs1 ((D :: fa) ++ []) H2 := A1.both A2 ob
    rw [List.append_nil] at A12
    have hD2 : H2 D = some (.lst vs') := F2.keep _ _ hD1
    have ra2 : Reps T φ1 H2 vs' acc fa := ra.ext F2.ext (Pre.refl _) fun a _ _ h => F2.keep a _ h
    refine ⟨.dat ds[i], wipeE ρ vs, S1, φ1, [], fw, fs1, _, .dat rd, Gw, (List.nodup_append.mp Gw.nd).1, fun _ z => (nomatch z), h1, fun ρ3 σ3 fe3 q3 sub3 G3 hw => ⟨hw.trans (wipe_wipe σ vs vs fun _ z => z), ?_⟩⟩
    -- D and its items stand through the turn
    have ob2 : ∀ a ∈ D :: fa, H2 a ≠ none := fun a ha => by
      rcases List.mem_cons.mp ha with z | z
      · rw [z, hD2]; exact fun z => nomatch z
      · exact ra2.own' a z
    have stay : ∀ {H4 : Hp} {φ4 : Ob} {fs4 fm4 : List Addr}, Aft φ1 fs1 H2 φ4 fs4 fm4 H4 → H4 D = some (.lst vs') ∧ Reps T φ4 H4 vs' acc fa ∧ Aft φ fs H φ4 fs4 ((D :: fa) ++ fm4) H4 ∧ Ext H0 H4 ∧ Pre φ0 φ4 := fun {H4 φ4 fs4 fm4} B =>
      ⟨B.keep D _ (A12.disj D List.mem_cons_self) hD2, B.reps R2 ra2 (fun a ha => A12.disj a (List.mem_cons_of_mem _ ha)), A12.both B ob2, (ex1.trans F2.ext).trans (B.ext R2), pr1.trans B.pre⟩
    refine ⟨ρ3, S1, φ1, fe3, fs1, noX, _, G3, q3, fun _ _ _ _ _ _ _ z => z.elim, fun b S4 H4 φ4 fs4 q4 A4 R4 => ?_⟩
    have G4 := A4.good G3 R4
    cases b with
    | false =>
      obtain ⟨s1, s2, s3, s4, s5⟩ := stay A4
      rw [List.append_nil] at s3
      exact ⟨m - 1, by omega, by omega, acc, vs', fa, S4, φ4, fs4, q4, s3, s4, s5, s1, s2, R4⟩
    | true =>
      refine ⟨ρ3, S4, φ4, fe3, fs4, noX, _, G4, q4, fun _ _ _ _ _ _ _ z => z.elim, fun m5 S5 y H5 φ5 fs5 fm5 q5 A5 r5 R5 => ?_⟩
      obtain ⟨s1, s2, s3, s4, s5⟩ := stay (A4.trans A5)
      have nD : ∀ b ∈ fa ++ fm5, b ≠ D := fun b hb z => by
        have nd := (List.nodup_append.mp s3.nd).1
        exact (List.nodup_cons.mp nd).1 (z ▸ hb)
      have nM : D ∉ fs5 ++ φ5.ads := s3.disj D List.mem_cons_self
      have kp : ∀ b zs, b ∈ fa ++ fm5 → H5 b = some zs → upd H5 D (.lst (vs' ++ [y])) b = some zs := fun b zs hb h => by rw [upd_ne (nD b hb)]; exact h
      have A6 : Aft φ fs H φ5 fs5 (D :: (fa ++ fm5)) (upd H5 D (.lst (vs' ++ [y]))) := by
        refine ⟨s3.pre, fun a o n h => ?_, s3.new, s3.nd⟩
        rw [upd_ne fun z => ?_]; exact s3.keep a o n h
        subst z
        rcases s3.new a List.mem_cons_self with q | q
        · exact n q
        · rw [q] at h; cases h
      have rr : Reps T φ5 (upd H5 D (.lst (vs' ++ [y]))) (vs' ++ [y]) (acc ++ [m5]) (fa ++ (fm5 ++ [])) :=
        Reps.app (s2.ext (upd_ext s1) (Pre.refl _) fun b zs hb => kp b zs (List.mem_append_left _ hb)) (.cons (r5.ext (upd_ext s1) (Pre.refl _) fun b zs hb => kp b zs (List.mem_append_right _ hb)) .nil)
      rw [List.append_nil] at rr
      exact ⟨vs', s1, by rw [s2.len]; exact q5.1, m - 1, by omega, by omega, acc ++ [m5], vs' ++ [y], fa ++ fm5, S5, φ5, fs5, q5.2, A6, s4.trans (upd_ext s1), s5, upd_same, rr, R5.wr s1 nM⟩
/-- a comprehension's tests -/
def fYes : FT := fun _ S Q _ => Q true S
theorem PTs.weak {X : Cx} {ifs : List Expr} {t t' : TT} (h : PTs X ifs t) (k : ∀ σ H Q, t' σ H Q → t σ H Q) : PTs X ifs t' := ⟨fun pins s σ H Q I w => h.run pins s σ H Q I (k _ _ _ w)⟩
theorem fts_nil : PTs X [] (LT T W fYes) := PTs.weak pts_nil fun σ H Q ⟨ρ, S, φ, fe, fs, E, Qm, G, w, hx, k⟩ => k true S H φ fs w (Aft.refl G.ndS) G.sto
theorem fts_one {c : Expr} {tc : FT} (h : PT X c (LT T W tc)) : PTs X [c] (LT T W tc) := pts_one h
theorem fe_lc {elt tg iter : Expr} {ifs : List Expr} {scope : Scope} {own : List (Str × Nat)} {ti : FI} {g : FG} {c : FT} (hc : X.calm = true) (hN : X.N.Nodup) (hi : PI X tg iter (LI T W ti)) (ok : BlkOk X.N X.env.scope scope own)
    (hg : ∀ (s : Shared) (H : Hp) (C : Addr) (cl : List (Str × Addr)) (fp : List Addr), PG (X.blk s H scope (compEnvC scope cl C X.env) fp) tg (LG T (own.map (·.2)) g)) (ht : ∀ (s : Shared) (H : Hp) (C : Addr) (cl : List (Str × Addr)) (fp : List Addr), PTs (X.blk s H scope (compEnvC scope cl C X.env) fp) ifs (LT T W0 c))
    (he : ∀ (s : Shared) (H : Hp) (C : Addr) (cl : List (Str × Addr)) (fp : List Addr), PE (X.blk s H scope (compEnvC scope cl C X.env) fp) elt (LE T W0 t)) (hs : ∀ x, foldedSetIterable iter X.env x = pure x := by intro _; rfl) :
    PE X (.ListComp elt [⟨tg, iter, ifs, 0⟩] scope pos) (LE T W (fComp ti g c t (own.map (·.2)))) := PE.weak (pe_lc hc hN hi ok hg ht he hs) fun σ H Q h => lComp h
theorem fs_setLc {i : Nat} {y : Str} {py spos : Pos} {elt tg iter : Expr} {ifs : List Expr} {scope : Scope} {own : List (Str × Nat)} {ti : FI} {g : FG} {c : FT} (hc : X.calm = true) (hN : X.N.Nodup) (hy : X.N[i]? = some y) (hyl : X.env.scope.names.lookup y = some .local)
    (hsw : swapsWith (.ListComp elt [⟨tg, iter, ifs, 0⟩] scope pos) (some (.Name y py)) spos.line X.env = pure true) (hi : PI X tg iter (LI T W ti)) (ok : BlkOk X.N X.env.scope scope own)
    (hg : ∀ (s : Shared) (H : Hp) (C : Addr) (cl : List (Str × Addr)) (fp : List Addr), PG (X.blk s H scope (compEnvC scope cl C X.env) fp) tg (LG T (own.map (·.2)) g)) (ht : ∀ (s : Shared) (H : Hp) (C : Addr) (cl : List (Str × Addr)) (fp : List Addr), PTs (X.blk s H scope (compEnvC scope cl C X.env) fp) ifs (LT T W0 c))
    (he : ∀ (s : Shared) (H : Hp) (C : Addr) (cl : List (Str × Addr)) (fp : List Addr), PE (X.blk s H scope (compEnvC scope cl C X.env) fp) elt (LE T W0 t)) (hs : ∀ x, foldedSetIterable iter X.env x = pure x := by intro _; rfl) :
    PS X (.Assign [.Name y py] (.ListComp elt [⟨tg, iter, ifs, 0⟩] scope pos) spos) (LS T W (fAsg (fComp ti g c t (own.map (·.2))) (gN i))) :=
  PS.weak (ps_setLc hc hN hy hyl hsw hi ok hg ht he hs) fun D σ H h => by
    obtain ⟨ρ, S, φ, fe, fs, E, Qm, G, w, hx, k⟩ := lSet h
    exact lComp ⟨ρ, S, φ, fe, fs, E, Qm, G, w, hx, k⟩
end
end L2.Fn
/-! Fn, part G: slices, built-ins, methods of texts, items stored. -/
namespace L2.Fn
open PySem PySem.Spec PyProof.Rows

/-! ### slices -/
abbrev FO := Ev → Sto → (Option Int → Sto → Prop) → XP → Prop
def LO (T : Top) (W : WX) (t : FO) : TO := fun σ H Q => ∃ (ρ : Ev) (S : Sto) (φ : Ob) (fe fs : List Addr) (E : XP) (Qm : Option Int → Sto → Prop), Good T φ H σ ρ S fe fs ∧ t ρ S Qm E ∧ WxE T φ fs H σ E W ∧
  ∀ (m : Option Int) (S' : Sto) (H' : Hp) (φ' : Ob) (fs' : List Addr), Qm m S' → Aft φ fs H φ' fs' [] H' → RepS T H' φ' φ' S' fs' → Q m H'
def fNoP : FO := fun _ S Q _ => Q none S
def fPart (t : FE) : FO := fun ρ S Q E => t ρ S (fun m S' => match m with
  | .dat (.int i) => Q (some i) S'
  | _ => False) E
/-- the part from lo to hi, as Python cuts -/
def cutN {α : Type} (xs : List α) (lo hi : Option Int) : List α := (xs.drop (HT.sIx xs.length 0 lo)).take (HT.sIx xs.length xs.length hi - HT.sIx xs.length 0 lo)
def oSl (m : M) (lo hi : Option Int) (Q : M → Prop) : Prop := match m with
  | .dat (.str s) => s.length ≤ sizeLine ∧ Q (.dat (.str (cutN s lo hi)))
  | .dat (.tup ds) => Q (.dat (.tup (cutN ds lo hi)))
  | m => ∃ ds, m.ld = some ds ∧ Q (.lst ((cutN ds lo hi).map .dat))
section
variable {X : Cx} {T : Top} {W : WX} {e a b ej : Expr} {t ta tb tj tk : FE} {pos : Pos} {es : List Expr} {st : Stmt} {rest body : List Stmt} {u w : FS} {lo hi : Option Expr}
theorem PO.weak {e : Option Expr} {t t' : TO} (h : PO X e t) (k : ∀ σ H Q, t' σ H Q → t σ H Q) : PO X e t' := ⟨fun pins s σ H Q I w => h.run pins s σ H Q I (k _ _ _ w)⟩
theorem fo_none : PO X none (LO T W fNoP) := PO.weak po_none fun σ H Q ⟨ρ, S, φ, fe, fs, E, Qm, G, w, hx, k⟩ => k none S H φ fs w (Aft.refl G.ndS) G.sto
theorem fo_some (h : PE X e (LB T W t)) : PO X (some e) (LO T W (fPart t)) := PO.weak (po_some h) fun σ H Q ⟨ρ, S, φ, fe, fs, E, Qm, G, w, hx, k⟩ => by
  refine ⟨ρ, S, φ, fe, fs, E, _, G, w, hx, fun m S' v H' φ' fs' fm q A r d R' => ?_⟩
  cases r with
  | lst => exact q.elim
  | dct => exact q.elim
  | dat r =>
    cases r with
    | int i => exact ⟨i, rfl, k _ S' H' φ' fs' q A R'⟩
    | _ => exact q.elim
def rSlAll (K : PySem.W.Frag) : V → Option Int → Option Int → Hp → VK → Prop := fun x lo hi H Q => (rSlS x lo hi H Q ∨ rSlA K x lo hi H Q) ∨ rSlL K x lo hi H Q
theorem sl_all : SlR X (rSlAll X.K) := (sl_str.or sl_tupA).or sl_list
def fSl (t : FE) (tl th : FO) : FE := fun ρ S Q E => t ρ S (fun m S1 => tl ρ S1 (fun l S2 => th ρ S2 (fun h S3 => oSl m l h fun r => Q r S3) E) E) E
theorem cutV_eq (xs : List V) (lo hi : Option Int) : cutV xs lo hi = cutN xs lo hi := rfl
theorem FDs.cut {φ : Ob} {H : Hp} {xs : List V} {ds : List D} (r : FDs T φ H xs ds) (lo hi : Option Int) : FDs T φ H (cutN xs lo hi) (cutN ds lo hi) := by
  unfold cutN
  rw [r.len]
  exact (r.drop _).take _
theorem fe_slice {p2 : Pos} {tl th : FO} (hK : X.K = T.K) (he : PE X e (LB T W t)) (hl : PO X lo (LO T W tl)) (hu : PO X hi (LO T W th)) : PE X (.Subscript e (.Slice lo hi none p2) pos) (LE T W (fSl t tl th)) :=
  PE.weak (pe_slice sl_all he hl hu) fun σ H Q ⟨ρ, S, φ, fe, fs, E, Qm, G, w, hx, k⟩ => by
    refine ⟨ρ, S, φ, fe, fs, E, _, G, w, hx, fun m S1 v H1 φ1 fs1 f1 q1 A1 r1 d1 R1 => ?_⟩
    have G1 := A1.good G R1
    refine ⟨ρ, S1, φ1, fe, fs1, E, _, G1, q1, hx.aft A1, fun l S2 H2 φ2 fs2 q2 A2 R2 => ?_⟩
    have G2 := A2.good G1 R2
    refine ⟨ρ, S2, φ2, fe, fs2, E, _, G2, q2, (hx.aft A1).aft A2, fun h S3 H3 φ3 fs3 q3 A3 R3 => ?_⟩
    have A := (A1.trans A2).trans A3
    have r := (A2.trans A3).rep R1 r1 d1
    rw [hK]
    have lists : ∀ ds, m.ld = some ds → Qm (.lst ((cutN ds l h).map .dat)) S3 → rSlAll T.K v l h H3 Q := fun ds e q => by
      obtain ⟨a, xs, rfl, hs, rs⟩ := ld_ok r e
      refine .inr ⟨a, xs, rfl, hs, fun p hp => ?_⟩
      have F : Fresh H3 (upd H3 p (.lst (cutV xs l h))) [p] := Fresh.upd hp
      exact k _ S3 _ _ φ3 fs3 [p] q (A.trans (F.aft R3 A3.ndS)) (.lst upd_same ((rs.cut l h).ext F.ext (Pre.refl _)).reps) (F.sto R3)
    cases r with
    | lst hH rs =>
      obtain ⟨ds, e, q⟩ := q3
      exact lists ds e q
    | dct hH rs =>
      obtain ⟨ds, e, q⟩ := q3
      cases e
    | dat r =>
      cases r with
      | str s =>
        refine .inl (.inl ⟨_, rfl, by rw [str_len]; exact q3.1, ?_⟩)
        have e : cutS ⟨s.toArray⟩ l h = ⟨(cutN s l h).toArray⟩ := by
          unfold cutS cutN
          rw [str_len]
        rw [e]
        exact k _ S3 _ H3 φ3 fs3 [] q3.2 A (.dat (.str _)) R3
      | @tup a xs ds hs rs =>
        refine .inl (.inr ⟨a, xs, rfl, SqT.of hs, fun hw => ?_, fun hw p hp => ?_⟩)
        · refine k _ S3 _ H3 φ3 fs3 [] q3 A (.dat (.tup hs ?_)) R3
          have e : cutN ds l h = ds := by
            unfold cutN
            rw [← rs.len, hw.1, hw.2, rs.len, List.drop_zero, Nat.sub_zero, List.take_length]
          rw [e]
          exact rs
        · have F : Fresh H3 (upd H3 p (.tup (cutV xs l h))) [] := Fresh.upd0 hp
          exact k _ S3 _ _ φ3 fs3 [] q3 (A.trans (F.aft R3 A3.ndS)) (.dat (.tup upd_same ((rs.cut l h).ext F.ext (Pre.refl _)))) (F.sto R3)
      | @lst a xs ds hs rs =>
        obtain ⟨ds, e, q⟩ := q3
        exact lists ds e q
      | _ =>
        obtain ⟨ds, e, q⟩ := q3
        cases e

/-! ### len, int, str, tuple, list -/
def oLen (ms : List M) (Q : M → Prop) : Prop := match ms with
  | [.dat (.str s)] => s.length ≤ sizeLine ∧ Q (.dat (.int s.length))
  | [.dat (.tup l)] => Q (.dat (.int l.length))
  | [.dat (.lst l)] => Q (.dat (.int l.length))
  | [.lst l] => Q (.dat (.int l.length))
  | _ => False
theorem o_len : OpN T (fun xs H Q => ∃ x n, xs = [x] ∧ LenV T.K x H n ∧ Q (.int n) H) oLen := by
  intro φ H vs ms f Q Qm r w k
  unfold oLen at w
  split at w
  · cases r with
    | cons x r =>
      cases r
      cases x with
      | dat x =>
        cases x with
        | str s => exact ⟨_, _, rfl, ⟨by rw [str_len]; exact w.1, rfl⟩, by rw [str_len]; exact k _ _ H [] w.2 (Fresh.refl H) (.dat (.int _))⟩
  · cases r with
    | cons x r =>
      cases r
      cases x with
      | dat x =>
        cases x with
        | tup h rs => exact ⟨_, _, rfl, .inr ⟨_, SqT.of h, rfl⟩, by rw [rs.len]; exact k _ _ H [] w (Fresh.refl H) (.dat (.int _))⟩
  · cases r with
    | cons x r =>
      cases r
      cases x with
      | dat x =>
        cases x with
        | lst h rs => exact ⟨_, _, rfl, .inl ⟨_, h.seq, rfl⟩, by rw [rs.len]; exact k _ _ H [] w (Fresh.refl H) (.dat (.int _))⟩
  · cases r with
    | cons x r =>
      cases r
      cases x with
      | lst h rs => exact ⟨_, _, rfl, .inl ⟨_, SqL.of h, rfl⟩, by rw [rs.len]; exact k _ _ H [] w (Fresh.refl H) (.dat (.int _))⟩
  · exact w.elim
def oIntC (ms : List M) (Q : M → Prop) : Prop := match ms with
  | [.dat (.int i)] => Q (.dat (.int i))
  | [.dat (.bl b)] => Q (.dat (.int (if b then 1 else 0)))
  | _ => False
theorem o_intC : OpN T (fun xs H Q => (∃ i, xs = [.int i] ∧ Q (.int i) H) ∨ ∃ k, xs = [.bl k] ∧ Q (.int (if k then 1 else 0)) H) oIntC := by
  intro φ H vs ms f Q Qm r w k
  unfold oIntC at w
  split at w
  · cases r with
    | cons x r =>
      cases r
      cases x with
      | dat x =>
        cases x
        exact .inl ⟨_, rfl, k _ _ H [] w (Fresh.refl H) (.dat (.int _))⟩
  · cases r with
    | cons x r =>
      cases r
      cases x with
      | dat x =>
        cases x
        exact .inr ⟨_, rfl, k _ _ H [] w (Fresh.refl H) (.dat (.int _))⟩
  · exact w.elim
/-- the decimal figures of a number -/
def decN (i : Int) : List Nat := (toString i).toList.map Char.toNat
def oStrI (ms : List M) (Q : M → Prop) : Prop := match ms with
  | [.dat (.int i)] => i.natAbs.log2 < 1920 ∧ Q (.dat (.str (decN i)))
  | _ => False
theorem o_strI : OpN T (fun xs H Q => ∃ i : Int, xs = [.int i] ∧ i.natAbs.log2 < 1920 ∧ Q (.str (toString i)) H) oStrI := by
  intro φ H vs ms f Q Qm r w k
  unfold oStrI at w
  split at w
  · cases r with
    | cons x r =>
      cases r
      cases x with
      | dat x =>
        cases x
        refine ⟨_, rfl, w.1, ?_⟩
        rw [Str.ofString_eq_toList]
        exact k _ _ H [] w.2 (Fresh.refl H) (.dat (.str _))
  · exact w.elim
def oTupC (ms : List M) (Q : M → Prop) : Prop := match ms with
  | [.dat (.tup ds)] => Q (.dat (.tup ds))
  | [m] => ∃ ds, m.ld = some ds ∧ Q (.dat (.tup ds))
  | _ => False
theorem o_tupC : OpN T (fun xs H Q => ∃ p ys, xs = [.ref p] ∧ ((SqL T.K H p ys ∧ ∀ l, H l = none → Q (.ref l) (upd H l (.tup ys))) ∨ (SqT T.K H p ys ∧ Q (.ref p) H))) oTupC := by
  intro φ H vs ms f Q Qm r w k
  unfold oTupC at w
  split at w
  · cases r with
    | cons x r =>
      cases r
      cases x with
      | dat x =>
        cases x with
        | tup h rs => exact ⟨_, _, rfl, .inr ⟨SqT.of h, k _ _ H [] w (Fresh.refl H) (.dat (.tup h rs))⟩⟩
  · obtain ⟨ds, e, w⟩ := w
    cases r with
    | cons x r =>
      cases r
      obtain ⟨a, xs, rfl, h, rs⟩ := ld_ok x e
      refine ⟨a, xs, rfl, .inl ⟨h, fun l hl => ?_⟩⟩
      have F : Fresh H (upd H l (.tup xs)) [] := Fresh.upd0 hl
      exact k _ _ _ [] w F (.dat (.tup upd_same (rs.ext F.ext (Pre.refl _))))
  · exact w.elim
def oLstC (ms : List M) (Q : M → Prop) : Prop := match ms with
  | [.dat (.tup ds)] => Q (.lst (ds.map .dat))
  | [m] => ∃ ds, m.ld = some ds ∧ Q (.lst (ds.map .dat))
  | _ => False
theorem o_lstC : OpN T (fun xs H Q => ∃ p ys, xs = [.ref p] ∧ (SqL T.K H p ys ∨ SqT T.K H p ys) ∧ ∀ l, H l = none → Q (.ref l) (upd H l (.lst ys))) oLstC := by
  intro φ H vs ms f Q Qm r w k
  have fin : ∀ (xs : List V) (ds : List D), FDs T φ H xs ds → Qm (.lst (ds.map .dat)) → ∀ l, H l = none → Q (.ref l) (upd H l (.lst xs)) := fun xs ds rs w l hl => by
    have F : Fresh H (upd H l (.lst xs)) [l] := Fresh.upd hl
    exact k _ _ _ [l] w F (.lst upd_same (rs.ext F.ext (Pre.refl _)).reps)
  unfold oLstC at w
  split at w
  · cases r with
    | cons x r =>
      cases r
      cases x with
      | dat x =>
        cases x with
        | tup h rs => exact ⟨_, _, rfl, .inr (SqT.of h), fin _ _ rs w⟩
  · obtain ⟨ds, e, w⟩ := w
    cases r with
    | cons x r =>
      cases r
      obtain ⟨a, xs, rfl, h, rs⟩ := ld_ok x e
      exact ⟨a, xs, rfl, .inl h, fin _ _ rs w⟩
  · exact w.elim

/-! ### isinstance(x, T), T a built-in class by its name -/
def M.ty : M → Option String
  | .dat .non => some "NoneType"
  | .dat (.bl _) => some "bool"
  | .dat (.int _) => some "int"
  | .dat (.str _) => some "str"
  | .dat (.tup _) => some "tuple"
  | .dat (.ktup _) => some "tuple"
  | .dat (.lst _) => some "list"
  | .lst _ => some "list"
  | _ => none
theorem ty_ok {φ : Ob} {H : Hp} {v : V} {m : M} {f : List Addr} (r : Rep T φ H v m f) {n : String} (e : m.ty = some n) : TyX T.K H v (.type n) := by
  cases r with
  | lst h rs => cases e; exact .base (.lst h)
  | dct => cases e
  | dat r =>
    cases r with
    | non => cases e; exact .base .non
    | bl b => cases e; exact .base (.bl b)
    | int i => cases e; exact .base (.int i)
    | str s => cases e; exact .base (.str _)
    | tup h rs =>
      cases e
      exact .base (.tup h)
    | ktup h rs =>
      cases e
      rcases h with ⟨o, its, n, hk, hc, _⟩ | ⟨o, h, _⟩
      · exact .kTuple hk hc
      · exact .fTuple h
    | dct => cases e
    | lst h rs =>
      cases e
      rcases h with ⟨o, h⟩ | ⟨o, its, n, hk, hc, _⟩
      · exact .base (.frz h)
      · exact .kList hk hc
    | obj => cases e
    | fn => cases e
    | exn => cases e
def fIsi (t : FE) (n : String) : FE := fun ρ S Q E => t ρ S (fun m S' => ∃ k, m.ty = some k ∧ ∃ b, kitB k n = some b ∧ Q (.dat (.bl b)) S') E
theorem fe_isi {p pn : Pos} {n : String} {nm : Str} (hK : X.K = T.K) (he : PE X e (LB T W t)) (hn : PE X (.Name nm pn) (tC (.ty n))) (hg : Gl X "isinstance") (hm : X.mg "isinstance" = none)
    (hs : starEach [e, .Name nm pn] X.env = (false, eval e X.env) :: starEach [.Name nm pn] X.env := by rfl) (hs2 : starEach [.Name nm pn] X.env = (false, eval (.Name nm pn) X.env) :: starEach [] X.env := by rfl)
    (hpl : (backTo pos (starEach [.Name nm pn] X.env)).any (·.1) = false := by rfl) :
    PE X (.Call (.Name "isinstance" p) [e, .Name nm pn] [] pos) (LE T W (fIsi t n)) :=
  PE.weak (pe_callB call_isi hg hm (by decide +kernel) (pa_cons he (pa_cons hn pa_nil hs2) hs) (by decide) (by decide) hs hpl) fun σ H Q ⟨ρ, S, φ, fe, fs, E, Qm, G, w, hx, k⟩ => by
    refine ⟨ρ, S, φ, fe, fs, E, _, G, w, hx, fun m S' v H' φ' fs' fm q A r d R' => ?_⟩
    obtain ⟨kk, e1, b, e2, q⟩ := q
    refine ⟨v, .ty n, .type kk, .type n, b, rfl, .ty n, by rw [hK]; exact ty_ok r e1, kit_ty e2, ?_⟩
    exact k _ S' _ H' φ' fs' [] q A (.dat (.bl b)) R'

/-! ### methods of texts -/
def fM1 (o : List Nat → List M → (M → Prop) → Prop) (t : FE) (ta : FA) : FE := fun ρ S Q E => t ρ S (fun m S1 => match m with
  | .dat (.str s) => ta ρ S1 (fun ms S2 => o s ms fun r => Q r S2) E
  | _ => False) E
def OpS (T : Top) (r : V → List V → Hp → VK → Prop) (o : List Nat → List M → (M → Prop) → Prop) : Prop := ∀ (φ : Ob) (H : Hp) (s : List Nat) (vs : List V) (ms : List M) (f : List Addr) (Q : VK) (Qm : M → Prop), Reps T φ H vs ms f → o s ms Qm →
  (∀ m v H' fm, Qm m → Fresh H H' fm → Rep T φ H' v m fm → Q v H') → r (.str ⟨s.toArray⟩) vs H Q
theorem lM1 {o : List Nat → List M → (M → Prop) → Prop} {ta : FA} {r : V → List V → Hp → VK → Prop} {σ : St} {H : Hp} {Q : VK} {c : V → Hp → Prop} (h2 : OpS T r o) (hc : ∀ s H, c (.str s) H) (h : LE T W (fM1 o t ta) σ H Q) : LB T W t σ H fun x H1 => c x H1 ∧ LAB T W ta σ H1 fun xs H2 => r x xs H2 Q := by
  obtain ⟨ρ, S, φ, fe, fs, E, Qm, G, w, hx, k⟩ := h
  refine ⟨ρ, S, φ, fe, fs, E, _, G, w, hx, fun m S1 v H1 φ1 fs1 f1 q1 A1 r1 d1 R1 => ?_⟩
  cases r1 with
  | lst => exact q1.elim
  | dct => exact q1.elim
  | dat r1 =>
    cases r1 with
    | str s =>
      refine ⟨hc _ _, ρ, S1, φ1, fe, fs1, E, _, A1.good G R1, q1, hx.aft A1, fun ms S2 vs H2 φ2 fs2 f2 q2 A2 r2 d2 R2 => ?_⟩
      refine h2 φ2 H2 s vs ms f2 Q _ r2 q2 fun m v H' fm q F r => ?_
      exact k m S2 v H' φ2 fs2 fm q ((A1.trans A2).trans (F.aft R2 A2.ndS)) r (F.sto R2)
    | _ => exact q1.elim
theorem fe_strM {name : Str} {id : String} {apos cpos : Pos} {r : V → List V → Hp → VK → Prop} {o : List Nat → List M → (M → Prop) → Prop} {ta : FA} (slot : Slot "str" name id) (hty : typeOf (.builtin id) = pure (.type "method_descriptor")) (hm : MtR X id r) (h2 : OpS T r o)
    (ho : PE X b (LB T W t)) (ha : PA X (e :: es) (LAB T W ta))
    (hbase : attributeBase b name X.env (eval b X.env) = eval b X.env := by rfl)
    (hpl : (((backTo cpos (starEach (e :: es) X.env)).all fun x => !x.1) && (backToKw cpos (keywordEach [] X.env)).all (fun x => x.1.isSome) && decide ((e :: es).length + ([] : List Keyword).length + (if ([] : List Keyword).isEmpty then 0 else 1) < 30)) = true := by rfl)
    (hline : (apos.endLine == cpos.line) = true := by rfl) (h3 : starEach (e :: es) X.env = (false, eval e X.env) :: starEach es X.env := by rfl) (h4 : (backTo cpos (starEach es X.env)).any (·.1) = false := by rfl) :
    PE X (.Call (.Attribute b name apos) (e :: es) [] cpos) (LE T W (fM1 o t ta)) :=
  PE.weak (pe_bm PySem.F.plainAttrs_str slot hty hm ho ha hbase hpl hline h3 h4) fun σ H Q h => lM1 (c := fun x H1 => tyV X.K "str" x H1) h2 (fun _ _ => rfl) h
/-- where the sign c stands, from lo on, ahead of hi -/
def FindS (s : List Nat) (c : Nat) (lo : Int) (k : Int) : Prop := (k = -1 ∧ ∀ v : Nat, lo ≤ v → s[v]? ≠ some c) ∨ ∃ n : Nat, k = n ∧ lo ≤ n ∧ s[n]? = some c ∧ ∀ v : Nat, lo ≤ v → v < n → s[v]? ≠ some c
def oFind3 (s : List Nat) (ms : List M) (Q : M → Prop) : Prop := match ms with
  | [.dat (.str [c]), .dat (.int i)] => 0 ≤ i ∧ ∀ k, FindS s c i k → Q (.dat (.int k))
  | _ => False
theorem fromIx {n : Nat} {i : Int} (h : 0 ≤ i) : (fromIndex n i : Int) = i := by
  unfold fromIndex
  rw [if_neg (by omega)]
  omega
theorem getD_iff {s : List Nat} {v c : Nat} (h : v < s.length) : ((⟨s.toArray⟩ : Str).cps.getD v 0 = c) ↔ s[v]? = some c := by
  rw [List.getElem?_eq_getElem h]
  have : (⟨s.toArray⟩ : Str).cps.getD v 0 = s[v] := by simp [Array.getD, h]
  rw [this]
  exact ⟨fun e => by rw [e], fun e => Option.some.inj e⟩
theorem o_find3 : OpS T (fun x xs H Q => ∃ (a b : Str) (i : Int), x = .str a ∧ xs = [.str b, .int i] ∧ Q (.int (Txt.find3 a b i)) H) oFind3 := by
  intro φ H s vs ms f Q Qm r w k
  unfold oFind3 at w
  split at w
  · cases r with
    | cons x r =>
      cases r with
      | cons y r =>
        cases r
        cases x with
        | dat x =>
          cases x
          cases y with
          | dat y =>
            cases y
            rename_i c i
            refine ⟨_, _, i, rfl, rfl, k _ _ H [] (w.2 _ ?_) (Fresh.refl H) (.dat (.int _))⟩
            have hl : (⟨s.toArray⟩ : Str).length = s.length := str_len s
            rcases PySem.StrLaws.find3_spec ⟨s.toArray⟩ c i with ⟨e, h⟩ | ⟨n, e, h1, h2, h3, h4⟩
            · rw [show (⟨[c].toArray⟩ : Str) = ⟨#[c]⟩ from rfl, e]
              refine .inl ⟨rfl, fun v hv hc => ?_⟩
              have hlt : v < s.length := (List.getElem?_eq_some_iff.mp hc).1
              exact h v (by have := fromIx (n := (⟨s.toArray⟩ : Str).length) w.1; omega) (by rw [hl]; exact hlt) ((getD_iff hlt).mpr hc)
            · rw [show (⟨[c].toArray⟩ : Str) = ⟨#[c]⟩ from rfl, e]
              rw [hl] at h2
              refine .inr ⟨n, rfl, by have := fromIx (n := (⟨s.toArray⟩ : Str).length) w.1; omega, (getD_iff h2).mp h3, fun v hv hv2 hc => ?_⟩
              have hlt : v < s.length := (List.getElem?_eq_some_iff.mp hc).1
              exact h4 v (by have := fromIx (n := (⟨s.toArray⟩ : Str).length) w.1; omega) hv2 ((getD_iff hlt).mpr hc)
  · exact w.elim
/-- where the last sign c stands, ahead of hi -/
def RFindS (s : List Nat) (c : Nat) (lo hi : Int) (k : Int) : Prop := (k = -1 ∧ ∀ v : Nat, lo ≤ v → v < hi → s[v]? ≠ some c) ∨ ∃ n : Nat, k = n ∧ lo ≤ n ∧ n < hi ∧ s[n]? = some c ∧ ∀ v : Nat, n < v → v < hi → s[v]? ≠ some c
theorem last_spec (s sub : Str) (lo hi : Nat) : ∀ r, Builtin.Str.lastOccurrence s sub lo hi = r → match r with
    | none => ∀ i, lo ≤ i → i < hi + 1 → ¬ (i + sub.length ≤ hi ∧ Builtin.Str.subAt s sub i = true)
    | some n => lo ≤ n ∧ (n + sub.length ≤ hi ∧ Builtin.Str.subAt s sub n = true) ∧ ∀ i, n < i → i < hi + 1 → ¬ (i + sub.length ≤ hi ∧ Builtin.Str.subAt s sub i = true) := by
  intro r hr
  unfold Builtin.Str.lastOccurrence at hr
  simp only [Std.Legacy.Range.forIn_eq_forIn_range', Std.Legacy.Range.size] at hr
  have key : ∀ (l : List Nat) (z : Option Nat) (a : Nat), l = List.range' a l.length → (∀ n, z = some n → n < a) → ∀ r, (forIn (m := Id) l z fun i last => if (decide (i + sub.length ≤ hi) && Builtin.Str.subAt s sub i) = true then pure (ForInStep.yield (some i)) else pure (ForInStep.yield last)).run = r →
      match r with
      | none => z = none ∧ ∀ i, a ≤ i → i < a + l.length → ¬ (i + sub.length ≤ hi ∧ Builtin.Str.subAt s sub i = true)
      | some n => (z = some n ∨ (a ≤ n ∧ n + sub.length ≤ hi ∧ Builtin.Str.subAt s sub n = true)) ∧ ∀ i, a ≤ i → n < i → i < a + l.length → ¬ (i + sub.length ≤ hi ∧ Builtin.Str.subAt s sub i = true) := by
    intro l
    induction l with
    | nil =>
      intro z a _ _ r h
      simp at h
      subst h
      cases z with
      | none => exact ⟨rfl, fun i h1 h2 => by simp at h2; omega⟩
      | some n => exact ⟨.inl rfl, fun i h1 _ h2 => by simp at h2; omega⟩
    | cons x l ih =>
      intro z a hl hz r h
      rw [List.length_cons, List.range'_succ] at hl
      injection hl with h1 h2
      subst h1
      rw [List.forIn_cons] at h
      by_cases hc : (decide (x + sub.length ≤ hi) && Builtin.Str.subAt s sub x) = true
      · rw [if_pos hc] at h
        simp only [pure_bind] at h
        have hc' := hc
        rw [Bool.and_eq_true, decide_eq_true_eq] at hc'
        have := ih (some x) (x + 1) h2 (fun n e => by cases e; omega) r h
        cases r with
        | none => exact absurd this.1 (by simp)
        | some n =>
          refine ⟨.inr ?_, fun i q1 q2 q3 => ?_⟩
          · rcases this.1 with e | e
            · cases e; exact ⟨Nat.le_refl _, hc'⟩
            · exact ⟨by omega, e.2⟩
          · by_cases hxi : x = i
            · subst hxi
              rcases this.1 with e | e
              · cases e; omega
              · omega
            · exact this.2 i (by omega) q2 (by rw [List.length_cons] at q3; omega)
      · rw [if_neg hc] at h
        simp only [pure_bind] at h
        have hc' : ¬ (x + sub.length ≤ hi ∧ Builtin.Str.subAt s sub x = true) := fun q => hc (by rw [Bool.and_eq_true, decide_eq_true_eq]; exact q)
        have := ih z (x + 1) h2 (fun n e => by have := hz n e; omega) r h
        cases r with
        | none =>
          refine ⟨this.1, fun i q1 q2 => ?_⟩
          by_cases hxi : x = i
          · subst hxi; exact hc'
          · exact this.2 i (by omega) (by rw [List.length_cons] at q2; omega)
        | some n =>
          refine ⟨this.1.imp id fun e => ⟨by omega, e.2⟩, fun i q1 q2 q3 => ?_⟩
          by_cases hxi : x = i
          · subst hxi; exact hc'
          · exact this.2 i (by omega) q2 (by rw [List.length_cons] at q3; omega)
  have := key (List.range' lo (hi + 1 - lo)) none lo (by simp) (fun n e => by cases e) r (by
    rw [← hr]
    simp)
  cases r with
  | none => exact fun i h1 h2 => this.2 i h1 (by simp; omega)
  | some n =>
    rcases this.1 with e | e
    · cases e
    · exact ⟨e.1, e.2, fun i h1 h2 => this.2 i (by omega) h1 (by simp; omega)⟩
theorem subAt_sign {s : List Nat} {c v : Nat} : ((v + (⟨#[c]⟩ : Str).length ≤ s.length) ∧ Builtin.Str.subAt ⟨s.toArray⟩ ⟨#[c]⟩ v = true) ↔ s[v]? = some c := by
  have e1 : (⟨#[c]⟩ : Str).length = 1 := rfl
  rw [e1, PySem.StrLaws.subAt_eq]
  show _ ∧ (((s.drop v).take 1 == [c]) = true) ↔ _
  constructor
  · rintro ⟨h1, h2⟩
    have h2 : (s.drop v).take 1 = [c] := by simpa using h2
    have h3 : ((s.drop v).take 1)[0]? = some c := by rw [h2]; rfl
    rw [List.getElem?_take, List.getElem?_drop] at h3
    simpa using h3
  · intro h
    obtain ⟨h1, h2⟩ := List.getElem?_eq_some_iff.mp h
    refine ⟨by omega, ?_⟩
    rw [List.drop_eq_getElem_cons h1, h2]
    simp
def oRFind4 (s : List Nat) (ms : List M) (Q : M → Prop) : Prop := match ms with
  | [.dat (.str [c]), .dat (.int i), .dat (.int j)] => 0 ≤ i ∧ 0 ≤ j ∧ j ≤ s.length ∧ ∀ k, RFindS s c i j k → Q (.dat (.int k))
  | _ => False
theorem o_rfind4 : OpS T (fun x xs H Q => ∃ (a b : Str) (i j : Int), x = .str a ∧ xs = [.str b, .int i, .int j] ∧ Q (.int (Txt.rfindIn a b i j)) H) oRFind4 := by
  intro φ H s vs ms f Q Qm r w k
  unfold oRFind4 at w
  split at w
  · rename_i c i j
    cases r with
    | cons x r =>
      cases r with
      | cons y r =>
        cases r with
        | cons z r =>
          cases r
          cases x with
          | dat x =>
            cases x
            cases y with
            | dat y =>
              cases y
              cases z with
              | dat z =>
                cases z
                refine ⟨_, _, i, j, rfl, rfl, k _ _ H [] (w.2.2.2 _ ?_) (Fresh.refl H) (.dat (.int _))⟩
                have hl : (⟨s.toArray⟩ : Str).length = s.length := str_len s
                have hi := fromIx (n := (⟨s.toArray⟩ : Str).length) w.1
                have hj : (toIndexW (⟨s.toArray⟩ : Str).length j : Int) = j := by
                  unfold toIndexW
                  rw [hl, if_neg (by omega)]
                  have := w.2.2.1
                  omega
                show RFindS s c i j (Txt.rfindIn ⟨s.toArray⟩ ⟨#[c]⟩ i j)
                unfold Txt.rfindIn
                have sp := last_spec ⟨s.toArray⟩ ⟨#[c]⟩ (fromIndex (⟨s.toArray⟩ : Str).length i) (toIndexW (⟨s.toArray⟩ : Str).length j) _ rfl
                have one : (⟨#[c]⟩ : Str).length = 1 := rfl
                have sg : ∀ v : Nat, v < j → s[v]? = some c → (v + (⟨#[c]⟩ : Str).length ≤ toIndexW (⟨s.toArray⟩ : Str).length j ∧ Builtin.Str.subAt ⟨s.toArray⟩ ⟨#[c]⟩ v = true) := fun v hv hc => by
                  obtain ⟨q1, q2⟩ := subAt_sign.mpr hc
                  exact ⟨by rw [one]; omega, q2⟩
                generalize Builtin.Str.lastOccurrence ⟨s.toArray⟩ ⟨#[c]⟩ (fromIndex (⟨s.toArray⟩ : Str).length i) (toIndexW (⟨s.toArray⟩ : Str).length j) = res at sp
                cases res with
                | none => exact .inl ⟨rfl, fun v h1 h2 hc => sp v (by omega) (by omega) (sg v h2 hc)⟩
                | some n =>
                  obtain ⟨s1, s2, s3⟩ := sp
                  have h2 : (n : Int) < j := by have := s2.1; rw [one] at this; omega
                  have h3 : s[n]? = some c := subAt_sign.mp ⟨by have := w.2.2.1; rw [one]; omega, s2.2⟩
                  exact .inr ⟨n, rfl, by omega, h2, h3, fun v q1 q2 hc => s3 v q1 (by omega) (sg v q2 hc)⟩
  · exact w.elim
/-- sep.join of texts -/
def textsOf : List D → Option (List (List Nat))
  | [] => some []
  | .str s :: r => (textsOf r).map (s :: ·)
  | _ :: _ => none
def M.sq (m : M) : Option (List D) := match m with
  | .dat (.tup ds) => some ds
  | m => m.ld
def oJoin (sep : List Nat) (ms : List M) (Q : M → Prop) : Prop := match ms with
  | [m] => ∃ ds, m.sq = some ds ∧ ∃ ps, textsOf ds = some ps ∧ (ps.map List.length).sum + ps.length * sep.length ≤ 16777216 ∧ Q (.dat (.str (TL.joinL sep ps)))
  | _ => False
theorem textsOf_ok {φ : Ob} {H : Hp} : ∀ {vs : List V} {ds : List D} {ps : List (List Nat)}, FDs T φ H vs ds → textsOf ds = some ps → vs = (ps.map fun s => (⟨s.toArray⟩ : Str)).map V.str
  | _, _, ps, .nil, e => by cases e; rfl
  | _, _, ps, .cons (d := d) (ds := ds) x r, e => by
    cases x with
    | str s =>
      rw [textsOf] at e
      cases q : textsOf ds with
      | none => rw [q] at e; cases e
      | some qs =>
        rw [q] at e
        cases e
        rw [textsOf_ok r q] <;> rfl
    | _ => cases e
theorem o_join : OpS T (fun x xs H Q => ∃ a p, ∃ ys : List Str, x = .str a ∧ xs = [.ref p] ∧ (SqL T.K H p (ys.map V.str) ∨ SqT T.K H p (ys.map V.str)) ∧ (ys.map (·.length)).sum + ys.length * a.length ≤ 16777216 ∧ Q (.str (Txt.join a ys)) H) oJoin := by
  intro φ H s vs ms f Q Qm r w k
  unfold oJoin at w
  split at w
  · obtain ⟨ds, e1, ps, e2, hz, w⟩ := w
    cases r with
    | @cons v _ m _ f0 _ x r =>
      cases r
      have fin : ∀ (p : Addr) (xs : List V), v = .ref p → (SqL T.K H p xs ∨ SqT T.K H p xs) → FDs T φ H xs ds → ∃ a p, ∃ ys : List Str, V.str ⟨s.toArray⟩ = .str a ∧ [v] = [V.ref p] ∧ (SqL T.K H p (ys.map V.str) ∨ SqT T.K H p (ys.map V.str)) ∧ (ys.map (·.length)).sum + ys.length * a.length ≤ 16777216 ∧ Q (.str (Txt.join a ys)) H := fun p xs e hs rs => by
        rw [textsOf_ok rs e2] at hs
        refine ⟨_, p, _, rfl, by rw [e], hs, ?_, ?_⟩
        · rw [List.map_map, List.length_map, str_len]
          have : (List.map ((fun x => x.length) ∘ fun (s : List Nat) => (⟨s.toArray⟩ : Str)) ps) = ps.map List.length := List.map_congr_left fun a _ => str_len a
          rw [this]
          exact hz
        · have e3 : Txt.join ⟨s.toArray⟩ (ps.map fun s => (⟨s.toArray⟩ : Str)) = ⟨(TL.joinL s ps).toArray⟩ := by
            apply TL.ext_tl
            rw [TL.join_eq, TL.tl_join]
            show TL.joinL s _ = TL.joinL s ps
            rw [List.map_map]
            have : (List.map (TL.tl ∘ fun (s : List Nat) => (⟨s.toArray⟩ : Str)) ps) = ps := by
              have : (TL.tl ∘ fun (s : List Nat) => (⟨s.toArray⟩ : Str)) = id := by funext a; rfl
              rw [this, List.map_id]
            rw [this]
          rw [e3]
          exact k _ _ H [] w (Fresh.refl H) (.dat (.str _))
      unfold M.sq at e1
      split at e1
      · cases e1
        cases x with
        | dat x =>
          cases x with
          | tup h rs => exact fin _ _ rfl (.inr (SqT.of h)) rs
      · obtain ⟨a, xs, e, h, rs⟩ := ld_ok x e1
        exact fin a xs e (.inl h) rs
  · exact w.elim
theorem fe_join {apos cpos : Pos} (hK : X.K = T.K) (hb : PE X b (LB T W t)) (he : PE X e (LB T W ta)) (hs : starEach [e] X.env = [(false, eval e X.env)] := by rfl) (hbase : attributeBase b "join" X.env (eval b X.env) = eval b X.env := by rfl) (hline : (apos.endLine == cpos.line) = true := by rfl) :
    PE X (.Call (.Attribute b "join" apos) [e] [] cpos) (LE T W (fM1 oJoin t (fCons ta fNil))) :=
  PE.weak (pe_join hb he hs hbase hline) fun σ H Q ⟨ρ, S, φ, fe, fs, E, Qm, G, w, hx, k⟩ => by
    refine ⟨ρ, S, φ, fe, fs, E, _, G, w, hx, fun m S1 v H1 φ1 fs1 f1 q1 A1 r1 d1 R1 => ?_⟩
    cases r1 with
    | lst => exact q1.elim
    | dct => exact q1.elim
    | dat r1 =>
      cases r1 with
      | str s =>
        refine ⟨⟨_, rfl⟩, ρ, S1, φ1, fe, fs1, E, _, A1.good G R1, q1, hx.aft A1, fun m2 S2 v2 H2 φ2 fs2 f2 q2 A2 r2 d2 R2 => ?_⟩
        rw [hK]
        have r2' : Reps T φ2 H2 [v2] [m2] (f2 ++ []) := .cons r2 .nil
        exact o_join φ2 H2 s [v2] [m2] _ Q (fun m => Qm m S2) r2' q2 fun m v H' fm q F r => k m S2 v H' φ2 fs2 fm q ((A1.trans A2).trans (F.aft R2 A2.ndS)) r (F.sto R2)
      | _ => exact q1.elim

/-! ### x[k] = e, x[j][k] = e -/
theorem ixN_lt {n : Nat} {i : Int} {j : Nat} (h : ixN n i = some j) : j < n := by
  unfold ixN at h
  split at h
  · split at h
    · cases h; omega
    · cases h
  · split at h
    · cases h; omega
    · cases h
def fSet0 (i : Nat) (tk t : FE) : FS := fun P ρ S => t ρ S (fun m S1 => ∃ ms, ρ[i]? = some (some (.lst ms)) ∧ tk ρ S1 (fun mk S2 => ∃ kk d, mk = .dat (.int kk) ∧ ixN ms.length kk = some d ∧ P.nx (ρ.set i (some (.lst (ms.set d m)))) S2) fun x S' => P.ex x ρ S') fun x S' => P.ex x ρ S'
theorem lSet0 {D : Ends} {σ : St} {H : Hp} {i : Nat} (h : LS T W (fSet0 i tk t) D σ H) : tAsg (LE T W t) (gSub (tVar i) (LB T W tk) rSetL) D σ H := by
  obtain ⟨ρ, S, φ, fe, fs, P, G, w, k⟩ := h
  refine ⟨ρ, S, φ, fe, fs, _, _, G, w, k.wx G, fun m S1 y H1 φ1 fs1 fm q1 A1 r1 R1 => ?_⟩
  have G1 := A1.good G R1
  obtain ⟨ms, hm, q1⟩ := q1
  obtain ⟨v, g, f1, f2, hv, r, e, wr⟩ := G1.env.at' hm
  have B1 : AftS φ fe fs H φ1 (fm ++ fe) fs1 H1 := A1.s
  have k1 := k.aft (B1.sub fun a z => List.mem_append_right fm z)
  refine ⟨v, hv, ρ, S1, φ1, fe, fs1, _, _, G1, q1, k1.wx G1, fun m2 S2 v2 H2 φ2 fs2 fm2 q2 A2 r2 d2 R2 => ?_⟩
  obtain ⟨kk, d, rfl, hd, q2⟩ := q2
  have G2 := A2.good G1 R2
  have ry := A2.rep R1 r1 A1.disj
  have A12 := A1.both A2 r1.own'
  rw [List.append_nil] at A12
  cases r2 with
  | dat r2 =>
    cases r2 with
    | int =>
      obtain ⟨v', g', f1', f2', hv', r', e', wr'⟩ := G2.env.at' hm
      rw [hv] at hv'
      cases hv'
      cases r' with
      | @lst a vs ms f hH rs =>
        have ap := A12.apart G.disj (fun b hb => by obtain ⟨zs, q, _⟩ := G.env.own b hb; rw [q]; exact fun z => nomatch z)
        have dj : ∀ b ∈ fm, b ∉ fe ++ (fs2 ++ φ2.ads) := fun b hb hc => by
          rcases List.mem_append.mp hc with hc | hc
          · exact ap b hc (List.mem_append_left _ hb)
          · exact A12.disj b hb hc
        have nde := (List.nodup_append.mp G2.nd).1
        have n1 := List.nodup_append.mp (e' ▸ nde)
        have n2 := (List.nodup_append.mp n1.2.1).1
        have afe : ∀ b ∈ a :: f, b ∈ fe := fun b hb => by rw [e']; exact List.mem_append_right _ (List.mem_append_left _ hb)
        have nda := List.nodup_cons.mp n2
        have ndf : (fm ++ f).Nodup := List.nodup_append.mpr ⟨(List.nodup_append.mp A1.nd).1, nda.2, fun b hb c hc z => by
          subst z
          exact dj b hb (List.mem_append_left _ (afe b (List.mem_cons_of_mem _ hc)))⟩
        have ex : Ext H2 (upd H2 a (.lst (vs.set d y))) := upd_ext hH
        have na : a ∉ f ++ fm := fun z => by
          rcases List.mem_append.mp z with z | z
          · exact nda.1 z
          · exact dj a z (List.mem_append_left _ (afe a List.mem_cons_self))
        have kp : ∀ b zs, b ∈ f ++ fm → H2 b = some zs → upd H2 a (.lst (vs.set d y)) b = some zs := fun b zs hb q => by
          rw [upd_ne fun z => na (by rw [← z]; exact hb)]; exact q
        obtain ⟨f', h1, h2, h3⟩ := Reps.set (ry.ext ex (Pre.refl _) fun b zs hb => kp b zs (List.mem_append_right _ hb)) (rs.ext ex (Pre.refl _) fun b zs hb => kp b zs (List.mem_append_left _ hb)) ndf (ixN_lt hd)
        have rr : Rep T φ2 (upd H2 a (.lst (vs.set d y))) (.ref a) (.lst (ms.set d m)) (a :: f') := .lst upd_same h1
        have hsub : ∀ b ∈ a :: f', b ∈ (a :: f) ++ fm := fun b hb => by
          rcases List.mem_cons.mp hb with z | z
          · rw [z]; exact List.mem_append_left _ List.mem_cons_self
          · rcases List.mem_append.mp (h2 b z) with z | z
            · exact List.mem_append_right _ z
            · exact List.mem_append_left _ (List.mem_cons_of_mem _ z)
        have nf : (a :: f').Nodup := List.nodup_cons.mpr ⟨fun z => na (by
          rcases List.mem_append.mp (h2 a z) with z | z
          · exact List.mem_append_right _ z
          · exact List.mem_append_left _ z), h3⟩
        obtain ⟨G3, A3⟩ := Good.wr (fm := fm) G2 e' List.mem_cons_self hH wr' rr hsub nf dj
        refine ⟨a, vs, kk, d, rfl, rfl, hH, by rw [rs.len]; exact hd, ?_⟩
        exact k.nx _ S2 σ _ φ2 _ fs2 q2 (A12.s.trans A3) G3
def fSet1 (i : Nat) (tj tk t : FE) : FS := fun P ρ S => t ρ S (fun m S1 => ∃ ms, ρ[i]? = some (some (.lst ms)) ∧ tj ρ S1 (fun mj S2 => ∃ kj c, mj = .dat (.int kj) ∧ ixN ms.length kj = some c ∧ ∃ ns, ms[c]? = some (.lst ns) ∧
  tk ρ S2 (fun mk S3 => ∃ kk d, mk = .dat (.int kk) ∧ ixN ns.length kk = some d ∧ P.nx (ρ.set i (some (.lst (ms.set c (.lst (ns.set d m)))))) S3) fun x S' => P.ex x ρ S') fun x S' => P.ex x ρ S') fun x S' => P.ex x ρ S'
theorem lSet1 {D : Ends} {σ : St} {H : Hp} {i : Nat} (hK : X.K = T.K) (h : LS T W (fSet1 i tj tk t) D σ H) : tAsg (LE T W t) (gSub (tOp (rIx X.K) (tVar i) (LB T W tj)) (LB T W tk) rSetL) D σ H := by
  obtain ⟨ρ, S, φ, fe, fs, P, G, w, k⟩ := h
  refine ⟨ρ, S, φ, fe, fs, _, _, G, w, k.wx G, fun m S1 y H1 φ1 fs1 fm q1 A1 r1 R1 => ?_⟩
  have G1 := A1.good G R1
  obtain ⟨ms, hm, q1⟩ := q1
  obtain ⟨v, g, f1, f2, hv, r, e, wr⟩ := G1.env.at' hm
  have k1 := k.aft ((A1.s (fe := fe)).sub fun a z => List.mem_append_right fm z)
  refine ⟨v, hv, ρ, S1, φ1, fe, fs1, _, _, G1, q1, k1.wx G1, fun mj S2 vj H2 φ2 fs2 fmj q2 A2 rj dj2 R2 => ?_⟩
  obtain ⟨kj, c, rfl, hc, ns, hns, q2⟩ := q2
  have G2 := A2.good G1 R2
  have k2 := k1.aft ((A2.s (fe := fe)).sub fun a z => z)
  cases rj with
  | dat rj =>
    cases rj with
    | int =>
      obtain ⟨v', g', f1', f2', hv', r', e', wr'⟩ := G2.env.at' hm
      rw [hv] at hv'
      cases hv'
      cases r' with
      | @lst a vs ms f hH rs =>
        obtain ⟨w2, g2, h21, h22, hw, rw2, ew, wrw⟩ := rs.at' hns
        rw [hK]
        refine .inl ⟨a, vs, kj, w2, rfl, rfl, SqL.of hH, by unfold atI; rw [rs.len, hc]; exact hw, ?_⟩
        refine ⟨ρ, S2, φ2, fe, fs2, _, _, G2, q2, k2.wx G2, fun m3 S3 v3 H3 φ3 fs3 fm3 q3 A3 r3 d3 R3 => ?_⟩
        obtain ⟨kk, d, rfl, hd, q3⟩ := q3
        have G3 := A3.good G2 R3
        have ry := (A2.trans A3).rep R1 r1 A1.disj
        have A13 := A1.both (A2.trans A3) r1.own'
        rw [List.append_nil] at A13
        cases r3 with
        | dat r3 =>
          cases r3 with
          | int =>
            obtain ⟨v'', g'', f1'', f2'', hv'', r'', e'', wr''⟩ := G3.env.at' hm
            rw [hv] at hv''
            cases hv''
            cases r'' with
            | @lst a' vs3 ms3 f3 hH3 rs3 =>
              have hHa : H3 a = some (.lst vs) := A3.keep a _ (G2.disj a (by rw [e']; exact List.mem_append_right _ (List.mem_append_left _ List.mem_cons_self))) hH
              rw [hHa] at hH3
              cases hH3
              obtain ⟨w3, g3, h31, h32, hw3, rw3, ew3, wrw3⟩ := rs3.at' hns
              rw [hw] at hw3
              cases hw3
              cases rw3 with
              | @lst b us ns fb hHb rsb =>
                have ap := A13.apart G.disj (fun b hb => by obtain ⟨zs, q, _⟩ := G.env.own b hb; rw [q]; exact fun z => nomatch z)
                have dj : ∀ b ∈ fm, b ∉ fe ++ (fs3 ++ φ3.ads) := fun b hb hc => by
                  rcases List.mem_append.mp hc with hc | hc
                  · exact ap b hc (List.mem_append_left _ hb)
                  · exact A13.disj b hb hc
                have nde := (List.nodup_append.mp G3.nd).1
                have n1 := List.nodup_append.mp (e'' ▸ nde)
                have n2 := (List.nodup_append.mp n1.2.1).1
                have afe : ∀ b ∈ a :: f3, b ∈ fe := fun b hb => by rw [e'']; exact List.mem_append_right _ (List.mem_append_left _ hb)
                have nda := List.nodup_cons.mp n2
                have n3 := List.nodup_append.mp (ew3 ▸ nda.2)
                have n4 := List.nodup_append.mp n3.2.1
                have ndb := List.nodup_cons.mp n4.1
                have bf3 : ∀ z ∈ b :: fb, z ∈ f3 := fun z hz => by rw [ew3]; exact List.mem_append_right _ (List.mem_append_left _ hz)
                have ndf : (fm ++ fb).Nodup := List.nodup_append.mpr ⟨(List.nodup_append.mp A1.nd).1, ndb.2, fun p hp q hq z => by
                  subst z
                  exact dj p hp (List.mem_append_left _ (afe p (List.mem_cons_of_mem _ (bf3 p (List.mem_cons_of_mem _ hq)))))⟩
                have ex : Ext H3 (upd H3 b (.lst (us.set d y))) := upd_ext hHb
                have nb : b ∉ fb ++ fm := fun z => by
                  rcases List.mem_append.mp z with z | z
                  · exact ndb.1 z
                  · exact dj b z (List.mem_append_left _ (afe b (List.mem_cons_of_mem _ (bf3 b List.mem_cons_self))))
                have kp : ∀ p zs, p ≠ b → H3 p = some zs → upd H3 b (.lst (us.set d y)) p = some zs := fun p zs hp q => by rw [upd_ne hp]; exact q
                obtain ⟨f', h1, h2, h3⟩ := Reps.set (ry.ext ex (Pre.refl _) fun p zs hp => kp p zs fun z => nb (by rw [← z]; exact List.mem_append_right _ hp)) (rsb.ext ex (Pre.refl _) fun p zs hp => kp p zs fun z => nb (by rw [← z]; exact List.mem_append_left _ hp)) ndf (ixN_lt hd)
                have rrb : Rep T φ3 (upd H3 b (.lst (us.set d y))) (.ref b) (.lst (ns.set d m)) (b :: f') := .lst upd_same h1
                have nbf : b ∉ f' := fun z => nb (by
                  rcases List.mem_append.mp (h2 b z) with z | z
                  · exact List.mem_append_right _ z
                  · exact List.mem_append_left _ z)
                have rra := wrw3 φ3 _ (.lst (ns.set d m)) (b :: f') ex (Pre.refl _) (fun p zs hp => kp p zs fun z => by
                  subst z
                  rcases List.mem_append.mp hp with hp | hp
                  · exact n3.2.2 p hp p (List.mem_append_left _ List.mem_cons_self) rfl
                  · exact n4.2.2 p List.mem_cons_self p hp rfl) rrb
                have nab : a ≠ b := fun z => nda.1 (by rw [z]; exact bf3 b List.mem_cons_self)
                have rr : Rep T φ3 (upd H3 b (.lst (us.set d y))) (.ref a) (.lst (ms.set c (.lst (ns.set d m)))) (a :: (h31 ++ ((b :: f') ++ h32))) := .lst (by rw [upd_ne nab]; exact hHa) rra
                have fsub : ∀ p ∈ f', p ∈ fb ++ fm := fun p hp => by
                  rcases List.mem_append.mp (h2 p hp) with z | z
                  · exact List.mem_append_right _ z
                  · exact List.mem_append_left _ z
                have hsub : ∀ p ∈ a :: (h31 ++ ((b :: f') ++ h32)), p ∈ (a :: f3) ++ fm := fun p hp => by
                  rw [ew3]
                  simp only [List.mem_cons, List.mem_append] at hp ⊢
                  rcases hp with z | z | (z | z) | z
                  · exact .inl (.inl z)
                  · exact .inl (.inr (.inl z))
                  · exact .inl (.inr (.inr (.inl (.inl z))))
                  · rcases List.mem_append.mp (fsub p z) with z | z
                    · exact .inl (.inr (.inr (.inl (.inr z))))
                    · exact .inr z
                  · exact .inl (.inr (.inr (.inr z)))
                have fmf : ∀ p ∈ fm, p ∉ a :: f3 := fun p hp z => dj p hp (List.mem_append_left _ (afe p z))
                have nf : (a :: (h31 ++ ((b :: f') ++ h32))).Nodup := by
                  have in3 : ∀ p, p ∈ h31 ∨ p ∈ h32 → p ∈ f3 := fun p hp => by
                    rw [ew3]
                    rcases hp with z | z
                    · exact List.mem_append_left _ z
                    · exact List.mem_append_right _ (List.mem_append_right _ z)
                  refine List.nodup_cons.mpr ⟨fun z => ?_, List.nodup_append.mpr ⟨n3.1, List.nodup_append.mpr ⟨List.nodup_cons.mpr ⟨nbf, h3⟩, n4.2.1, fun p hp q hq z => ?_⟩, fun p hp q hq z => ?_⟩⟩
                  · rcases List.mem_append.mp z with z | z
                    · exact nda.1 (in3 a (.inl z))
                    · rcases List.mem_append.mp z with z | z
                      · rcases List.mem_cons.mp z with z | z
                        · exact nab z
                        · rcases List.mem_append.mp (fsub a z) with z | z
                          · exact nda.1 (bf3 a (List.mem_cons_of_mem _ z))
                          · exact fmf a z List.mem_cons_self
                      · exact nda.1 (in3 a (.inr z))
                  · subst z
                    rcases List.mem_cons.mp hp with z | z
                    · exact n4.2.2 p (by rw [z]; exact List.mem_cons_self) p hq rfl
                    · rcases List.mem_append.mp (fsub p z) with z | z
                      · exact n4.2.2 p (List.mem_cons_of_mem _ z) p hq rfl
                      · exact fmf p z (List.mem_cons_of_mem _ (in3 p (.inr hq)))
                  · subst z
                    rcases List.mem_append.mp hq with hq | hq
                    · rcases List.mem_cons.mp hq with z | z
                      · exact n3.2.2 p hp p (List.mem_append_left _ (by rw [z]; exact List.mem_cons_self)) rfl
                      · rcases List.mem_append.mp (fsub p z) with z | z
                        · exact n3.2.2 p hp p (List.mem_append_left _ (List.mem_cons_of_mem _ z)) rfl
                        · exact fmf p z (List.mem_cons_of_mem _ (in3 p (.inl hp)))
                    · exact n3.2.2 p hp p (List.mem_append_right _ hq) rfl
                obtain ⟨G4, A4⟩ := Good.wr (fm := fm) G3 e'' (List.mem_cons_of_mem _ (bf3 b List.mem_cons_self)) hHb wr'' rr hsub nf dj
                refine ⟨b, us, kk, d, rfl, rfl, hHb, by rw [rsb.len]; exact hd, ?_⟩
                exact k.nx _ S3 σ _ φ3 _ fs3 q3 (A13.s.trans A4) G4
theorem fs_set0 {i : Nat} {ex ek : Expr} {p1 : Pos} (he : PE X e (LE T W t)) (hx : PE X ex (tVar i)) (hk : PE X ek (LB T W tk)) (hs : swapsWithSole [.Subscript ex ek p1] e pos.line X.env = pure false := by rfl) (hw : swappedStores [.Subscript ex ek p1] e X.env = pure none := by rfl)
    (h1 : (assignEach [.Subscript ex ek p1] X.env).map (·.2) = [assign (.Subscript ex ek p1) X.env] := by rfl)
    (ha : ∀ v, assign (.Subscript ex ek p1) X.env v = (do
      let ov ← holding [v] (eval ex X.env)
      let iv ← holding [v, ov] (eval ek X.env)
      standAt p1
      holding [v, ov, iv] (setItem ov iv v)
      release [v, ov, iv] []) := by intro _; rfl) : PS X (.Assign [.Subscript ex ek p1] e pos) (LS T W (fSet0 i tk t)) :=
  PS.weak (ps_asg he (pg_sub hx hk set_list ha) hs hw h1) fun D σ H h => lSet0 h
theorem fs_set1 {i : Nat} {ex ek : Expr} {p1 p2 : Pos} (hK : X.K = T.K) (he : PE X e (LE T W t)) (hx : PE X ex (tVar i)) (hj : PE X ej (LB T W tj)) (hsj : PlainIx ej) (hk : PE X ek (LB T W tk)) (hs : swapsWithSole [.Subscript (.Subscript ex ej p2) ek p1] e pos.line X.env = pure false := by rfl) (hw : swappedStores [.Subscript (.Subscript ex ej p2) ek p1] e X.env = pure none := by rfl)
    (h1 : (assignEach [.Subscript (.Subscript ex ej p2) ek p1] X.env).map (·.2) = [assign (.Subscript (.Subscript ex ej p2) ek p1) X.env] := by rfl)
    (ha : ∀ v, assign (.Subscript (.Subscript ex ej p2) ek p1) X.env v = (do
      let ov ← holding [v] (eval (.Subscript ex ej p2) X.env)
      let iv ← holding [v, ov] (eval ek X.env)
      standAt p1
      holding [v, ov, iv] (setItem ov iv v)
      release [v, ov, iv] []) := by intro _; rfl) : PS X (.Assign [.Subscript (.Subscript ex ej p2) ek p1] e pos) (LS T W (fSet1 i tj tk t)) :=
  PS.weak (ps_asg he (pg_sub (pe_ix ix_seq hx hj hsj) hk set_list ha) hs hw h1) fun D σ H h => lSet1 hK h
end
end L2.Fn
/-! Fn, part H: defs as they are called; what the top's names hold. -/
namespace L2.Fn
open PySem PySem.Spec PyProof.Rows

/-- the def x of the text may be called: its level, its parameters, its reading -/
def Cal (P : Program) (w : World) (K : PySem.W.Frag) (mg : Str → Option Value) (base : Heap) (x : Str) (lvl : Nat) (ps : List Str) (wf : FF) : Prop :=
  ∃ (f : Addr) (fd : FuncData), FnOk P w K mg base (L2N.CX P w) lvl f fd ps (LF ⟨K, mg, w⟩ wf) ∧ mg x = some (.ref f) ∧ PySem.W.keepIn K (.ref f) = true ∧ Binds K fd ps []
/-- where a def stands -/
def DefAt (K : PySem.W.Frag) (mg : Str → Option Value) (x : Str) (st : Stmt) (ps : List Str) : Prop :=
  ∃ (f : Addr) (fd : FuncData), Fun K x x st f fd ∧ mg x = some (.ref f) ∧ Binds K fd ps []
/-- what a name of the top holds -/
def GlobD (T : Top) (x : Str) (d : D) : Prop := ∃ v u, T.mg x = some u ∧ RelV v u ∧ ∀ φ H, FD T φ H v d
theorem FD.str' {T : Top} {φ : Ob} {H : Hp} {x : Str} {s : List Nat} (h : x = ⟨s.toArray⟩) : FD T φ H (.str x) (.str s) := by rw [h]; exact .str s
theorem cal_mk {P : Program} {w : World} {K : PySem.W.Frag} {mg : Str → Option Value} {base : Heap} {x : Str} {st : Stmt} {N ps : List Str} {k : Nat} {r : FS} (F : DefAt K mg x st ps) (S : FnScope N ps (defScope st))
    (hb : ∀ (f : Addr) (cdv : Value) (A : Around) (outer : List Env) (s : Shared) (H : Hp) (E : XK), Room k (A.deeper (envOfC x (defScope st) s.heap.objs.size f cdv)) →
      PSs (cxOf (L2N.CX P w) P w K mg base N x (defScope st) f cdv A outer s H E) (defBody st) (LS ⟨K, mg, w⟩ (fun c d _ H' => E c d H') r)) : Cal P w K mg base x (k + 1) ps (mkW N.length ps.length r) := by
  obtain ⟨f, fd, F, hm, b⟩ := F
  exact ⟨f, fd, fn_ok F S (hb f), hm, F.kp, b⟩
section
variable {X : Cx} {W : WX} {e : Expr} {pos p : Pos} {es : List Expr} {x : Str} {k : Nat} {ps : List Str} {wf : FF} {u : FA}
theorem fe_cal (C : Cal X.prog X.w X.K X.mg X.base x k ps wf) (hr : Room k X.A) (hg : Gl X x) (tk : L2N.Takes X W) (ha : PA X (e :: es) (LAB ⟨X.K, X.mg, X.w⟩ W u)) (hdb : (x == ("__debug__" : Str)) = false := by decide)
    (he : starEach (e :: es) X.env = (false, eval e X.env) :: starEach es X.env := by rfl) (hpl : (backTo pos (starEach es X.env)).any (·.1) = false := by rfl) : PE X (.Call (.Name x p) (e :: es) [] pos) (LE ⟨X.K, X.mg, X.w⟩ W (fCall wf u)) := by
  obtain ⟨f, fd, F, hm, hk, hb⟩ := C
  exact fe_call F hr hg hm hk hb tk ha hdb he hpl
theorem fe_cal0 (C : Cal X.prog X.w X.K X.mg X.base x k ps wf) (hr : Room k X.A) (hg : Gl X x) (tk : L2N.Takes X W) (hdb : (x == ("__debug__" : Str)) = false := by decide) : PE X (.Call (.Name x p) [] [] pos) (LE ⟨X.K, X.mg, X.w⟩ W (fCall wf fNil)) := by
  obtain ⟨f, fd, F, hm, hk, hb⟩ := C
  have h : PE X (.Call (.Name x p) [] [] pos) (tCallS (LF ⟨X.K, X.mg, X.w⟩ wf) (WE W) tNil) := by
    refine ⟨fun pins s σ H Q I h => ?_⟩
    refine wpAny_Call_Name_kw (ld_glob I hg hm ?_ hdb)
    exact PySem.W.callWith_K0 I.kIn hk (run_fnS (us := []) F hr hb (L2N.passAt tk σ) I .nil h)
  refine PE.weak h fun σ H Q ⟨ρ, S, φ, fe, fs, E, Qm, G, ⟨ds, e, w⟩, hx, k⟩ => ?_
  have e1 : ds = [] := by cases ds with
    | nil => rfl
    | cons d ds => cases e
  subst e1
  exact ⟨[], S, φ, fs, E, Qm, .nil, G.sto, G.ndS, w, fun y S' c d H' φ' fs' z A2 rx R2 => hx y S' c d H' φ' fs' z A2 rx R2, fun m S2 v H2 φ2 fs2 fm q A2 r R2 => k m S2 v H2 φ2 fs2 fm q A2 r R2⟩
theorem fe_glob {d : D} (h : GlobD ⟨X.K, X.mg, X.w⟩ x d) (hg : Gl X x) (hd : (x == ("__debug__" : Str)) = false := by decide) : PE X (.Name x pos) (LE ⟨X.K, X.mg, X.w⟩ W (fC d)) := by
  obtain ⟨v, u, hm, r, q⟩ := h
  exact fe_c (pe_glob hg hm r hd) q
end
/-! ### the law's end -/
theorem NoLists.of {K : PySem.W.Frag} (h : (K.all fun p => match p.2.cls with
    | .type n => n != "list"
    | _ => true) = true) : NoLists K := fun a o e hc => by
  have mem : (a, o) ∈ K := by
    have : ∀ (l : List (Addr × Obj)), l.lookup a = some o → (a, o) ∈ l := by
      intro l
      induction l with
      | nil => intro h; cases h
      | cons p l ih =>
        intro h
        obtain ⟨b, u⟩ := p
        rw [List.lookup_cons] at h
        by_cases q : a = b
        · subst q
          simp at h
          subst h
          exact List.mem_cons_self
        · have : (a == b) = false := by simpa using q
          rw [this] at h
          exact List.mem_cons_of_mem _ (ih h)
    exact this K e
  have := List.all_eq_true.mp h _ mem
  simp [hc] at this
theorem law_S {K : PySem.W.Frag} {mg : Str → Option Value} {w : World} {wf : FF} {n : Nat} (h : ∀ ns : List Int, ns.length ≤ n → wf [.lst (ns.map .int)] [] (fun m _ => m = .dat (.bl true)) fun _ _ => False)
    (H : Hp) (a : Addr) (ns : List Int) (hl : ns.length ≤ n) (hO : Only H) (hS : SqL K H a (ns.map V.int)) : LF ⟨K, mg, w⟩ wf [.ref a] H (fun v _ => v = .bl true) fun _ _ _ => False := by
  have fz : FzL ⟨K, mg, w⟩ H a (ns.map V.int) := by
    rcases hS with (hS | ⟨o, hS⟩) | hS
    · rcases hO a with q | ⟨_, _, q⟩ <;> rw [hS] at q <;> cases q
    · exact .inl ⟨o, hS⟩
    · exact .inr hS
  have fd : ∀ l : List Int, FDs ⟨K, mg, w⟩ [] H (l.map V.int) (l.map D.int) := by
    intro l
    induction l with
    | nil => exact .nil
    | cons x l ih => exact .cons (.int x) ih
  refine ⟨[.lst (ns.map .int)], [], [], [], _, _, .cons (.lst fz (fd ns)) .nil, .nil, List.nodup_nil, h ns hl, fun _ _ _ _ _ _ _ z => z.elim, fun m S' v H' φ' fs' fm q A r R => ?_⟩
  subst q
  cases r with
  | dat r =>
    cases r
    rfl
/-- the law's promise, whatever the top's names hold -/
def LFa (K : PySem.W.Frag) (wf : FF) : Sp := fun vs H Q E => ∀ (mg : Str → Option Value) (w : World), LF ⟨K, mg, w⟩ wf vs H Q E
theorem law_C {P : Program} {w : World} {H : Hp} {s : Shared} {e : Value} {s' : Shared} (h : L2N.CX P w [] H s (fun _ _ _ => False) e s') : False := by
  obtain ⟨_, _, _, _, _, _, _, _, _, _, _, _, z⟩ := h
  exact z.elim
/-- the law's row from its def's promise: sp hangs on the written part alone, errors leave as CX tells -/
theorem row_of {l : PySem.W.OpenLaw} {n k : Nat} {q : Program} {lo : List Str} {XP : (Str → Option Value) → Heap → Prop} {YP : World → Heap → Prop} {d : DefRec} {K : Params → PySem.W.Frag} {sp : PySem.W.Frag → Sp} {x : Str}
    (h1 : l.most = some n) (h2 : n ≤ sizeLine) (h3 : d.params.defaults = []) (h4 : Room k callerA)
    (h5 : ∀ (w : World) (h : Heap), YP w h → (K w.params).In h)
    (F : ∀ (w : World) (mg : Str → Option Value) (fa : Addr) (h : Heap), (K w.params).In h → h.Ns mainGlobals mg → mg d.name = some (.ref fa) → ∃ fd : FuncData, (∀ (s : Shared) (u : Value), BindsTo s fd ⟨[u], []⟩ [(x, u)]) ∧
        ∀ base : Heap, (K w.params).In base → base.Ns mainGlobals mg → FnOk l.prog w (K w.params) mg base (L2N.CX l.prog w) k fa fd [x] (sp (K w.params)))
    (S : ∀ (K : PySem.W.Frag) (H : Hp) (a : Addr) (ns : List Int), ns.length ≤ n → Only H → SqL K H a (ns.map V.int) → sp K [.ref a] H (fun v _ => v = .bl true) fun _ _ _ => False) :
    PySem.W.WalkO q lo XP YP l.row.toRowW d [] (fun f vs => PySem.call f vs) :=
  walk_of (K := K) (CX := fun w => L2N.CX l.prog w) (sp := fun w => sp (K w.params)) h1 h2 h3 h4 h5 F (fun w H a ns e1 e2 e3 => S (K w.params) H a ns e1 e2 e3) fun _ _ _ _ _ h => law_C h
end L2.Fn
/-! Fn, part P: tools for the readings, in plain Lean. -/
namespace L2.Fn
open PySem

theorem forW_by {g : FG} {b : FS} {P : EndP} {ds : List D} {ρ : Ev} {S : Sto} (I : List D → Ev → Sto → Prop) (h0 : I ds ρ S) (hd : ∀ ρ S, I [] ρ S → P.nx ρ S)
    (hs : ∀ d ds ρ S, (∀ ρ' S', I ds ρ' S' → forW g b P ds ρ' S') → I (d :: ds) ρ S → g (.dat d) ρ fun ρ1 => b { P with nx := forW g b P ds, ct := forW g b P ds, bk := P.nx } ρ1 S) : forW g b P ds ρ S := by
  induction ds generalizing ρ S with
  | nil => exact hd ρ S h0
  | cons d ds ih => exact hs d ds ρ S (fun ρ' S' h => ih h) h0
theorem compW_by {g : FG} {c : FT} {t : FE} {vs : List Nat} {ρ : Ev} {Q : WP} {ds : List D} {acc : List M} {S : Sto} (I : List D → List M → Sto → Prop) (h0 : I ds acc S) (hd : ∀ acc S, I [] acc S → Q (.lst acc) S)
    (hs : ∀ d ds acc S, (∀ acc' S', I ds acc' S' → compW g c t vs ρ Q ds acc' S') → I (d :: ds) acc S → g (.dat d) (wipeE ρ vs) fun ρ1 => c ρ1 S (fun b S2 => if b = true then t ρ1 S2 (fun m S3 => acc.length < sizeLine ∧ compW g c t vs ρ Q ds (acc ++ [m]) S3) noX else compW g c t vs ρ Q ds acc S2) noX) :
    compW g c t vs ρ Q ds acc S := by
  induction ds generalizing acc S with
  | nil => exact hd acc S h0
  | cons d ds ih => exact hs d ds acc S (fun acc' S' h => ih h) h0
theorem ex_nil {p : List D → Prop} : (∃ ds, [] = List.map M.dat ds ∧ p ds) ↔ p [] := by
  constructor
  · rintro ⟨ds, e, h⟩
    cases ds with
    | nil => exact h
    | cons => cases e
  · exact fun h => ⟨[], rfl, h⟩
theorem ex_cons {a : D} {l : List M} {p : List D → Prop} : (∃ ds, M.dat a :: l = List.map M.dat ds ∧ p ds) ↔ ∃ ds, l = List.map M.dat ds ∧ p (a :: ds) := by
  constructor
  · rintro ⟨ds, e, h⟩
    cases ds with
    | nil => cases e
    | cons d ds =>
      injection e with e1 e2
      injection e1 with e1
      subst e1
      exact ⟨ds, e2, h⟩
  · rintro ⟨ds, e, h⟩
    exact ⟨a :: ds, by rw [e]; rfl, h⟩
theorem map_dat_inj : ∀ {a b : List D}, a.map M.dat = b.map M.dat → a = b
  | [], [], _ => rfl
  | [], _ :: _, h => by cases h
  | _ :: _, [], h => by cases h
  | x :: a, y :: b, h => by injection h with h1 h2; injection h1 with h1; rw [h1, map_dat_inj h2]
theorem ex_map {l : List D} {p : List D → Prop} : (∃ ds, List.map M.dat l = List.map M.dat ds ∧ p ds) ↔ p l := ⟨fun ⟨ds, e, h⟩ => by rw [map_dat_inj e]; exact h, fun h => ⟨l, rfl, h⟩⟩
theorem toD_lst (l : List D) : (M.lst (l.map M.dat)).toD = .lst l := by rw [M.toD, M.toDs_dat]
theorem toD_dat (d : D) : (M.dat d).toD = d := rfl
theorem dats_nil : dats [] = some [] := rfl
theorem dats_cons (d : D) (r : List M) : dats (.dat d :: r) = (dats r).map (d :: ·) := rfl
theorem ld_l (l : List M) : (M.lst l).ld = dats l := rfl
theorem ex_some {α : Type} {a : α} {p : α → Prop} : (∃ x, some a = some x ∧ p x) ↔ p a := ⟨fun ⟨x, e, h⟩ => by cases e; exact h, fun h => ⟨a, rfl, h⟩⟩
theorem ex_eq {α : Type} {a : α} {p : α → Prop} : (∃ x, a = x ∧ p x) ↔ p a := ⟨fun ⟨x, e, h⟩ => by cases e; exact h, fun h => ⟨a, rfl, h⟩⟩
theorem atI_n {α : Type} {xs : List α} {j : Nat} {v : α} (h : xs[j]? = some v) : atI xs (j : Int) = some v := atI_nat h
theorem atI_i {α : Type} {xs : List α} {i : Int} {v : α} (h0 : 0 ≤ i) (h : xs[i.toNat]? = some v) : atI xs i = some v := by
  have := atI_nat h
  rwa [Int.toNat_of_nonneg h0] at this
theorem small_line {n : Nat} (h : n ≤ 16000000) : n ≤ sizeLine := Nat.le_trans h (by decide)
theorem small_line' {n : Nat} (h : n ≤ 16000000) : n < sizeLine := Nat.lt_of_le_of_lt h (by decide)
theorem cmul {i j : Int} (h1 : i.natAbs < 2 ^ 200) (h2 : j.natAbs < 2 ^ 200) : CMulW i j := wide_mul h1 h2 (by decide) (by decide) (by decide)
theorem nat_big {i : Int} (h0 : -(10 ^ 40) < i) (h : i < 10 ^ 40) : i.natAbs < 2 ^ 200 := by
  have : i.natAbs < 10 ^ 40 := by omega
  exact Nat.lt_of_lt_of_le this (by decide)
theorem cmulS {i j : Int} (h1 : -(10 ^ 40) < i) (h2 : i < 10 ^ 40) (h3 : -(10 ^ 40) < j) (h4 : j < 10 ^ 40) : CMulW i j := cmul (nat_big h1 h2) (nat_big h3 h4)
theorem kitI {b : Bool} {a n : String} (h : kitB a n = some b) {p : Bool → Prop} : (∃ c, kitB a n = some c ∧ p c) ↔ p b := ⟨fun ⟨c, e, q⟩ => by rw [h] at e; cases e; exact q, fun q => ⟨b, h, q⟩⟩
theorem isi_int_int : kitB "int" "int" = some true := by decide +kernel
theorem isi_int_bool : kitB "int" "bool" = some false := by decide +kernel
theorem isi_str_str : kitB "str" "str" = some true := by decide +kernel
theorem isi_tup_tup : kitB "tuple" "tuple" = some true := by decide +kernel
theorem isi_str_tup : kitB "str" "tuple" = some false := by decide +kernel
theorem isi_int_tup : kitB "int" "tuple" = some false := by decide +kernel
theorem isi_int_str : kitB "int" "str" = some false := by decide +kernel
theorem isi_bool_int : kitB "bool" "int" = some true := by decide +kernel
theorem isi_bool_bool : kitB "bool" "bool" = some true := by decide +kernel
theorem isi_str_int : kitB "str" "int" = some false := by decide +kernel
theorem isi_str_bool : kitB "str" "bool" = some false := by decide +kernel
theorem isi_tup_str : kitB "tuple" "str" = some false := by decide +kernel
theorem isi_tup_int : kitB "tuple" "int" = some false := by decide +kernel
theorem isi_tup_bool : kitB "tuple" "bool" = some false := by decide +kernel
/-- texts of one sign each -/
theorem signs_of (cs : List Nat) : textsOf (cs.map fun c => D.str [c]) = some (cs.map fun c => [c]) := by
  induction cs with
  | nil => rfl
  | cons c cs ih => rw [List.map_cons, textsOf, ih]; rfl
theorem sum_ones (cs : List Nat) : ((cs.map fun c => [c]).map List.length).sum = cs.length := by
  induction cs with
  | nil => rfl
  | cons c cs ih => simp at ih ⊢; omega
theorem joinL_signs : ∀ cs : List Nat, TL.joinL [] (cs.map fun c => [c]) = cs
  | [] => rfl
  | [c] => rfl
  | c :: d :: r => by
    have := joinL_signs (d :: r)
    simp [TL.joinL] at this ⊢
    exact this
theorem join_signs {cs : List Nat} {Q : M → Prop} (hl : cs.length ≤ 16000000) (h : Q (.dat (.str cs))) : oJoin [] [.lst ((cs.map fun c => D.str [c]).map M.dat)] Q :=
  ⟨_, ld_lst _, _, signs_of cs, by rw [sum_ones]; simp; omega, by rw [joinL_signs]; exact h⟩
theorem joinL_flat : ∀ ps : List (List Nat), TL.joinL [] ps = ps.flatten
  | [] => rfl
  | [p] => by simp [TL.joinL]
  | p :: q :: r => by
    have := joinL_flat (q :: r)
    simp [TL.joinL] at this ⊢
    exact this
theorem texts_of (ps : List (List Nat)) : textsOf (ps.map D.str) = some ps := by
  induction ps with
  | nil => rfl
  | cons c cs ih => rw [List.map_cons, textsOf, ih]; rfl
theorem join_texts {ps : List (List Nat)} {Q : M → Prop} (hl : ps.flatten.length ≤ 16000000) (h : Q (.dat (.str ps.flatten))) : oJoin [] [.lst ((ps.map D.str).map M.dat)] Q :=
  ⟨_, ld_lst _, _, texts_of ps, by rw [← List.length_flatten]; simp at hl ⊢; omega, by rw [joinL_flat]; exact h⟩
/-- an item of a list of ints, of a text -/
theorem int_at {ds : List Int} {i : Int} (h0 : 0 ≤ i) (h1 : i < ds.length) : atI (ds.map D.int) i = some (.int ds[i.toNat]!) := by
  have hlt : i.toNat < ds.length := by omega
  exact atI_i h0 (by rw [List.getElem?_map, List.getElem?_eq_getElem hlt]; simp [hlt])
theorem get_of {ds : List Int} {p : Int → Prop} (h : ∀ d ∈ ds, p d) {j : Nat} (hj : j < ds.length) : p ds[j]! := by
  have : ds[j]! = ds[j] := by simp [hj]
  rw [this]
  exact h _ (List.getElem_mem hj)
theorem sign_at {s : List Nat} {i : Int} (h0 : 0 ≤ i) (h1 : i < s.length) : ∃ c, atI s i = some c := ⟨s[i.toNat]'(by omega), atI_i h0 (List.getElem?_eq_getElem _)⟩
/-- the walk over a range: behind k turns -/
theorem rng_step {lo : Int} {n k : Nat} {d : D} {l : List D} (e : d :: l = (rng lo n).drop k) : k < n ∧ d = .int (lo + k) ∧ l = (rng lo n).drop (k + 1) := by
  have hlt : k < n := by
    have := congrArg List.length e
    simp [rng] at this
    omega
  rw [List.drop_eq_getElem_cons (by simpa [rng] using hlt)] at e
  injection e with e1 e2
  exact ⟨hlt, by rw [e1]; simp [rng], e2⟩
theorem rng_end {lo : Int} {n k : Nat} (hk : k ≤ n) (e : [] = (rng lo n).drop k) : k = n := by
  have := congrArg List.length e
  simp [rng] at this
  omega
/-! ### slices and items by numbers -/
theorem atI_0 {α : Type} (xs : List α) : atI xs (0 : Int) = xs[0]? := by
  cases xs with
  | nil => rfl
  | cons x l => exact atI_n (j := 0) rfl
theorem atI_nat' {α : Type} (xs : List α) (n : Nat) : atI xs (n : Int) = xs[n]? := by
  cases h : xs[n]? with
  | some v => exact atI_n h
  | none =>
    have hn : xs.length ≤ n := List.getElem?_eq_none_iff.mp h
    unfold atI ixN
    rw [if_pos (by omega), if_neg (by omega)]
    rfl
theorem atI_1 {α : Type} (xs : List α) : atI xs (1 : Int) = xs[1]? := atI_nat' xs 1
theorem atI_2 {α : Type} (xs : List α) : atI xs (2 : Int) = xs[2]? := atI_nat' xs 2
theorem atI_3 {α : Type} (xs : List α) : atI xs (3 : Int) = xs[3]? := atI_nat' xs 3
theorem atI_4 {α : Type} (xs : List α) : atI xs (4 : Int) = xs[4]? := atI_nat' xs 4
theorem atI_5 {α : Type} (xs : List α) : atI xs (5 : Int) = xs[5]? := atI_nat' xs 5
theorem atI_6 {α : Type} (xs : List α) : atI xs (6 : Int) = xs[6]? := atI_nat' xs 6
theorem atI_7 {α : Type} (xs : List α) : atI xs (7 : Int) = xs[7]? := atI_nat' xs 7
theorem atI_mem {α : Type} {xs : List α} {i : Int} (h0 : 0 ≤ i) (h1 : i < xs.length) : ∃ x, atI xs i = some x ∧ x ∈ xs :=
  ⟨xs[i.toNat]'(by omega), atI_i h0 (List.getElem?_eq_getElem _), List.getElem_mem _⟩
theorem sIx_pos (n d : Nat) {i : Int} (h : 0 ≤ i) : HT.sIx n d (some i) = min i.toNat n := by
  have := HT.sIx_nat n d i.toNat
  rwa [Int.toNat_of_nonneg h] at this
theorem cut_from {α : Type} (xs : List α) {i : Int} (h : 0 ≤ i) : cutN xs (some i) none = xs.drop i.toNat := by
  unfold cutN
  rw [sIx_pos _ _ h, HT.sIx_none]
  by_cases hi : i.toNat ≤ xs.length
  · rw [Nat.min_eq_left hi, List.take_of_length_le (by rw [List.length_drop]; omega)]
  · rw [Nat.min_eq_right (by omega), List.drop_of_length_le (Nat.le_refl _), List.drop_of_length_le (by omega)]
    simp
theorem cut_mid {α : Type} (xs : List α) {i j : Int} (h : 0 ≤ i) (h' : 0 ≤ j) : cutN xs (some i) (some j) = (xs.take j.toNat).drop i.toNat := by
  unfold cutN
  rw [sIx_pos _ _ h, sIx_pos _ _ h']
  apply List.ext_getElem?
  intro k
  rw [List.getElem?_take, List.getElem?_drop, List.getElem?_drop, List.getElem?_take]
  by_cases h1 : i.toNat ≤ xs.length
  · rw [Nat.min_eq_left h1]
    by_cases h2 : k < min j.toNat xs.length - i.toNat
    · rw [if_pos h2, if_pos (by omega)]
    · rw [if_neg h2]
      by_cases h3 : i.toNat + k < j.toNat
      · rw [if_pos h3, List.getElem?_eq_none (by omega)]
      · rw [if_neg h3]
  · rw [if_neg (by omega)]
    by_cases h3 : i.toNat + k < j.toNat
    · rw [if_pos h3, List.getElem?_eq_none (by omega)]
    · rw [if_neg h3]
theorem toD_rows {α : Type} (g : α → List D) (l : List α) : (M.lst (l.map fun t => M.lst ((g t).map M.dat))).toD = .lst (l.map fun t => .lst (g t)) := by
  rw [M.toD, M.toDs_eq, List.map_map]
  congr 1
  exact List.map_congr_left fun t _ => toD_lst (g t)
theorem flat_one {α : Type} (n : Nat) (x : α) : (List.replicate n [x]).flatten = List.replicate n x := by
  induction n with
  | zero => rfl
  | succ n ih => rw [List.replicate_succ, List.flatten_cons, ih]; rfl
theorem map_rep_int (n : Nat) (z : Int) : List.replicate n (D.int z) = (List.replicate n z).map D.int := by simp
end L2.Fn
/-! Fn, part I0: dicts whose keys are nested tuples, over the objects. -/
namespace L2.Fn
open PySem PySem.Spec PyProof.Rows

mutual
inductive IsNK (H : Hp) : NK → V → Prop
  | i (n : Int) : IsNK H (.i n) (.int n)
  | s (x : List Nat) : IsNK H (.s x) (.str ⟨x.toArray⟩)
  | t {a : Addr} {vs : List V} {ks : List NK} : H a = some (.tup vs) → AreNK H ks vs → IsNK H (.t ks) (.ref a)
inductive AreNK (H : Hp) : List NK → List V → Prop
  | nil : AreNK H [] []
  | cons {k : NK} {v : V} {ks : List NK} {vs : List V} : IsNK H k v → AreNK H ks vs → AreNK H (k :: ks) (v :: vs)
end
section
variable {P : Program} {w : World} {H H' : Hp} {h : Heap}
mutual
theorem IsNK.tree (ok : HOk P w H h) : ∀ {k : NK} {v : V} {u : Value}, IsNK H k v → RelV v u → IsTree h k u
  | _, _, u, .i n, r => by
    obtain ⟨t, e⟩ := (show ∃ t, u = Value.int n t from r)
    subst e
    exact .i n t
  | _, _, u, .s x, r => by
    obtain ⟨t, e⟩ := (show ∃ t, u = Value.str ⟨x.toArray⟩ t from r)
    subst e
    exact .s x t
  | _, _, u, .t (a := a) (vs := vs) e q, r => by
    cases (show u = Value.ref a from r)
    obtain ⟨_, its, rv, o, h1, h2, n, h3⟩ := (show ObjOk P w H h a (.tup vs) from ok a _ e)
    exact .t ⟨o, h1, h2, n, h3⟩ (AreNK.trees ok q rv)
theorem AreNK.trees (ok : HOk P w H h) : ∀ {ks : List NK} {vs : List V} {us : List Value}, AreNK H ks vs → Vals vs us → AreTree h ks us
  | _, _, _, .nil, .nil => .nil
  | _, _, _, .cons p q, .cons r rs => .cons (IsNK.tree ok p r) (AreNK.trees ok q rs)
end
mutual
theorem IsNK.mono (ht : ∀ b xs, H b = some (.tup xs) → H' b = some (.tup xs)) : ∀ {k : NK} {v : V}, IsNK H k v → IsNK H' k v
  | _, _, .i n => .i n
  | _, _, .s x => .s x
  | _, _, .t e q => .t (ht _ _ e) (AreNK.mono ht q)
theorem AreNK.mono (ht : ∀ b xs, H b = some (.tup xs) → H' b = some (.tup xs)) : ∀ {ks : List NK} {vs : List V}, AreNK H ks vs → AreNK H' ks vs
  | _, _, .nil => .nil
  | _, _, .cons p q => .cons (IsNK.mono ht p) (AreNK.mono ht q)
end
/-! ### tables -/
abbrev NT : List (NK × Addr × V) → List (NK × Addr × Value) → Prop := Paired fun (p : NK × Addr × V) (q : NK × Addr × Value) => p.1 = q.1 ∧ p.2.1 = q.2.1 ∧ RelV p.2.2 q.2.2
def valN (kvs : List (NK × Addr × V)) (k : NK) : Option V := (kvs.find? fun x => decide (x.1 = k)).map (·.2.2)
def putN (kvs : List (NK × Addr × V)) (k : NK) (b : Addr) (v : V) : List (NK × Addr × V) :=
  if (kvs.any fun x => decide (x.1 = k)) = true then kvs.map (fun x => if x.1 = k then (x.1, x.2.1, v) else x) else kvs ++ [(k, b, v)]
theorem valN_pos {p : NK × Addr × V} {r : List (NK × Addr × V)} {k : NK} (e : p.1 = k) : valN (p :: r) k = some p.2.2 := by simp [valN, List.find?_cons, e]
theorem valN_neg {p : NK × Addr × V} {r : List (NK × Addr × V)} {k : NK} (e : ¬ p.1 = k) : valN (p :: r) k = valN r k := by simp [valN, List.find?_cons, e]
theorem valN_any (k : NK) : ∀ kvs : List (NK × Addr × V), (kvs.any fun x => decide (x.1 = k)) = (valN kvs k).isSome
  | [] => rfl
  | p :: r => by
    rw [List.any_cons]
    by_cases e : p.1 = k
    · simp only [valN_pos e, decide_eq_true e, Bool.true_or, Option.isSome_some]
    · rw [valN_neg e, decide_eq_false e, Bool.false_or]
      exact valN_any k r
theorem NT.val {kvs : List (NK × Addr × V)} {xs : List (NK × Addr × Value)} (r : NT kvs xs) (k : NK) : RelO (valN kvs k) ((atKey xs k).map (·.2)) := by
  induction r with
  | nil => exact True.intro
  | @cons p q ps qs h t ih =>
    obtain ⟨h1, _, h2⟩ := h
    by_cases e : p.1 = k
    · have e' : q.1 = k := h1.symm.trans e
      have b : atKey (q :: qs) k = some q.2 := by simp [atKey, List.find?_cons, e']
      rw [valN_pos e, b]
      exact h2
    · have e' : ¬ q.1 = k := fun z => e (h1.trans z)
      have b : atKey (q :: qs) k = atKey qs k := by simp [atKey, List.find?_cons, e']
      rw [valN_neg e, b]
      exact ih
theorem NT.repl {kvs : List (NK × Addr × V)} {xs : List (NK × Addr × Value)} (r : NT kvs xs) (k : NK) {y : V} {u : Value} (ry : RelV y u) :
    NT (kvs.map fun x => if x.1 = k then (x.1, x.2.1, y) else x) (xs.map (putAt k u)) := by
  induction r with
  | nil => exact .nil
  | @cons p q ps qs h t ih =>
    rw [List.map_cons, List.map_cons]
    refine .cons ?_ ih
    obtain ⟨h1, h2, h3⟩ := h
    unfold putAt
    by_cases e : p.1 = k
    · rw [if_pos e, if_pos (h1.symm.trans e)]
      exact ⟨h1, h2, ry⟩
    · rw [if_neg e, if_neg (fun z => e (h1.trans z))]
      exact ⟨h1, h2, h3⟩
theorem NT.put {kvs : List (NK × Addr × V)} {xs : List (NK × Addr × Value)} (r : NT kvs xs) (k : NK) (b : Addr) {y : V} {u : Value} (ry : RelV y u) : NT (putN kvs k b y) (storedH xs k b u) := by
  have e : (kvs.any fun x => decide (x.1 = k)) = (atKey xs k).isSome := by
    rw [valN_any, (r.val k).isSome_eq, Option.isSome_map]
  unfold putN storedH
  rw [e]
  by_cases q : (atKey xs k).isSome = true
  · rw [if_pos q, if_pos q]
    exact r.repl k ry
  · rw [if_neg q, if_neg q]
    exact Paired.snoc r ⟨rfl, rfl, ry⟩
theorem length_putN (kvs : List (NK × Addr × V)) (k : NK) (b : Addr) (v : V) : (putN kvs k b v).length ≤ kvs.length + 1 := by
  unfold putN
  split
  · rw [List.length_map]; omega
  · rw [List.length_append, List.length_cons, List.length_nil]; omega
theorem putN_mem {kvs : List (NK × Addr × V)} {k : NK} {b : Addr} {v : V} : ∀ x ∈ putN kvs k b v, (∃ y ∈ kvs, y.1 = x.1 ∧ y.2.1 = x.2.1) ∨ x = (k, b, v) := by
  intro x hx
  unfold putN at hx
  split at hx
  · obtain ⟨y, hy, e⟩ := List.mem_map.mp hx
    split at e
    · subst e; exact .inl ⟨y, hy, rfl, rfl⟩
    · subst e; exact .inl ⟨y, hy, rfl, rfl⟩
  · rcases List.mem_append.mp hx with h | h
    · exact .inl ⟨x, h, rfl, rfl⟩
    · exact .inr (List.mem_singleton.mp h)
/-- the keys are such, the tuples stand -/
def KeysN (H : Hp) (kvs : List (NK × Addr × V)) : Prop := ∀ x ∈ kvs, IsNK H x.1 (.ref x.2.1)
variable {a : Addr}
theorem dn_rd {kvs : List (NK × Addr × V)} (ok : HOk P w H h) (e : Rd H a (dN w a kvs)) (hk : KeysN H kvs) : kvs.length ≤ sizeLine ∧ (a == sysModules) = false ∧ (∀ x ∈ kvs, x.1.dep ≤ 8) ∧
    ∃ xs, NT kvs xs ∧ h.DictOfH (treeKind P w) a xs := by
  obtain ⟨⟨z, y, d8, xs, r, o, es, ep, h1, h2, h3, h4, h5⟩, _⟩ := (show ObjOk P w H h a (.ext (dNφ w a kvs)) from e.ok ok)
  refine ⟨z, y, d8, xs, r, o, es, ep, h1, h2, h3, h4, fun x hx => ?_, h5⟩
  have all : ∀ {l : List (NK × Addr × V)} {m : List (NK × Addr × Value)}, NT l m → (∀ x ∈ l, IsNK H x.1 (.ref x.2.1) ∧ x.1.dep ≤ 8) → ∀ x ∈ m, (treeKind P w).is h x.1 x.2.1 := by
    intro l m q
    induction q with
    | nil => intro _ x hx; exact nomatch hx
    | @cons p q ps qs hq t ih =>
      intro hl x hx
      rcases List.mem_cons.mp hx with e | hx
      · subst e
        obtain ⟨g1, g2⟩ := hl p List.mem_cons_self
        rw [← hq.1, ← hq.2.1]
        exact ⟨g1.tree ok rfl, g2⟩
      · exact ih (fun y hy => hl y (List.mem_cons_of_mem _ hy)) x hx
  exact all r (fun x hx => ⟨hk x hx, d8 x hx⟩) x hx
end
/-- what the dict at a holds at the key y -/
def DGetN (w : World) (H : Hp) (a : Addr) (y : V) (r : Option V) : Prop :=
  (∃ kvs k, Rd H a (.dK kvs) ∧ y = kV k ∧ r = valV kvs k) ∨ ∃ kvs k b, Rd H a (dN w a kvs) ∧ KeysN H kvs ∧ y = .ref b ∧ IsNK H k (.ref b) ∧ k.dep ≤ 8 ∧ r = valN kvs k
def DPutN (w : World) (H : Hp) (a : Addr) (y v : V) (H' : Hp) : Prop :=
  (∃ kvs k, H a = some (.dK kvs) ∧ y = kV k ∧ kvs.length < sizeLine ∧ H' = upd H a (.dK (putK kvs k v))) ∨
  ∃ kvs k b, H a = some (dN w a kvs) ∧ KeysN H kvs ∧ y = .ref b ∧ IsNK H k (.ref b) ∧ k.dep ≤ 8 ∧ kvs.length < sizeLine ∧ H' = upd H a (dN w a (putN kvs k b v))
def IsDN (w : World) (H : Hp) (a : Addr) : Prop := (∃ kvs, Rd H a (.dK kvs)) ∨ ∃ kvs, Rd H a (dN w a kvs)
section
variable {X : Cx} {pins : List (Addr × Obj)} {σ : St} {H : Hp} {s : Shared} {a : Addr} {y v d : V} {u r : Value} {o : Option V} {A : Around} {E : Value → Shared → Prop}
theorem tree_room (hu : A.units + 10 < cLine) : (treeKind X.prog X.w).room A.in1 := by
  show A.units + 1 + 8 < cLine
  omega
theorem isDN_at (I : Inv X pins σ H s) (d : IsDN X.w H a) : s.TypeIs (.ref a) "dict" ∧ (∀ b, Value.ref a = .ref b → ∃ ob, s.heap.get? b = some ob ∧ ob.dict = none) ∧ (a == sysModules) = false := by
  rcases d with ⟨kvs, e⟩ | ⟨kvs, e⟩
  · exact isD_at I (.inl ⟨kvs, e⟩)
  · obtain ⟨⟨z, y, d8, xs, r, o, es, ep, h1, h2, h3, h4, h5⟩, _⟩ := (show ObjOk X.prog X.w H s.heap a (.ext (dNφ X.w a kvs)) from e.ok I.hok)
    refine ⟨⟨o, h1, h2.1⟩, fun b q => ?_, y⟩
    cases q
    exact ⟨o, h1, h2.2.1⟩
theorem DGetN.is (g : DGetN X.w H a y o) : IsDN X.w H a := by
  rcases g with ⟨kvs, k, e, _⟩ | ⟨kvs, k, b, e, _⟩
  · exact .inl ⟨kvs, e⟩
  · exact .inr ⟨kvs, e⟩
theorem n_getItem {Q : Value → Shared → Prop} (hu : A.units + 10 < cLine) (I : Inv X pins σ H s) (g : DGetN X.w H a y (some v)) (ry : RelV y u) (h : ∀ w' s', Inv X pins σ H s' → RelV v w' → Q w' s') :
    wpAny (model X.prog X.w) A (getItem (.ref a) u) Q E s := by
  rcases g with ⟨kvs, k, e, ey, l⟩ | ⟨kvs, k, b, e, hk, ey, eb, d8, l⟩
  · exact d_getItem (by omega) I (.inl ⟨kvs, k, e, ey, l⟩) ry h
  · subst ey
    cases (show u = Value.ref b from ry)
    obtain ⟨z, hd, _, xs, rel, dd⟩ := dn_rd I.hok e hk
    obtain ⟨w', hw, rw'⟩ := RelO.some_of (v := v) (o := (atKey xs k).map (·.2)) (by rw [l]; exact rel.val k)
    obtain ⟨p, hp, hp2⟩ := Option.map_eq_some_iff.mp hw
    refine wpAny_getItem_heap (knd := treeKind X.prog X.w) (tree_room hu) ⟨eb.tree I.hok rfl, d8⟩ dd hp ?_
    rw [hp2]
    exact h w' _ (I.tok _) rw'
theorem n_in {Q : Value → Shared → Prop} (hu : A.units + 10 < cLine) (I : Inv X pins σ H s) (g : DGetN X.w H a y o) (ry : RelV y u) (h : ∀ s', Inv X pins σ H s' → Q (.bool o.isSome) s') :
    wpAny (model X.prog X.w) A (compareOp .In u (.ref a)) Q E s := by
  rcases g with ⟨kvs, k, e, ey, l⟩ | ⟨kvs, k, b, e, hk, ey, eb, d8, l⟩
  · exact d_in (by omega) I (.inl ⟨kvs, k, e, ey, l⟩) ry h
  · subst ey
    cases (show u = Value.ref b from ry)
    obtain ⟨z, hd, _, xs, rel, dd⟩ := dn_rd I.hok e hk
    refine wpAny_in_heap (knd := treeKind X.prog X.w) (tree_room hu) ⟨eb.tree I.hok rfl, d8⟩ hd dd ?_
    have q := (rel.val k).isSome_eq
    rw [Option.isSome_map] at q
    rw [← q, ← l]
    exact h _ (I.tok _)
theorem n_notIn {Q : Value → Shared → Prop} (hu : A.units + 10 < cLine) (I : Inv X pins σ H s) (g : DGetN X.w H a y o) (ry : RelV y u) (h : ∀ s', Inv X pins σ H s' → Q (.bool (!o.isSome)) s') :
    wpAny (model X.prog X.w) A (compareOp .NotIn u (.ref a)) Q E s := by
  rcases g with ⟨kvs, k, e, ey, l⟩ | ⟨kvs, k, b, e, hk, ey, eb, d8, l⟩
  · exact d_notIn (by omega) I (.inl ⟨kvs, k, e, ey, l⟩) ry h
  · subst ey
    cases (show u = Value.ref b from ry)
    obtain ⟨z, hd, _, xs, rel, dd⟩ := dn_rd I.hok e hk
    refine wpAny_notIn_heap (knd := treeKind X.prog X.w) (tree_room hu) ⟨eb.tree I.hok rfl, d8⟩ hd dd ?_
    have q := (rel.val k).isSome_eq
    rw [Option.isSome_map] at q
    rw [← q, ← l]
    exact h _ (I.tok _)
theorem n_get2 {Q : Value → Shared → Prop} (hu : A.units + 10 < cLine) (I : Inv X pins σ H s) (g : DGetN X.w H a y o) (ry : RelV y u) (rd : RelV d r) (h : ∀ w' s', Inv X pins σ H s' → RelV (o.getD d) w' → Q w' s') :
    wpAny (model X.prog X.w) A (call (.builtin "dict.get") [.ref a, u, r]) Q E s := by
  rcases g with ⟨kvs, k, e, ey, l⟩ | ⟨kvs, k, b, e, hk, ey, eb, d8, l⟩
  · exact d_get2 (by omega) I (.inl ⟨kvs, k, e, ey, l⟩) ry rd h
  · subst ey
    cases (show u = Value.ref b from ry)
    obtain ⟨z, hd, _, xs, rel, dd⟩ := dn_rd I.hok e hk
    refine call_meetsIn PySem.F.slot_dict_get dd.typeIs PySem.F.entry_dict_get (PySem.F.args_dict_get_3 _ _ _) (meetsH_dict_get_default (treeKind X.prog X.w) a b hd r) ⟨tree_room hu, k, xs, ⟨eb.tree I.hok rfl, d8⟩, dd, h _ _ (I.tok _) ?_⟩
    rw [l]
    exact (rel.val k).getD rd
theorem dn_new {P : Program} {w : World} {H' : Hp} {h' : Heap} {kvs : List (NK × Addr × V)} {xs : List (NK × Addr × Value)} (z : kvs.length ≤ sizeLine) (hd : (a == sysModules) = false) (d8 : ∀ x ∈ kvs, x.1.dep ≤ 8) (rel : NT kvs xs) (dd : h'.DictOfH (treeKind P w) a xs) :
    ObjOk P w H' h' a (dN w a kvs) := by
  obtain ⟨o, es, ep, h1, h2, h3, h4, _, h5⟩ := dd
  refine ⟨⟨z, hd, d8, xs, rel, o, es, ep, h1, h2, h3, h4, h5⟩, ⟨o, h1⟩, ?_⟩
  rintro g1 g2 ⟨z, hd, d8, xs, rel, o, es, ep, h1, r⟩ k
  exact ⟨z, hd, d8, xs, rel, o, es, ep, k _ h1, r⟩
theorem n_setItem {H' : Hp} {Q : Unit → Shared → Prop} (hu : A.units + 10 < cLine) (I : Inv X pins σ H s) (g : DPutN X.w H a y v H') (ry : RelV y u) (rv : RelV v r) (h : ∀ s', Inv X pins σ H' s' → Q () s') :
    wpAny (model X.prog X.w) A (setItem (.ref a) u r) Q E s := by
  rcases g with ⟨kvs, k, e, ey, l, eH⟩ | ⟨kvs, k, b, e, hk, ey, eb, d8, l, eH⟩
  · exact d_setItem (by omega) I (.inl ⟨kvs, k, e, ey, l, eH⟩) ry rv h
  · subst ey eH
    cases (show u = Value.ref b from ry)
    obtain ⟨z, hd, d8s, xs, rel, dd⟩ := dn_rd I.hok (.inl e) hk
    have hz : xs.length ≤ sizeLine := by rw [← Paired.length rel]; exact z
    have hl : (putN kvs k b v).length ≤ sizeLine := by have := length_putN kvs k b v; omega
    refine wpAny_setItem_heap (knd := treeKind X.prog X.w) (hsz := hz) (tree_room hu) ⟨eb.tree I.hok rfl, d8⟩ dd fun h' dd' hs => h _ ?_
    have hq : ∃ q, h'.get? a = some q := let ⟨q, _, _, hq, _⟩ := dd'; ⟨q, hq⟩
    refine d_write I (by rw [e]; exact True.intro) hs hq (dn_new hl hd (fun x hx => ?_) (rel.put k b rv) dd')
    rcases putN_mem x hx with ⟨y, hy, e1, _⟩ | e1
    · rw [← e1]; exact d8s y hy
    · rw [e1]; exact d8
end
/-! ### readings and rules -/
def nDGet (w : World) (td ty : TE) : TE := fun σ H Q => td σ H fun x H1 => ty σ H1 fun y H2 => ∃ a v, x = .ref a ∧ DGetN w H2 a y (some v) ∧ Q v H2
def nDIn (w : World) (ty td : TE) : TE := fun σ H Q => ty σ H fun y H1 => td σ H1 fun x H2 => ∃ a o, x = .ref a ∧ DGetN w H2 a y o ∧ Q (.bl o.isSome) H2
def nDNotIn (w : World) (ty td : TE) : TE := fun σ H Q => ty σ H fun y H1 => td σ H1 fun x H2 => ∃ a o, x = .ref a ∧ DGetN w H2 a y o ∧ Q (.bl (!o.isSome)) H2
def nDPut (w : World) (td ty tv : TE) : TS := fun D σ H => tv σ H fun v H1 => td σ H1 fun x H2 => ty σ H2 fun y H3 => ∃ a H4, x = .ref a ∧ DPutN w H3 a y v H4 ∧ D.nx σ H4
def nDGet2 (w : World) (td ty tx : TE) : TE := fun σ H Q => td σ H fun x H1 => ∃ a, x = .ref a ∧ IsDN w H1 a ∧ ty σ H1 fun y H2 => tx σ H2 fun z H3 => ∃ o, DGetN w H3 a y o ∧ Q (o.getD z) H3
section
variable {X : Cx} {o i e f value : Expr} {pos pos' tpos apos cpos : Pos} {td ty tv tx : TE}
theorem pn_dget (hu : X.A.units + 10 < cLine) (ho : PE X o td) (hi : PE X i ty) (hs : NoSl i) : PE X (.Subscript o i pos) (nDGet X.w td ty) := by
  refine ⟨fun pins s σ H Q I h => ?_⟩
  refine subD_of PySem.F.slot_dict_getitem.lookup hs (thn (ho.run pins s σ H _ I h) fun u s1 ⟨x, H1, I1, rx, q1⟩ => thn (hi.run pins s1 σ H1 _ I1 q1) fun iv s2 ⟨y, H2, I2, ry, a, v, ex, g, q2⟩ => ?_)
  subst ex
  obtain rfl : u = Value.ref a := rx
  exact ⟨(isDN_at I2 g.is).1, n_getItem hu I2 g ry fun w' s3 I3 rw' => ⟨v, H2, I3, rw', q2⟩⟩
theorem pn_din (hu : X.A.units + 10 < cLine) (hi : PE X i ty) (ho : PE X o td) : PC X .In i o (nDIn X.w ty td) := by
  refine ⟨fun pins s σ H Q I h => ?_⟩
  refine thn (hi.run pins s σ H _ I h) fun iv s1 ⟨y, H1, I1, ry, q1⟩ => thn (ho.run pins s1 σ H1 _ I1 q1) fun u s2 ⟨x, H2, I2, rx, a, ov, ex, g, q2⟩ => ?_
  subst ex
  obtain rfl : u = Value.ref a := rx
  exact n_in hu I2 g ry fun s3 I3 => ⟨.bl ov.isSome, H2, I3, rfl, q2⟩
theorem pn_dnotin (hu : X.A.units + 10 < cLine) (hi : PE X i ty) (ho : PE X o td) : PC X .NotIn i o (nDNotIn X.w ty td) := by
  refine ⟨fun pins s σ H Q I h => ?_⟩
  refine thn (hi.run pins s σ H _ I h) fun iv s1 ⟨y, H1, I1, ry, q1⟩ => thn (ho.run pins s1 σ H1 _ I1 q1) fun u s2 ⟨x, H2, I2, rx, a, ov, ex, g, q2⟩ => ?_
  subst ex
  obtain rfl : u = Value.ref a := rx
  exact n_notIn hu I2 g ry fun s3 I3 => ⟨.bl (!ov.isSome), H2, I3, rfl, q2⟩
theorem pn_dput (hu : X.A.units + 10 < cLine) (ho : PE X o td) (hi : PE X i ty) (hv : PE X value tv) (hs : swapsWith value (some (.Subscript o i pos')) pos.line X.env = pure false) :
    PS X (.Assign [.Subscript o i pos'] value pos) (nDPut X.w td ty tv) := by
  refine ⟨fun pins s σ H D I h => ?_⟩
  refine wpAny_Assign_Subscript (thn (hv.run pins s σ H _ I h) fun r s1 ⟨v, H1, I1, rv, q1⟩ => thn (ho.run pins s1 σ H1 _ I1 q1) fun u s2 ⟨x, H2, I2, rx, q2⟩ => thn (hi.run pins s2 σ H2 _ I2 q2) fun iv s3 ⟨y, H3, I3, ry, a, H4, ex, g, q3⟩ => ?_) hs
  subst ex
  obtain rfl : u = Value.ref a := rx
  exact n_setItem hu I3 g ry rv fun s4 I4 => ⟨σ, H4, I4, q3⟩
theorem pn_dget2 (hu : X.A.units + 10 < cLine) (ho : PE X o td) (he : PE X e ty) (hf : PE X f tx) (m : M2 X o "get" apos e f cpos) : PE X (.Call (.Attribute o "get" apos) [e, f] [] cpos) (nDGet2 X.w td ty tx) := by
  refine ⟨fun pins s σ H Q I h => ?_⟩
  refine wpAny_Call_method m.base m.few m.line PySem.F.plainAttrs_dict PySem.F.slot_dict_get PySem.F.type_dict_get (thn (ho.run pins s σ H _ I h) fun u s1 ⟨x, H1, I1, rx, a, ex, d, q1⟩ => ?_)
  subst ex
  obtain rfl : u = Value.ref a := rx
  obtain ⟨t1, t2, _⟩ := isDN_at I1 d
  refine ⟨t1, t2, ?_⟩
  rw [m.trees]
  refine Calls.callWith_builtin rfl (Calls.evalArgs_plain (Calls.spliced_cons (thn (he.run pins s1 σ H1 _ I1 q1) fun iv s2 ⟨y, H2, I2, ry, q2⟩ =>
    Calls.spliced_cons (thn (hf.run pins s2 σ H2 _ I2 q2) fun fv s3 ⟨z, H3, I3, rz, ov, g, q3⟩ => Calls.spliced_nil ?_))))
  exact n_get2 hu I3 g ry rz fun w' s4 I4 rw' => ⟨_, H3, I4, rw', q3⟩
def nDNew (w : World) : TE := fun _ H Q => ∀ p, H p = none → Q (.ref p) (upd H p (dN w p []))
theorem pn_dnew : PE X (.Dict [] [] pos) (nDNew X.w) := ⟨fun pins s σ H Q I h =>
  wpAny_Dict_empty ⟨.ref s.heap.objs.size, _, I.laid (a := s.heap.objs.size) (o := dN X.w s.heap.objs.size []) (t' := s.toks) (fun _ _ q => Heap.get?_push_of_some _ q) (Nat.le_refl _)
    (dn_new (xs := []) (Nat.zero_le _) (beq_eq_false_iff_ne.mpr (Ne.symm (Nat.ne_of_lt I.big))) (fun _ z => nomatch z) .nil (Heap.DictOfH.new (knd := treeKind X.prog X.w) s.heap)), rfl, h _ (I.hok.fresh (Nat.le_refl _))⟩⟩
end
end L2.Fn
/-! Fn, part S0: flat keys (of sorting, of index). -/
namespace L2.Fn
open PySem PySem.Spec PyProof.Rows

/-! ### keys -/
def atomD : D → Option (Int ⊕ List Nat)
  | .int i => some (.inl i)
  | .str s => some (.inr s)
  | _ => none
def atomsD : List D → Option PK
  | [] => some []
  | d :: r => (atomD d).bind fun k => (atomsD r).map (k :: ·)
def D.pk : Bool → D → Option PK
  | false, d => (atomD d).map ([·])
  | true, .tup ds => atomsD ds
  | _, _ => none
theorem pkK_inj {a b : Key} (h : pkK a = pkK b) : a = b := by
  cases a with
  | inl i =>
    cases b with
    | inl j => injection h with h; rw [h]
    | inr y => cases h
  | inr x =>
    cases b with
    | inl j => cases h
    | inr y =>
      injection h with h
      have e : x.cps = y.cps := Array.toList_inj.mp h
      cases x
      cases y
      exact congrArg Sum.inr (congrArg Str.mk e)
theorem pkKs_inj : ∀ {a b : List Key}, a.map pkK = b.map pkK → a = b
  | [], [], _ => rfl
  | [], _ :: _, h => by cases h
  | _ :: _, [], h => by cases h
  | x :: a, y :: b, h => by injection h with h1 h2; rw [pkK_inj h1, pkKs_inj h2]
section
variable {T : Top} {φ : Ob} {H : Hp}
theorem atom_ok {v : V} {d : D} {p : Int ⊕ List Nat} (r : FD T φ H v d) (e : atomD d = some p) : ∃ k : Key, v = kV k ∧ p = pkK k := by
  cases r with
  | int i => cases e; exact ⟨.inl i, rfl, rfl⟩
  | str s => cases e; exact ⟨.inr ⟨s.toArray⟩, rfl, rfl⟩
  | _ => cases e
theorem atoms_ok : ∀ {vs : List V} {ds : List D} {p : PK}, FDs T φ H vs ds → atomsD ds = some p → ∃ k : List Key, vs = k.map kV ∧ p = k.map pkK
  | _, _, _, .nil, e => by cases e; exact ⟨[], rfl, rfl⟩
  | _, _, _, .cons (d := d) (ds := ds) x r, e => by
    rw [atomsD] at e
    cases q : atomD d with
    | none => rw [q] at e; cases e
    | some k =>
      rw [q] at e
      cases q2 : atomsD ds with
      | none => rw [q2] at e; cases e
      | some ks =>
        rw [q2] at e
        cases e
        obtain ⟨k1, h1, h2⟩ := atom_ok x q
        obtain ⟨k2, h3, h4⟩ := atoms_ok r q2
        exact ⟨k1 :: k2, by rw [h1, h3]; rfl, by rw [h2, h4]; rfl⟩
theorem pk_ok {v : V} {b : Bool} {d : D} {p : PK} (r : FD T φ H v d) (e : d.pk b = some p) : (b = false ∧ ∃ k : Key, v = kV k ∧ p = [pkK k]) ∨ b = true ∧ ∃ (k : List Key) (a : Addr), v = .ref a ∧ H a = some (.tup (k.map kV)) ∧ p = k.map pkK := by
  cases b with
  | false =>
    change Option.map (fun x => [x]) (atomD d) = some p at e
    cases q : atomD d with
    | none => rw [q] at e; cases e
    | some k =>
      rw [q] at e
      cases e
      obtain ⟨k, h1, h2⟩ := atom_ok r q
      exact .inl ⟨rfl, k, h1, by rw [h2]⟩
  | true =>
    cases r with
    | tup h rs =>
      obtain ⟨k, h1, h2⟩ := atoms_ok rs e
      exact .inr ⟨rfl, k, _, rfl, by rw [← h1]; exact h, h2⟩
    | _ => cases e
end
end L2.Fn
/-! Fn, part I: dicts of one's own. -/
namespace L2.Fn
open PySem PySem.Spec PyProof.Rows

/-! ### keys -/
mutual
def D.nk : D → Option NK
  | .int i => some (.i i)
  | .str s => some (.s s)
  | .tup l => (D.nks l).map .t
  | _ => none
def D.nks : List D → Option (List NK)
  | [] => some []
  | d :: l => (D.nk d).bind fun k => (D.nks l).map (k :: ·)
end
def okK : Bool → NK → Prop
  | false, .i _ => True
  | false, .s _ => True
  | true, .t l => (NK.t l).dep ≤ 8
  | _, _ => False
def dlook (kvs : List (NK × D)) (p : NK) : Option D := (kvs.find? fun kv => decide (kv.1 = p)).map (·.2)
def dput (kvs : List (NK × D)) (p : NK) (d : D) : List (NK × D) := if (kvs.any fun kv => decide (kv.1 = p)) = true then kvs.map (fun kv => if kv.1 = p then (kv.1, d) else kv) else kvs ++ [(p, d)]
theorem nkK_inj {a b : Key} (h : nkK a = nkK b) : a = b := by
  cases a with
  | inl i =>
    cases b with
    | inl j => injection h with h; rw [h]
    | inr y => cases h
  | inr x =>
    cases b with
    | inl j => cases h
    | inr y =>
      injection h with h
      have e : x.cps = y.cps := Array.toList_inj.mp h
      cases x
      cases y
      exact congrArg Sum.inr (congrArg Str.mk e)
mutual
theorem nk_toD : ∀ {d : D} {k : NK}, d.nk = some k → k.toD = d
  | .int i, _, h => by rw [D.nk] at h; cases h; rw [NK.toD]
  | .str s, _, h => by rw [D.nk] at h; cases h; rw [NK.toD]
  | .tup l, _, h => by
    rw [D.nk] at h
    obtain ⟨ks, h1, rfl⟩ := Option.map_eq_some_iff.mp h
    rw [NK.toD, nks_toD h1]
  | .non, _, h => by simp [D.nk] at h
  | .bl _, _, h => by simp [D.nk] at h
  | .ktup _, _, h => by simp [D.nk] at h
  | .lst _, _, h => by simp [D.nk] at h
  | .dct _ _ _, _, h => by simp [D.nk] at h
  | .obj _, _, h => by simp [D.nk] at h
  | .fn _, _, h => by simp [D.nk] at h
  | .exn _ _ _ _ _, _, h => by simp [D.nk] at h
theorem nks_toD : ∀ {l : List D} {ks : List NK}, D.nks l = some ks → NK.toDs ks = l
  | [], _, h => by rw [D.nks] at h; cases h; rw [NK.toDs]
  | d :: l, _, h => by
    rw [D.nks] at h
    obtain ⟨k, h1, h2⟩ := Option.bind_eq_some_iff.mp h
    obtain ⟨ks, h3, rfl⟩ := Option.map_eq_some_iff.mp h2
    rw [NK.toDs, nk_toD h1, nks_toD h3]
end
mutual
theorem toD_nk : ∀ k : NK, k.toD.nk = some k
  | .i n => by rw [NK.toD, D.nk]
  | .s x => by rw [NK.toD, D.nk]
  | .t l => by rw [NK.toD, D.nk, toDs_nks l]; rfl
theorem toDs_nks : ∀ l : List NK, D.nks (NK.toDs l) = some l
  | [] => by rw [NK.toDs, D.nks]
  | k :: l => by rw [NK.toDs, D.nks, toD_nk k, toDs_nks l]; rfl
end
section
variable {T : Top} {φ : Ob} {H : Hp}
mutual
theorem FD.isNK : ∀ {v : V} {d : D} {k : NK}, FD T φ H v d → d.nk = some k → IsNK H k v
  | _, _, _, .int i, h => by rw [D.nk] at h; cases h; exact .i i
  | _, _, _, .str s, h => by rw [D.nk] at h; cases h; exact .s s
  | _, _, _, .tup e r, h => by
    rw [D.nk] at h
    obtain ⟨ks, h1, rfl⟩ := Option.map_eq_some_iff.mp h
    exact .t e (FDs.areNK r h1)
  | _, _, _, .non, h => by simp [D.nk] at h
  | _, _, _, .bl _, h => by simp [D.nk] at h
  | _, _, _, .ktup _ _, h => by simp [D.nk] at h
  | _, _, _, .lst _ _, h => by simp [D.nk] at h
  | _, _, _, .dct _ _ _ _, h => by simp [D.nk] at h
  | _, _, _, .obj _, h => by simp [D.nk] at h
  | _, _, _, .fn _, h => by simp [D.nk] at h
  | _, _, _, .exn _ _ _, h => by simp [D.nk] at h
theorem FDs.areNK : ∀ {v : List V} {d : List D} {k : List NK}, FDs T φ H v d → D.nks d = some k → AreNK H k v
  | _, _, _, .nil, h => by rw [D.nks] at h; cases h; exact .nil
  | _, _, _, .cons x r, h => by
    rw [D.nks] at h
    obtain ⟨k, h1, h2⟩ := Option.bind_eq_some_iff.mp h
    obtain ⟨ks, h3, rfl⟩ := Option.map_eq_some_iff.mp h2
    exact .cons (FD.isNK x h1) (FDs.areNK r h3)
end
theorem FDs.keysN : ∀ {kvs : List (NK × Addr × V)}, FDs T φ H (kvs.map fun x => V.ref x.2.1) (kvs.map fun x => x.1.toD) → KeysN H kvs
  | [], _ => fun x hx => nomatch hx
  | x :: kvs, .cons r rs => fun y hy => by
    rcases List.mem_cons.mp hy with e | hy
    · subst e
      exact r.isNK (toD_nk _)
    · exact FDs.keysN rs y hy
theorem atom_key {v : V} {d : D} {k : NK} (r : FD T φ H v d) (e : d.nk = some k) (o : okK false k) : ∃ q : Key, v = kV q ∧ k = nkK q := by
  cases r with
  | int i => rw [D.nk] at e; cases e; exact ⟨.inl i, rfl, rfl⟩
  | str s => rw [D.nk] at e; cases e; exact ⟨.inr ⟨s.toArray⟩, rfl, rfl⟩
  | tup h rs =>
    rw [D.nk] at e
    obtain ⟨ks, h1, rfl⟩ := Option.map_eq_some_iff.mp e
    exact False.elim o
  | non => simp [D.nk] at e
  | bl => simp [D.nk] at e
  | ktup => simp [D.nk] at e
  | lst => simp [D.nk] at e
  | dct => simp [D.nk] at e
  | obj => simp [D.nk] at e
  | fn => simp [D.nk] at e
  | exn => simp [D.nk] at e
theorem tup_key {v : V} {d : D} {k : NK} (r : FD T φ H v d) (e : d.nk = some k) (o : okK true k) : ∃ b, v = .ref b ∧ IsNK H k (.ref b) ∧ k.dep ≤ 8 := by
  have q := r.isNK e
  cases q with
  | i => exact False.elim o
  | s => exact False.elim o
  | t h rs => exact ⟨_, rfl, .t h rs, o⟩
theorem dlook_nil (p : NK) : dlook [] p = none := rfl
theorem dlook_pos {p : NK} {d : D} {r : List (NK × D)} : dlook ((p, d) :: r) p = some d := by simp [dlook, List.find?_cons]
theorem dlook_neg {p q : NK} {d : D} {r : List (NK × D)} (e : ¬ q = p) : dlook ((q, d) :: r) p = dlook r p := by simp [dlook, List.find?_cons, e]
/-- entry by entry -/
inductive DRs (T : Top) (φ : Ob) (H : Hp) {κ : Type} (g : κ → NK) : List (κ × V) → List (NK × D) → Prop where
  | nil : DRs T φ H g [] []
  | cons {k : κ} {v : V} {d : D} {r : List (κ × V)} {r' : List (NK × D)} : FD T φ H v d → DRs T φ H g r r' → DRs T φ H g ((k, v) :: r) ((g k, d) :: r')
theorem DRs.of {κ : Type} {g : κ → NK} : ∀ {kvs : List (κ × V)} {l : List (NK × D)}, l.map (·.1) = kvs.map (fun p => g p.1) → FDs T φ H (kvs.map (·.2)) (l.map (·.2)) → DRs T φ H g kvs l
  | [], [], _, _ => .nil
  | [], _ :: _, e, _ => by cases e
  | _ :: _, [], e, _ => by cases e
  | (k, v) :: kvs, (p, d) :: l, e, r => by
    rw [List.map_cons, List.map_cons] at e
    injection e with e1 e2
    rw [List.map_cons, List.map_cons] at r
    cases r with
    | cons x r =>
      have e1 : p = g k := e1
      subst e1
      exact .cons x (DRs.of e2 r)
theorem DRs.keys {κ : Type} {g : κ → NK} : ∀ {kvs : List (κ × V)} {l : List (NK × D)}, DRs T φ H g kvs l → l.map (·.1) = kvs.map (fun p => g p.1)
  | _, _, .nil => rfl
  | _, _, .cons x r => by rw [List.map_cons, List.map_cons, r.keys]
theorem DRs.vals {κ : Type} {g : κ → NK} : ∀ {kvs : List (κ × V)} {l : List (NK × D)}, DRs T φ H g kvs l → FDs T φ H (kvs.map (·.2)) (l.map (·.2))
  | _, _, .nil => .nil
  | _, _, .cons x r => .cons x r.vals
theorem DRs.len {κ : Type} {g : κ → NK} {kvs : List (κ × V)} {l : List (NK × D)} (r : DRs T φ H g kvs l) : kvs.length = l.length := by
  have := congrArg List.length r.keys
  simpa using this.symm
theorem DRs.look {κ : Type} [DecidableEq κ] {g : κ → NK} (gi : ∀ a b, g a = g b → a = b) (k : κ) : ∀ {kvs : List (κ × V)} {l : List (NK × D)}, DRs T φ H g kvs l → (∀ d, dlook l (g k) = some d → ∃ v, valV kvs k = some v ∧ FD T φ H v d) ∧ (dlook l (g k) = none → valV kvs k = none)
  | _, _, .nil => ⟨fun d h => (nomatch h), fun _ => rfl⟩
  | _, _, .cons (k := k') (v := v) (d := d') x r => by
    obtain ⟨i1, i2⟩ := r.look gi k
    by_cases e : k' = k
    · subst e
      rw [dlook_pos, valV_pos rfl]
      exact ⟨fun d h => (by cases h; exact ⟨v, rfl, x⟩), fun h => nomatch h⟩
    · rw [dlook_neg (fun z => e (gi _ _ z)), valV_neg (p := (k', v)) e]
      exact ⟨i1, i2⟩
theorem DRs.any {κ : Type} [DecidableEq κ] {g : κ → NK} (gi : ∀ a b, g a = g b → a = b) (k : κ) : ∀ {kvs : List (κ × V)} {l : List (NK × D)}, DRs T φ H g kvs l → (kvs.any fun kv => decide (kv.1 = k)) = (l.any fun kv => decide (kv.1 = g k))
  | _, _, .nil => rfl
  | _, _, .cons (k := k') x r => by
    rw [List.any_cons, List.any_cons, r.any gi k]
    congr 1
    exact decide_eq_decide.mpr ⟨fun h => congrArg g h, fun h => gi _ _ h⟩
theorem DRs.mapP {κ : Type} [DecidableEq κ] {g : κ → NK} (gi : ∀ a b, g a = g b → a = b) (k : κ) {y : V} {e : D} (x : FD T φ H y e) : ∀ {kvs : List (κ × V)} {l : List (NK × D)}, DRs T φ H g kvs l →
    DRs T φ H g (kvs.map fun kv => if kv.1 = k then (kv.1, y) else kv) (l.map fun kv => if kv.1 = g k then (kv.1, e) else kv)
  | _, _, .nil => .nil
  | _, _, .cons (k := k') (v := v) (d := d') z r => by
    rw [List.map_cons, List.map_cons]
    by_cases h : k' = k
    · rw [if_pos h, if_pos (show g k' = g k by rw [h])]
      exact .cons x (r.mapP gi k x)
    · rw [if_neg h, if_neg (show ¬ g k' = g k from fun q => h (gi _ _ q))]
      exact .cons z (r.mapP gi k x)
theorem DRs.snoc {κ : Type} {g : κ → NK} {k : κ} {y : V} {e : D} (x : FD T φ H y e) : ∀ {kvs : List (κ × V)} {l : List (NK × D)}, DRs T φ H g kvs l → DRs T φ H g (kvs ++ [(k, y)]) (l ++ [(g k, e)])
  | _, _, .nil => .cons x .nil
  | _, _, .cons z r => .cons z (r.snoc x)
theorem DRs.put {κ : Type} [DecidableEq κ] {g : κ → NK} (gi : ∀ a b, g a = g b → a = b) (k : κ) {y : V} {e : D} (x : FD T φ H y e) {kvs : List (κ × V)} {l : List (NK × D)} (r : DRs T φ H g kvs l) : DRs T φ H g (putK kvs k y) (dput l (g k) e) := by
  unfold putK dput
  rw [← r.any gi k]
  split
  · exact r.mapP gi k x
  · exact r.snoc x
theorem DRs.ext {κ : Type} {g : κ → NK} {φ' : Ob} {H' : Hp} (e : Ext H H') (p : Pre φ φ') {kvs : List (κ × V)} {l : List (NK × D)} (r : DRs T φ H g kvs l) : DRs T φ' H' g kvs l := DRs.of r.keys (r.vals.ext e p)
/-- .. with the keys' tuples -/
inductive NRs (T : Top) (φ : Ob) (H : Hp) : List (NK × Addr × V) → List (NK × D) → Prop where
  | nil : NRs T φ H [] []
  | cons {k : NK} {b : Addr} {v : V} {d : D} {r : List (NK × Addr × V)} {r' : List (NK × D)} : FD T φ H v d → NRs T φ H r r' → NRs T φ H ((k, b, v) :: r) ((k, d) :: r')
theorem NRs.of : ∀ {kvs : List (NK × Addr × V)} {l : List (NK × D)}, l.map (·.1) = kvs.map (·.1) → FDs T φ H (kvs.map (·.2.2)) (l.map (·.2)) → NRs T φ H kvs l
  | [], [], _, _ => .nil
  | [], _ :: _, e, _ => by cases e
  | _ :: _, [], e, _ => by cases e
  | (k, b, v) :: kvs, (p, d) :: l, e, r => by
    rw [List.map_cons, List.map_cons] at e
    injection e with e1 e2
    rw [List.map_cons, List.map_cons] at r
    cases r with
    | cons x r =>
      have e1 : p = k := e1
      subst e1
      exact .cons x (NRs.of e2 r)
theorem NRs.keys : ∀ {kvs : List (NK × Addr × V)} {l : List (NK × D)}, NRs T φ H kvs l → l.map (·.1) = kvs.map (·.1)
  | _, _, .nil => rfl
  | _, _, .cons x r => by rw [List.map_cons, List.map_cons, r.keys]
theorem NRs.vals : ∀ {kvs : List (NK × Addr × V)} {l : List (NK × D)}, NRs T φ H kvs l → FDs T φ H (kvs.map (·.2.2)) (l.map (·.2))
  | _, _, .nil => .nil
  | _, _, .cons x r => .cons x r.vals
theorem NRs.len {kvs : List (NK × Addr × V)} {l : List (NK × D)} (r : NRs T φ H kvs l) : kvs.length = l.length := by
  have := congrArg List.length r.keys
  simpa using this.symm
theorem NRs.look (k : NK) : ∀ {kvs : List (NK × Addr × V)} {l : List (NK × D)}, NRs T φ H kvs l → (∀ d, dlook l k = some d → ∃ v, valN kvs k = some v ∧ FD T φ H v d) ∧ (dlook l k = none → valN kvs k = none)
  | _, _, .nil => ⟨fun d h => (nomatch h), fun _ => rfl⟩
  | _, _, .cons (k := k') (b := b) (v := v) (d := d') x r => by
    obtain ⟨i1, i2⟩ := r.look k
    by_cases e : k' = k
    · subst e
      rw [dlook_pos, valN_pos rfl]
      exact ⟨fun d h => (by cases h; exact ⟨v, rfl, x⟩), fun h => nomatch h⟩
    · rw [dlook_neg e, valN_neg (p := (k', b, v)) e]
      exact ⟨i1, i2⟩
theorem NRs.any (k : NK) : ∀ {kvs : List (NK × Addr × V)} {l : List (NK × D)}, NRs T φ H kvs l → (kvs.any fun x => decide (x.1 = k)) = (l.any fun kv => decide (kv.1 = k))
  | _, _, .nil => rfl
  | _, _, .cons x r => by rw [List.any_cons, List.any_cons, r.any k]
theorem NRs.mapP (k : NK) {y : V} {e : D} (x : FD T φ H y e) : ∀ {kvs : List (NK × Addr × V)} {l : List (NK × D)}, NRs T φ H kvs l →
    NRs T φ H (kvs.map fun x => if x.1 = k then (x.1, x.2.1, y) else x) (l.map fun kv => if kv.1 = k then (kv.1, e) else kv)
  | _, _, .nil => .nil
  | _, _, .cons (k := k') (v := v) (d := d') z r => by
    rw [List.map_cons, List.map_cons]
    by_cases h : k' = k
    · rw [if_pos h, if_pos h]
      exact .cons x (r.mapP k x)
    · rw [if_neg h, if_neg h]
      exact .cons z (r.mapP k x)
theorem NRs.snoc {k : NK} {b : Addr} {y : V} {e : D} (x : FD T φ H y e) : ∀ {kvs : List (NK × Addr × V)} {l : List (NK × D)}, NRs T φ H kvs l → NRs T φ H (kvs ++ [(k, b, y)]) (l ++ [(k, e)])
  | _, _, .nil => .cons x .nil
  | _, _, .cons z r => .cons z (r.snoc x)
theorem NRs.put (k : NK) (b : Addr) {y : V} {e : D} (x : FD T φ H y e) {kvs : List (NK × Addr × V)} {l : List (NK × D)} (r : NRs T φ H kvs l) : NRs T φ H (putN kvs k b y) (dput l k e) := by
  unfold putN dput
  rw [← r.any k]
  split
  · exact r.mapP k x
  · exact r.snoc x
theorem NRs.ext {φ' : Ob} {H' : Hp} (e : Ext H H') (p : Pre φ φ') {kvs : List (NK × Addr × V)} {l : List (NK × D)} (r : NRs T φ H kvs l) : NRs T φ' H' kvs l := NRs.of r.keys (r.vals.ext e p)
/-- the keys stand -/
theorem keys_put {kvs : List (NK × Addr × V)} {k : NK} {b : Addr} {y : V} (r : FDs T φ H (kvs.map fun x => V.ref x.2.1) (kvs.map fun x => x.1.toD)) (x : FD T φ H (.ref b) k.toD) :
    FDs T φ H ((putN kvs k b y).map fun x => V.ref x.2.1) ((putN kvs k b y).map fun x => x.1.toD) := by
  unfold putN
  split
  · rw [List.map_map, List.map_map]
    have e1 : ((fun x : NK × Addr × V => V.ref x.2.1) ∘ fun x => if x.1 = k then (x.1, x.2.1, y) else x) = fun x => V.ref x.2.1 := by
      funext z
      show V.ref (if z.1 = k then (z.1, z.2.1, y) else z).2.1 = _
      split <;> rfl
    have e2 : ((fun x : NK × Addr × V => x.1.toD) ∘ fun x => if x.1 = k then (x.1, x.2.1, y) else x) = fun x => x.1.toD := by
      funext z
      show (if z.1 = k then (z.1, z.2.1, y) else z).1.toD = _
      split <;> rfl
    rw [e1, e2]
    exact r
  · rw [List.map_append, List.map_append]
    have : ∀ {l : List V} {m : List D}, FDs T φ H l m → FDs T φ H (l ++ [V.ref b]) (m ++ [k.toD]) := by
      intro l m q
      induction m generalizing l with
      | nil => cases q; exact .cons x .nil
      | cons d m ih =>
        cases q with
        | cons a q => exact .cons a (ih q)
    exact this r
/-- a dict as it is looked at -/
def M.asD : M → Option (Bool × List (NK × D))
  | .dct b kvs => some (b, kvs)
  | .dat (.dct b ks vs) => if ks.length = vs.length then some (b, ks.zip vs) else none
  | _ => none
/-- what stands at a dict's place -/
def DHo (T : Top) (φ : Ob) (H : Hp) (a : Addr) (b : Bool) (h : HO) (l : List (NK × D)) : Prop := (b = false ∧ ∃ K : List (Key × V), h = .dK K ∧ DRs T φ H nkK K l) ∨
  (b = true ∧ ∃ K : List (NK × Addr × V), h = dN T.w a K ∧ NRs T φ H K l ∧ FDs T φ H (K.map fun x => V.ref x.2.1) (K.map fun x => x.1.toD))
theorem DHo.of {a : Addr} {b : Bool} {h : HO} {ks : List NK} {kv xs : List V} {kd : List D} {l : List (NK × D)} (d : DKV T.w a h b ks kv kd xs) (e : l.map (·.1) = ks) (q : FDs T φ H kv kd) (r : FDs T φ H xs (l.map (·.2))) : DHo T φ H a b h l := by
  cases d with
  | k K => exact .inl ⟨rfl, K, rfl, DRs.of e r⟩
  | t K => exact .inr ⟨rfl, K, rfl, NRs.of e r, q⟩
theorem DHo.rep {a : Addr} {b : Bool} {h : HO} {l : List (NK × D)} (d : DHo T φ H a b h l) (e : H a = some h) : Rep T φ H (.ref a) (.dct b l) [a] := by
  rcases d with ⟨rfl, K, rfl, r⟩ | ⟨rfl, K, rfl, r, q⟩
  · exact .dct e (by rw [r.keys]; exact .k K) .nil r.vals
  · exact .dct e (by rw [r.keys]; exact .t K) q r.vals
theorem DHo.ext {a : Addr} {b : Bool} {h : HO} {l : List (NK × D)} {φ' : Ob} {H' : Hp} (e : Ext H H') (p : Pre φ φ') (d : DHo T φ H a b h l) : DHo T φ' H' a b h l := by
  rcases d with ⟨rfl, K, rfl, r⟩ | ⟨rfl, K, rfl, r, q⟩
  · exact .inl ⟨rfl, K, rfl, r.ext e p⟩
  · exact .inr ⟨rfl, K, rfl, r.ext e p, q.ext e p⟩
theorem asD_ok {v : V} {m : M} {f : List Addr} {b : Bool} {l : List (NK × D)} (r : Rep T φ H v m f) (e : m.asD = some (b, l)) : ∃ a h, v = .ref a ∧ Rd H a h ∧ DHo T φ H a b h l := by
  cases r with
  | lst => cases e
  | dct h d q rs => cases e; exact ⟨_, _, rfl, .inl h, DHo.of d rfl q rs⟩
  | dat r =>
    cases r with
    | @dct a o h b ks kv xs kd vs hh d q0 rs =>
      have e2 : (if ks.length = vs.length then some (b, ks.zip vs) else none) = some (_, l) := e
      split at e2
      · rename_i q
        cases e2
        refine ⟨a, h, rfl, .inr ⟨o, hh⟩, DHo.of d ?_ q0 ?_⟩
        · exact List.map_fst_zip (by omega)
        · rw [List.map_snd_zip (by omega)]
          exact rs
      · cases e2
    | non => cases e
    | bl => cases e
    | int => cases e
    | str => cases e
    | tup => cases e
    | ktup => cases e
    | lst => cases e
    | obj => cases e
    | fn => cases e
    | exn => cases e
/-- looked up -/
theorem dget_ok {a : Addr} {h : HO} {b : Bool} {l : List (NK × D)} {y : V} {d : D} {p : NK} (hr : Rd H a h) (dh : DHo T φ H a b h l) (ry : FD T φ H y d) (e : d.nk = some p) (ok : okK b p) :
    ∃ o, DGetN T.w H a y o ∧ (∀ c, dlook l p = some c → ∃ v, o = some v ∧ FD T φ H v c) ∧ (dlook l p = none → o = none) := by
  rcases dh with ⟨rfl, K, rfl, r⟩ | ⟨rfl, K, rfl, r, q⟩
  · obtain ⟨k, rfl, rfl⟩ := atom_key ry e ok
    obtain ⟨h1, h2⟩ := r.look (fun _ _ => nkK_inj) k
    exact ⟨_, .inl ⟨K, k, hr, rfl, rfl⟩, h1, h2⟩
  · obtain ⟨c, rfl, hc, d8⟩ := tup_key ry e ok
    obtain ⟨h1, h2⟩ := r.look p
    exact ⟨_, .inr ⟨K, p, c, hr, q.keysN, rfl, hc, d8, rfl⟩, h1, h2⟩
end
/-! ### {}, d[k], k in d, d.get(k, x), d[k] = e -/
section
variable {X : Cx} {T : Top} {W : WX} {e a b o i x : Expr} {t ta tb td ty tx : FE} {pos apos cpos pos' : Pos} {rest body : List Stmt} {u w : FS}
def fDict (b : Bool) : FE := fun _ S Q _ => Q (.dct b []) S
theorem fe_dictK : PE X (.Dict [] [] pos) (LE T W (fDict false)) := PE.weak pe_dnewK fun σ H Q ⟨ρ, S, φ, fe, fs, E, Qm, G, w, hx, k⟩ p hp => by
  have F : Fresh H (upd H p (.dK [])) [p] := Fresh.upd hp
  exact k _ S (.ref p) _ φ fs [p] w (F.aft G.sto G.ndS) (.dct upd_same (.k []) .nil .nil) (F.sto G.sto)
theorem fe_dictT (hw : X.w = T.w := by rfl) : PE X (.Dict [] [] pos) (LE T W (fDict true)) := PE.weak pn_dnew fun σ H Q ⟨ρ, S, φ, fe, fs, E, Qm, G, w, hx, k⟩ p hp => by
  rw [hw]
  have F : Fresh H (upd H p (dN T.w p [])) [p] := Fresh.upd hp
  exact k _ S (.ref p) _ φ fs [p] w (F.aft G.sto G.ndS) (.dct upd_same (.t []) .nil .nil) (F.sto G.sto)
def oDIx (m1 m2 : M) (Q : M → Prop) : Prop := ∃ b l, m1.asD = some (b, l) ∧ ∃ d, m2 = .dat d ∧ ∃ p, d.nk = some p ∧ okK b p ∧ ∃ c, dlook l p = some c ∧ Q (.dat c)
theorem fe_dix (hu : X.A.units + 10 < cLine) (ho : PE X o (LB T W td)) (hi : PE X i (LB T W ty)) (hs : NoSl i) (hw : X.w = T.w := by rfl) : PE X (.Subscript o i pos) (LE T W (fBin oDIx td ty)) :=
  PE.weak (pn_dget hu ho hi hs) fun σ H Q h => two_looks h fun φ H x y m1 m2 f1 f2 Qm r1 r2 w k => by
    obtain ⟨b, l, e1, d, rfl, p, e2, ok, c, e3, w⟩ := w
    obtain ⟨a, h, rfl, hr, dh⟩ := asD_ok r1 e1
    cases r2 with
    | dat r2 =>
      obtain ⟨ov, g, g1, _⟩ := dget_ok hr dh r2 e2 ok
      obtain ⟨v, rfl, rv⟩ := g1 c e3
      exact ⟨a, v, rfl, hw ▸ g, k _ v H [] w (Fresh.refl H) (.dat rv)⟩
def oDIn (neg : Bool) (m1 m2 : M) (Q : M → Prop) : Prop := ∃ b l, m2.asD = some (b, l) ∧ ∃ d, m1 = .dat d ∧ ∃ p, d.nk = some p ∧ okK b p ∧ Q (.dat (.bl (neg ^^ (dlook l p).isSome)))
theorem din_ok {φ : Ob} {H : Hp} {x y : V} {m1 m2 : M} {f1 f2 : List Addr} {neg : Bool} {Q : VK} {Qm : M → Prop} (r1 : Rep T φ H x m1 f1) (r2 : Rep T φ H y m2 f2) (w : oDIn neg m1 m2 Qm) (k : ∀ m v H' fm, Qm m → Fresh H H' fm → Rep T φ H' v m fm → Q v H') :
    ∃ a o, y = .ref a ∧ DGetN T.w H a x o ∧ Q (.bl (neg ^^ o.isSome)) H := by
  obtain ⟨b, l, e1, d, rfl, p, e2, ok, w⟩ := w
  obtain ⟨a, h, rfl, hr, dh⟩ := asD_ok r2 e1
  cases r1 with
  | dat r1 =>
    obtain ⟨ov, g, g1, g2⟩ := dget_ok hr dh r1 e2 ok
    refine ⟨a, ov, rfl, g, ?_⟩
    have e : ov.isSome = (dlook l p).isSome := by
      cases q : dlook l p with
      | none => rw [g2 q]; rfl
      | some c =>
        obtain ⟨v, rfl, _⟩ := g1 c q
        rfl
    rw [e]
    exact k _ _ H [] w (Fresh.refl H) (.dat (.bl _))
theorem fe_din (hu : X.A.units + 10 < cLine) (hi : PE X i (LB T W ty)) (ho : PE X o (LB T W td)) (hm : behindInMarks .In o = false := by rfl) (hw : X.w = T.w := by rfl) : PE X (.Compare i [.In] [o] pos) (LE T W (fBin (oDIn false) ty td)) :=
  PE.weak (pe_cmp (pn_din hu hi ho) hm) fun σ H Q h => two_looks h fun φ H x y m1 m2 f1 f2 Qm r1 r2 w k => by
    obtain ⟨a, ov, e1, g, q⟩ := din_ok r1 r2 w k
    exact ⟨a, ov, e1, hw ▸ g, by simpa using q⟩
theorem fe_dnotin (hu : X.A.units + 10 < cLine) (hi : PE X i (LB T W ty)) (ho : PE X o (LB T W td)) (hm : behindInMarks .NotIn o = false := by rfl) (hw : X.w = T.w := by rfl) : PE X (.Compare i [.NotIn] [o] pos) (LE T W (fBin (oDIn true) ty td)) :=
  PE.weak (pe_cmp (pn_dnotin hu hi ho) hm) fun σ H Q h => two_looks h fun φ H x y m1 m2 f1 f2 Qm r1 r2 w k => by
    obtain ⟨a, ov, e1, g, q⟩ := din_ok r1 r2 w k
    exact ⟨a, ov, e1, hw ▸ g, by simpa using q⟩
theorem bl_of {σ : St} {H : Hp} {Q : Bool → Hp → Prop} {t : FE} (h : LT T W (fBl t) σ H Q) : LE T W t σ H fun x H' => ∃ c, x = .bl c ∧ Q c H' := by
  obtain ⟨ρ, S, φ, fe, fs, E, Qm, G, w, hx, k⟩ := h
  refine ⟨ρ, S, φ, fe, fs, E, _, G, w, hx, fun m S' v H' φ' fs' fm q A r R => ?_⟩
  obtain ⟨b, rfl, q⟩ := q
  cases r with
  | dat r =>
    cases r with
    | bl => exact ⟨b, rfl, k b S' H' φ' fs' q A.drop R⟩
theorem ft_din (hu : X.A.units + 10 < cLine) (hi : PE X i (LB T W ty)) (ho : PE X o (LB T W td)) (hm : behindInMarks .In o = false := by rfl) (hw : X.w = T.w := by rfl) : PT X (.Compare i [.In] [o] pos) (LT T W (fBl (fBin (oDIn false) ty td))) :=
  PT.weak (pt_cmp (pn_din hu hi ho) hm) fun σ H Q h => two_looks (bl_of h) fun φ H x y m1 m2 f1 f2 Qm r1 r2 w k => by
    obtain ⟨a, ov, e1, g, q⟩ := din_ok r1 r2 w k
    exact ⟨a, ov, e1, hw ▸ g, by simpa using q⟩
theorem ft_dnotin (hu : X.A.units + 10 < cLine) (hi : PE X i (LB T W ty)) (ho : PE X o (LB T W td)) (hm : behindInMarks .NotIn o = false := by rfl) (hw : X.w = T.w := by rfl) : PT X (.Compare i [.NotIn] [o] pos) (LT T W (fBl (fBin (oDIn true) ty td))) :=
  PT.weak (pt_cmp (pn_dnotin hu hi ho) hm) fun σ H Q h => two_looks (bl_of h) fun φ H x y m1 m2 f1 f2 Qm r1 r2 w k => by
    obtain ⟨a, ov, e1, g, q⟩ := din_ok r1 r2 w k
    exact ⟨a, ov, e1, hw ▸ g, by simpa using q⟩
def fDGet2 (td ty tx : FE) : FE := fun ρ S Q E => td ρ S (fun m1 S1 => ∃ b l, m1.asD = some (b, l) ∧ ty ρ S1 (fun m2 S2 => tx ρ S2 (fun m3 S3 => ∃ d, m2 = .dat d ∧ ∃ p, d.nk = some p ∧ okK b p ∧ ∃ z, m3 = .dat z ∧ Q (.dat ((dlook l p).getD z)) S3) E) E) E
theorem isDN_of {φ : Ob} {H : Hp} {a : Addr} {h : HO} {b : Bool} {l : List (NK × D)} (hr : Rd H a h) (d : DHo T φ H a b h l) : IsDN T.w H a := by
  rcases d with ⟨_, K, rfl, _⟩ | ⟨_, K, rfl, _⟩
  · exact .inl ⟨K, hr⟩
  · exact .inr ⟨K, hr⟩
theorem fe_dget2 {f : Expr} (hu : X.A.units + 10 < cLine) (ho : PE X o (LB T W td)) (he : PE X e (LB T W ty)) (hf : PE X f (LB T W tx)) (m : M2 X o "get" apos e f cpos := by exact ⟨rfl, rfl, rfl, rfl⟩) (hw : X.w = T.w := by rfl) :
    PE X (.Call (.Attribute o "get" apos) [e, f] [] cpos) (LE T W (fDGet2 td ty tx)) :=
  PE.weak (pn_dget2 hu ho he hf m) fun σ H Q ⟨ρ, S, φ, fe, fs, E, Qm, G, w, hx, k⟩ => by
    refine ⟨ρ, S, φ, fe, fs, E, _, G, w, hx, fun m1 S1 x H1 φ1 fs1 f1 w1 A1 r1 d1 R1 => ?_⟩
    obtain ⟨b, l, e1, w1⟩ := w1
    obtain ⟨a, h, rfl, hr, dh⟩ := asD_ok r1 e1
    have G1 := A1.good G R1
    refine ⟨a, rfl, hw ▸ isDN_of hr dh, ρ, S1, φ1, fe, fs1, E, _, G1, w1, hx.aft A1, fun m2 S2 y H2 φ2 fs2 f2 w2 A2 r2 d2 R2 => ?_⟩
    have G2 := A2.good G1 R2
    refine ⟨ρ, S2, φ2, fe, fs2, E, _, G2, w2, (hx.aft A1).aft A2, fun m3 S3 z H3 φ3 fs3 f3 w3 A3 r3 d3 R3 => ?_⟩
    obtain ⟨d, rfl, p, e2, ok, c, rfl, w3⟩ := w3
    obtain ⟨a', h', ea, hr', dh'⟩ := asD_ok ((A2.trans A3).rep R1 r1 d1) e1
    cases ea
    have r2' := A3.rep R2 r2 d2
    cases r2' with
    | dat r2' =>
      cases r3 with
      | dat r3 =>
        obtain ⟨ov, g, g1, g2⟩ := dget_ok hr' dh' r2' e2 ok
        refine ⟨ov, hw ▸ g, ?_⟩
        have A := (A1.trans A2).trans A3
        cases q : dlook l p with
        | none =>
          rw [g2 q]
          rw [q] at w3
          exact k _ S3 z H3 φ3 fs3 [] w3 A (.dat r3) R3
        | some c2 =>
          obtain ⟨v, rfl, rv⟩ := g1 c2 q
          rw [q] at w3
          exact k _ S3 v H3 φ3 fs3 [] w3 A (.dat rv) R3
/-- d[k] = e -/
def fDSet (i : Nat) (tk t : FE) : FS := fun P ρ S => t ρ S (fun m S1 => ∃ d, m = .dat d ∧ ∃ b l, ρ[i]? = some (some (.dct b l)) ∧ l.length < sizeLine ∧ tk ρ S1 (fun mk S2 => ∃ kd, mk = .dat kd ∧ ∃ p, kd.nk = some p ∧ okK b p ∧
  P.nx (ρ.set i (some (.dct b (dput l p d)))) S2) fun x S' => P.ex x ρ S') fun x S' => P.ex x ρ S'
theorem dput_ok {φ : Ob} {H : Hp} {a : Addr} {h : HO} {b : Bool} {l : List (NK × D)} {y v : V} {d c : D} {p : NK} (hr : H a = some h) (dh : DHo T φ H a b h l) (ry : FD T φ H y d) (rv : FD T φ H v c) (e : d.nk = some p) (ok : okK b p) (hl : l.length < sizeLine) :
    ∃ h', DPutN T.w H a y v (upd H a h') ∧ DHo T φ H a b h' (dput l p c) ∧ OwnO h := by
  rcases dh with ⟨rfl, K, rfl, r⟩ | ⟨rfl, K, rfl, r, q⟩
  · obtain ⟨k, rfl, rfl⟩ := atom_key ry e ok
    exact ⟨_, .inl ⟨K, k, hr, rfl, by rw [r.len]; exact hl, rfl⟩, .inl ⟨rfl, _, rfl, r.put (fun _ _ => nkK_inj) k rv⟩, trivial⟩
  · obtain ⟨c', rfl, hc, d8⟩ := tup_key ry e ok
    refine ⟨_, .inr ⟨K, p, c', hr, q.keysN, rfl, hc, d8, by rw [r.len]; exact hl, rfl⟩, .inr ⟨rfl, _, rfl, r.put p c' rv, keys_put q ?_⟩, trivial⟩
    rw [nk_toD e]
    exact ry
theorem lDSet {D : Ends} {σ : St} {H : Hp} {i : Nat} {tk : FE} (h : LS T W (fDSet i tk t) D σ H) : nDPut T.w (tVar i) (LB T W tk) (LE T W t) D σ H := by
  obtain ⟨ρ, S, φ, fe, fs, P, G, w, k⟩ := h
  refine ⟨ρ, S, φ, fe, fs, _, _, G, w, k.wx G, fun m S1 y H1 φ1 fs1 fm q1 A1 r1 R1 => ?_⟩
  have G1 := A1.good G R1
  obtain ⟨d, rfl, b, l, hm, hz, q1⟩ := q1
  obtain ⟨v, g, f1, f2, hv, r, e, wr⟩ := G1.env.at' hm
  have B1 : AftS φ fe fs H φ1 (fm ++ fe) fs1 H1 := A1.s
  have k1 := k.aft (B1.sub fun a z => List.mem_append_right fm z)
  refine ⟨v, hv, ρ, S1, φ1, fe, fs1, _, _, G1, q1, k1.wx G1, fun m2 S2 v2 H2 φ2 fs2 fm2 q2 A2 r2 d2 R2 => ?_⟩
  obtain ⟨kd, rfl, p, e2, ok, q2⟩ := q2
  have G2 := A2.good G1 R2
  have ry := A2.rep R1 r1 A1.disj
  cases r1 with
  | dat r1 =>
    cases ry with
    | dat ry =>
      have A12 := A1.trans A2
      cases r2 with
      | dat r2 =>
        obtain ⟨v', g', f1', f2', hv', r', e', wr'⟩ := G2.env.at' hm
        rw [hv] at hv'
        cases hv'
        cases r' with
        | @dct a h b l xs kv kd hH dk q0 rs =>
          obtain ⟨h', dp, dh', ow⟩ := dput_ok hH (DHo.of dk rfl q0 rs) r2 ry e2 ok hz
          have ex : Ext H2 (upd H2 a h') := upd_extO hH ow
          obtain ⟨G3, A3⟩ := Good.wrO (fm := []) G2 e' List.mem_cons_self hH ow wr' ((dh'.ext ex (Pre.refl _)).rep upd_same) (fun b hb => by simpa using hb) (by simp) (fun _ z => nomatch z)
          refine ⟨a, _, rfl, dp, ?_⟩
          exact k.nx _ S2 σ _ φ2 _ fs2 q2 (A12.s.trans A3) G3
theorem fs_dset {i : Nat} {nm ix : Expr} {tk : FE} (hu : X.A.units + 10 < cLine) (he : PE X e (LE T W t)) (hn : PE X nm (tVar i)) (hk : PE X ix (LB T W tk)) (hs : swapsWith e (some (.Subscript nm ix pos')) pos.line X.env = pure false := by rfl) (hw : X.w = T.w := by rfl) :
    PS X (.Assign [.Subscript nm ix pos'] e pos) (LS T W (fDSet i tk t)) := PS.weak (pn_dput hu hn hk he hs) fun D σ H h => by
  rw [hw]
  exact lDSet h
end
end L2.Fn
/-! Fn, part J: sorted of tuples of ints and texts. -/
namespace L2.Fn
open PySem PySem.Spec PyProof.Rows

abbrev pkLt (a b : PK) : Bool := PyProof.Rows.lexLt itemOrd a b
def vK : V → Option (Int ⊕ List Nat)
  | .int i => some (.inl i)
  | .str x => some (.inr x.cps.toList)
  | _ => none
theorem vK_kV (k : Key) : vK (kV k) = some (pkK k) := by cases k <;> rfl
theorem vKs_kV (k : List Key) : (k.map kV).filterMap vK = k.map pkK := by
  induction k with
  | nil => rfl
  | cons k l ih => rw [List.map_cons, List.filterMap_cons, vK_kV, List.map_cons, ih]
def kx (H : Hp) (v : V) : PK := match v with
  | .ref t => match H t with
    | some (.tup its) => its.filterMap vK
    | _ => []
  | _ => []
theorem kx_at {H : Hp} {t : Addr} {k : List Key} (h : H t = some (.tup (k.map kV))) : kx H (.ref t) = k.map pkK := by
  show (match H t with | some (.tup its) => its.filterMap vK | _ => []) = _
  rw [h]
  exact vKs_kV k
theorem pk_swo {α : Type} (k : α → PK) : SrtO.Swo (fun v u : α => pkLt (k v) (k u)) := by
  refine ⟨fun x y h => ?_, fun x y z h1 h2 => ?_⟩
  · cases q : pkLt (k y) (k x) with
    | false => rfl
    | true =>
      have := PyProof.Rows.lex_trans (O := itemOrd) _ _ _ h q
      rw [PyProof.Rows.lex_irrefl] at this
      cases this
  · cases q : pkLt (k z) (k x) with
    | false => rfl
    | true =>
      rcases PyProof.Rows.lex_negTrans (O := itemOrd) _ (k y) _ q with r | r
      · exact (nomatch r.symm.trans h2)
      · exact (nomatch r.symm.trans h1)
theorem tupItems_of {shape : Nat → Bool} : ∀ {k : List Key} {us : List Value} {i : Nat}, Vals (k.map kV) us → (∀ j c, k[j]? = some c → shape (i + j) = c.isRight) → tupItems shape i us = some (k.map pkK)
  | [], us, i, r, _ => by
    rw [List.map_nil] at r
    cases r
    simp [tupItems]
  | c :: k, us, i, r, h => by
    rw [List.map_cons] at r
    cases r with
    | cons x r =>
      have ih := tupItems_of (i := i + 1) r fun j c' hj => by
        have := h (j + 1) c' (by simpa using hj)
        rw [← this]
        congr 1
        omega
      have h0 := h 0 c rfl
      rw [Nat.add_zero] at h0
      cases c with
      | inl n =>
        obtain ⟨t, rfl⟩ := x
        have h0 : shape i = false := h0
        simp only [tupItems, h0, ih]
        rfl
      | inr s =>
        obtain ⟨t, rfl⟩ := x
        have h0 : shape i = true := h0
        simp only [tupItems, h0, ih]
        rfl
/-- the tuples that are sorted -/
def TupK (H : Hp) (sh : List Bool) (x : V) : Prop := ∃ (t : Addr) (k : List Key), x = .ref t ∧ H t = some (.tup (k.map kV)) ∧ k.map Sum.isRight = sh
def rSortT (K : PySem.W.Frag) : List V → Hp → VK → Prop := fun vs H Q => ∃ (a : Addr) (xs : List V) (sh : List Bool), vs = [.ref a] ∧ SqL K H a xs ∧ sh ≠ [] ∧ (∀ x ∈ xs, TupK H sh x) ∧
  ∀ ys p, ys.Perm xs → ys.Pairwise (fun x y => pkLt (kx H y) (kx H x) = false) → H p = none → Q (.ref p) (upd H p (.lst ys))
section
variable {X : Cx}
/-- a value that is such a tuple in the heap -/
def IsTK (h : Heap) (sh : List Bool) (v : Value) (p : PK) : Prop := ∃ t o us n, v = .ref t ∧ h.get? t = some o ∧ o.cls = .type "tuple" ∧ o.data = .seq us n ∧ tupItems (fun i => sh.getD i false) 0 us.toList = some p ∧ us[0]?.isSome = true ∧
  (∀ f, us[0]? = some f → (sh.getD 0 false = false → ∃ k t, f = .int k t) ∧ (sh.getD 0 false = true → ∃ x t, f = .str x t))
theorem IsTK.keeps {h h' : Heap} {sh : List Bool} {v : Value} {p : PK} (x : IsTK h sh v p) (k : ∀ b o, h.get? b = some o → o.cls = .type "tuple" → h'.get? b = some o) : IsTK h' sh v p := by
  obtain ⟨t, o, us, n, e, ho, hc, r⟩ := x
  exact ⟨t, o, us, n, e, k t o ho hc, hc, r⟩
theorem IsTK.key {h : Heap} {sh : List Bool} {v : Value} {p : PK} (x : IsTK h sh v p) : tupKey h (fun i => sh.getD i false) v = some p := by
  obtain ⟨t, o, us, n, rfl, ho, hc, hd, hi, _⟩ := x
  simp only [tupKey, ho, hd, hi]
theorem tups_of {h : Heap} {sh : List Bool} : ∀ {vs : List Value}, (∀ v ∈ vs, ∃ p, IsTK h sh v p) → ∃ fs, fs.length = vs.length ∧ TupsOf h (fun i => sh.getD i false) vs fs
  | [], _ => ⟨[], rfl, .nil⟩
  | v :: vs, hv => by
    obtain ⟨fs, h1, h2⟩ := tups_of (vs := vs) fun u hu => hv u (List.mem_cons_of_mem _ hu)
    obtain ⟨p, t, o, us, n, e, ho, hc, hd, hi, hz, hf⟩ := hv v List.mem_cons_self
    cases q : us[0]? with
    | none => rw [q] at hz; cases hz
    | some f => exact ⟨f :: fs, by simp [h1], .cons ⟨t, o, us, n, e, ho, hc, hd, q, hf f q⟩ h2⟩
theorem tk_cmp {prog : Program} {w : World} {A : Around} {s : Shared} {sh : List Bool} {vs : List Value} {k : Value → PK} (hv : ∀ v ∈ vs, IsTK s.heap sh v (k v)) : SrtO.Cmp prog w A s (tuples' true) (fun p => p.1 ∈ vs) (SrtO.lt2 fun v u => pkLt (k v) (k u)) := by
  intro p q hp hq
  show wpAny (model prog w) A (keyLt' (tuples' true) p.1 q.1) (fun r s' => s' = s ∧ r = pkLt (k p.1) (k q.1)) (fun _ _ => False) s
  exact tup_ltAt (shape := fun i => sh.getD i false) true A _ p.1 q.1 (k p.1) (k q.1) (hv _ hp).key (hv _ hq).key ⟨rfl, rfl⟩
theorem cr_sortedT : CallR X (.builtin "sorted") (rSortT X.K) := by
  intro pins s σ H vs us Q I r h
  obtain ⟨a, xs, sh, rfl, hs, hsh, hx, q⟩ := h
  obtain ⟨its, rv, hl, hz⟩ := I.list hs
  obtain ⟨u, rfl, ru⟩ := vals1 r
  obtain rfl : u = Value.ref a := ru
  obtain ⟨e1, e2⟩ := refs_back rv fun x m => by
    obtain ⟨t, k, e, _⟩ := hx x m
    exact ⟨t, e⟩
  have hv : ∀ v ∈ its, IsTK s.heap sh v (kx H (backV v)) := fun v hm => by
    obtain ⟨t, rfl⟩ := e2 v hm
    have hm' : V.ref t ∈ xs := by rw [e1]; exact List.mem_map.mpr ⟨_, hm, rfl⟩
    obtain ⟨t', k, e, ht, hk⟩ := hx _ hm'
    cases e
    obtain ⟨_, us, r2, o, ho, hc, n, hd⟩ := I.hok _ _ ht
    have hi := tupItems_of (shape := fun i => sh.getD i false) (i := 0) r2 fun j c hj => by
      rw [← hk, Nat.zero_add]
      simp [List.getD, hj]
    have e3 : kx H (backV (.ref t)) = k.map pkK := kx_at ht
    rw [e3]
    refine ⟨t, o, us.toArray, n, rfl, ho, hc, hd, hi, ?_, fun f hf => ?_⟩
    · cases k with
      | nil => rw [List.map_nil] at hk; exact absurd hk.symm hsh
      | cons c k =>
        rw [List.map_cons] at r2
        cases r2
        rfl
    · cases k with
      | nil => rw [List.map_nil] at hk; exact absurd hk.symm hsh
      | cons c k =>
        rw [List.map_cons] at r2
        cases r2 with
        | cons x r2 =>
          have e4 : sh.getD 0 false = c.isRight := by rw [← hk]; rfl
          have hf : some _ = some f := hf
          cases hf
          rw [e4]
          cases c with
          | inl n =>
            obtain ⟨t, rfl⟩ := x
            exact ⟨fun _ => ⟨_, _, rfl⟩, fun z => nomatch z⟩
          | inr y =>
            obtain ⟨t, rfl⟩ := x
            exact ⟨fun z => (nomatch z), fun _ => ⟨_, _, rfl⟩⟩
  refine SrtO.sorted_ord (pk_swo fun v => kx H (backV v)) hl.isList (by rw [← rv.length]; exact hz) (fun h2 h₁ b hb kk => ?_) fun out h1 h2 => ?_
  · intro h' keep
    have hv' : ∀ v ∈ its, IsTK h' sh v (kx H (backV v)) := fun v hm => (hv v hm).keeps fun c o e cl => by
      obtain ⟨n1, n2⟩ := kk c o e
      exact keep c o n1 n2
    obtain ⟨fs, f1, f2⟩ := tups_of fun v hm => ⟨_, hv' v hm⟩
    exact ⟨tuples' true, fun Q E hq => tup_kind (shape := fun i => sh.getD i false) (s := { s with heap := h' }) (by omega) f2 hq, tk_cmp (s := { s with heap := h' }) hv'⟩
  · have h3 : ∀ u ∈ out, ∃ a, u = Value.ref a := fun u hu => e2 u (h2.perm.mem_iff.mp hu)
    have hp : (out.map backV).Perm xs := by rw [e1]; exact h2.perm.map backV
    obtain ⟨n, hn⟩ := sortedAll_at s.heap its out.toArray
    have hd : s.heap.objs.size ≤ s.heap.objs.size + 1 := Nat.le_succ _
    refine ⟨.ref _, upd H (s.heap.objs.size + 1) (.lst (out.map backV)), I.laid (t' := s.toks) (fun b o e => sortedAll_old e) hd ⟨?_, out, n, vals_back h3, hn⟩, rfl, q _ _ hp (List.pairwise_map.mpr h1) (I.hok.fresh hd)⟩
    rw [hp.length_eq]
    exact hz
/-! ### as a reading -/
theorem FDs.perm {T : Top} {φ : Ob} {H : Hp} {xs ys : List V} (p : ys.Perm xs) : ∀ {ds : List D}, FDs T φ H xs ds → ∃ es, FDs T φ H ys es ∧ es.Perm ds := by
  induction p with
  | nil => exact fun r => ⟨_, r, List.Perm.refl _⟩
  | cons x p ih =>
    intro ds r
    cases r with
    | cons r1 r =>
      obtain ⟨es, h1, h2⟩ := ih r
      exact ⟨_, .cons r1 h1, h2.cons _⟩
  | swap x y l =>
    intro ds r
    cases r with
    | cons r1 r =>
      cases r with
      | cons r2 r => exact ⟨_, .cons r2 (.cons r1 r), List.Perm.swap _ _ _⟩
  | trans p1 p2 ih1 ih2 =>
    intro ds r
    obtain ⟨es, h1, h2⟩ := ih2 r
    obtain ⟨fs, h3, h4⟩ := ih1 h1
    exact ⟨fs, h3, h4.trans h2⟩
theorem FDs.mem {T : Top} {φ : Ob} {H : Hp} : ∀ {xs : List V} {ds : List D}, FDs T φ H xs ds → ∀ d ∈ ds, ∃ x ∈ xs, FD T φ H x d
  | _, _, .nil, _, h => nomatch h
  | _, _, .cons a b, e, h => by
    rcases List.mem_cons.mp h with z | z
    · subst z; exact ⟨_, List.mem_cons_self, a⟩
    · obtain ⟨y, h1, h2⟩ := b.mem e z
      exact ⟨y, List.mem_cons_of_mem _ h1, h2⟩
theorem FDs.mem' {T : Top} {φ : Ob} {H : Hp} : ∀ {xs : List V} {ds : List D}, FDs T φ H xs ds → ∀ x ∈ xs, ∃ d ∈ ds, FD T φ H x d
  | _, _, .nil, _, h => nomatch h
  | _, _, .cons a b, e, h => by
    rcases List.mem_cons.mp h with z | z
    · subst z; exact ⟨_, List.mem_cons_self, a⟩
    · obtain ⟨y, h1, h2⟩ := b.mem' e z
      exact ⟨y, List.mem_cons_of_mem _ h1, h2⟩
def D.key (d : D) : PK := (d.pk true).getD []
theorem key_ok {T : Top} {φ : Ob} {H : Hp} {v : V} {d : D} {p : PK} (r : FD T φ H v d) (e : d.pk true = some p) : kx H v = p ∧ ∃ (t : Addr) (k : List Key), v = .ref t ∧ H t = some (.tup (k.map kV)) ∧ p = k.map pkK := by
  rcases pk_ok r e with ⟨z, _⟩ | ⟨_, k, a, rfl, h, rfl⟩
  · cases z
  · exact ⟨kx_at h, a, k, rfl, h, rfl⟩
theorem right_map (k : List Key) : (k.map pkK).map Sum.isRight = k.map Sum.isRight := by
  rw [List.map_map]
  exact List.map_congr_left fun c _ => by cases c <;> rfl
theorem FDs.pw {T : Top} {φ : Ob} {H : Hp} : ∀ {xs : List V} {ds : List D}, FDs T φ H xs ds → (∀ d ∈ ds, ∃ p, d.pk true = some p) → xs.Pairwise (fun x y => pkLt (kx H y) (kx H x) = false) → ds.Pairwise (fun x y => pkLt y.key x.key = false)
  | _, _, .nil, _, _ => List.Pairwise.nil
  | _, _, .cons (v := v) (vs := vs) (d := d) (ds := ds) r rs, h, p => by
    obtain ⟨p1, p2⟩ := List.pairwise_cons.mp p
    have kd : ∀ {v : V} {d : D}, FD T φ H v d → (∃ p, d.pk true = some p) → kx H v = d.key := fun {v d} r ⟨p, e⟩ => by
      rw [(key_ok r e).1]
      unfold D.key
      rw [e]
      rfl
    refine List.pairwise_cons.mpr ⟨fun e he => ?_, rs.pw (fun d hd => h d (List.mem_cons_of_mem _ hd)) p2⟩
    obtain ⟨y, hy, ry⟩ := rs.mem e he
    rw [← kd ry (h e (List.mem_cons_of_mem _ he)), ← kd r (h d List.mem_cons_self)]
    exact p1 y hy
/-- sorted(xs): the items tuples of ints and texts, alike in shape -/
def oSortT (ms : List M) (Q : M → Prop) : Prop := match ms with
  | [m] => ∃ ds, m.ld = some ds ∧ ∃ sh : List Bool, sh ≠ [] ∧ (∀ d ∈ ds, ∃ p, d.pk true = some p ∧ p.map Sum.isRight = sh) ∧ ∀ es : List D, es.Perm ds → es.Pairwise (fun x y => pkLt y.key x.key = false) → Q (.lst (es.map .dat))
  | _ => False
theorem o_sortT {T : Top} : OpN T (rSortT T.K) oSortT := by
  intro φ H vs ms f Q Qm r w k
  unfold oSortT at w
  split at w
  · obtain ⟨ds, e, sh, h1, h2, w⟩ := w
    cases r with
    | cons x r =>
      cases r
      obtain ⟨a, xs, rfl, h, rs⟩ := ld_ok x e
      refine ⟨a, xs, sh, rfl, h, h1, ?_, fun ys p hp hs hn => ?_⟩
      · intro x hx
        obtain ⟨d, hd, rd⟩ := rs.mem' x hx
        obtain ⟨p, e, hp⟩ := h2 d hd
        obtain ⟨_, t, k, e1, e2, e3⟩ := key_ok rd e
        exact ⟨t, k, e1, e2, by rw [← hp, e3, right_map]⟩
      · obtain ⟨es, h3, h4⟩ := rs.perm hp
        have F : Fresh H (upd H p (.lst ys)) [p] := Fresh.upd hn
        exact k _ _ _ [p] (w es h4 (h3.pw (fun d hd => by
          obtain ⟨p, e, _⟩ := h2 d (h4.mem_iff.mp hd)
          exact ⟨p, e⟩) hs)) F (.lst upd_same (h3.ext F.ext (Pre.refl _)).reps)
  · exact w.elim
end
end L2.Fn
/-! Fn, part K: enumerate and zip. -/
namespace PySem
open Sem (wp)
theorem fn_enum_new1B {v : Value} {o : Obj} {H : Heap → Prop} (B : Begins v o H) :
    Meets (Builtin.«enumerate.__new__» ⟨[.type "enumerate", v], []⟩) (fun _ R s => H s.heap ∧
      R (.ok (.ret (.ref (s.heap.push o).objs.size))) { s with heap := (s.heap.push o).push { cls := .type "enumerate", data := .fields #[.none, .bool false, .ref s.heap.objs.size, rawInt 0, .none, .none] } }) :=
  .of_wp fun prog w A R s h => by
    obtain ⟨hp, g, d, tk, os⟩ := s; obtain ⟨h1, h⟩ := h
    have hsub := sub_enumerate
    have q1 : ∀ {A' : Around} {E : Value → Shared → Prop} {Q : Value → Shared → Prop}, Q (.ref hp.objs.size) ⟨hp.push o, g, d, tk, os⟩ → wpAny (model prog w) A' (pyIter v) Q E ⟨hp, g, d, tk, os⟩ :=
      fun q => B.iter prog w _ _ ⟨hp, g, d, tk, os⟩ _ h1 q
    wp_walk using q1
    refine wpAny_stack_any fun st => wpAny_pure ?_
    split
    · rename_i c _ _ _ _ _
      cases (c == Value.type "enumerate")
      · wp_walk using q1
        exact ⟨_, rfl, h⟩
      · wp_walk using q1
        exact ⟨_, rfl, h⟩
    · wp_walk using q1
      exact ⟨_, rfl, h⟩
theorem fn_enum_call {prog : Program} {w : World} {A : Around} {E : Value → Shared → Prop} {s : Shared} {v : Value} {o : Obj} {H : Heap → Prop} {Q : Value → Shared → Prop} (B : Begins v o H) (h1 : H s.heap)
    (h : ∀ h', IsEnum h' (s.heap.objs.size + 1) s.heap.objs.size 0 .none → h'.get? s.heap.objs.size = some o → h'.objs.size = s.heap.objs.size + 2 →
      (∀ b o, s.heap.get? b = some o → h'.get? b = some o) → Q (.ref (s.heap.objs.size + 1)) { s with heap := h' }) :
    wpAny (model prog w) A (call (.type "enumerate") [v]) Q E s := by
  refine callType_new F.called_enumerate (by decide) (F.typeCall_enumerate_1 _) (F.newCall_enumerate_1 _) (fun obj => F.args_object_init_2 obj _) F.entry_enumerate_new
    (fn_enum_new1B B) ⟨h1, ?_⟩
  have hz : (s.heap.push o).objs.size = s.heap.objs.size + 1 := Heap.size_push ..
  show _ ∧ _
  rw [hz]
  have he : IsEnum ((s.heap.push o).push { cls := .type "enumerate", data := .fields #[.none, .bool false, .ref s.heap.objs.size, rawInt 0, .none, .none] }) (s.heap.objs.size + 1) s.heap.objs.size 0 .none := by
    have := Heap.get?_push_size (s.heap.push o) (o := { cls := .type "enumerate", data := .fields #[.none, .bool false, .ref s.heap.objs.size, rawInt 0, .none, .none] }) rfl
    rw [hz] at this; exact this
  refine ⟨⟨_, he, rfl⟩, h _ he (Heap.get?_push_of_some _ (Heap.get?_push_size _ B.free)) (by rw [Heap.size_push, hz]) fun b o x => Heap.get?_push_of_some _ (Heap.get?_push_of_some _ x)⟩
end PySem
namespace L2.Fn
open PySem PySem.Spec PyProof.Rows
theorem vals_get' : ∀ {xs : List V} {us : List Value} {j : Nat} {u : Value}, Vals xs us → us[j]? = some u → ∃ x, RelV x u ∧ xs[j]? = some x
  | _, _, j, u, .nil, h => by simp at h
  | _, _, 0, u, .cons x r, h => by
    simp at h
    subst h
    exact ⟨_, x, rfl⟩
  | _, _, j + 1, u, .cons x r, h => by
    obtain ⟨y, h1, h2⟩ := vals_get' (j := j) r (by simpa using h)
    exact ⟨y, h1, by simpa using h2⟩
/-- what a base iterator over fixed items is -/
structure EBase (P : Program) (w : World) (K : PySem.W.Frag) (it : Addr) (n : Nat) (G : Hp → Prop) (Y : Nat → V → Prop) (base : Nat → Heap → Prop) : Prop where
  obj : ∀ i h, base i h → ∃ o, h.get? it = some o ∧ ∀ v, o.data ≠ .cell v
  keep : ∀ i h h', base i h → (∀ o, h.get? it = some o → h'.get? it = some o) → base i h'
  up : ∀ (X : Cx), X.prog = P → X.w = w → X.K = K → ∀ (pins : List (Addr × Obj)) (s : Shared) (σ : St) (H : Hp), X.A.handled = none → Inv X pins σ H s → G H → ∀ i, base i s.heap → H it = none → ∃ (fp : List Addr) (P' : Nat → Value → Prop) (St' : Nat → Heap → Prop),
    Draws P w X.A.in1 it fp n P' St' ∧ St' i s.heap ∧ (∀ j h, St' j h → base j h) ∧ (∀ e o, s.heap.get? e = some o → H e = none → o.cls = .type "enumerate" → e ∉ fp) ∧ ∀ j u, P' j u → ∃ x, RelV x u ∧ Y j x
def IteD (n : Nat) (G : Hp → Prop) (Y : Nat → V → Prop) : It :=
  ⟨fun i H => G H ∧ i < n, fun i H v H' => ∃ T x, v = .ref T ∧ H T = none ∧ H' = upd H T (.tup [.int (i : Nat), x]) ∧ Y i x, fun i H => G H ∧ n ≤ i⟩
theorem turn_enumD {P : Program} {w : World} {K : PySem.W.Frag} {elts : List Expr} {kk : Nat} {tpos : Pos} {e it : Addr} {n : Nat} {G : Hp → Prop} {Y : Nat → V → Prop} {base : Nat → Heap → Prop} (B : EBase P w K it n G Y base) :
    Turn P w K (.Tuple elts kk tpos) (IteD n G Y) [e, it] e (fun i h => i ≤ n ∧ (∃ old, IsEnum h e it ((i : Nat) : Int) old) ∧ base i h ∧ e ≠ it) where
  mem := by simp
  obj := fun i h st b hb => by
    obtain ⟨_, ⟨old, he⟩, hbs, _⟩ := st
    have e' : b = e ∨ b = it := by simpa using hb
    rcases e' with z | z
    · rw [z]; exact ⟨_, he, fun v q => nomatch q⟩
    · rw [z]; exact B.obj i h hbs
  keep := fun i h h' st k => let ⟨hl, ⟨old, he⟩, hi, hne⟩ := st; ⟨hl, ⟨old, k e (by simp) _ he⟩, B.keep i h h' hi fun o q => k it (by simp) o q, hne⟩
  item := by
    intro X hP hw hK hc i pins s σ H E I hf st hg
    obtain ⟨hl, ⟨old, he⟩, hbs, hne⟩ := st
    obtain ⟨fp, P', St', D, hst, down, nin, hY⟩ := B.up X hP hw hK pins s σ H (I.ok.hd hc) I hg.1 i hbs (hf it (by simp)).1
    subst hP hw hK
    have hel : e < s.heap.objs.size := Heap.lt_size he
    have hil : it < s.heap.objs.size := by obtain ⟨o, q, _⟩ := B.obj i _ hbs; exact Heap.lt_size q
    refine wpAny_pyNext_enum_itemD D he hst hg.2 hne (nin e _ he (hf e (by simp)).1 rfl) fun u h' tk hu ho hst' hT hsz hk => ?_
    obtain ⟨x, ru, hx⟩ := hY i u hu
    have hbs' := down _ _ hst'
    refine ⟨_, rfl, wpAny_letOwnedTupleGo_enum (s := { s with heap := h', toks := tk + 1 }) ho fun h'' he' sb => ?_⟩
    have hT2 : h''.get? s.heap.objs.size = some { cls := .type "tuple", data := .seq #[.int i tk, u] } := (sb.2 _ (Nat.ne_of_gt hel)).trans hT
    have new : ObjOk X.prog X.w (upd H s.heap.objs.size (.tup [.int (i : Nat), x])) h'' s.heap.objs.size (.tup [.int (i : Nat), x]) :=
      ⟨by show 2 ≤ sizeLine; decide, [.int i tk, u], .cons ⟨_, rfl⟩ (.cons ru .nil), ⟨_, hT2, rfl, _, rfl⟩⟩
    have I1 : Inv X pins σ (upd H s.heap.objs.size (.tup [.int (i : Nat), x])) { s with heap := h'', toks := tk + 1 } :=
      I.turnedNew (ch := [e, it]) (fun b ob hb q => (sb.2 b (fun z => hb (by simp [z]))).trans (hk b ob (fun z => hb (by simp [z])) (fun z => hb (by simp [z])) q)) hf (Nat.le_refl _) new
    refine ⟨.ref s.heap.objs.size, _, I1, rfl, ⟨_, x, rfl, I.hok.fresh (Nat.le_refl _), rfl, hx⟩, ⟨hg.2, ⟨u, ?_⟩, B.keep _ _ _ hbs' fun o q => (sb.2 it (Ne.symm hne)).trans q, hne⟩, fun b hb => ?_⟩
    · have e1 : ((i + 1 : Nat) : Int) = (i : Int) + 1 := by omega
      rw [e1]; exact he'
    · have hb' : b < s.heap.objs.size := by
        have e' : b = e ∨ b = it := by simpa using hb
        rcases e' with z | z
        · rw [z]; exact hel
        · rw [z]; exact hil
      rw [upd_ne (Nat.ne_of_lt hb')]
      exact (hf b hb).1
  done := by
    intro X hP hw hK hc i pins s σ H E I hf st hg
    obtain ⟨hl, ⟨old, he⟩, hbs, hne⟩ := st
    have ei : i = n := Nat.le_antisymm hl hg.2
    obtain ⟨fp, P', St', D, hst, down, nin, hY⟩ := B.up X hP hw hK pins s σ H (I.ok.hd hc) I hg.1 i hbs (hf it (by simp)).1
    subst hP hw hK
    subst ei
    obtain ⟨f0, f1, f2, f3, f4, f5⟩ := hf it (by simp)
    exact wpAny_pyNext_enum_endD D he hst fun h' eb => ⟨rfl, I.turned (t' := s.toks) (fun b o hb q => eb b o hb q) f0 f1 f3 f4 f5⟩
  self := fun A i s Q E st h => let ⟨_, ⟨_, he⟩, _⟩ := st; wpAny_pyIter_enum he h
theorem ebase_tup {P : Program} {w : World} {K : PySem.W.Frag} {a it : Addr} {xs : List V} (hne : a ≠ it) : EBase P w K it xs.length (fun H => SqT K H a xs) (fun i x => xs[i]? = some x) (fun i h => h.IsTupleIter it a i) where
  obj := fun i h st => by
    obtain ⟨o, e, c, d⟩ := st
    exact ⟨o, e, fun v z => by rw [d] at z; cases z⟩
  keep := fun i h h' st k => st.at k
  up := by
    intro X hP hw hK pins s σ H hh I hG i st hn
    subst hP hw hK
    obtain ⟨its, rv, p, hz⟩ := I.tuple hG
    have D := Draws.tuple (prog := X.prog) (w := X.w) (A := X.A.in1) hh it a hne its.toArray
    rw [show its.toArray.size = xs.length by simp [rv.length]] at D
    refine ⟨_, _, _, D, ⟨st, p⟩, fun j h q => q.1, fun e o he hen hc hm => ?_, fun j u hu => ?_⟩
    · have e' : e = it ∨ e = a := by simpa using hm
      rcases e' with z | z
      · obtain ⟨o2, e2, c2, _⟩ := st
        rw [z, e2] at he
        cases he
        rw [c2] at hc
        exact absurd (Value.type.inj hc) (by decide)
      · obtain ⟨o2, e2, c2, _⟩ := p
        rw [z, e2] at he
        cases he
        rw [c2] at hc
        exact absurd (Value.type.inj hc) (by decide)
    · exact vals_get' rv (by simpa using hu)
theorem ebase_str {P : Program} {w : World} {K : PySem.W.Frag} {it : Addr} {z : Str} {t : Tok} : EBase P w K it z.cps.size (fun _ => True) (fun i x => ∃ c, z.cps[i]? = some c ∧ x = .str ⟨#[c]⟩) (fun i h => h.IsStrIter it (strIterType z) z t i) where
  obj := fun i h st => by
    obtain ⟨o, e, c, d⟩ := st
    exact ⟨o, e, fun v z => by rw [d] at z; cases z⟩
  keep := fun i h h' st k => let ⟨o, ho, r⟩ := st; ⟨o, k o ho, r⟩
  up := by
    intro X hP hw hK pins s σ H hh I hG i st hn
    subst hP hw hK
    refine ⟨_, _, _, Draws.text (A := X.A.in1) hh it z t, st, fun j h q => q, fun e o he hen hc hm => ?_, fun j u hu => ?_⟩
    · have e' : e = it := by simpa using hm
      obtain ⟨o2, e2, c2, _⟩ := st
      rw [e', e2] at he
      cases he
      rw [c2] at hc
      unfold strIterType at hc
      split at hc <;> exact absurd (Value.type.inj hc) (by decide)
    · obtain ⟨c, tk, hc, rfl⟩ := hu
      exact ⟨.str ⟨#[c]⟩, ⟨_, rfl⟩, c, hc, rfl⟩
/-- enumerate(list), enumerate(tuple), enumerate(text) -/
def iEnumA (K : PySem.W.Frag) (ta : TA) : TI := fun σ H R => ta σ H fun vs H1 => (∃ a xs, vs = [.ref a] ∧ SqL K H1 a xs ∧ R (Ite K a) H1) ∨ (∃ a xs, vs = [.ref a] ∧ SqT K H1 a xs ∧ R (IteD xs.length (fun H => SqT K H a xs) fun i x => xs[i]? = some x) H1) ∨
  ∃ z : Str, vs = [.str z] ∧ R (IteD z.cps.size (fun _ => True) fun i x => ∃ c, z.cps[i]? = some c ∧ x = .str ⟨#[c]⟩) H1
theorem pi_enumA {X : Cx} {e : Expr} {ta : TA} {p pos tpos : Pos} {elts : List Expr} {kk : Nat} (hg : Gl X "enumerate") (hm : X.mg "enumerate" = none) (ha : PA X [e] ta) (hs : starEach [e] X.env = [(false, eval e X.env)] := by rfl) :
    PI X (.Tuple elts kk tpos) (.Call (.Name "enumerate" p) [e] [] pos) (iEnumA X.K ta) := by
  refine ⟨fun pins s σ H R I h => ?_⟩
  refine Call_ (ld_blt I hg hm boot_enumerate (PyProof.Rows.callWith_type1 (thn (ha.run pos pins s σ H _ I h) fun us s1 ⟨vs, H1, I1, r1, q1⟩ => ?_) hs rfl))
  have fin : ∀ (h' : Heap) (J : It) (tn : Nat → Heap → Prop), (∀ b o, s1.heap.get? b = some o → h'.get? b = some o) → Turn X.prog X.w X.K (.Tuple elts kk tpos) J [s1.heap.objs.size + 1, s1.heap.objs.size] (s1.heap.objs.size + 1) tn → tn 0 h' → R J H1 →
      PIE X pins σ (.Tuple elts kk tpos) R (.ref (s1.heap.objs.size + 1)) { s1 with heap := h' } := fun h' J tn hk T st q => by
    refine ⟨s1.heap.objs.size + 1, [s1.heap.objs.size + 1, s1.heap.objs.size], tn, J, H1, rfl, I1.kept (t' := s1.toks) hk, T, st, fun b hb => ?_, q⟩
    have e' : b = s1.heap.objs.size + 1 ∨ b = s1.heap.objs.size := by simpa using hb
    have hle : s1.heap.objs.size ≤ b := by
      rcases e' with z | z
      · rw [z]; exact Nat.le_add_right _ _
      · rw [z]; exact Nat.le_refl _
    exact I1.fpOk hle (I1.hok.fresh hle)
  rcases q1 with ⟨a, xs, ex, hq, q⟩ | ⟨a, xs, ex, hq, q⟩ | ⟨z, ex, q⟩
  · subst ex
    cases r1 with
    | cons r rr =>
      cases rr
      cases r
      obtain ⟨its, rv, p', hz⟩ := I1.list hq
      refine call_enumerate_list p'.isList fun h' he hit hsz hk => wpAny_pyIter_enum he ?_
      exact fin h' _ _ hk (turn_enum a _ _) ⟨⟨.none, he⟩, hit, Nat.succ_ne_self _⟩ q
  · subst ex
    cases r1 with
    | cons r rr =>
      cases rr
      cases r
      obtain ⟨its, rv, p', hz⟩ := I1.tuple hq
      have hne : a ≠ s1.heap.objs.size := by
        obtain ⟨o, e, _⟩ := p'
        exact Nat.ne_of_lt (Heap.lt_size e)
      refine fn_enum_call (begins_tuple a its.toArray) p' fun h' he hit hsz hk => wpAny_pyIter_enum he ?_
      exact fin h' _ _ hk (turn_enumD (ebase_tup hne)) ⟨Nat.zero_le _, ⟨.none, he⟩, ⟨_, hit, rfl, rfl⟩, Nat.succ_ne_self _⟩ q
  · subst ex
    cases r1 with
    | cons r rr =>
      cases rr
      obtain ⟨t, rfl⟩ := r
      refine fn_enum_call (begins_text z t) trivial fun h' he hit hsz hk => wpAny_pyIter_enum he ?_
      exact fin h' _ _ hk (turn_enumD (ebase_str (z := z) (t := t))) ⟨Nat.zero_le _, ⟨.none, he⟩, ⟨_, hit, rfl, rfl⟩, Nat.succ_ne_self _⟩ q
/-! ### as readings -/
def enumD (ds : List D) : List D := ds.zipIdx.map fun p => .tup [.int (p.2 : Nat), p.1]
theorem enumD_get (ds : List D) (i : Nat) : (enumD ds)[i]? = (ds[i]?).map fun d => .tup [.int (i : Nat), d] := by
  unfold enumD
  rw [List.getElem?_map, List.getElem?_zipIdx]
  cases ds[i]? <;> simp
theorem enumD_len (ds : List D) : (enumD ds).length = ds.length := by simp [enumD]
def oEnum (ms : List M) (Q : List D → Prop) : Prop := match ms with
  | [m] => oWalk m fun ds => Q (enumD ds)
  | _ => False
section
variable {X : Cx} {T : Top} {W : WX} {e a b : Expr} {pos tpos p : Pos} {elts : List Expr} {kk : Nat}
theorem walks_pair {φ : Ob} {H : Hp} {J : It} {ds : List D} (Y : Nat → Hp → V → Prop)
    (hg : ∀ (i : Nat) (H2 : Hp) (φ2 : Ob), Ext H H2 → Pre φ φ2 → (i < ds.length → J.go i H2) ∧ (ds.length ≤ i → J.stop i H2))
    (hy : ∀ (i : Nat) (H2 : Hp) (φ2 : Ob) (x : V) (H3 : Hp) (d : D), Ext H H2 → Pre φ φ2 → ds[i]? = some d → J.yld i H2 x H3 → ∃ T' x1 x2 d1 d2, x = .ref T' ∧ H2 T' = none ∧ H3 = upd H2 T' (.tup [x1, x2]) ∧ d = .tup [d1, d2] ∧ FD T φ2 H2 x1 d1 ∧ FD T φ2 H2 x2 d2) : Walks T φ J H ds := by
  intro i H2 φ2 ex p
  obtain ⟨g1, g2⟩ := hg i H2 φ2 ex p
  refine ⟨fun d hd => ⟨g1 (List.getElem?_eq_some_iff.mp hd).1, fun x H3 hyl => ?_⟩, g2⟩
  obtain ⟨T', x1, x2, d1, d2, rfl, hn, rfl, rfl, r1, r2⟩ := hy i H2 φ2 x H3 d ex p hd hyl
  have F : Fresh H2 (upd H2 T' (.tup [x1, x2])) [] := Fresh.upd0 hn
  exact ⟨F, .tup upd_same (.cons (r1.ext F.ext (Pre.refl _)) (.cons (r2.ext F.ext (Pre.refl _)) .nil))⟩
theorem walks_enumD {φ : Ob} {H : Hp} {G : Hp → Prop} {Y : Nat → V → Prop} {ds : List D} (hG : ∀ H2, Ext H H2 → G H2) (hY : ∀ i x d, Y i x → ds[i]? = some d → FD T φ H x d) : Walks T φ (IteD ds.length G Y) H (enumD ds) := by
  refine walks_pair (fun _ _ _ => True) (fun i H2 φ2 ex p => ?_) fun i H2 φ2 x H3 d ex p hd hy => ?_
  · rw [enumD_len]
    exact ⟨fun h => ⟨hG H2 ex, h⟩, fun h => ⟨hG H2 ex, h⟩⟩
  · obtain ⟨T', x1, rfl, hn, rfl, hx⟩ := hy
    rw [enumD_get] at hd
    cases q : ds[i]? with
    | none => rw [q] at hd; cases hd
    | some d1 =>
      rw [q] at hd
      cases hd
      exact ⟨T', _, x1, _, d1, rfl, hn, rfl, rfl, .int _, (hY i x1 d1 hx q).ext ex p⟩
theorem fi_enum {ta : FA} (hK : X.K = T.K) (hg : Gl X "enumerate") (hm : X.mg "enumerate" = none) (ha : PA X [e] (LAB T W ta)) (hs : starEach [e] X.env = [(false, eval e X.env)] := by rfl) :
    PI X (.Tuple elts kk tpos) (.Call (.Name "enumerate" p) [e] [] pos) (LI T W (fRng oEnum ta)) := PI.weak (pi_enumA hg hm ha hs) fun σ H R ⟨ρ, S, φ, fe, fs, E, Qm, G, w, hx, k⟩ => by
  refine ⟨ρ, S, φ, fe, fs, E, _, G, w, hx, fun ms S' vs H' φ' fs' fm q A r d R' => ?_⟩
  rw [hK]
  unfold oEnum at q
  split at q
  · cases r with
    | cons x r =>
      cases r
      cases x with
      | lst => exact q.elim
      | dct => exact q.elim
      | dat x =>
        cases x with
        | @lst a xs ds h rs =>
          refine .inl ⟨a, xs, rfl, h.seq, k _ S' _ H' φ' fs' q A R' (walks_pair (fun _ _ _ => True) (fun i H2 φ2 ex p => ?_) fun i H2 φ2 x H3 d ex p hd hy => ?_)⟩
          · have h2 : SqL T.K H2 a xs := (ex.fzl h).seq
            rw [enumD_len, ← rs.len]
            exact ⟨fun hi => ⟨xs, xs[i], h2, List.getElem?_eq_getElem hi⟩, fun hi => ⟨xs, h2, hi⟩⟩
          · obtain ⟨T', x1, rfl, hn, rfl, hx⟩ := hy
            rw [enumD_get] at hd
            cases q : ds[i]? with
            | none => rw [q] at hd; cases hd
            | some d1 =>
              rw [q] at hd
              cases hd
              obtain ⟨y, hy1, hy2⟩ := rs.get q
              have e2 := hx xs (ex.fzl h).seq
              rw [hy1] at e2
              cases e2
              exact ⟨T', _, _, _, d1, rfl, hn, rfl, rfl, .int _, hy2.ext ex p⟩
        | @tup a xs ds h rs =>
          refine .inr (.inl ⟨a, xs, rfl, SqT.of h, ?_⟩)
          rw [rs.len]
          refine k _ S' _ H' φ' fs' q A R' (walks_enumD (fun H2 ex => SqT.of (ex.tup _ _ h)) fun i x d hx hd => ?_)
          obtain ⟨y, hy1, hy2⟩ := rs.get hd
          rw [hx] at hy1
          cases hy1
          exact hy2
        | @ktup a xs ds h rs =>
          refine .inr (.inl ⟨a, xs, rfl, h.sq, ?_⟩)
          rw [rs.len]
          refine k _ S' _ H' φ' fs' q A R' (walks_enumD (fun H2 ex => ex.seqT h.sq) fun i x d hx hd => ?_)
          obtain ⟨y, hy1, hy2⟩ := rs.get hd
          rw [hx] at hy1
          cases hy1
          exact hy2
        | str s =>
          refine .inr (.inr ⟨_, rfl, ?_⟩)
          have e : (⟨s.toArray⟩ : Str).cps.size = (s.map fun c => D.str [c]).length := by simp
          rw [e]
          refine k _ S' _ H' φ' fs' q A R' (walks_enumD (fun H2 ex => trivial) fun i x d ⟨c, hc, hx⟩ hd => ?_)
          rw [List.getElem?_map] at hd
          have hc : s[i]? = some c := by simpa using hc
          rw [hc] at hd
          cases hd
          rw [hx]
          exact .str [c]
        | _ => exact q.elim
  · exact q.elim
def zipD (ds es : List D) : List D := List.zipWith (fun d e => .tup [d, e]) ds es
def oZip (ms : List M) (Q : List D → Prop) : Prop := match ms with
  | [.dat (.lst ds), .dat (.lst es)] => ds.length = es.length ∧ Q (zipD ds es)
  | [.dat (.tup ds), .dat (.tup es)] => ds.length = es.length ∧ Q (zipD ds es)
  | _ => False
theorem zipD_some {ds es : List D} {i : Nat} {d : D} (h : (zipD ds es)[i]? = some d) : ∃ d1 d2, ds[i]? = some d1 ∧ es[i]? = some d2 ∧ d = .tup [d1, d2] := by
  unfold zipD at h
  rw [List.getElem?_zipWith] at h
  cases q1 : ds[i]? with
  | none => rw [q1] at h; cases h
  | some d1 =>
    cases q2 : es[i]? with
    | none => rw [q1, q2] at h; cases h
    | some d2 =>
      rw [q1, q2] at h
      cases h
      exact ⟨d1, d2, rfl, rfl, rfl⟩
theorem zipD_len {ds es : List D} (h : ds.length = es.length) : (zipD ds es).length = ds.length := by
  unfold zipD
  rw [List.length_zipWith, ← h, Nat.min_self]
theorem fi_zip {ta : FA} (hK : X.K = T.K) (hg : Gl X "zip") (hm : X.mg "zip" = none) (ha : PA X [a, b] (LAB T W ta)) (hs : starEach [a, b] X.env = (false, eval a X.env) :: starEach [b] X.env := by rfl) (hpl : (backTo pos (starEach [b] X.env)).any (·.1) = false := by rfl) :
    PI X (.Tuple elts kk tpos) (.Call (.Name "zip" p) [a, b] [] pos) (LI T W (fRng oZip ta)) := PI.weak (RZ.pi_zipA hg hm ha hs hpl) fun σ H R ⟨ρ, S, φ, fe, fs, E, Qm, G, w, hx, k⟩ => by
  refine ⟨ρ, S, φ, fe, fs, E, _, G, w, hx, fun ms S' vs H' φ' fs' fm q A r d R' => ?_⟩
  rw [hK]
  unfold oZip at q
  split at q
  · cases r with
    | cons x r =>
      cases r with
      | cons y r =>
        cases r
        cases x with
        | dat x =>
          cases y with
          | dat y =>
            cases x with
            | @lst c xs ds h1 rs1 =>
              cases y with
              | @lst c2 ys es h2 rs2 =>
                refine ⟨c, c2, xs, ys, rfl, .inl ⟨h1.seq, h2.seq, k _ S' _ H' φ' fs' q.2 A R' (walks_pair (fun _ _ _ => True) (fun i H2 φ2 ex p => ?_) fun i H2 φ2 x H3 d ex p hd hy => ?_)⟩⟩
                · have g1 : SqL T.K H2 c xs := (ex.fzl h1).seq
                  have g2 : SqL T.K H2 c2 ys := (ex.fzl h2).seq
                  rw [zipD_len q.1, ← rs1.len]
                  have e1 := rs1.len
                  have e2 := rs2.len
                  have e3 := q.1
                  exact ⟨fun hi => ⟨xs, ys, xs[i], ys[i]'(by omega), g1, g2, List.getElem?_eq_getElem hi, List.getElem?_eq_getElem _⟩, fun hi => ⟨xs, ys, g1, g2, .inl hi⟩⟩
                · obtain ⟨T', x1, x2, rfl, hn, rfl, hx1, hx2⟩ := hy
                  obtain ⟨d1, d2, e1, e2, rfl⟩ := zipD_some hd
                  obtain ⟨y1, hy1, ry1⟩ := rs1.get e1
                  obtain ⟨y2, hy2, ry2⟩ := rs2.get e2
                  have z1 := hx1 xs (ex.fzl h1).seq
                  have z2 := hx2 ys (ex.fzl h2).seq
                  rw [hy1] at z1
                  rw [hy2] at z2
                  cases z1
                  cases z2
                  exact ⟨T', _, _, d1, d2, rfl, hn, rfl, rfl, ry1.ext ex p, ry2.ext ex p⟩
  · cases r with
    | cons x r =>
      cases r with
      | cons y r =>
        cases r
        cases x with
        | dat x =>
          cases y with
          | dat y =>
            cases x with
            | @tup c xs ds h1 rs1 =>
              cases y with
              | @tup c2 ys es h2 rs2 =>
                refine ⟨c, c2, xs, ys, rfl, .inr ⟨SqT.of h1, SqT.of h2, k _ S' _ H' φ' fs' q.2 A R' (walks_pair (fun _ _ _ => True) (fun i H2 φ2 ex p => ?_) fun i H2 φ2 x H3 d ex p hd hy => ?_)⟩⟩
                · have g1 : SqT T.K H2 c xs := SqT.of (ex.tup _ _ h1)
                  have g2 : SqT T.K H2 c2 ys := SqT.of (ex.tup _ _ h2)
                  rw [zipD_len q.1, ← rs1.len]
                  have e1 := rs1.len
                  have e2 := rs2.len
                  have e3 := q.1
                  exact ⟨fun hi => ⟨xs, ys, xs[i], ys[i]'(by omega), g1, g2, List.getElem?_eq_getElem hi, List.getElem?_eq_getElem _⟩, fun hi => ⟨xs, ys, g1, g2, .inl hi⟩⟩
                · obtain ⟨T', x1, x2, rfl, hn, rfl, hx1, hx2⟩ := hy
                  obtain ⟨d1, d2, e1, e2, rfl⟩ := zipD_some hd
                  obtain ⟨y1, hy1, ry1⟩ := rs1.get e1
                  obtain ⟨y2, hy2, ry2⟩ := rs2.get e2
                  have z1 := hx1 xs (SqT.of (ex.tup _ _ h1))
                  have z2 := hx2 ys (SqT.of (ex.tup _ _ h2))
                  rw [hy1] at z1
                  rw [hy2] at z2
                  cases z1
                  cases z2
                  exact ⟨T', _, _, d1, d2, rfl, hn, rfl, rfl, ry1.ext ex p, ry2.ext ex p⟩
  · exact q.elim
end
end L2.Fn
/-! Fn, part L: errors of own classes: made, raised, caught, looked at. -/
namespace L2.Fn
open PySem PySem.Spec PyProof.Rows

/-! ### own errors are made with no context -/
theorem pmk_oexN {X : Cx} {e : Expr} {es : List Expr} {p pos : Pos} {ta : TA} {CX : CXT} {x : Str} {C fI : Addr} {k : Nat} {fd : FuncData} {ps : List Str} {sp : Sp} {ds : List Value} {dvs : List V} (T : OexC X.K C) (ini : PySem.W.findIn X.K (.ref C) "__init__" = some (some (.ref fI))) (tyI : PySem.W.typeIn X.K (.ref fI) = some (.type "function"))
    (own : FnOk X.prog X.w X.K X.mg X.base CX k fI fd ps sp) (hr : Room (k + 1) X.A) (hb : Binds X.K fd ps ds) (hd : Vals dvs ds) (no : Passes CX X (fun _ _ _ => False)) (hg : Gl X x) (hm : X.mg x = some (.ref C)) (ha : PA X (e :: es) ta)
    (hdb : (x == ("__debug__" : Str)) = false := by decide) (he : starEach (e :: es) X.env = (false, eval e X.env) :: starEach es X.env := by rfl) (hpl : (backTo pos (starEach es X.env)).any (·.1) = false := by rfl) : L2N.PMk X (.Call (.Name x p) (e :: es) [] pos) (tMkO C sp dvs ta) := by
  intro pins s σ H Q I h
  obtain ⟨_, _, _, _, bm, _, _, _, _, _, _, _, _, _, _, hC, hbm⟩ := T.cls
  refine wpAny_Call_Name_kw (ld_glob I hg hm (PySem.W.callWith_K (h₀ := X.base) I.ok.mod.kin T.kC (thn (ha.run pos pins s σ H _ I h) fun us s1 ⟨vs, H1, I1, rv, few, q1⟩ => ⟨I1.kIn, ?_⟩) he hpl) hdb)
  show wpAny _ _ (call (.ref C) us) _ _ _
  obtain ⟨hp, g, dr, tk, os⟩ := s1
  have next : hp.objs.size ≤ hp.objs.size + 1 := Nat.le_succ _
  have q2 := q1 (hp.objs.size + 1) (I1.hok.fresh next)
  have grows : ∀ b o, hp.get? b = some o → ((hp.push (PySem.W.kdv_tup us)).push (PySem.HandSPX.excO C hp.objs.size)).get? b = some o := fun b o z => Heap.get?_push_of_some _ (Heap.get?_push_of_some _ z)
  have made : ((hp.push (PySem.W.kdv_tup us)).push (PySem.HandSPX.excO C hp.objs.size)).get? (hp.objs.size + 1) = some (PySem.HandSPX.excO C hp.objs.size) := by heap_get
  have I2 : Inv X pins σ (upd H1 (hp.objs.size + 1) (exo (hp.objs.size + 1) C none)) ⟨(hp.push (PySem.W.kdv_tup us)).push (PySem.HandSPX.excO C hp.objs.size), g, dr, tk, os⟩ := I1.laid (t' := tk) (a := hp.objs.size + 1) (o := exo (hp.objs.size + 1) C none) grows next (exo_ok made)
  have rall : Vals (V.ref (hp.objs.size + 1) :: (vs ++ dvs)) (Value.ref (hp.objs.size + 1) :: (us ++ ds)) := .cons rfl (rv.append hd)
  have len : (Value.ref (hp.objs.size + 1) :: us ++ ds).length = ps.length := rall.length.symm.trans (own.len _ _ _ _ q2)
  have fits : us.length ≤ sizeLine := by rw [← Paired.length rv, sizeLine_eq]; omega
  refine wpAny_call (PySem.HandSPX.call_own F.excBase_ValueError (fun Y => PySem.HandSPX.refsVE_contains Y bm hbm) (I1.kIn _ _ hC) (PySem.W.looks_findIn I1.kIn ini) (fun self => PySem.W.bind_fn I1.kIn self tyI) fits
    (codeAny_mono (own.run _ X.stack _ _ ⟨Value.ref (hp.objs.size + 1) :: us, []⟩ (Value.ref (hp.objs.size + 1) :: (us ++ ds)) _ _ (fun _ _ _ => False) (hr.make C us []) (I2.env0.make C us []) (hb _ (Value.ref (hp.objs.size + 1) :: us) I2.kIn len) rall q2) fun r s2 out => ?_))
  rcases r with er | fl
  · exact no pins σ _ _ er s2 I2 out
  · cases fl with
    | ret u =>
      obtain ⟨v, H2, os2, bare, un, hok, ru, rfl, d, fs, ea, ed, d0, q3⟩ := out
      obtain ⟨h2, g2, d2, t2, os'⟩ := s2
      obtain ⟨t0, G, J, kG, ge, hoe, na⟩ := mk_end0 (d2 := d2) (t2 := t2) I1 next grows un hok os2 bare ea ed d0
      exact ⟨ru, _, _, _, ⟨G, g2, d2, t2, os'⟩, _, .ref C, some d, rfl, J, kG, ge, hoe, ⟨rfl, rfl, fun vs z => by cases z; rfl⟩, rfl, rfl, na, rfl, bare, raises_own T.exC T.tyC, q3⟩
    | next => exact out.elim
    | brk => exact out.elim
    | cont => exact out.elim
/-! ### the class's own __init__: self.f = f -/
def spInit (K : PySem.W.Frag) (f : Str) : Sp := fun vs H Q E => ∃ (a C : Addr) (y : V), vs = [.ref a, y] ∧ OexC K C ∧ PySem.W.findIn K (.ref C) f = some none ∧ H a = some (exo a C none) ∧
  ∀ dx, H dx = none → dx ≠ a → Q .non (upd (upd H dx (exd dx [(f, y)])) a (exo a C (some dx)))
theorem init_ok {P : Program} {w : World} {K : PySem.W.Frag} {mg : Str → Option Value} {base : Heap} {x qual f : Str} {st : Stmt} {fa : Addr} {fd : FuncData} {k : Nat} (F : Fun K x qual st fa fd) (S : FnScope ["self", f] ["self", f] (defScope st))
    (hb : ∀ (cdv : Value) (A : Around) (outer : List Env) (s : Shared) (H : Hp) (E : XK), PSs (cxOf (L2N.CX P w) P w K mg base ["self", f] qual (defScope st) fa cdv A outer s H E) (defBody st) (tOst K f (tVar 0) (tVar 1))) : FnOk P w K mg base (L2N.CX P w) (k + 1) fa fd ["self", f] (spInit K f) := by
  obtain ⟨oc, od, kV, doc, pm, an, cdv, ct, osl, rfl, lk, hcd⟩ := F.ex
  refine fn_of lk hcd S (fun vs H Q E h => ?_) (fun A outer s H vs Q E hr h => ⟨_, hb cdv A outer s H E, ?_⟩)
  · obtain ⟨a, C, y, rfl, _⟩ := h
    rfl
  · obtain ⟨a, C, y, rfl, T, hno, ha, q⟩ := h
    exact ⟨y, rfl, .ref a, rfl, a, C, rfl, T, hno, .inl ⟨ha, fun dx hn ne => q dx hn ne⟩⟩
/-- the j-th statement of a class -/
def clsS (s : Stmt) (j : Nat) : Stmt := match s with
  | .ClassDef (body := b) .. => b.getD j (.Pass ⟨0, 0, 0, 0⟩)
  | _ => .Pass ⟨0, 0, 0, 0⟩
theorem cx_no {P : Program} {w : World} {outer : List Env} {H : Hp} {s : Shared} {e : Value} {s' : Shared} (h : L2N.CX P w outer H s (fun _ _ _ => False) e s') : False := by
  obtain ⟨_, _, _, _, _, _, _, _, _, _, _, _, z⟩ := h
  exact z.elim
/-- an error class x with one attribute f -/
structure ExcAt (P : Program) (w : World) (K : PySem.W.Frag) (mg : Str → Option Value) (base : Heap) (x f : Str) (k : Nat) (C : Addr) : Prop where
  hm : mg x = some (.ref C)
  oex : OexC K C
  own : PySem.W.findIn K (.ref C) f = some none
  ini : ∃ (fI : Addr) (fd : FuncData), PySem.W.findIn K (.ref C) "__init__" = some (some (.ref fI)) ∧ PySem.W.typeIn K (.ref fI) = some (.type "function") ∧ FnOk P w K mg base (L2N.CX P w) k fI fd ["self", f] (spInit K f) ∧ Binds K fd ["self", f] []
section
variable {X : Cx} {W : WX} {e a b : Expr} {t ta tb : FE} {pos pos' p : Pos} {es : List Expr} {rest body : List Stmt} {u w : FS} {x f : Str} {k : Nat} {C : Addr}
/-- raise x(e) -/
def fRaise1 (x f : Str) (t : FE) : FS := fun P ρ S => t ρ S (fun m S' => ∃ d, m = .dat d ∧ P.ex ⟨x, [(f, d)]⟩ ρ S') fun y S' => P.ex y ρ S'
theorem fs_raise1 (A : ExcAt X.prog X.w X.K X.mg X.base x f k C) (hc : X.calm = true) (hr : Room (k + 1) X.A) (tk : L2N.Takes X W) (hg : Gl X x) (he : PE X e (LB ⟨X.K, X.mg, X.w⟩ W t)) (hdb : (x == ("__debug__" : Str)) = false := by decide)
    (hs : starEach [e] X.env = [(false, eval e X.env)] := by rfl) : PS X (.Raise (some (.Call (.Name x p) [e] [] pos)) none pos') (LS ⟨X.K, X.mg, X.w⟩ W (fRaise1 x f t)) := by
  obtain ⟨hm, T, own, fI, fd, h1, h2, h3, h4⟩ := A
  refine PS.weak (L2N.ps_raise hc tk (pmk_oexN T h1 h2 h3 hr h4 .nil (fun pins σ H s e s' I h => (cx_no h).elim) hg hm (pa_cons he pa_nil (by rw [hs]; rfl)) hdb (by rw [hs]; rfl))) fun D σ H h => ?_
  obtain ⟨ρ, S, φ, fe, fs, P, G, w, k⟩ := h
  refine ⟨ρ, S, φ, fe, fs, _, _, G, w, k.wx G, fun m S1 v H1 φ1 fs1 fm q1 A1 r1 d1 R1 => ?_⟩
  obtain ⟨d, rfl, q1⟩ := q1
  cases r1 with
  | dat r1 =>
    refine ⟨by simp, fun a ha => ⟨a, C, v, rfl, T, own, upd_same, fun dx hdx ne => ?_⟩⟩
    have hdx1 : H1 dx = none := by
      rw [upd_ne ne] at hdx
      exact hdx
    refine ⟨rfl, dx, [(f, v)], upd_same, by rw [upd_ne ne, upd_same], hdx1, ?_⟩
    have e1 : upd (del (upd (upd (upd H1 a (exo a C none)) dx (exd dx [(f, v)])) a (exo a C (some dx))) a) dx (.xd [(f, v)]) = upd H1 dx (.xd [(f, v)]) := by
      funext c
      by_cases h1 : c = dx
      · subst h1
        rw [upd_same, upd_same]
      · rw [upd_ne h1, upd_ne h1]
        by_cases h2 : c = a
        · subst h2
          rw [del_same, ha]
        · rw [del_ne h2, upd_ne h2, upd_ne h1, upd_ne h2]
    rw [e1]
    have F : Fresh H1 (upd H1 dx (.xd [(f, v)])) [] := Fresh.upd0 hdx1
    have A2 := A1.drop.trans (F.aft R1 A1.ndS)
    have R2 := F.sto R1
    exact k.ex _ ρ S1 (.ref C) (some dx) σ _ φ1 fe fs1 q1 (A2.s.sub fun a z => List.mem_append_right _ z) (A2.good G R2) (.own1 hm upd_same (r1.ext F.ext (Pre.refl _)))
end
end L2.Fn
/-! Fn, part M: try with a named first clause that takes what is thrown. -/
namespace L2
open PySem PySem.Spec PyProof.Rows
/-- the first clause takes it, its name at the slot i -/
def wFst (K : PySem.W.Frag) (c : Value) (i : Nat) (ts : Addr → Value → Option Addr → TS) (D : Ends) : WX := fun kl dd τ G =>
  PySem.W.exmOne K kl c = some true ∧ ∀ a, G a = none → ts a kl dd { nx := fun τ1 G1 => D.nx (τ1.set i none) G1, rt := D.rt, bk := fun τ1 G1 => D.bk (τ1.set i none) G1, ct := fun τ1 G1 => D.ct (τ1.set i none) G1 } (τ.set i (some (.ref a))) G
section
variable {X : Cx} {x n : Str} {c : Value} {i : Nat} {body su : List Stmt} {s0 : Stmt} {hds : List ExceptHandler} {np pos pq : Pos} {tb : WX → TS} {ts : Addr → Value → Option Addr → TS}
theorem ps_try_fst (st : X.stack = X.env :: X.outer) (fr : X.env.frame = some X.env.locals) (nd : X.N.Nodup) (sl : X.N[i]? = some n) (kd : X.env.kindOf n = some .local) (nm : Names X x c)
    (run : ∀ (W : WX) (pn : List (Addr × Obj)) (xe : Value → Shared → Prop), L2N.Takes (X.tr pn xe) W → PassesOwn (model X.prog X.w) X.A X.env xe → PSs (X.tr pn xe) body (tb W))
    (take : ∀ (a : Addr) (oe : Obj) (kl : Value) (dd : Option Addr) (pn : List (Addr × Obj)), L2N.Zn kl dd oe → (∃ vs, oe.data = .fields vs) → PSs (X.suite a ((a, oe) :: pn)) (s0 :: su) (ts a kl dd)) :
    PS X (.Try body (.ExceptHandler (some (.Name x np)) (some n) (s0 :: su) pq :: hds) [] [] pos) (fun D τ G => tb (wFst X.K c i ts D) D τ G) := by
  refine ⟨fun pins r τ G D Iv wish => ?_⟩
  have okX := Iv.ok
  have frX : X.A.frames = some (X.env :: X.outer) := by rw [okX.frames, st]
  have lc : Loc X.env.scope n := .inl kd
  refine wpAny_Try_except ?_
  have start := run (wFst X.K c i ts D) (X.pn ++ pins) (fun e r1 => wpAny (model X.prog X.w) X.A (noteFrame e X.env) (fun _ r2 => wpAny (model X.prog X.w) X.A (setFlight e none) (fun _ r3 =>
    wpAny (model X.prog X.w) X.A (handleBy e X.env (.ExceptHandler (some (.Name x np)) (some n) (s0 :: su) pq :: hds)) (SP X pins D) X.xe r3) X.xe r2) X.xe r1)
  refine wpAny_mono ((start (fun u r' thr => ?_) PassesOwn.looking).run [] r τ G D (Iv.toTry _) wish) (fun fl r1 done => ?_) (fun e r1 he => he)
  · obtain ⟨a, B, rI, pins1, τ1, G1, kl, dd, rfl, Jt, nb, up0, sky0, fresh, oss, ag, mt, suited⟩ := thr
    have Jn : Inv X pins τ1 G1 rI := Jt.ofTry okX
    have sky1 : Sky B (X.env :: X.outer) a (L2N.Zn kl dd) X.env.locals r'.heap := by
      rw [← st]
      exact sky0
    show wpAny (model X.prog X.w) X.A (noteFrame (.ref a) X.env) _ _ _
    refine L2N.Sky.land L2N.Zn.steady frX fr sky1 fun g3 land3 up3 => ?_
    have Jl : Inv X pins τ1 G1 { r' with heap := g3 } := Jn.landed nb land3.1 (up0.trans up3) oss ag
    obtain ⟨o3, f3, get3, z3, dat3⟩ := land3.there
    have off : a ∉ frs (X.env :: X.outer) := fun hm => by
      obtain ⟨_, o', e', none'⟩ := land3.2.2.1.mem hm
      rw [get3] at e'
      cases e'
      exact none' _ dat3
    have offL : a ≠ X.env.locals := fun z => off (List.mem_filterMap.mpr ⟨X.env, List.mem_cons_self, by rw [fr, z]⟩)
    have offF : a ∉ X.fs := fun hm => by
      obtain ⟨ev, mem, eq⟩ := List.mem_filterMap.mp hm
      exact off (List.mem_filterMap.mpr ⟨ev, List.mem_cons_of_mem _ mem, eq⟩)
    have Js := Jl.suite get3 dat3 fresh offL offF
    refine wpAny_handleBy_cons (codeAny_handlers_test ?_) (by intro bad; cases bad)
    have lt : PySem.W.Looks (model X.prog X.w) g3 (typeOf (.ref a)) kl := fun A' Q' E' s' kp q => wpAny_typeOf_ref (kp _ _ get3) (by rw [z3.1]; exact q)
    have lm := PySem.W.exm_one (M := model X.prog X.w) (Jl.kIn) lt mt
    have named : ∀ {Q : Value → Shared → Prop} {E : Value → Shared → Prop}, Q c { r' with heap := g3 } → wpAny (model X.prog X.w) (X.A.mark (some (.ref a))) (eval (.Name x np) X.env) Q E { r' with heap := g3 } := fun {Q E} q => by
      obtain ⟨gl, dbg, own | ⟨own, blt, noN⟩⟩ := nm
      · exact ld_glob (X := X.suite a ((a, o3) :: (X.pn ++ pins))) Js gl own q dbg
      · exact ld_blt (X := X.suite a ((a, o3) :: (X.pn ++ pins))) Js gl own blt q noN dbg
    refine named (lm.here ?_)
    refine codeAny_handlers_suite_as ?_
    refine HandSPX.lands_againZ land3 fun g4 land4 up4 => ?_
    have J4 : Inv X pins τ1 G1 { r' with heap := g4 } := Jn.landed nb land4.1 ((up0.trans up3).trans up4) oss ag
    obtain ⟨o4, f4, get4, z4, dat4⟩ := land4.there
    have S4 := J4.suite get4 dat4 fresh offL offF
    refine store_ok (X := X.suite a ((a, o4) :: (X.pn ++ pins))) (v := .ref a) S4 nd sl lc rfl (fun r5 S5 => ?_) (.inr kd)
    refine wpAny_mono ((take a o4 kl dd (X.pn ++ pins) z4 ⟨_, dat4⟩).run [] r5 _ G1 _ S5 (suited a fresh)) (fun fl r6 out => ?_) (fun _ _ z => False.elim z)
    have gone : ∀ {τ6 : St} {G6 : Hp} {Q : Shared → Prop}, Inv (X.suite a ((a, o4) :: (X.pn ++ pins))) [] τ6 G6 r6 → (∀ r7, Inv X pins (τ6.set i none) G6 r7 → Q r7) →
        wpAny (model X.prog X.w) X.A (do bindName X.env n .none; unbindBehindTheSuite X.env n pq) (fun _ r7 => Q r7) X.xe r6 := fun {τ6 G6 Q} S6 hq => gone_ok (S6.unsuite okX) nd sl kd hq
    cases fl with
    | next =>
      obtain ⟨τ6, G6, S6, q6⟩ := out
      exact gone S6 fun r7 J7 => ⟨_, _, J7, q6⟩
    | brk =>
      obtain ⟨τ6, G6, S6, q6⟩ := out
      exact gone S6 fun r7 J7 => ⟨_, _, J7, q6⟩
    | cont =>
      obtain ⟨τ6, G6, S6, q6⟩ := out
      exact gone S6 fun r7 J7 => ⟨_, _, J7, q6⟩
    | ret u =>
      obtain ⟨v6, τ6, G6, S6, rv6, q6⟩ := out
      exact gone S6 fun r7 J7 => ⟨_, _, _, J7, rv6, q6⟩
  · cases fl with
    | next =>
      obtain ⟨τ1, G1, J1, q⟩ := done
      exact wpAny_execs_nil ⟨τ1, G1, J1.ofTry okX, q⟩
    | brk =>
      obtain ⟨τ1, G1, J1, q⟩ := done
      exact ⟨τ1, G1, J1.ofTry okX, q⟩
    | cont =>
      obtain ⟨τ1, G1, J1, q⟩ := done
      exact ⟨τ1, G1, J1.ofTry okX, q⟩
    | ret u =>
      obtain ⟨v, τ1, G1, J1, rv, q⟩ := done
      exact ⟨v, τ1, G1, J1.ofTry okX, rv, q⟩
end
end L2
/-! Fn, part N: caught errors as they are looked at; try as a reading. -/
namespace L2.Fn
open PySem PySem.Spec PyProof.Rows

/-! ### isinstance of the caught error -/
section
variable {X : Cx} {a D dd : Addr} {oe : Obj} {pn : List (Addr × Obj)}
theorem inst_of {K : PySem.W.Frag} {σ : St} {H : Hp} {s : Shared} {pins : List (Addr × Obj)} {fs : List (Str × V)} (hz : Zc (.ref D) (some dd) oe) (hf : ∃ vs, oe.data = .fields vs) (I : Inv (X.suite a ((a, oe) :: pn)) pins σ H s) (hd : H dd = some (.xd fs)) : ∃ od, PySem.W.InstAt s.heap a oe D (some od) := by
  obtain ⟨ha, _⟩ := I.pin (a, oe) (List.mem_append_left _ List.mem_cons_self)
  obtain ⟨vs, hv⟩ := hf
  have hx : ObjOk X.prog X.w H s.heap dd (.xd fs) := I.hok dd _ hd
  obtain ⟨mA, hns, hr⟩ := hx
  obtain ⟨od, ho, hl⟩ := lookIn_ns hns
  exact ⟨od, ha, hz.1, by unfold PySem.W.notCls; rw [hv] <;> rfl, by rw [hz.2]; exact ho⟩
theorem kit_exc {K : PySem.W.Frag} {x : Addr} {ox : Obj} {od : Option Obj} (C : ExcC K D) : PySem.W.KitX K (.ref x) (.ref D) (fun h => PySem.W.InstAt h x ox D od) := by
  have hcl : (PySem.W.clsIn K D).isSome = true := by
    obtain ⟨cd, hc, _⟩ := PySem.W.any_some C.hd
    rw [hc]
    rfl
  exact PySem.W.kitx_exc hcl C.hg C.hk C.hs C.ha C.hn C.ht C.hm
def rIsE1 (K : PySem.W.Frag) (D a dd : Addr) : List V → Hp → VK → Prop := fun xs H Q => ∃ (c : V) (cv : Value) (b : Bool) (fs : List (Str × V)), xs = [.ref a, c] ∧ ClsV c cv ∧ PySem.W.kitOne K (.ref D) cv = some b ∧ H dd = some (.xd fs) ∧ Q (.bl b) H
theorem call_isE1 (C : ExcC X.K D) (hz : Zc (.ref D) (some dd) oe) (hf : ∃ vs, oe.data = .fields vs) : CallR (X.suite a ((a, oe) :: pn)) (.builtin "isinstance") (rIsE1 X.K D a dd) := by
  intro pins s σ H xs us Q I r h
  obtain ⟨c, cv, b, fs, rfl, hcv, e, hd, q⟩ := h
  obtain ⟨u1, u2, rfl, r1, r2⟩ := vals2 r
  cases (show u1 = Value.ref a from r1)
  have ec := hcv.eq r2
  subst ec
  obtain ⟨od, J⟩ := inst_of (K := X.K) hz hf I hd
  exact PySem.W.kia_one (kit_exc C) I.kIn J e (fun z => nomatch z) fun tk => ⟨.bl b, H, I.tok tk, rfl, q⟩
def rIsE2 (K : PySem.W.Frag) (D a dd : Addr) : List V → Hp → VK → Prop := fun xs H Q => ∃ (tp : Addr) (cs : List V) (ws : List Value) (b : Bool) (fs : List (Str × V)), xs = [.ref a, .ref tp] ∧ H tp = some (.tup cs) ∧ Paired ClsV cs ws ∧ PySem.W.kitAny K (.ref D) ws = some b ∧ H dd = some (.xd fs) ∧ Q (.bl b) H
theorem call_isE2 (C : ExcC X.K D) (hz : Zc (.ref D) (some dd) oe) (hf : ∃ vs, oe.data = .fields vs) : CallR (X.suite a ((a, oe) :: pn)) (.builtin "isinstance") (rIsE2 X.K D a dd) := by
  intro pins s σ H xs us Q I r h
  obtain ⟨tp, cs, ws, b, fs, rfl, hT, k, e, hd, q⟩ := h
  obtain ⟨u1, u2, rfl, r1, r2⟩ := vals2 r
  cases (show u1 = Value.ref a from r1)
  cases (show u2 = Value.ref tp from r2)
  obtain ⟨od, J⟩ := inst_of (K := X.K) hz hf I hd
  obtain ⟨_, its, rv, o, h1, h2, n, h3⟩ := (show ObjOk X.prog X.w H s.heap tp (.tup cs) from I.hok tp _ hT)
  have e3 := ClsV.all k rv
  subst e3
  obtain ⟨oc, od2, dt, sl⟩ := o
  simp only at h2 h3
  subst h2 h3
  exact PySem.W.kia_tup (kit_exc C) I.kIn J h1 e (fun z => nomatch z) fun tk => ⟨.bl b, H, I.tok tk, rfl, q⟩
end
/-! ### readings -/
/-- what is told of a caught error of the class at C -/
structure Caught (X : Cx) (a : Addr) (oe : Obj) (C dd : Addr) (x : Str) : Prop where
  hz : Zc (.ref C) (some dd) oe
  hf : ∃ vs, oe.data = .fields vs
  hm : X.mg x = some (.ref C)
  ctx : PXN.CtxN oe
/-- the caught error's suite is hot -/
theorem Caught.hot {X : Cx} {a : Addr} {oe : Obj} {C dd : Addr} {x : Str} {pn : List (Addr × Obj)} (c : Caught X a oe C dd x) : L2H.HotC (X.suite a ((a, oe) :: pn)) := by
  obtain ⟨vs, h⟩ := c.hf
  exact ⟨(a, oe), ⟨rfl, vs, h, c.ctx vs h⟩, List.mem_cons_self⟩
/-! ### any of a list in a suite -/
theorem list_end_hot {prog : Program} {w : World} {A : Around} {E : Value → Shared → Prop} {s : Shared} {it l x1 : Addr} {i : Nat} {items : Array Value} {Q : Option Value → Shared → Prop} (hot : HotX.HotAt A x1 s.heap) (hit : s.heap.IsListIter it l i) (hl : s.heap.IsList l items) (hx : items[i]? = none) (hne : x1 ≠ it)
    (hQ : ∀ h', Heap.ExtBut it s.heap h' → Q none { s with heap := h' }) : wpAny (model prog w) A (pyNext (.ref it)) Q E s := by
  obtain ⟨o, ho, hc, hd⟩ := id hit
  obtain ⟨ol, hol, _, nl, hdl⟩ := hl
  obtain ⟨hh, o1, vs1, h1, d1, c1⟩ := hot
  unfold pyNext
  refine wpAny_bind (wpAny_attempt (wpAny_callSpecial?_slot (name := Str.ofString "__next__") hit.typeIs slot_listiter_next (wpAny_call_entry slot_listiter_next hit.typeIs entry_listiter_next ?_ (args_listiter_next _))))
  show wpAny _ _ (field (.ref it) 0 >>= _) _ _ s
  refine wpAny_bind (wpAny_field ho hd (x := .ref l) rfl ?_)
  show wpAny _ _ (if (Value.ref l == Value.none) = true then _ else _) _ _ s
  rw [if_neg (show ¬ ((Value.ref l == Value.none) = true) from Bool.false_ne_true)]
  show wpAny _ _ (field (.ref it) 1 >>= _) _ _ s
  refine wpAny_bind (wpAny_field ho hd (x := .int i 0) rfl ?_)
  show wpAny _ _ (seqItems? (.ref l) >>= _) _ _ s
  refine wpAny_bind (wpAny_seqItems hol hdl ?_)
  simp only [Int.toNat_natCast, hx]
  refine wpAny_bind (wpAny_rule (wpAny_bind (wpAny_setField ho hd (by simp) ?_)))
  show wpAny _ _ (newExc (.type "StopIteration") [] >>= _) _ _ _
  refine wpAny_bind ?_
  simp only [newExc, newTuple]
  refine wpAny_bind (wpAny_newObj_type ?_ (by size_fits))
  refine wpAny_bind (m := firstArgMember _ _) (wpAny_of_eq (a := Value.none) (by first | rfl | (simp only [firstArgMember]; rfl)) ?_)
  refine wpAny_newObj_type ?_ (by size_fits)
  have g1 : (s.heap.update it (Obj.mapFields (·.setIfInBounds 0 .none))).get? x1 = some o1 := (Heap.get?_update_other _ _ (Ne.symm hne)).trans h1
  have k2 : ∀ b ob, b ≠ it → s.heap.get? b = some ob → (s.heap.update it (Obj.mapFields (·.setIfInBounds 0 .none))).get? b = some ob := fun b ob hb e => (Heap.get?_update_other _ _ (Ne.symm hb)).trans e
  refine HotX.raiseNew_hot ⟨hh, o1, vs1, Heap.get?_push_of_some _ (Heap.get?_push_of_some _ g1), d1, c1⟩ (Nat.ne_of_lt (Heap.lt_size (Heap.get?_push_of_some _ g1))) (Heap.get?_push_size _ rfl) rfl (by first | (simp; done) | (simp; omega) | (simp only [Array.size_append]; simp; omega)) ?_
  refine wpAny_bind (wpAny_isInstance (T := "StopIteration") (b := true) ⟨_, Heap.get?_update_self _ (Heap.get?_push_size _ rfl) rfl, rfl⟩ isSubtype_stop ?_)
  refine wpAny_pure (hQ _ fun b ob hb e => ?_)
  rw [Heap.get?_update_other _ _ (Nat.ne_of_gt (Heap.lt_size (Heap.get?_push_of_some _ (k2 b ob hb e))))]
  exact Heap.get?_push_of_some _ (Heap.get?_push_of_some _ (k2 b ob hb e))
theorem cr_anyH {X : Cx} (hot : L2H.HotC X) : CallR X (.builtin "any") (rAny X.K) := by
  intro pins s σ H vs us Q I r h
  obtain ⟨a, bs, rfl, hs, q⟩ := h
  obtain ⟨its, rv, hl, _⟩ := I.list hs
  rw [Vals.ref1 r]
  have hb := rv.bls
  obtain ⟨x1, hx⟩ := L2H.HotC.at hot I
  have hlt : x1 < s.heap.objs.size := let ⟨_, o, _, e, _⟩ := hx; Heap.lt_size e
  refine call_any_walkS (iter_any hl.isList fun s₂ e2 st hne => ?_)
  subst e2
  have W : WalksS X.prog X.w X.A.in1 s.heap.objs.size [s.heap.objs.size, a, x1] [s.heap.objs.size] (fun g g' => g' = g) its.length (fun i v => its.toArray[i]? = some v)
      (fun i s' => s'.heap.IsListIter s.heap.objs.size a i ∧ s'.heap.IsList a its.toArray ∧ HotX.HotAt X.A x1 s'.heap) := {
    sub := fun b hb => by rw [List.mem_singleton.mp hb]; exact List.mem_cons_self
    grefl := fun _ => rfl
    gtrans := fun _ _ _ h1 h2 => h2.trans h1
    frame := fun i s' h' tk ⟨h1, h2, h3, o, v, h4, h5⟩ _ k => ⟨h1.at fun o e => k _ List.mem_cons_self o e, h2.at fun o e => k _ (List.mem_cons_of_mem _ List.mem_cons_self) o e, h3, o, v, k _ (List.mem_cons_of_mem _ (List.mem_cons_of_mem _ List.mem_cons_self)) o h4, h5⟩
    item := fun i s' Q E hi ⟨h1, h2, h3, o, v, h4, h5⟩ hQ => by
      have e : its.toArray[i]? = some its[i] := by simpa using List.getElem?_eq_getElem hi
      refine wpAny_pyNext_list_item h1 h2 e fun h' st' sb => hQ _ _ e ⟨st', h2.at fun o e => (sb.2 a hne).trans e, h3, o, v, (sb.2 x1 (Nat.ne_of_lt hlt)).trans h4, h5⟩ ⟨fun b o hb e => (sb.2 b fun z => hb (by rw [z]; exact List.mem_cons_self)).trans e, rfl, rfl, rfl, Nat.le_refl _⟩
    done := fun s' Q E ⟨h1, h2, h3⟩ hQ => list_end_hot (A := X.A.in1) h3 h1 h2 (by simp) (Nat.ne_of_lt hlt) fun h' eb => hQ _ ⟨fun b o hb e => eb b o (fun z => hb (by rw [z]; exact List.mem_cons_self)) e, rfl, rfl, rfl, Nat.le_refl _⟩
    self := fun _ _ _ _ ⟨h1, _⟩ h => wpAny_pyIter_listiter h1 h }
  refine ⟨_, _, _, _, _, _, _, _, rfl, W, ⟨st.1, st.2, ?_⟩, truth_bools hb, fun s' mv => ?_⟩
  · obtain ⟨h3, o, v, h4, h5⟩ := hx
    exact ⟨h3, o, v, Heap.get?_push_of_some _ h4, h5⟩
  · obtain ⟨hp, g, dr, tk, os⟩ := s'
    have eg : g = s.gens := mv.gens
    have ed : dr = s.drawn := mv.drawn
    have eo : os = s.os := mv.os
    subst eg ed eo
    refine ⟨.bl _, H, I.kept (t' := tk) fun b o eo => mv.heap b o (fun hmem => ?_) (Heap.get?_push_of_some _ eo), ?_, q⟩
    · rw [List.mem_singleton.mp hmem] at eo
      exact absurd (Heap.lt_size eo) (Nat.lt_irrefl _)
    · show Value.bool _ = Value.bool _
      rw [← any_range, hb, List.length_map]
section
variable {X : Cx} {T : Top} {W : WX} {a C dd : Addr} {oe : Obj} {pn : List (Addr × Obj)} {x f : Str} {e : Expr} {t : FE} {d : D} {pos p pn' tpos : Pos} {es : List Expr} {kk : Nat}
def fXf (a dd : Addr) (x f : Str) (d : D) (t : FE) : FE := fun ρ S Q E => t ρ S (fun m S' => m = .dat (.exn a dd x f d) ∧ Q (.dat d) S') E
theorem exn_xd {φ : Ob} {H : Hp} {v : V} (r : FD T φ H v (.exn a dd x f d)) : v = .ref a ∧ ∃ u, H dd = some (.xd [(f, u)]) ∧ FD T φ H u d := by
  cases r with
  | exn h1 h2 r => exact ⟨rfl, _, h2, r⟩
theorem fe_xf (c : Caught X a oe C dd x) (A : XfC X.K C) (own : PySem.W.findIn X.K (.ref C) f = some none) (he : PE (X.suite a ((a, oe) :: pn)) e (LB T W t)) (hb : attributeBase e f X.env (eval e X.env) = eval e X.env := by rfl) :
    PE (X.suite a ((a, oe) :: pn)) (.Attribute e f pos) (LE T W (fXf a dd x f d t)) :=
  PE.weak (pe_xf A own c.hz c.hf he hb) fun σ H Q ⟨ρ, S, φ, fe, fs, E, Qm, G, w, hx, k⟩ => by
    refine ⟨ρ, S, φ, fe, fs, E, _, G, w, hx, fun m S' v H' φ' fs' fm q A' r dj R => ?_⟩
    obtain ⟨rfl, q⟩ := q
    cases r with
    | dat r =>
      obtain ⟨rfl, u, hu, ru⟩ := exn_xd r
      exact ⟨rfl, rfl, dd, _, u, rfl, hu, by simp [List.lookup], k _ S' u H' φ' fs' [] q A' (.dat ru) R⟩
def fIsE (a dd : Addr) (x f : Str) (d : D) (b : Bool) (t : FE) : FE := fun ρ S Q E => t ρ S (fun m S' => m = .dat (.exn a dd x f d) ∧ Q (.dat (.bl b)) S') E
theorem fe_isE1 {nm : Str} {c : V} {cv : Value} {b : Bool} (ct : Caught X a oe C dd x) (A : ExcC X.K C) (he : PE (X.suite a ((a, oe) :: pn)) e (LB T W t)) (hn : PE (X.suite a ((a, oe) :: pn)) (.Name nm pn') (tC c)) (hc : ClsV c cv) (hk : PySem.W.kitOne X.K (.ref C) cv = some b)
    (hg : Gl X "isinstance") (hm : X.mg "isinstance" = none)
    (hs : starEach [e, .Name nm pn'] X.env = (false, eval e X.env) :: starEach [.Name nm pn'] X.env := by rfl) (hs2 : starEach [.Name nm pn'] X.env = (false, eval (.Name nm pn') X.env) :: starEach [] X.env := by rfl)
    (hpl : (backTo pos (starEach [.Name nm pn'] X.env)).any (·.1) = false := by rfl) :
    PE (X.suite a ((a, oe) :: pn)) (.Call (.Name "isinstance" p) [e, .Name nm pn'] [] pos) (LE T W (fIsE a dd x f d b t)) :=
  PE.weak (pe_callB (X := X.suite a ((a, oe) :: pn)) (call_isE1 A ct.hz ct.hf) hg hm (by decide +kernel) (pa_cons he (pa_cons hn pa_nil hs2) hs) (by decide) (by decide) hs hpl) fun σ H Q ⟨ρ, S, φ, fe, fs, E, Qm, G, w, hx, k⟩ => by
    refine ⟨ρ, S, φ, fe, fs, E, _, G, w, hx, fun m S' v H' φ' fs' fm q A' r dj R => ?_⟩
    obtain ⟨rfl, q⟩ := q
    cases r with
    | dat r =>
      obtain ⟨rfl, u, hu, ru⟩ := exn_xd r
      exact ⟨c, cv, b, _, rfl, hc, hk, hu, k _ S' _ H' φ' fs' [] q A' (.dat (.bl b)) R⟩
theorem fe_isE2 {ta : TA} {cs : List V} {ws : List Value} {b : Bool} (ct : Caught X a oe C dd x) (A : ExcC X.K C) (he : PE (X.suite a ((a, oe) :: pn)) e (LB T W t)) (hn : PA (X.suite a ((a, oe) :: pn)) es ta) (hta : ∀ σ H (Q : List V → Hp → Prop), Q cs H → ta σ H Q) (hl : cs.length ≤ sizeLine) (hc : Paired ClsV cs ws)
    (hk : PySem.W.kitAny X.K (.ref C) ws = some b) (hg : Gl X "isinstance") (hm : X.mg "isinstance" = none)
    (hs : starEach [e, .Tuple es kk tpos] X.env = (false, eval e X.env) :: starEach [.Tuple es kk tpos] X.env := by rfl) (hs2 : starEach [.Tuple es kk tpos] X.env = (false, eval (.Tuple es kk tpos) X.env) :: starEach [] X.env := by rfl)
    (hpl : (backTo pos (starEach [.Tuple es kk tpos] X.env)).any (·.1) = false := by rfl) :
    PE (X.suite a ((a, oe) :: pn)) (.Call (.Name "isinstance" p) [e, .Tuple es kk tpos] [] pos) (LE T W (fIsE a dd x f d b t)) :=
  PE.weak (pe_callB (X := X.suite a ((a, oe) :: pn)) (call_isE2 A ct.hz ct.hf) hg hm (by decide +kernel) (pa_cons he (pa_cons (pe_tup hn) pa_nil hs2) hs) (by decide) (by decide) hs hpl) fun σ H Q ⟨ρ, S, φ, fe, fs, E, Qm, G, w, hx, k⟩ => by
    refine ⟨ρ, S, φ, fe, fs, E, _, G, w, hx, fun m S' v H' φ' fs' fm q A' r dj R => ?_⟩
    obtain ⟨rfl, q⟩ := q
    cases r with
    | dat r =>
      refine hta _ _ _ ⟨hl, fun tp htp => ?_⟩
      have F : Fresh H' (upd H' tp (.tup cs)) [] := Fresh.upd0 htp
      obtain ⟨rfl, u, hu, ru⟩ := exn_xd r
      exact ⟨tp, cs, ws, b, _, rfl, upd_same, hc, hk, F.keep _ _ hu, k _ S' _ _ φ' fs' [] q (A'.trans (F.aft R A'.ndS)) (.dat (.bl b)) (F.sto R)⟩
end
/-! ### try: .. except C as n: .. -/
theorem Good.unset {T : Top} {φ : Ob} {H : Hp} {σ : St} {ρ : Ev} {S : Sto} {fe fs : List Addr} (G : Good T φ H σ ρ S fe fs) (i : Nat) : ∃ fe', (∀ a ∈ fe', a ∈ fe) ∧ Good T φ H (σ.set i none) (ρ.set i none) S fe' fs := by
  obtain ⟨f', h1, h2⟩ := G.env.unset i
  exact ⟨f', fun a z => h2.subset z, h1, G.sto, List.nodup_append.mpr ⟨(List.nodup_append.mp G.nd).1.sublist h2, G.ndS, fun a h b h' => (List.nodup_append.mp G.nd).2.2 a (h2.subset h) b h'⟩⟩
def P0 (P : EndP) (i : Nat) : EndP := { nx := fun ρ S => P.nx (ρ.set i none) S, rt := P.rt, bk := fun ρ S => P.bk (ρ.set i none) S, ct := fun ρ S => P.ct (ρ.set i none) S, ex := fun _ _ _ => False }
def fTry (x f : Str) (i : Nat) (b : FS) (h : Addr → Addr → D → FS) : FS := fun P ρ S => b { P with ex := fun y ρ' S' => i < ρ'.length ∧ ∃ d, y = ⟨x, [(f, d)]⟩ ∧ ∀ a dd, h a dd d (P0 P i) (ρ'.set i (some (.dat (.exn a dd x f d)))) S' } ρ S
section
variable {X : Cx} {W : WX} {x f cn n : Str} {C : Addr} {cv : Value} {i : Nat} {body su : List Stmt} {s0 : Stmt} {hds : List ExceptHandler} {np pos pq : Pos} {b : FS} {h : Addr → Addr → D → FS}
theorem fs_try (hm : X.mg x = some (.ref C)) (st : X.stack = X.env :: X.outer) (fr : X.env.frame = some X.env.locals) (nd : X.N.Nodup) (sl : X.N[i]? = some n) (kd : X.env.kindOf n = some .local) (nm : Names X cn cv) (hex : PySem.W.exmOne X.K (.ref C) cv = some true)
    (run : ∀ (W' : WX) (pn : List (Addr × Obj)) (xe : Value → Shared → Prop), L2N.Takes (X.tr pn xe) W' → PassesOwn (model X.prog X.w) X.A X.env xe → PSs (X.tr pn xe) body (LS ⟨X.K, X.mg, X.w⟩ W' b))
    (take : ∀ (a : Addr) (oe : Obj) (dd : Addr) (pn : List (Addr × Obj)) (d : D), Caught X a oe C dd x → PSs (X.suite a ((a, oe) :: pn)) (s0 :: su) (LS ⟨X.K, X.mg, X.w⟩ W0 (h a dd d))) :
    PS X (.Try body (.ExceptHandler (some (.Name cn np)) (some n) (s0 :: su) pq :: hds) [] [] pos) (LS ⟨X.K, X.mg, X.w⟩ W (fTry x f i b h)) := by
  refine PS.weak (ps_try_fst (c := cv) (ts := fun a kl dd D σ H => ∃ ddv d, kl = .ref C ∧ dd = some ddv ∧ LS ⟨X.K, X.mg, X.w⟩ W0 (h a ddv d) D σ H) st fr nd sl kd nm run fun a oe kl dd pn hz hf => ⟨fun pins s σ H D I ⟨ddv, d, ek, ed, w⟩ => ?_⟩) fun D σ H w => ?_
  · subst ek ed
    exact (take a oe ddv pn d ⟨hz.zc, hf, hm, hz.2.2⟩).run pins s σ H D I w
  · obtain ⟨ρ, S, φ, fe, fs, P, G, w, k⟩ := w
    refine ⟨ρ, S, φ, fe, fs, _, G, w, ⟨k.nx, k.bk, k.ct, k.rt, fun y ρ1 S1 kl dopt σ1 H1 φ1 fe1 fs1 p A1 G1 r => ?_⟩⟩
    obtain ⟨hi, d, rfl, p⟩ := p
    cases r with
    | @own1 _ _ C' dd v _ hC hxd rv =>
      have hC' : X.mg x = some (.ref C') := hC
      rw [hm] at hC'
      cases hC'
      refine ⟨hex, fun a ha => ⟨dd, d, rfl, rfl, ?_⟩⟩
      have rx : Rep ⟨X.K, X.mg, X.w⟩ φ1 H1 (.ref a) (.dat (.exn a dd x f d)) [] := .dat (.exn hm hxd rv)
      obtain ⟨fe2, sub2, G2⟩ := G1.setN rx (List.nodup_append.mp G1.nd).1 (fun _ z => nomatch z) hi
      have B2 : AftS φ fe fs H φ1 fe2 fs1 H1 := A1.sub sub2
      have k2 := k.aft B2
      refine ⟨_, S1, φ1, fe2, fs1, _, G2, p a dd, ⟨fun ρ3 S3 σ3 H3 φ3 fe3 fs3 q A3 G3 => ?_, fun ρ3 S3 σ3 H3 φ3 fe3 fs3 q A3 G3 => ?_, fun ρ3 S3 σ3 H3 φ3 fe3 fs3 q A3 G3 => ?_, k2.rt, fun _ _ _ _ _ _ _ _ _ _ z => z.elim⟩⟩
      · obtain ⟨fe4, sub4, G4⟩ := G3.unset i
        exact k2.nx _ S3 _ H3 φ3 fe4 fs3 q (A3.sub sub4) G4
      · obtain ⟨fe4, sub4, G4⟩ := G3.unset i
        exact k2.bk _ S3 _ H3 φ3 fe4 fs3 q (A3.sub sub4) G4
      · obtain ⟨fe4, sub4, G4⟩ := G3.unset i
        exact k2.ct _ S3 _ H3 φ3 fe4 fs3 q (A3.sub sub4) G4
end
end L2.Fn
namespace L2.Fn
open PySem PySem.Spec PyProof.Rows
theorem takes0N {X : Cx} : L2N.Takes X (fun _ _ _ _ => False) := fun _ _ x => by
  obtain ⟨_, _, _, _, _, _, _, _, _, _, _, _, _, _, _, _, z⟩ := x
  exact z.elim
end L2.Fn
/-! Fn, part O: comprehensions of two fors. -/
namespace L2.Fn
open PySem PySem.Spec PyProof.Rows
def innerW (g1 : FG) (c1 : FT) (t : FE) (vs1 : List Nat) (ρ : Ev) (K : List M → Sto → Prop) : List D → List M → Sto → Prop
  | [], acc, S => K acc S
  | e :: es, acc, S => g1 (.dat e) (wipeE ρ vs1) fun ρ2 => c1 ρ2 S (fun b S2 => if b = true then t ρ2 S2 (fun m S3 => acc.length < sizeLine ∧ innerW g1 c1 t vs1 ρ K es (acc ++ [m]) S3) noX else innerW g1 c1 t vs1 ρ K es acc S2) noX
def compW2 (g : FG) (c : FT) (ti1 : FI) (g1 : FG) (c1 : FT) (t : FE) (vs vs1 : List Nat) (ρ : Ev) (Q : WP) : List D → List M → Sto → Prop
  | [], acc, S => Q (.lst acc) S
  | d :: ds, acc, S => g (.dat d) (wipeE ρ vs) fun ρ1 => c ρ1 S (fun b S2 => if b = true then ti1 ρ1 S2 (fun es S3 => innerW g1 c1 t vs1 ρ1 (compW2 g c ti1 g1 c1 t vs vs1 ρ Q ds) es acc S3) noX else compW2 g c ti1 g1 c1 t vs vs1 ρ Q ds acc S2) noX
def fComp2 (ti : FI) (g : FG) (c : FT) (ti1 : FI) (g1 : FG) (c1 : FT) (t : FE) (vs vs1 : List Nat) : FE := fun ρ S Q E => ti ρ S (fun ds S' => compW2 g c ti1 g1 c1 t vs vs1 ρ Q ds [] S') E
section
variable {T : Top} {W : WX}
/-- the list that grows, the store, relative to the start -/
structure CS (T : Top) (φ : Ob) (fs : List Addr) (H : Hp) (D : Addr) (acc : List M) (S1 : Sto) (φ1 : Ob) (fs1 fa : List Addr) (vs' : List V) (H1 : Hp) : Prop where
  aft : Aft φ fs H φ1 fs1 (D :: fa) H1
  at_ : H1 D = some (.lst vs')
  reps : Reps T φ1 H1 vs' acc fa
  sto : RepS T H1 φ1 φ1 S1 fs1
theorem CS.own {φ φ1 : Ob} {fs fs1 fa : List Addr} {H H1 : Hp} {D : Addr} {acc : List M} {S1 : Sto} {vs' : List V} (c : CS T φ fs H D acc S1 φ1 fs1 fa vs' H1) : ∀ a ∈ D :: fa, H1 a ≠ none := fun a ha => by
  rcases List.mem_cons.mp ha with z | z
  · rw [z, c.at_]; exact fun z => nomatch z
  · exact c.reps.own' a z
/-- a step beside it -/
theorem CS.step {φ φ1 φ2 : Ob} {fs fs1 fs2 fa fm : List Addr} {H H1 H2 : Hp} {D : Addr} {acc : List M} {S1 S2 : Sto} {vs' : List V} (c : CS T φ fs H D acc S1 φ1 fs1 fa vs' H1) (A : Aft φ1 fs1 H1 φ2 fs2 fm H2) (R : RepS T H2 φ2 φ2 S2 fs2) : CS T φ fs H D acc S2 φ2 fs2 fa vs' H2 ∧ Aft φ fs H φ2 fs2 ((D :: fa) ++ fm) H2 := by
  have B := c.aft.both A c.own
  have B0 := c.aft.both A.drop c.own
  rw [List.append_nil] at B0
  exact ⟨⟨B0, A.keep D _ (c.aft.disj D List.mem_cons_self) c.at_, A.reps c.sto c.reps (fun a ha => c.aft.disj a (List.mem_cons_of_mem _ ha)), R⟩, B⟩
/-- one item more -/
theorem CS.push {φ φ1 : Ob} {fs fs1 fa fm : List Addr} {H H1 : Hp} {D : Addr} {acc : List M} {S1 : Sto} {vs' : List V} {y : V} {m : M} (c : CS T φ fs H D acc S1 φ1 fs1 fa vs' H1) (B : Aft φ fs H φ1 fs1 ((D :: fa) ++ fm) H1) (r : Rep T φ1 H1 y m fm) :
    CS T φ fs H D (acc ++ [m]) S1 φ1 fs1 (fa ++ fm) (vs' ++ [y]) (upd H1 D (.lst (vs' ++ [y]))) := by
  have nD : ∀ b ∈ fa ++ fm, b ≠ D := fun b hb z => by
    have nd := (List.nodup_append.mp B.nd).1
    exact (List.nodup_cons.mp nd).1 (z ▸ hb)
  have nM : D ∉ fs1 ++ φ1.ads := B.disj D List.mem_cons_self
  have kp : ∀ b zs, b ∈ fa ++ fm → H1 b = some zs → upd H1 D (.lst (vs' ++ [y])) b = some zs := fun b zs hb h => by rw [upd_ne (nD b hb)]; exact h
  refine ⟨⟨B.pre, fun a o n h => ?_, B.new, B.nd⟩, upd_same, ?_, c.sto.wr c.at_ nM⟩
  · rw [upd_ne fun z => ?_]; exact B.keep a o n h
    subst z
    rcases B.new a List.mem_cons_self with q | q
    · exact n q
    · rw [q] at h; cases h
  · have rr : Reps T φ1 (upd H1 D (.lst (vs' ++ [y]))) (vs' ++ [y]) (acc ++ [m]) (fa ++ (fm ++ [])) :=
      Reps.app (c.reps.ext (upd_ext c.at_) (Pre.refl _) fun b zs hb => kp b zs (List.mem_append_left _ hb)) (.cons (r.ext (upd_ext c.at_) (Pre.refl _) fun b zs hb => kp b zs (List.mem_append_right _ hb)) .nil)
    rw [List.append_nil] at rr
    exact rr
theorem wiped_good {φ1 : Ob} {H2 : Hp} {σ : St} {ρ : Ev} {S1 : Sto} {fe fs1 : List Addr} (G2 : Good T φ1 H2 σ ρ S1 fe fs1) (vs : List Nat) : ∃ fw, (∀ a ∈ fw, a ∈ fe) ∧ Good T φ1 H2 (wipe σ vs) (wipeE ρ vs) S1 fw fs1 := by
  obtain ⟨fw, gw, sl⟩ := G2.env.wiped vs
  exact ⟨fw, fun a z => sl.subset z, gw, G2.sto, List.nodup_append.mpr ⟨(List.nodup_append.mp G2.nd).1.sublist sl, G2.ndS, fun a h b h' => (List.nodup_append.mp G2.nd).2.2 a (sl.subset h) b h'⟩⟩
/-- a frame whose own things are the start's -/
theorem frame_on {φ φ1 φ2 : Ob} {fs fs1 fs2 fe fe3 fm2 : List Addr} {H H1 H2 : Hp} {σ σ3 : St} {ρ ρ3 : Ev} {S S1 S2 : Sto} (G : Good T φ H σ ρ S fe fs) (G3 : Good T φ1 H1 σ3 ρ3 S1 fe3 fs1) (sub : ∀ a ∈ fe3, a ∈ fe) (A2 : Aft φ fs H φ2 fs2 fm2 H2) (A1 : ∃ fm1, Aft φ fs H φ1 fs1 fm1 H1)
    (ex : Ext H1 H2) (pr : Pre φ1 φ2) (R2 : RepS T H2 φ2 φ2 S2 fs2) : Good T φ2 H2 σ3 ρ3 S2 fe3 fs2 := by
  obtain ⟨fm1, A1⟩ := A1
  refine ⟨G3.env.ext ex pr fun a o ha h => ?_, R2, List.nodup_append.mpr ⟨(List.nodup_append.mp G3.nd).1, A2.ndS, fun a h b h' e => ?_⟩⟩
  · obtain ⟨u, hu, _⟩ := G.env.own a (sub a ha)
    have e1 := A1.keep a _ (G.disj a (sub a ha)) hu
    rw [h] at e1
    cases e1
    exact A2.keep a _ (G.disj a (sub a ha)) hu
  · subst e
    obtain ⟨u, hu, _⟩ := G.env.own a (sub a h)
    rcases A2.new a (List.mem_append_right _ h') with z | z
    · exact G.disj a (sub a h) z
    · rw [hu] at z; cases z
theorem lComp2 {ti ti1 : FI} {g g1 : FG} {c c1 : FT} {t : FE} {vs vs1 : List Nat} {σ : St} {H : Hp} {Q : VK} (h : LE T W (fComp2 ti g c ti1 g1 c1 t vs vs1) σ H Q) : tLc2 (LI T W ti) (LG T vs g) (LT T W0 c) (LI T W0 ti1) (LG T vs1 g1) (LT T W0 c1) (LE T W0 t) vs vs1 σ H Q := by
  obtain ⟨ρ, S, φ, fe, fs, E, Qm, G, w, hx, k⟩ := h
  refine ⟨ρ, S, φ, fe, fs, E, _, G, w, hx, fun ds S0 J H0 φ0 fs0 q0 A0 R0 wk D hD => ?_⟩
  have F0 : Fresh H0 (upd H0 D (.lst [])) [D] := Fresh.upd hD
  have B0 := F0.aft R0 A0.ndS
  refine ⟨fun i m H1 => i + m = ds.length ∧ ∃ (acc : List M) (vs' : List V) (fa : List Addr) (S1 : Sto) (φ1 : Ob) (fs1 : List Addr), compW2 g c ti1 g1 c1 t vs vs1 ρ Qm (ds.drop i) acc S1 ∧ CS T φ fs H D acc S1 φ1 fs1 fa vs' H1 ∧ Ext H0 H1 ∧ Pre φ0 φ1,
    ⟨ds.length, by omega, [], [], [], S0, φ0, fs0, q0, ⟨A0.trans B0, upd_same, .nil, F0.sto R0⟩, F0.ext, Pre.refl _⟩, ?_⟩
  intro i m H1 ⟨him, acc, vs', fa, S1, φ1, fs1, h1, cs1, ex1, pr1⟩
  have wk1 := wk i H1 φ1 ex1 pr1
  by_cases hi : ds.length ≤ i
  · rw [List.drop_of_length_le hi] at h1
    exact .inl ⟨wk1.2 hi, k _ S1 _ H1 φ1 fs1 (D :: fa) h1 cs1.aft (.lst cs1.at_ cs1.reps) cs1.sto⟩
  · have hlt : i < ds.length := by omega
    rw [List.drop_eq_getElem_cons hlt] at h1
    obtain ⟨go, yl⟩ := wk1.1 ds[i] (List.getElem?_eq_getElem hlt)
    refine .inr ⟨go, fun H' => ∃ (acc : List M) (vs' : List V) (fa : List Addr) (S1 : Sto) (φ1 : Ob) (fs1 : List Addr), compW2 g c ti1 g1 c1 t vs vs1 ρ Qm (ds.drop (i + 1)) acc S1 ∧ CS T φ fs H D acc S1 φ1 fs1 fa vs' H' ∧ Ext H0 H' ∧ Pre φ0 φ1, fun H' z => ⟨m - 1, by omega, by omega, z⟩, fun x H2 hy => ?_⟩
    obtain ⟨F2, rd⟩ := yl x H2 hy
    have A2 := F2.aft cs1.sto cs1.aft.ndS
    have R2 := F2.sto cs1.sto
    obtain ⟨cs2, _⟩ := cs1.step A2 R2
    have G2 := cs2.aft.good G R2
    obtain ⟨fw, sw, Gw⟩ := wiped_good G2 vs
    refine ⟨.dat ds[i], wipeE ρ vs, S1, φ1, [], fw, fs1, _, .dat rd, Gw, (List.nodup_append.mp Gw.nd).1, fun _ z => (nomatch z), h1, fun ρ3 σ3 fe3 q3 sub3 G3 hw => ⟨hw.trans (wipe_wipe σ vs vs fun _ z => z), ?_⟩⟩
    have s3 : ∀ a ∈ fe3, a ∈ fe := fun a ha => sw a (by simpa using sub3 a ha)
    refine ⟨ρ3, S1, φ1, fe3, fs1, noX, _, G3, q3, fun _ _ _ _ _ _ _ z => z.elim, fun b S4 H4 φ4 fs4 q4 A4 R4 => ?_⟩
    have G4 := A4.good G3 R4
    obtain ⟨cs4, _⟩ := cs2.step A4 R4
    have ex4 : Ext H0 H4 := (ex1.trans F2.ext).trans (A4.ext R2)
    have pr4 : Pre φ0 φ4 := pr1.trans A4.pre
    cases b with
    | false => exact ⟨acc, vs', fa, S4, φ4, fs4, q4, cs4, ex4, pr4⟩
    | true =>
      refine ⟨ρ3, S4, φ4, fe3, fs4, noX, _, G4, q4, fun _ _ _ _ _ _ _ z => z.elim, fun es S5 J1 H5 φ5 fs5 q5 A5 R5 wk5 => ?_⟩
      have G5 := A5.good G4 R5
      obtain ⟨cs5, _⟩ := cs4.step A5 R5
      have ex5 : Ext H0 H5 := ex4.trans (A5.ext R4)
      have pr5 : Pre φ0 φ5 := pr4.trans A5.pre
      refine ⟨fun j l H' => j + l = es.length ∧ ∃ (acc : List M) (vs' : List V) (fa : List Addr) (S1 : Sto) (φ1 : Ob) (fs1 : List Addr), innerW g1 c1 t vs1 ρ3 (compW2 g c ti1 g1 c1 t vs vs1 ρ Qm (ds.drop (i + 1))) (es.drop j) acc S1 ∧ CS T φ fs H D acc S1 φ1 fs1 fa vs' H' ∧ Ext H5 H' ∧ Pre φ5 φ1,
        ⟨es.length, by omega, acc, vs', fa, S5, φ5, fs5, q5, cs5, Ext.refl _, Pre.refl _⟩, ?_⟩
      intro j l H6 ⟨hjl, acc6, vs6, fa6, S6, φ6, fs6, h6, cs6, ex6, pr6⟩
      have wk6 := wk5 j H6 φ6 ex6 pr6
      by_cases hj : es.length ≤ j
      · rw [List.drop_of_length_le hj] at h6
        exact .inl ⟨wk6.2 hj, acc6, vs6, fa6, S6, φ6, fs6, h6, cs6, ex5.trans ex6, pr5.trans pr6⟩
      · have hlt6 : j < es.length := by omega
        rw [List.drop_eq_getElem_cons hlt6] at h6
        obtain ⟨go6, yl6⟩ := wk6.1 es[j] (List.getElem?_eq_getElem hlt6)
        refine .inr ⟨go6, fun H' => ∃ (acc : List M) (vs' : List V) (fa : List Addr) (S1 : Sto) (φ1 : Ob) (fs1 : List Addr), innerW g1 c1 t vs1 ρ3 (compW2 g c ti1 g1 c1 t vs vs1 ρ Qm (ds.drop (i + 1))) (es.drop (j + 1)) acc S1 ∧ CS T φ fs H D acc S1 φ1 fs1 fa vs' H' ∧ Ext H5 H' ∧ Pre φ5 φ1, fun H' z => ⟨l - 1, by omega, by omega, z⟩, fun x7 H7 hy7 => ?_⟩
        obtain ⟨F7, rd7⟩ := yl6 x7 H7 hy7
        have A7 := F7.aft cs6.sto cs6.aft.ndS
        have R7 := F7.sto cs6.sto
        obtain ⟨cs7, _⟩ := cs6.step A7 R7
        have G7 : Good T φ6 H7 σ3 ρ3 S6 fe3 fs6 := frame_on G G5 s3 cs7.aft ⟨_, cs5.aft⟩ (ex6.trans F7.ext) pr6 R7
        obtain ⟨fw7, sw7, Gw7⟩ := wiped_good G7 vs1
        refine ⟨.dat es[j], wipeE ρ3 vs1, S6, φ6, [], fw7, fs6, _, .dat rd7, Gw7, (List.nodup_append.mp Gw7.nd).1, fun _ z => (nomatch z), h6, fun ρ8 σ8 fe8 q8 sub8 G8 hw8 => ⟨hw8.trans (wipe_wipe σ3 vs1 vs1 fun _ z => z), ?_⟩⟩
        refine ⟨ρ8, S6, φ6, fe8, fs6, noX, _, G8, q8, fun _ _ _ _ _ _ _ z => z.elim, fun b S9 H9 φ9 fs9 q9 A9 R9 => ?_⟩
        have G9 := A9.good G8 R9
        obtain ⟨cs9, _⟩ := cs7.step A9 R9
        have ex9 : Ext H5 H9 := (ex6.trans F7.ext).trans (A9.ext R7)
        have pr9 : Pre φ5 φ9 := pr6.trans A9.pre
        cases b with
        | false => exact ⟨acc6, vs6, fa6, S9, φ9, fs9, q9, cs9, ex9, pr9⟩
        | true =>
          refine ⟨ρ8, S9, φ9, fe8, fs9, noX, _, G9, q9, fun _ _ _ _ _ _ _ z => z.elim, fun m10 S10 y H10 φ10 fs10 fm10 q10 A10 r10 R10 => ?_⟩
          obtain ⟨cs10, B10⟩ := cs9.step A10 R10
          refine ⟨vs6, cs10.at_, by rw [cs10.reps.len]; exact q10.1, acc6 ++ [m10], vs6 ++ [y], fa6 ++ fm10, S10, φ10, fs10, q10.2, cs10.push B10 r10, (ex9.trans (A10.ext R9)).trans (upd_ext cs10.at_), pr9.trans A10.pre⟩
end
/-- in the comprehension's block -/
abbrev InBlk (X : Cx) (sc : Scope) (p : Cx → Prop) : Prop := ∀ (s : Shared) (H : Hp) (C : Addr) (cl : List (Str × Addr)) (fp : List Addr), p (X.blk s H sc (compEnvC sc cl C X.env) fp)
section
variable {X : Cx} {T : Top} {W : WX} {elt tg iter tg1 iter1 : Expr} {ifs ifs1 : List Expr} {sc : Scope} {own : List (Str × Nat)} {vs1 : List Nat} {pos spos py : Pos} {ti ti1 : FI} {g g1 : FG} {c c1 : FT} {t : FE} {i : Nat} {y : Str}
theorem fe_lc2 (hc : X.calm = true) (hN : X.N.Nodup) (hi : PI X tg iter (LI T W ti)) (ok : BlkOk X.N X.env.scope sc own) (hv : ∀ i ∈ vs1, i ∈ own.map (·.2)) (hg : InBlk X sc fun Y => PG Y tg (LG T (own.map (·.2)) g)) (ht : InBlk X sc fun Y => PTs Y ifs (LT T W0 c))
    (hi1 : InBlk X sc fun Y => PI Y tg1 iter1 (LI T W0 ti1)) (hg1 : InBlk X sc fun Y => PG Y tg1 (LG T vs1 g1)) (ht1 : InBlk X sc fun Y => PTs Y ifs1 (LT T W0 c1)) (he : InBlk X sc fun Y => PE Y elt (LE T W0 t))
    (hs : ∀ x, foldedSetIterable iter X.env x = pure x := by intro _; rfl) (hs1 : ∀ env x, foldedSetIterable iter1 env x = pure x := by intro _ _; rfl) :
    PE X (.ListComp elt [⟨tg, iter, ifs, 0⟩, ⟨tg1, iter1, ifs1, 0⟩] sc pos) (LE T W (fComp2 ti g c ti1 g1 c1 t (own.map (·.2)) vs1)) :=
  PE.weak (pe_lc2 hc hN hi ok hv hg ht hi1 hg1 ht1 he hs hs1) fun σ H Q h => lComp2 h
theorem fs_setLc2 (hc : X.calm = true) (hN : X.N.Nodup) (hy : X.N[i]? = some y) (hyl : X.env.scope.names.lookup y = some .local) (hsw : swapsWith (.ListComp elt [⟨tg, iter, ifs, 0⟩, ⟨tg1, iter1, ifs1, 0⟩] sc pos) (some (.Name y py)) spos.line X.env = pure true)
    (hi : PI X tg iter (LI T W ti)) (ok : BlkOk X.N X.env.scope sc own) (hv : ∀ i ∈ vs1, i ∈ own.map (·.2)) (hg : InBlk X sc fun Y => PG Y tg (LG T (own.map (·.2)) g)) (ht : InBlk X sc fun Y => PTs Y ifs (LT T W0 c))
    (hi1 : InBlk X sc fun Y => PI Y tg1 iter1 (LI T W0 ti1)) (hg1 : InBlk X sc fun Y => PG Y tg1 (LG T vs1 g1)) (ht1 : InBlk X sc fun Y => PTs Y ifs1 (LT T W0 c1)) (he : InBlk X sc fun Y => PE Y elt (LE T W0 t))
    (hs : ∀ x, foldedSetIterable iter X.env x = pure x := by intro _; rfl) (hs1 : ∀ env x, foldedSetIterable iter1 env x = pure x := by intro _ _; rfl) :
    PS X (.Assign [.Name y py] (.ListComp elt [⟨tg, iter, ifs, 0⟩, ⟨tg1, iter1, ifs1, 0⟩] sc pos) spos) (LS T W (fAsg (fComp2 ti g c ti1 g1 c1 t (own.map (·.2)) vs1) (gN i))) :=
  PS.weak (ps_setLc2 hc hN hy hyl hsw hi ok hv hg ht hi1 hg1 ht1 he hs hs1) fun D σ H h => by
    obtain ⟨ρ, S, φ, fe, fs, E, Qm, G, w, hx, k⟩ := lSet h
    exact lComp2 ⟨ρ, S, φ, fe, fs, E, Qm, G, w, hx, k⟩
end
/-! ### a def that calls itself, level by level -/
theorem cal_zero {P : Program} {w : World} {K : PySem.W.Frag} {mg : Str → Option Value} {base : Heap} {x : Str} {st : Stmt} {N ps : List Str} {k : Nat} (F : DefAt K mg x st ps) (S : FnScope N ps (defScope st)) : Cal P w K mg base x (k + 1) ps (mkW N.length ps.length fun _ _ _ => False) :=
  cal_mk F S fun f cdv A outer s H E hr => ⟨fun pins s σ H D I ⟨_, _, _, _, _, _, _, w, _⟩ => w.elim⟩
end L2.Fn
/-! Fn, part Q: sum, min, max, abs, text * int, extend, data compared at any depth. -/
namespace L2.Fn
open PySem PySem.Spec PyProof.Rows
section
variable {X : Cx} {T : Top}
def intsOf : List D → Option (List Int)
  | [] => some []
  | .int i :: r => (intsOf r).map (i :: ·)
  | _ => none
theorem intsOf_map (ns : List Int) : intsOf (ns.map .int) = some ns := by
  induction ns with
  | nil => rfl
  | cons n ns ih => rw [List.map_cons, intsOf, ih]; rfl
theorem ints_ok {φ : Ob} {H : Hp} : ∀ {vs : List V} {ds : List D} {ns : List Int}, FDs T φ H vs ds → intsOf ds = some ns → vs = ns.map V.int
  | _, _, _, .nil, e => by cases e; rfl
  | _, _, _, .cons (d := d) (ds := ds) x r, e => by
    cases x with
    | int i =>
      rw [intsOf] at e
      cases q : intsOf ds with
      | none => rw [q] at e; cases e
      | some l =>
        rw [q] at e
        cases e
        rw [ints_ok r q]
        rfl
    | _ => cases e
def oSum (ms : List M) (Q : M → Prop) : Prop := match ms with
  | [m] => ∃ ds, m.ld = some ds ∧ ∃ ns, intsOf ds = some ns ∧ Q (.dat (.int ns.sum))
  | _ => False
theorem o_sum : OpN T (rSum T.K) oSum := by
  intro φ H vs ms f Q Qm r w k
  unfold oSum at w
  split at w
  · obtain ⟨ds, e, ns, e2, w⟩ := w
    cases r with
    | cons x r =>
      cases r
      obtain ⟨a, xs, rfl, h, rs⟩ := ld_ok x e
      exact ⟨a, ns, rfl, by rw [← ints_ok rs e2]; exact h, k _ _ H [] w (Fresh.refl H) (.dat (.int _))⟩
  · exact w.elim
def oI2 (g : Int → Int → Int) (ms : List M) (Q : M → Prop) : Prop := match ms with
  | [.dat (.int i), .dat (.int j)] => Q (.dat (.int (g i j)))
  | _ => False
theorem o_i2 {g : Int → Int → Int} : OpN T (fun xs H Q => ∃ i j, xs = [.int i, .int j] ∧ Q (.int (g i j)) H) (oI2 g) := by
  intro φ H vs ms f Q Qm r w k
  unfold oI2 at w
  split at w
  · cases r with
    | cons x r =>
      cases r with
      | cons y r =>
        cases r
        cases x with
        | dat x =>
          cases x
          cases y with
          | dat y =>
            cases y
            exact ⟨_, _, rfl, k _ _ H [] w (Fresh.refl H) (.dat (.int _))⟩
  · exact w.elim
def oMin2 := oI2 fun i j => if j < i then j else i
def oMax2 := oI2 fun i j => if j > i then j else i
theorem o_min2 : OpN T (fun xs H Q => ∃ i j, xs = [.int i, .int j] ∧ Q (.int (if j < i then j else i)) H) oMin2 := o_i2
theorem o_max2 : OpN T (fun xs H Q => ∃ i j, xs = [.int i, .int j] ∧ Q (.int (if j > i then j else i)) H) oMax2 := o_i2
def oAbs (ms : List M) (Q : M → Prop) : Prop := match ms with
  | [.dat (.int i)] => Q (.dat (.int (if i < 0 then -i else i)))
  | _ => False
theorem o_abs : OpN T (fun xs H Q => ∃ i, xs = [.int i] ∧ Q (.int (if i < 0 then -i else i)) H) oAbs := by
  intro φ H vs ms f Q Qm r w k
  unfold oAbs at w
  split at w
  · cases r with
    | cons x r =>
      cases r
      cases x with
      | dat x =>
        cases x
        exact ⟨_, rfl, k _ _ H [] w (Fresh.refl H) (.dat (.int _))⟩
  · exact w.elim
/-! ### text * int -/
def rMulS : R2 := fun x y H Q => ∃ (z : Str) (n : Int), x = .str z ∧ y = .int n ∧ MulOk z n ∧ Q (.str (Txt.mul z n)) H
theorem op_mulS : OpR X (binaryOp .Mult) rMulS := by
  intro pins s σ H x y v u Q I rx ry h
  obtain ⟨z, n, rfl, rfl, ok, q⟩ := h
  obtain ⟨t, rfl⟩ := rx
  obtain ⟨t', rfl⟩ := ry
  exact SB.mul ok fun t2 tk => ⟨.str (Txt.mul z n), H, I.tok _, ⟨_, rfl⟩, q⟩
def oMulS (a b : M) (Q : M → Prop) : Prop := match a, b with
  | .dat (.str s), .dat (.int n) => -(2 ^ 62) ≤ n ∧ n < 2 ^ 62 ∧ s.length * n.toNat ≤ 16000000 ∧ Q (.dat (.str (List.replicate n.toNat s).flatten))
  | _, _ => False
theorem fold_cat (x : Array Nat) : ∀ (n : Nat) (acc : Array Nat), ((List.replicate n x).foldl (· ++ ·) acc).toList = acc.toList ++ (List.replicate n x.toList).flatten
  | 0, acc => by simp
  | n + 1, acc => by
    rw [List.replicate_succ, List.foldl_cons, fold_cat x n, List.replicate_succ, List.flatten_cons, Array.toList_append, List.append_assoc]
theorem o_mulS : Op2 T rMulS oMulS := by
  intro φ H x y m1 m2 f1 f2 Q Qm r1 r2 w k
  unfold oMulS at w
  split at w
  · rename_i s n
    obtain ⟨h1, h2, h3, w⟩ := w
    cases r1 with
    | dat r1 =>
      cases r1
      cases r2 with
      | dat r2 =>
        cases r2
        have e : Txt.mul ⟨s.toArray⟩ n = ⟨(List.replicate n.toNat s).flatten.toArray⟩ := by
          unfold Txt.mul
          have len : (⟨s.toArray⟩ : Str).length = s.length := str_len s
          by_cases c1 : n < 1
          · rw [if_pos c1]
            have : n.toNat = 0 := by omega
            rw [this]
            rfl
          · rw [if_neg c1]
            by_cases c2 : (n == 1 || (⟨s.toArray⟩ : Str).length == 0) = true
            · rw [if_pos c2, len] at *
              rcases Bool.or_eq_true_iff.mp c2 with c | c
              · have : n = 1 := by simpa using c
                subst this
                simp
              · have : s = [] := List.eq_nil_of_length_eq_zero (by simpa using c)
                subst this
                simp
            · rw [if_neg c2]
              congr 1
              apply Array.toList_inj.mp
              rw [fold_cat]
              simp
        refine ⟨_, n, rfl, rfl, ⟨?_, fun c1 c2 => ?_, fun c1 c2 => ?_⟩, ?_⟩
        · rw [decide_eq_false (by omega), decide_eq_false (by omega)]
          rfl
        · rw [str_len] at c2 ⊢
          have hs : s.length ≤ 16000000 := Nat.le_trans (Nat.le_mul_of_pos_right _ (by omega)) h3
          intro h
          have h6 : (s.length : Int) * n ≤ 16000000 := by
            have hn : ((n.toNat : Nat) : Int) = n := Int.toNat_of_nonneg (by omega)
            have hp := Int.ofNat_le.mpr h3
            rw [Int.natCast_mul, hn] at hp
            exact hp
          have h7 : ((2 ^ 63 - 1) / n + 1) * n ≤ (s.length : Int) * n := Int.mul_le_mul_of_nonneg_right (by omega) (by omega)
          have h8 : (2 ^ 63 - 1 : Int) < ((2 ^ 63 - 1) / n + 1) * n := Int.lt_ediv_add_one_mul_self _ (by omega)
          omega
        · rw [str_len]
          unfold Builtin.Str.tooLong
          exact decide_eq_false (Nat.not_lt.mpr (Nat.le_trans h3 (by decide)))
        · rw [e]
          exact k _ _ H [] w (Fresh.refl H) (.dat (.str _))
  · exact w.elim
end
end L2.Fn
/-! Fn, part R: x.extend(xs). -/
namespace PySem
open PySem.AutoSeq1
theorem fn_ext_tup (l : Addr) (items : Array Value) (n : Nat) (b : Addr) (o : Obj) (items2 : Array Value) (n2 : Nat) (hc : o.cls = .type "tuple") (hd : o.data = .seq items2 n2)
    (h0 : ¬(!items.isEmpty && Builtin.List.listTooLong (items.size + items2.size)) = true) (h1 : items.size ≤ sizeLine) (h2 : items.size + items2.size ≤ sizeLine + 1) :
    Meets (Builtin.«list.extend» ⟨[.ref l, .ref b], []⟩) (fun _ R s => s.heap.get? l = some { cls := .type "list", dict := none, data := .seq items n, slots := #[] } ∧ s.heap.get? b = some o ∧ R (.ok (.ret Value.none)) { s with heap := s.heap.update l (Obj.mapSeq fun x => x ++ items2), toks := s.toks }) :=
  .of_wp fun prog w A R s h => by
    obtain ⟨oc, od, dt, sl⟩ := o
    simp only at hc hd
    subst hc hd
    obtain ⟨hp, g, d, tk, os⟩ := s
    obtain ⟨hl, hb, h⟩ := h
    have f1 := idx_int
    have f2 := sub_tuple_tuple
    have f3 := sub_list_list
    have f4 := sub_tuple_list
    have f5 := sub_list_tuple
    have hz' : (items ++ items2).size ≤ sizeLine + 1 := by
      rw [Array.size_append]
      exact h2
    wp_walk using (wpAny_updateSeq hl rfl (hz := h1) (_hz' := hz')), wpAny_loadPart' hl, wpAny_loadPart' hb
    exact ⟨_, rfl, h⟩
end PySem
namespace L2.Fn
open PySem PySem.Spec PyProof.Rows
def rExtA : V → List V → Hp → VK → Prop := fun x vs H Q => ∃ l b xs zs, x = .ref l ∧ vs = [.ref b] ∧ H l = some (.lst xs) ∧ (Rd H b (.lst zs) ∨ H b = some (.tup zs)) ∧ xs.length + zs.length ≤ sizeLine ∧ Q .non (upd H l (.lst (xs ++ zs)))
theorem mt_extA {X : Cx} : MtM X "list.extend" rExtA := by
  intro pins s σ H x vs v us Q I rx rv h
  obtain ⟨l, b, xs, zs, rfl, rfl, hH, hB, hz, q⟩ := h
  cases rx
  obtain ⟨u, rfl, ru⟩ := rv.one
  cases ru
  obtain ⟨z, its, n, r, hl, e⟩ := I.lstM hH
  have sm : ∀ its2 : List Value, zs.length = its2.length → its.toArray.size + its2.toArray.size ≤ sizeLine := fun its2 h2 => by
    rw [List.size_toArray, List.size_toArray]
    omega
  have lg : ∀ its2 : List Value, zs.length = its2.length → ¬ (!its.toArray.isEmpty && Builtin.List.listTooLong (its.toArray.size + its2.toArray.size)) = true := fun its2 h2 => by
    rw [notLongL (sm its2 h2), Bool.and_false]
    exact Bool.false_ne_true
  have s1 : its.toArray.size ≤ sizeLine := by
    rw [List.size_toArray]
    omega
  have fin : ∀ its2 : List Value, Vals zs its2 → EP X pins σ Q .none { s with heap := s.heap.update l (Obj.mapSeq fun x => x ++ its2.toArray), toks := s.toks } := fun its2 r2 => by
    refine ⟨.non, _, I.lset (its' := its ++ its2) hH e (by simp) (r.append r2) ?_, rfl, q⟩
    rw [List.length_append]
    exact hz
  rcases hB with hB | hB
  · obtain ⟨its2, n2, z2, r2, hl2, e2⟩ := inv_rdL I hB
    exact call_meets F.slot_list_extend ⟨_, e, rfl⟩ F.entry_list_extend (F.args_list_extend_2 _ _)
      (AutoSeq1.list_extend_list_list_0 l its.toArray n b its2.toArray n2 (lg its2 hl2) s1 (Nat.le_succ_of_le (sm its2 hl2))) ⟨e, e2, fin its2 r2⟩
  · obtain ⟨_, its2, r2, o, ho, hc, n2, hd⟩ := (show ObjOk X.prog X.w H s.heap b (.tup zs) from I.hok b _ hB)
    have hl2 := r2.length
    exact call_meets F.slot_list_extend ⟨_, e, rfl⟩ F.entry_list_extend (F.args_list_extend_2 _ _)
      (fn_ext_tup l its.toArray n b o its2.toArray n2 hc hd (lg its2 hl2) s1 (Nat.le_succ_of_le (sm its2 hl2))) ⟨e, ho, fin its2 r2⟩
def M.sqD (m : M) : Option (List D) := match m with
  | .dat (.tup ds) => some ds
  | m => m.ld
theorem sqD_ok {T : Top} (hN : NoLists T.K) {φ : Ob} {H : Hp} {v : V} {m : M} {f : List Addr} (r : Rep T φ H v m f) {ds : List D} (e : m.sqD = some ds) : ∃ a xs, v = .ref a ∧ (Rd H a (.lst xs) ∨ H a = some (.tup xs)) ∧ FDs T φ H xs ds := by
  unfold M.sqD at e
  split at e
  · cases e
    cases r with
    | dat r =>
      cases r with
      | tup h rs => exact ⟨_, _, rfl, .inr h, rs⟩
  · obtain ⟨a, xs, rfl, h, rs⟩ := ld_ok r e
    exact ⟨a, xs, rfl, .inl (sql_rd hN h), rs⟩
section
variable {X : Cx} {T : Top} {W : WX} {e : Expr} {t : FE} {pos : Pos}
def fExt (i : Nat) (t : FE) : FS := fun P ρ S => ∃ ms, ρ[i]? = some (some (.lst ms)) ∧ t ρ S (fun m S' => ∃ ds, m.sqD = some ds ∧ ms.length + ds.length ≤ sizeLine ∧ P.nx (ρ.set i (some (.lst (ms ++ ds.map .dat)))) S') fun x S' => P.ex x ρ S'
theorem lExt {D : Ends} {σ : St} {H : Hp} {i : Nat} (hN : NoLists T.K) (h : LS T W (fExt i t) D σ H) : tDrop (tBM X.K "list" rExtA (tVar i) (tCons (LB T W t) tNil)) D σ H := by
  obtain ⟨ρ, S, φ, fe, fs, P, G, ⟨ms, hm, w⟩, k⟩ := h
  obtain ⟨v, g, f1, f2, hv, r, e, wr⟩ := G.env.at' hm
  cases r with
  | @lst a vs ms f hH rs =>
    refine ⟨.ref a, hv, .inl ⟨rfl, vs, SqL.of hH⟩, ρ, S, φ, fe, fs, _, _, G, w, k.wx G, fun m S1 y H1 φ1 fs1 fm q A r1 d1 R1 => ?_⟩
    obtain ⟨ds, e2, hz, q⟩ := q
    have G1 := A.good G R1
    have afe : ∀ b ∈ a :: f, b ∈ fe := fun b hb => by rw [e]; exact List.mem_append_right _ (List.mem_append_left _ hb)
    have hH1 : H1 a = some (.lst vs) := A.keep a _ (G.disj a (afe a List.mem_cons_self)) hH
    obtain ⟨v', g', f1', f2', hv', r', e', wr'⟩ := G1.env.at' hm
    rw [hv] at hv'
    cases hv'
    cases r' with
    | @lst a' vs' ms' f' hH' rs' =>
      rw [hH1] at hH'
      cases hH'
      obtain ⟨b, zs, rfl, hb, rz⟩ := sqD_ok hN r1 e2
      have nde := (List.nodup_append.mp G1.nd).1
      have n1 := List.nodup_append.mp (e' ▸ nde)
      have n2 := (List.nodup_append.mp n1.2.1).1
      have nda := List.nodup_cons.mp n2
      have ex : Ext H1 (upd H1 a (.lst (vs ++ zs))) := upd_ext hH1
      have kp : ∀ b us, b ∈ f' → H1 b = some us → upd H1 a (.lst (vs ++ zs)) b = some us := fun b us hb q => by
        rw [upd_ne fun z => nda.1 (by rw [← z]; exact hb)]; exact q
      have rr : Rep T φ1 (upd H1 a (.lst (vs ++ zs))) (.ref a) (.lst (ms ++ ds.map .dat)) (a :: (f' ++ [])) :=
        .lst upd_same (Reps.app (rs'.ext ex (Pre.refl _) kp) (rz.ext ex (Pre.refl _)).reps)
      rw [List.append_nil] at rr
      obtain ⟨G2, A2⟩ := Good.wr (fm := []) G1 e' List.mem_cons_self hH1 wr' rr (fun b hb => by simpa using hb) n2 (fun _ z => nomatch z)
      refine ⟨a, b, vs, zs, rfl, rfl, hH1, hb, by rw [rs'.len, rz.len]; exact hz, ?_⟩
      exact k.nx _ S1 σ _ φ1 _ fs1 q (A.drop.s.trans A2) G2
theorem fs_extend {i : Nat} {ex : Expr} {apos cpos : Pos} (hN : NoLists T.K) (hx : PE X ex (tVar i)) (he : PE X e (LB T W t))
    (hbase : attributeBase ex "extend" X.env (eval ex X.env) = eval ex X.env := by rfl)
    (hpl : (((backTo cpos (starEach [e] X.env)).all fun x => !x.1) && (backToKw cpos (keywordEach [] X.env)).all (fun x => x.1.isSome) && decide ([e].length + ([] : List Keyword).length + (if ([] : List Keyword).isEmpty then 0 else 1) < 30)) = true := by rfl)
    (hline : (apos.endLine == cpos.line) = true := by rfl) (h1 : starEach [e] X.env = (false, eval e X.env) :: starEach [] X.env := by rfl) (h2 : (backTo cpos (starEach [] X.env)).any (·.1) = false := by rfl)
    (hs : swapsWith (.Call (.Attribute ex "extend" apos) [e] [] cpos) none pos.line X.env = pure false := by rfl) :
    PS X (.Expr (.Call (.Attribute ex "extend" apos) [e] [] cpos) pos) (LS T W (fExt i t)) :=
  PS.weak (ps_expr (pe_bm PySem.F.plainAttrs_list PySem.F.slot_list_extend PySem.F.type_list_extend mt_extA hx (pa_cons he pa_nil h1) hbase hpl hline h1 h2) hs) fun D σ H h => lExt hN h
end
end L2.Fn
/-! Fn, part S: list.index of tuples of ints and texts. -/
namespace L2.Fn
open PySem PySem.Spec PyProof.Rows
def pyA : Int ⊕ List Nat → PyData
  | .inl i => .int i
  | .inr s => .str ⟨s.toArray⟩
def pyK (p : PK) : PyData := .tuple (p.map pyA)
/-- its texts' signs are signs -/
def smallK (p : PK) : Prop := ∀ s : List Nat, Sum.inr s ∈ p → ∀ c ∈ s, c < 1114112
theorem eqv_atom (a b : Int ⊕ List Nat) : PyData.eqv (pyA a) (pyA b) = decide (a = b) := by
  cases a with
  | inl i =>
    cases b with
    | inl j =>
      show (i == j) = _
      by_cases h : i = j <;> simp [h]
    | inr t => rfl
  | inr s =>
    cases b with
    | inl j => rfl
    | inr t =>
      show ((⟨s.toArray⟩ : Str) == ⟨t.toArray⟩) = _
      by_cases h : s = t
      · simp [h]
      · have : ¬ ((⟨s.toArray⟩ : Str) = ⟨t.toArray⟩) := fun e => h (str_inj.mp e)
        simp [h, this]
theorem eqv_atoms : ∀ a b : PK, PyData.eqvAll (a.map pyA) (b.map pyA) = decide (a = b)
  | [], [] => rfl
  | [], _ :: _ => rfl
  | _ :: _, [] => rfl
  | x :: a, y :: b => by
    show (PyData.eqv (pyA x) (pyA y) && PyData.eqvAll (a.map pyA) (b.map pyA)) = _
    rw [eqv_atom, eqv_atoms a b]
    by_cases h1 : x = y <;> by_cases h2 : a = b <;> simp [h1, h2]
theorem eqv_key (a b : PK) : PyData.eqv (pyK a) (pyK b) = decide (a = b) := eqv_atoms a b
theorem can_atom (a : Int ⊕ List Nat) (h : ∀ s, a = .inr s → ∀ c ∈ s, c < 1114112) : (pyA a).canLay0 = true := by
  cases a with
  | inl i => rfl
  | inr s =>
    have := h s rfl
    show PyData.strOk _ = true
    unfold PyData.strOk
    simpa using this
theorem can_key : ∀ p : PK, smallK p → PyData.canLayAll0 (p.map pyA) = true
  | [], _ => rfl
  | a :: p, h => by
    show ((pyA a).canLay0 && PyData.canLayAll0 (p.map pyA)) = true
    rw [can_atom a fun s e => h s (by rw [e]; exact List.mem_cons_self), can_key p fun s hs => h s (List.mem_cons_of_mem _ hs)]
    rfl
theorem depth_atoms : ∀ p : PK, PyData.depthAll (p.map pyA) = 0
  | [] => rfl
  | a :: p => by
    show max (pyA a).depth (PyData.depthAll (p.map pyA)) = 0
    rw [depth_atoms p]
    cases a <;> rfl
theorem shaped_key (p : PK) (h : smallK p) : SeqAt.shaped (pyK p) = true := by
  show (PyData.canLayAll0 (p.map pyA) && decide (PyData.depthAll (p.map pyA) + 1 ≤ 64)) = true
  rw [can_key p h, depth_atoms]
  rfl
theorem shaped_keys (ps : List PK) (h : ∀ p ∈ ps, smallK p) : SeqAt.shaped (.list (ps.map pyK)) = true := by
  have h1 : PyData.canLayAll0 (ps.map pyK) = true := by
    induction ps with
    | nil => rfl
    | cons p ps ih =>
      show (PyData.canLayAll0 (p.map pyA) && PyData.canLayAll0 (ps.map pyK)) = true
      rw [can_key p (h p List.mem_cons_self), ih fun q hq => h q (List.mem_cons_of_mem _ hq)]
      rfl
  have h2 : PyData.depthAll (ps.map pyK) ≤ 1 := by
    clear h h1
    induction ps with
    | nil => exact Nat.zero_le _
    | cons p ps ih =>
      show max (PyData.depthAll (p.map pyA) + 1) (PyData.depthAll (ps.map pyK)) ≤ 1
      rw [depth_atoms]
      omega
  show (PyData.canLayAll0 (ps.map pyK) && decide (PyData.depthAll (ps.map pyK) + 1 ≤ 64)) = true
  rw [h1, decide_eq_true (by omega)]
  rfl
section
variable {X : Cx} {T : Top} {φ : Ob} {H : Hp}
theorem dp_atom {v : V} {d : D} {a : Int ⊕ List Nat} (r : FD T φ H v d) (e : atomD d = some a) : Dp T.K H v (pyA a) := by
  cases r with
  | int i => cases e; exact .int i
  | str s => cases e; exact .str _
  | _ => cases e
theorem dp_atoms : ∀ {vs : List V} {ds : List D} {p : PK}, FDs T φ H vs ds → atomsD ds = some p → DpAll T.K H vs (p.map pyA)
  | _, _, _, .nil, e => by cases e; exact .nil
  | _, _, _, .cons (d := d) (ds := ds) x r, e => by
    rw [atomsD] at e
    cases q : atomD d with
    | none => rw [q] at e; cases e
    | some k =>
      rw [q] at e
      cases q2 : atomsD ds with
      | none => rw [q2] at e; cases e
      | some ks =>
        rw [q2] at e
        cases e
        exact .cons (dp_atom x q) (dp_atoms r q2)
theorem dp_key {v : V} {d : D} {p : PK} (r : FD T φ H v d) (e : d.pk true = some p) : Dp T.K H v (pyK p) := by
  cases r with
  | tup h rs => exact .tup (SqT.of h) (dp_atoms rs e)
  | _ => cases e
/-- the keys of the items -/
def keysD : List D → Option (List PK)
  | [] => some []
  | d :: r => (d.pk true).bind fun k => (keysD r).map (k :: ·)
theorem dp_keys : ∀ {vs : List V} {ds : List D} {ps : List PK}, FDs T φ H vs ds → keysD ds = some ps → DpAll T.K H vs (ps.map pyK)
  | _, _, _, .nil, e => by cases e; exact .nil
  | _, _, _, .cons (d := d) (ds := ds) x r, e => by
    rw [keysD] at e
    cases q : d.pk true with
    | none => rw [q] at e; cases e
    | some k =>
      rw [q] at e
      cases q2 : keysD ds with
      | none => rw [q2] at e; cases e
      | some ks =>
        rw [q2] at e
        cases e
        exact .cons (dp_key x q) (dp_keys r q2)
/-- xs.index(x) -/
def oIdx (m : M) (ms : List M) (Q : M → Prop) : Prop := match ms with
  | [.dat d] => ∃ ds, m.ld = some ds ∧ ∃ ps, keysD ds = some ps ∧ (∀ p ∈ ps, smallK p) ∧ ∃ q, d.pk true = some q ∧ smallK q ∧ ∃ j, ps.findIdx? (fun p => decide (p = q)) = some j ∧ Q (.dat (.int (j : Nat)))
  | _ => False
theorem o_idx {x : V} {m : M} {f : List Addr} {vs : List V} {ms : List M} {g : List Addr} {Q : VK} {Qm : M → Prop} (rx : Rep T φ H x m f) (r : Reps T φ H vs ms g) (w : oIdx m ms Qm) (k : ∀ m v H' fm, Qm m → Fresh H H' fm → Rep T φ H' v m fm → Q v H') : rIndexD T.K x vs H Q := by
  unfold oIdx at w
  split at w
  · obtain ⟨ds, e, ps, e2, sm, q, e3, sq, j, hj, w⟩ := w
    cases r with
    | cons y r =>
      cases r
      cases y with
      | dat y =>
        obtain ⟨a, xs, rfl, h, rs⟩ := ld_ok rx e
        obtain ⟨hlt, hp, hno⟩ := List.findIdx?_eq_some_iff_getElem.mp hj
        refine ⟨a, _, pyK q, ps.map pyK, j, pyK ps[j], rfl, rfl, .lst h (dp_keys rs e2), dp_key y e3, shaped_keys ps sm, shaped_key q sq, by rw [List.getElem?_map, List.getElem?_eq_getElem hlt]; rfl, ?_, fun m z hm hz => ?_, k _ _ H [] w (Fresh.refl H) (.dat (.int _))⟩
        · rw [eqv_key]
          exact hp
        · have hml : m < ps.length := by omega
          rw [List.getElem?_map, List.getElem?_eq_getElem hml] at hz
          cases hz
          rw [eqv_key]
          have := hno m hm
          simpa using this
  · exact w.elim
end
def fIdx (t ta : FE) : FE := fun ρ S Q E => t ρ S (fun m S1 => (∃ ds, m.ld = some ds) ∧ ta ρ S1 (fun m2 S2 => oIdx m [m2] fun r => Q r S2) E) E
section
variable {X : Cx} {T : Top} {W : WX} {b e : Expr} {t ta : FE} {apos cpos : Pos}
theorem fe_idx (hK : X.K = T.K) (hu : X.A.units + 65 < cLine) (ho : PE X b (LB T W t)) (he : PE X e (LB T W ta)) (hbase : attributeBase b "index" X.env (eval b X.env) = eval b X.env := by rfl)
    (hpl : (((backTo cpos (starEach [e] X.env)).all fun x => !x.1) && (backToKw cpos (keywordEach [] X.env)).all (fun x => x.1.isSome) && decide ([e].length + ([] : List Keyword).length + (if ([] : List Keyword).isEmpty then 0 else 1) < 30)) = true := by rfl)
    (hline : (apos.endLine == cpos.line) = true := by rfl) (h3 : starEach [e] X.env = (false, eval e X.env) :: starEach [] X.env := by rfl) (h4 : (backTo cpos (starEach [] X.env)).any (·.1) = false := by rfl) :
    PE X (.Call (.Attribute b "index" apos) [e] [] cpos) (LE T W (fIdx t ta)) :=
  PE.weak (pe_bm PySem.F.plainAttrs_list PySem.F.slot_list_index PySem.F.type_list_index (mt_indexD hu) ho (pa_cons he pa_nil h3) hbase hpl hline h3 h4) fun σ H Q ⟨ρ, S, φ, fe, fs, E, Qm, G, w, hx, k⟩ => by
    refine ⟨ρ, S, φ, fe, fs, E, _, G, w, hx, fun m1 S1 x H1 φ1 fs1 f1 w1 A1 r1 d1 R1 => ?_⟩
    obtain ⟨⟨ds, e1⟩, w1⟩ := w1
    obtain ⟨a, xs, rfl, h, rs⟩ := ld_ok r1 e1
    have G1 := A1.good G R1
    refine ⟨.inl ⟨rfl, xs, by rw [hK]; exact h⟩, ρ, S1, φ1, fe, fs1, E, _, G1, w1, hx.aft A1, fun m2 S2 y H2 φ2 fs2 f2 w2 A2 r2 d2 R2 => ?_⟩
    have r1' := A2.rep R1 r1 d1
    rw [hK]
    have r2' : Reps T φ2 H2 [y] [m2] (f2 ++ []) := .cons r2 .nil
    exact o_idx (Qm := fun r => Qm r S2) r1' r2' w2 fun m v H' fm q F r => k m S2 v H' φ2 fs2 fm q ((A1.trans A2).trans (F.aft R2 A2.ndS)) r (F.sto R2)
end
end L2.Fn
/-! Fn, part T: -x, room. -/
namespace L2.Fn
open PySem PySem.Spec PyProof.Rows
theorem hu1 {k : Nat} {A : Around} (r : Room k A) : A.units + 1 < cLine := by have := r.un; omega
theorem hu10 {k : Nat} {A : Around} (r : Room k A) : A.units + 10 < cLine := by have := r.un; omega
theorem hu65 {k : Nat} {A : Around} (r : Room k A) : A.units + 65 < cLine := by have := r.un; omega
/-- what is told of a class that is caught -/
structure ExcL (K : PySem.W.Frag) (C : Addr) (f : Str) : Prop where
  xf : XfC K C
  ec : ExcC K C
  own : PySem.W.findIn K (.ref C) f = some none
def fNeg (t : FE) : FE := fun ρ S Q E => t ρ S (fun m S' => ∃ i, m = .dat (.int i) ∧ Q (.dat (.int (-i))) S') E
theorem fe_neg {X : Cx} {T : Top} {W : WX} {e : Expr} {t : FE} {pos : Pos} (h : PE X e (LB T W t)) : PE X (.UnaryOp .USub e pos) (LE T W (fNeg t)) :=
  PE.weak (pe_un un_neg h) fun σ H Q ⟨ρ, S, φ, fe, fs, E, Qm, G, w, hx, k⟩ => by
    refine ⟨ρ, S, φ, fe, fs, E, _, G, w, hx, fun m S' v H' φ' fs' fm q A r d R => ?_⟩
    obtain ⟨i, rfl, q⟩ := q
    cases r with
    | dat r =>
      cases r
      exact ⟨i, rfl, k _ S' _ H' φ' fs' [] q A (.dat (.int _)) R⟩
end L2.Fn
/-! Fn, part U: tools for two-for comprehensions. -/
namespace L2.Fn
open PySem
theorem innerW_by {g1 : FG} {c1 : FT} {t : FE} {vs1 : List Nat} {ρ : Ev} {K : List M → Sto → Prop} {es : List D} {acc : List M} {S : Sto} (I : List D → List M → Sto → Prop) (h0 : I es acc S) (hd : ∀ acc S, I [] acc S → K acc S)
    (hs : ∀ e es acc S, (∀ acc' S', I es acc' S' → innerW g1 c1 t vs1 ρ K es acc' S') → I (e :: es) acc S → g1 (.dat e) (wipeE ρ vs1) fun ρ2 => c1 ρ2 S (fun b S2 => if b = true then t ρ2 S2 (fun m S3 => acc.length < sizeLine ∧ innerW g1 c1 t vs1 ρ K es (acc ++ [m]) S3) noX else innerW g1 c1 t vs1 ρ K es acc S2) noX) :
    innerW g1 c1 t vs1 ρ K es acc S := by
  induction es generalizing acc S with
  | nil => exact hd acc S h0
  | cons d ds ih => exact hs d ds acc S (fun acc' S' h => ih h) h0
theorem compW2_by {g : FG} {c : FT} {ti1 : FI} {g1 : FG} {c1 : FT} {t : FE} {vs vs1 : List Nat} {ρ : Ev} {Q : WP} {ds : List D} {acc : List M} {S : Sto} (I : List D → List M → Sto → Prop) (h0 : I ds acc S) (hd : ∀ acc S, I [] acc S → Q (.lst acc) S)
    (hs : ∀ d ds acc S, (∀ acc' S', I ds acc' S' → compW2 g c ti1 g1 c1 t vs vs1 ρ Q ds acc' S') → I (d :: ds) acc S →
      g (.dat d) (wipeE ρ vs) fun ρ1 => c ρ1 S (fun b S2 => if b = true then ti1 ρ1 S2 (fun es S3 => innerW g1 c1 t vs1 ρ1 (compW2 g c ti1 g1 c1 t vs vs1 ρ Q ds) es acc S3) noX else compW2 g c ti1 g1 c1 t vs vs1 ρ Q ds acc S2) noX) :
    compW2 g c ti1 g1 c1 t vs vs1 ρ Q ds acc S := by
  induction ds generalizing acc S with
  | nil => exact hd acc S h0
  | cons d ds ih => exact hs d ds acc S (fun acc' S' h => ih h) h0
end L2.Fn
/-! Fn, part V: rules for loops over lists that are images, the store unchanged. -/
namespace L2.Fn
open PySem
theorem forV {α : Type} {f : α → D} {g : FG} {b : FS} {P : EndP} {xs : List α} {ρ : Ev} {S : Sto} (I : List α → Ev → Prop) (h0 : I [] ρ) (hd : ∀ ρ, I xs ρ → P.nx ρ S)
    (hs : ∀ (l : List α) (x : α) (r : List α) (ρ : Ev) (W : Ev → Sto → Prop), xs = l ++ x :: r → I l ρ → (∀ ρ', I (l ++ [x]) ρ' → W ρ' S) → g (.dat (f x)) ρ fun ρ1 => b { P with nx := W, ct := W, bk := P.nx } ρ1 S) : forW g b P (xs.map f) ρ S := by
  have : ∀ (r l : List α) (ρ : Ev), xs = l ++ r → I l ρ → forW g b P (r.map f) ρ S := by
    intro r
    induction r with
    | nil => intro l ρ e h; rw [List.append_nil] at e; subst e; exact hd ρ h
    | cons x r ih => intro l ρ e h; exact hs l x r ρ _ e h fun ρ' h' => ih (l ++ [x]) ρ' (by rw [e]; simp) h'
  exact this xs [] ρ rfl h0
/-- .. with the store -/
theorem forVS {α : Type} {f : α → D} {g : FG} {b : FS} {P : EndP} {xs : List α} {ρ : Ev} {S : Sto} (I : List α → Ev → Sto → Prop) (h0 : I [] ρ S) (hd : ∀ ρ S, I xs ρ S → P.nx ρ S)
    (hs : ∀ (l : List α) (x : α) (r : List α) (ρ : Ev) (S : Sto) (W : Ev → Sto → Prop), xs = l ++ x :: r → I l ρ S → (∀ ρ' S', I (l ++ [x]) ρ' S' → W ρ' S') → g (.dat (f x)) ρ fun ρ1 => b { P with nx := W, ct := W, bk := P.nx } ρ1 S) : forW g b P (xs.map f) ρ S := by
  have : ∀ (r l : List α) (ρ : Ev) (S : Sto), xs = l ++ r → I l ρ S → forW g b P (r.map f) ρ S := by
    intro r
    induction r with
    | nil => intro l ρ S e h; rw [List.append_nil] at e; subst e; exact hd ρ S h
    | cons x r ih => intro l ρ S e h; exact hs l x r ρ S _ e h fun ρ' S' h' => ih (l ++ [x]) ρ' S' (by rw [e]; simp) h'
  exact this xs [] ρ S rfl h0
theorem forR {g : FG} {b : FS} {P : EndP} {lo : Int} {n : Nat} {ρ : Ev} {S : Sto} (I : Nat → Ev → Prop) (h0 : I 0 ρ) (hd : ∀ ρ, I n ρ → P.nx ρ S)
    (hs : ∀ (k : Nat) (ρ : Ev) (W : Ev → Sto → Prop), k < n → I k ρ → (∀ ρ', I (k + 1) ρ' → W ρ' S) → g (.dat (.int (lo + (k : Int)))) ρ fun ρ1 => b { P with nx := W, ct := W, bk := P.nx } ρ1 S) : forW g b P (rng lo n) ρ S := by
  have : ∀ (m k : Nat) (ρ : Ev), k + m = n → I k ρ → forW g b P ((rng lo n).drop k) ρ S := by
    intro m
    induction m with
    | zero =>
      intro k ρ e h
      rw [List.drop_of_length_le (by simp [rng]; omega)]
      have : k = n := by omega
      subst this
      exact hd ρ h
    | succ m ih =>
      intro k ρ e h
      have hlt : k < (rng lo n).length := by simp [rng]; omega
      rw [List.drop_eq_getElem_cons hlt]
      have e1 : (rng lo n)[k] = .int (lo + (k : Int)) := by simp [rng]
      rw [e1]
      exact hs k ρ _ (by omega) h fun ρ' h' => ih (k + 1) ρ' (by omega) h'
  exact this n 0 ρ (by omega) h0
theorem forRS {g : FG} {b : FS} {P : EndP} {lo : Int} {n : Nat} {ρ : Ev} {S : Sto} (I : Nat → Ev → Sto → Prop) (h0 : I 0 ρ S) (hd : ∀ ρ S, I n ρ S → P.nx ρ S)
    (hs : ∀ (k : Nat) (ρ : Ev) (S : Sto) (W : Ev → Sto → Prop), k < n → I k ρ S → (∀ ρ' S', I (k + 1) ρ' S' → W ρ' S') → g (.dat (.int (lo + (k : Int)))) ρ fun ρ1 => b { P with nx := W, ct := W, bk := P.nx } ρ1 S) : forW g b P (rng lo n) ρ S := by
  have : ∀ (m k : Nat) (ρ : Ev) (S : Sto), k + m = n → I k ρ S → forW g b P ((rng lo n).drop k) ρ S := by
    intro m
    induction m with
    | zero =>
      intro k ρ S e h
      rw [List.drop_of_length_le (by simp [rng]; omega)]
      have : k = n := by omega
      subst this
      exact hd ρ S h
    | succ m ih =>
      intro k ρ S e h
      have hlt : k < (rng lo n).length := by simp [rng]; omega
      rw [List.drop_eq_getElem_cons hlt]
      have e1 : (rng lo n)[k] = .int (lo + (k : Int)) := by simp [rng]
      rw [e1]
      exact hs k ρ S _ (by omega) h fun ρ' S' h' => ih (k + 1) ρ' S' (by omega) h'
  exact this n 0 ρ S (by omega) h0
theorem enumD_cons_aux (d : D) (ds : List D) (i : Nat) : ((d :: ds).zipIdx i).map (fun p => D.tup [.int (p.2 : Nat), p.1]) = .tup [.int (i : Nat), d] :: (ds.zipIdx (i + 1)).map (fun p => D.tup [.int (p.2 : Nat), p.1]) := by
  rw [List.zipIdx_cons, List.map_cons]
theorem forE {α : Type} {f : α → D} {g : FG} {b : FS} {P : EndP} {xs : List α} {ρ : Ev} {S : Sto} (I : List α → Ev → Prop) (h0 : I [] ρ) (hd : ∀ ρ, I xs ρ → P.nx ρ S)
    (hs : ∀ (l : List α) (x : α) (r : List α) (ρ : Ev) (W : Ev → Sto → Prop), xs = l ++ x :: r → I l ρ → (∀ ρ', I (l ++ [x]) ρ' → W ρ' S) → g (.dat (.tup [.int (l.length : Nat), f x])) ρ fun ρ1 => b { P with nx := W, ct := W, bk := P.nx } ρ1 S) : forW g b P (enumD (xs.map f)) ρ S := by
  have : ∀ (r l : List α) (ρ : Ev), xs = l ++ r → I l ρ → forW g b P (((r.map f).zipIdx l.length).map fun p => D.tup [.int (p.2 : Nat), p.1]) ρ S := by
    intro r
    induction r with
    | nil => intro l ρ e h; rw [List.append_nil] at e; subst e; exact hd ρ h
    | cons x r ih =>
      intro l ρ e h
      rw [List.map_cons, enumD_cons_aux]
      refine hs l x r ρ _ e h fun ρ' h' => ?_
      have := ih (l ++ [x]) ρ' (by rw [e]; simp) h'
      rw [List.length_append] at this
      exact this
  exact this xs [] ρ rfl h0
theorem zipD_map {α β : Type} {f : α → D} {g : β → D} : ∀ (xs : List α) (ys : List β), zipD (xs.map f) (ys.map g) = (xs.zip ys).map fun p => .tup [f p.1, g p.2]
  | [], _ => rfl
  | _ :: _, [] => rfl
  | x :: xs, y :: ys => by
    have := zipD_map (f := f) (g := g) xs ys
    unfold zipD at this ⊢
    simp [this]
theorem enumD_map {α : Type} {f : α → D} (xs : List α) : enumD (xs.map f) = xs.zipIdx.map fun p => .tup [.int (p.2 : Nat), f p.1] := by
  unfold enumD
  rw [List.zipIdx_map, List.map_map]
  rfl
theorem rng_map (lo : Int) (n : Nat) : rng lo n = (List.range n).map fun k => .int (lo + (k : Nat)) := rfl
/-! ### comprehensions -/
theorem compV {α : Type} {f : α → D} {g : FG} {c : FT} {t : FE} {vs : List Nat} {ρ : Ev} {Q : WP} {xs : List α} {acc : List M} {S : Sto} (I : List α → List M → Prop) (h0 : I [] acc) (hd : ∀ acc, I xs acc → Q (.lst acc) S)
    (hs : ∀ (l : List α) (x : α) (r : List α) (acc : List M) (W : List M → Sto → Prop), xs = l ++ x :: r → I l acc → (∀ acc', I (l ++ [x]) acc' → W acc' S) →
      g (.dat (f x)) (wipeE ρ vs) fun ρ1 => c ρ1 S (fun b S2 => if b = true then t ρ1 S2 (fun m S3 => acc.length < sizeLine ∧ W (acc ++ [m]) S3) noX else W acc S2) noX) :
    compW g c t vs ρ Q (xs.map f) acc S := by
  have : ∀ (r l : List α) (acc : List M), xs = l ++ r → I l acc → compW g c t vs ρ Q (r.map f) acc S := by
    intro r
    induction r with
    | nil => intro l ρ e h; rw [List.append_nil] at e; subst e; exact hd _ h
    | cons x r ih => intro l acc e h; exact hs l x r acc (fun a S' => compW g c t vs ρ Q (r.map f) a S') e h fun acc' h' => ih (l ++ [x]) acc' (by rw [e]; simp) h'
  exact this xs [] acc rfl h0
theorem innerV {α : Type} {f : α → D} {g1 : FG} {c1 : FT} {t : FE} {vs1 : List Nat} {ρ : Ev} {K : List M → Sto → Prop} {xs : List α} {acc : List M} {S : Sto} (I : List α → List M → Prop) (h0 : I [] acc) (hd : ∀ acc, I xs acc → K acc S)
    (hs : ∀ (l : List α) (x : α) (r : List α) (acc : List M) (W : List M → Sto → Prop), xs = l ++ x :: r → I l acc → (∀ acc', I (l ++ [x]) acc' → W acc' S) →
      g1 (.dat (f x)) (wipeE ρ vs1) fun ρ2 => c1 ρ2 S (fun b S2 => if b = true then t ρ2 S2 (fun m S3 => acc.length < sizeLine ∧ W (acc ++ [m]) S3) noX else W acc S2) noX) :
    innerW g1 c1 t vs1 ρ K (xs.map f) acc S := by
  have : ∀ (r l : List α) (acc : List M), xs = l ++ r → I l acc → innerW g1 c1 t vs1 ρ K (r.map f) acc S := by
    intro r
    induction r with
    | nil => intro l ρ e h; rw [List.append_nil] at e; subst e; exact hd _ h
    | cons x r ih => intro l acc e h; exact hs l x r acc (fun a S' => innerW g1 c1 t vs1 ρ K (r.map f) a S') e h fun acc' h' => ih (l ++ [x]) acc' (by rw [e]; simp) h'
  exact this xs [] acc rfl h0
theorem filter_le {α : Type} (p : α → Bool) (l r : List α) (x : α) {n : Nat} (h : (l ++ x :: r).length ≤ n) : (l.filter p).length < n := by
  have := List.length_filter_le p l
  simp at h
  omega
/-- [v for x in xs if p] -/
theorem compM {α : Type} {f : α → D} {g : FG} {c : FT} {t : FE} {vs : List Nat} {ρ : Ev} {Q : WP} {xs : List α} {S : Sto} (p : α → Bool) (v : α → M) (hl : xs.length ≤ 16000000) (hd : Q (.lst ((xs.filter p).map v)) S)
    (hs : ∀ (l : List α) (x : α) (r : List α) (K1 : M → Sto → Prop) (K2 : Sto → Prop), xs = l ++ x :: r → (p x = true → K1 (v x) S) → (p x = false → K2 S) →
      g (.dat (f x)) (wipeE ρ vs) fun ρ1 => c ρ1 S (fun b S2 => if b = true then t ρ1 S2 K1 noX else K2 S2) noX) :
    compW g c t vs ρ Q (xs.map f) [] S := by
  refine compV (fun l acc => acc = (l.filter p).map v) rfl (fun acc h => by rw [h]; exact hd) fun l x r acc W e h ih => ?_
  subst h
  refine hs l x r _ _ e (fun hp => ⟨small_line' ?_, ih _ ?_⟩) fun hp => ih _ ?_
  · rw [List.length_map]
    have := List.length_filter_le p l
    rw [e] at hl
    simp at hl
    omega
  · rw [List.filter_append, List.filter_cons, if_pos hp]; simp
  · rw [List.filter_append, List.filter_cons, if_neg (by simp [hp])]; simp
/-- [v for x in xs] -/
theorem compA {α : Type} {f : α → D} {g : FG} {t : FE} {vs : List Nat} {ρ : Ev} {Q : WP} {xs : List α} {S : Sto} (v : α → M) (hl : xs.length ≤ 16000000) (hd : Q (.lst (xs.map v)) S)
    (hs : ∀ (l : List α) (x : α) (r : List α) (K1 : M → Sto → Prop), xs = l ++ x :: r → K1 (v x) S → g (.dat (f x)) (wipeE ρ vs) fun ρ1 => t ρ1 S K1 noX) :
    compW g fYes t vs ρ Q (xs.map f) [] S := by
  refine compM (fun _ => true) v hl (by rw [List.filter_eq_self.mpr (by simp)]; exact hd) fun l x r K1 K2 e h1 h2 => ?_
  have := hs l x r K1 e (h1 rfl)
  simpa [fYes] using this
theorem innerM {α : Type} {f : α → D} {g1 : FG} {c1 : FT} {t : FE} {vs1 : List Nat} {ρ : Ev} {K : List M → Sto → Prop} {xs : List α} {acc : List M} {S : Sto} (p : α → Bool) (v : α → M) (hl : acc.length + xs.length ≤ 16000000) (hd : K (acc ++ (xs.filter p).map v) S)
    (hs : ∀ (l : List α) (x : α) (r : List α) (K1 : M → Sto → Prop) (K2 : Sto → Prop), xs = l ++ x :: r → (p x = true → K1 (v x) S) → (p x = false → K2 S) →
      g1 (.dat (f x)) (wipeE ρ vs1) fun ρ1 => c1 ρ1 S (fun b S2 => if b = true then t ρ1 S2 K1 noX else K2 S2) noX) :
    innerW g1 c1 t vs1 ρ K (xs.map f) acc S := by
  refine innerV (fun l a => a = acc ++ (l.filter p).map v) (by simp) (fun acc h => by rw [h]; exact hd) fun l x r a W e h ih => ?_
  subst h
  refine hs l x r _ _ e (fun hp => ⟨small_line' ?_, ih _ ?_⟩) fun hp => ih _ ?_
  · rw [List.length_append, List.length_map]
    have := List.length_filter_le p l
    rw [e] at hl
    simp at hl
    omega
  · rw [List.filter_append, List.filter_cons, if_pos hp]; simp
  · rw [List.filter_append, List.filter_cons, if_neg (by simp [hp])]; simp
theorem innerA {α : Type} {f : α → D} {g1 : FG} {t : FE} {vs1 : List Nat} {ρ : Ev} {K : List M → Sto → Prop} {xs : List α} {acc : List M} {S : Sto} (v : α → M) (hl : acc.length + xs.length ≤ 16000000) (hd : K (acc ++ xs.map v) S)
    (hs : ∀ (l : List α) (x : α) (r : List α) (K1 : M → Sto → Prop), xs = l ++ x :: r → K1 (v x) S → g1 (.dat (f x)) (wipeE ρ vs1) fun ρ1 => t ρ1 S K1 noX) :
    innerW g1 fYes t vs1 ρ K (xs.map f) acc S := by
  refine innerM (fun _ => true) v hl (by rw [List.filter_eq_self.mpr (by simp)]; exact hd) fun l x r K1 K2 e h1 h2 => ?_
  have := hs l x r K1 e (h1 rfl)
  simpa [fYes] using this
/-- two fors: what each x gives is appended -/
theorem comp2V {α : Type} {f : α → D} {g : FG} {c : FT} {ti1 : FI} {g1 : FG} {c1 : FT} {t : FE} {vs vs1 : List Nat} {ρ : Ev} {Q : WP} {xs : List α} {S : Sto} (vals : α → List M) (hd : Q (.lst (xs.flatMap vals)) S)
    (hs : ∀ (l : List α) (x : α) (r : List α) (acc : List M) (W : List M → Sto → Prop), xs = l ++ x :: r → acc = l.flatMap vals → W (acc ++ vals x) S →
      g (.dat (f x)) (wipeE ρ vs) fun ρ1 => c ρ1 S (fun b S2 => if b = true then ti1 ρ1 S2 (fun es S3 => innerW g1 c1 t vs1 ρ1 W es acc S3) noX else W acc S2) noX) :
    compW2 g c ti1 g1 c1 t vs vs1 ρ Q (xs.map f) [] S := by
  have : ∀ (r l : List α), xs = l ++ r → compW2 g c ti1 g1 c1 t vs vs1 ρ Q (r.map f) (l.flatMap vals) S := by
    intro r
    induction r with
    | nil => intro l e; rw [List.append_nil] at e; subst e; exact hd
    | cons x r ih =>
      intro l e
      refine hs l x r _ (fun a S' => compW2 g c ti1 g1 c1 t vs vs1 ρ Q (r.map f) a S') e rfl ?_
      have := ih (l ++ [x]) (by rw [e]; simp)
      simpa using this
  exact this xs [] rfl
theorem ex_pair {α β : Type} {x : α} {y : β} {p : α → β → Prop} : (∃ a b, (x, y) = (a, b) ∧ p a b) ↔ p x y := ⟨fun ⟨a, b, e, h⟩ => by cases e; exact h, fun h => ⟨x, y, rfl, h⟩⟩
theorem ex_dct {x : Bool} {y : List (NK × D)} {p : Bool → List (NK × D) → Prop} : (∃ a b, M.dct x y = M.dct a b ∧ p a b) ↔ p x y := ⟨fun ⟨a, b, e, h⟩ => by cases e; exact h, fun h => ⟨x, y, rfl, h⟩⟩
theorem ex_tups {y : List D} {p : List D → Prop} : (∃ b, D.tup y = D.tup b ∧ p b) ↔ p y := ⟨fun ⟨b, e, h⟩ => by cases e; exact h, fun h => ⟨y, rfl, h⟩⟩
theorem ex_cons2 {a : D} {l : List D} {p : D → List D → Prop} : (∃ d r, a :: l = d :: r ∧ p d r) ↔ p a l := ⟨fun ⟨d, r, e, h⟩ => by cases e; exact h, fun h => ⟨a, l, rfl, h⟩⟩
end L2.Fn
/-! Fn, part J2: sorted of nested tuples. -/
namespace L2.Fn
open PySem PySem.Spec PyProof.Rows PySem.W

/-! ### the order, by a flat list -/
mutual
def NK.enc : NK → PK
  | .i n => [.inl n]
  | .s x => [.inr x]
  | .t l => NK.encs l
def NK.encs : List NK → PK
  | [] => [.inl 0]
  | k :: l => .inl 1 :: (NK.enc k ++ NK.encs l)
end
mutual
def Cm : NK → NK → Bool
  | .i _, .i _ => true
  | .s _, .s _ => true
  | .t a, .t b => Cms a b
  | _, _ => false
def Cms : List NK → List NK → Bool
  | [], _ => true
  | _ :: _, [] => true
  | x :: a, y :: b => if x = y then Cms a b else Cm x y
end
def DiffL (a b : PK) : Prop := ∃ (p : PK) (u v : Int ⊕ List Nat) (ra rb : PK), a = p ++ u :: ra ∧ b = p ++ v :: rb ∧ u ≠ v
theorem DiffL.app {a b : PK} (d : DiffL a b) (p r r' : PK) : DiffL (p ++ (a ++ r)) (p ++ (b ++ r')) := by
  obtain ⟨q, u, v, ra, rb, rfl, rfl, h⟩ := d
  exact ⟨p ++ q, u, v, ra ++ r, rb ++ r', by simp, by simp, h⟩
mutual
theorem enc_diff : ∀ (a b : NK), Cm a b = true → a ≠ b → DiffL a.enc b.enc
  | .i n, .i m, _, h => ⟨[], .inl n, .inl m, [], [], by rw [NK.enc]; rfl, by rw [NK.enc]; rfl, fun e => h (by injection e with e; rw [e])⟩
  | .s x, .s y, _, h => ⟨[], .inr x, .inr y, [], [], by rw [NK.enc]; rfl, by rw [NK.enc]; rfl, fun e => h (by injection e with e; rw [e])⟩
  | .t a, .t b, c, h => by
    rw [NK.enc, NK.enc]
    rw [Cm] at c
    exact encs_diff a b c fun e => h (by rw [e])
  | .i _, .s _, c, _ => by simp [Cm] at c
  | .i _, .t _, c, _ => by simp [Cm] at c
  | .s _, .i _, c, _ => by simp [Cm] at c
  | .s _, .t _, c, _ => by simp [Cm] at c
  | .t _, .i _, c, _ => by simp [Cm] at c
  | .t _, .s _, c, _ => by simp [Cm] at c
theorem encs_diff : ∀ (a b : List NK), Cms a b = true → a ≠ b → DiffL (NK.encs a) (NK.encs b)
  | [], [], _, h => absurd rfl h
  | [], y :: b, _, _ => ⟨[], .inl 0, .inl 1, [], y.enc ++ NK.encs b, by rw [NK.encs]; rfl, by rw [NK.encs]; rfl, by simp⟩
  | x :: a, [], _, _ => ⟨[], .inl 1, .inl 0, x.enc ++ NK.encs a, [], by rw [NK.encs]; rfl, by rw [NK.encs]; rfl, by simp⟩
  | x :: a, y :: b, c, h => by
    rw [Cms] at c
    rw [NK.encs, NK.encs]
    by_cases e : x = y
    · rw [if_pos e] at c
      subst e
      have := (encs_diff a b c fun e => h (by rw [e])).app (.inl 1 :: x.enc) [] []
      simpa using this
    · rw [if_neg e] at c
      exact (enc_diff x y c e).app [.inl 1] (NK.encs a) (NK.encs b)
end
theorem lt_pre : ∀ (p a b : PK), pkLt (p ++ a) (p ++ b) = pkLt a b
  | [], a, b => rfl
  | u :: p, a, b => by
    show lexLt itemOrd _ _ = _
    rw [List.cons_append, List.cons_append, lex_self]
    exact lt_pre p a b
theorem lt_diff {a b : PK} (d : DiffL a b) (r r' : PK) : pkLt (a ++ r) (b ++ r') = pkLt a b := by
  obtain ⟨q, u, v, ra, rb, rfl, rfl, h⟩ := d
  rw [List.append_assoc, List.append_assoc, lt_pre, lt_pre]
  show lexLt itemOrd (u :: (ra ++ r)) (v :: (rb ++ r')) = lexLt itemOrd (u :: ra) (v :: rb)
  rw [lex_diff h, lex_diff h]
def NK.lt (a b : NK) : Bool := pkLt a.enc b.enc
def NK.lts (a b : List NK) : Bool := pkLt (NK.encs a) (NK.encs b)
theorem lts_nil_cons (y : NK) (b : List NK) : NK.lts [] (y :: b) = true := by
  unfold NK.lts
  rw [NK.encs, NK.encs]
  show lexLt itemOrd _ _ = true
  rw [lex_diff (by simp)]
  rfl
theorem lts_cons_nil (x : NK) (a : List NK) : NK.lts (x :: a) [] = false := by
  unfold NK.lts
  rw [NK.encs, NK.encs]
  show lexLt itemOrd _ _ = false
  rw [lex_diff (by simp)]
  rfl
theorem lts_nil : NK.lts [] [] = false := by
  unfold NK.lts
  exact lex_irrefl _
theorem lts_same (x : NK) (a b : List NK) : NK.lts (x :: a) (x :: b) = NK.lts a b := by
  unfold NK.lts
  rw [NK.encs, NK.encs]
  show lexLt itemOrd _ _ = _
  rw [lex_self]
  exact lt_pre _ _ _
theorem lts_other {x y : NK} (a b : List NK) (c : Cm x y = true) (h : x ≠ y) : NK.lts (x :: a) (y :: b) = NK.lt x y := by
  unfold NK.lts NK.lt
  rw [NK.encs, NK.encs]
  show lexLt itemOrd _ _ = _
  rw [lex_self]
  exact lt_diff (enc_diff x y c h) _ _
theorem lt_t (a b : List NK) : NK.lt (.t a) (.t b) = NK.lts a b := by
  unfold NK.lt NK.lts
  rw [NK.enc, NK.enc]
theorem lt_i (n m : Int) : NK.lt (.i n) (.i m) = decide (n < m) := by
  unfold NK.lt
  rw [NK.enc, NK.enc]
  show lexLt itemOrd _ _ = _
  by_cases e : n = m
  · subst e
    rw [lex_irrefl]
    simp
  · rw [lex_diff (by simpa using e)]
    rfl
theorem lt_s (x y : List Nat) : NK.lt (.s x) (.s y) = decide (x < y) := by
  unfold NK.lt
  rw [NK.enc, NK.enc]
  show lexLt itemOrd _ _ = _
  by_cases e : x = y
  · subst e
    rw [lex_irrefl]
    simp [List.lt_irrefl]
  · rw [lex_diff (by simpa using e)]
    rfl
/-! ### the model's comparison -/
section
variable {P : Program} {w : World}
theorem tree_lt_atom {x y : NK} {A : Around} {E : Value → Shared → Prop} {s : Shared} {u v : Value} {Q : Value → Shared → Prop} (rx : IsTree s.heap x u) (ry : IsTree s.heap y v) (c : Cm x y = true) (hn : ¬ ∃ a, x = .t a)
    (h : Q (.bool (NK.lt x y)) s) : wpAny (model P w) A (richCompare .Lt u v) Q E s := by
  cases rx with
  | i m t =>
    cases ry with
    | i m' t' => rw [lt_i] at h; exact PySem.P.lt_int h
    | s x' t' => simp [Cm] at c
    | t p r => simp [Cm] at c
  | s x t =>
    cases ry with
    | i m' t' => simp [Cm] at c
    | s x' t' =>
      rw [lt_s] at h
      exact PySem.P.lt_str (by simpa using h)
    | t p r => simp [Cm] at c
  | t p r => exact absurd ⟨_, rfl⟩ hn
theorem cms_cons {x y : NK} {a b : List NK} (c : Cms (x :: a) (y :: b) = true) : (x = y ∧ Cms a b = true) ∨ (x ≠ y ∧ Cm x y = true) := by
  rw [Cms] at c
  by_cases e : x = y
  · rw [if_pos e] at c; exact .inl ⟨e, c⟩
  · rw [if_neg e] at c; exact .inr ⟨e, c⟩
def LtAt (P : Program) (w : World) (n : Nat) : Prop := ∀ (x y : NK) (A : Around) (E : Value → Shared → Prop) (s : Shared) (u v : Value) (Q : Value → Shared → Prop), x.dep ≤ n → y.dep ≤ n → A.units + n < cLine → IsTree s.heap x u → IsTree s.heap y v → Cm x y = true →
    Q (.bool (NK.lt x y)) s → wpAny (model P w) A (richCompare .Lt u v) Q E s
theorem tup_lt_call {n : Nat} (ih : LtAt P w n) {kx ky : List NK} {a b : Addr} {A : Around} {E : Value → Shared → Prop} {s : Shared} {Q : Value → Shared → Prop} (hx : (NK.t kx).dep ≤ n + 1) (hy : (NK.t ky).dep ≤ n + 1) (hu : A.units + (n + 1) < cLine)
    (tx : IsTree s.heap (.t kx) (.ref a)) (ty : IsTree s.heap (.t ky) (.ref b)) (c : Cm (.t kx) (.t ky) = true) (h : Q (.bool (NK.lt (.t kx) (.t ky))) s) :
    wpAny (model P w) A (call (.builtin "tuple.__lt__") [.ref a, .ref b]) (fun v s' => v ≠ .notImplemented ∧ Q v s') E s := by
  cases tx with
  | @t _ xs _ px rx =>
  cases ty with
  | @t _ ys _ py ry =>
  rw [NK.dep] at hx hy
  rw [Cm] at c
  rw [lt_t] at h
  have hTa := isTuple_typeIs px
  have hTb := isTuple_typeIs py
  obtain ⟨oa, hoa, _, na, hda⟩ := px
  obtain ⟨ob, hob, _, nb, hdb⟩ := py
  refine wpAny_call_entry PySem.F.slot_tuple_lt hTa PySem.F.entry_tuple_lt ?_ (PySem.F.args_tuple_lt_2 _ _)
  show wpAny _ _ (isInstance (.ref b) (.type "tuple") >>= _) _ _ s
  refine wpAny_bind (wpAny_isInstance hTb isSubtype_tuple_tuple ?_)
  simp only [Bool.not_true, Bool.false_eq_true, if_false]
  refine wpAny_bind (wpAny_tupleItemsOf hoa hda ?_)
  refine wpAny_bind (wpAny_tupleItemsOf hob hdb ?_)
  refine wpAny_bind ?_
  refine wpAny_forIn_list _
    (fun rest r s' => r.1 = none ∧ s' = s ∧ ∃ x' y' xs' ys', rest = List.zip xs' ys' ∧ AreTree s.heap x' xs' ∧ AreTree s.heap y' ys' ∧ (∀ k ∈ x', NK.dep k ≤ n) ∧ (∀ k ∈ y', NK.dep k ≤ n) ∧ Cms x' y' = true ∧ NK.lts x' y' = NK.lts kx ky ∧ decide (xs'.length < ys'.length) = decide (xs.size < ys.size))
    _ ?_ ?_ _ _ ⟨rfl, rfl, kx, ky, xs.toList, ys.toList, rfl, rx, ry, ?_, ?_, c, rfl, by simp⟩
  · rintro ⟨u, v⟩ rest r s' ⟨hr, rfl, x', y', xs', ys', hz, hx', hy', dx, dy, cc, hlt, hlen⟩
    cases hx' with
    | nil => simp at hz
    | @cons k1 u' x'' xs'' h1 hx'' =>
      cases hy' with
      | nil => simp at hz
      | @cons k2 v' y'' ys'' h2 hy'' =>
        simp only [List.zip_cons_cons, List.cons.injEq, Prod.mk.injEq] at hz
        obtain ⟨⟨rfl, rfl⟩, rfl⟩ := hz
        refine wpAny_bind (tree_eq n k1 k2 _ _ _ u v _ (dx _ List.mem_cons_self) (dy _ List.mem_cons_self) (show A.units + 1 + n < cLine by omega) h1 h2 ?_)
        rcases cms_cons cc with ⟨hk, c2⟩ | ⟨hk, c2⟩
        · subst hk
          rw [decide_eq_true rfl]
          simp only [Bool.not_true, Bool.false_eq_true, if_false]
          refine wpAny_pure ⟨rfl, rfl, x'', y'', xs'', ys'', rfl, hx'', hy'', fun k z => dx k (List.mem_cons_of_mem _ z), fun k z => dy k (List.mem_cons_of_mem _ z), c2, ?_, by simpa using hlen⟩
          rw [← hlt, lts_same]
        · rw [decide_eq_false hk]
          simp only [Bool.not_false, if_true]
          rw [← hlt, lts_other _ _ c2 hk] at h
          refine wpAny_bind (wpAny_rule ?_)
          refine wpAny_bind (ih k1 k2 A.in1 _ _ u v _ (dx _ List.mem_cons_self) (dy _ List.mem_cons_self) (show A.units + 1 + n < cLine by omega) h1 h2 c2 ?_)
          exact wpAny_bind (wpAny_pure (wpAny_pure (wpAny_pure ⟨_, rfl, (fun e => nomatch e), h⟩)))
  · rintro ⟨r1, r2⟩ s' ⟨hr, rfl, x', y', xs', ys', hz, hx', hy', dx, dy, cc, hlt, hlen⟩
    simp only at hr
    subst hr
    refine wpAny_pure ⟨_, rfl, (fun e => nomatch e), ?_⟩
    have e0 : decide (xs.size < ys.size) = NK.lts kx ky := by
      rw [← hlt, ← hlen]
      cases hx' with
      | nil =>
        cases hy' with
        | nil => rw [lts_nil]; simp
        | cons _ _ => rw [lts_nil_cons]; simp
      | cons _ _ =>
        cases hy' with
        | nil => rw [lts_cons_nil]; simp
        | cons _ _ => simp at hz
    rw [← e0] at h
    exact h
  · intro k hk
    obtain ⟨l, r, e⟩ := List.append_of_mem hk
    exact NK.deps_mem (a := l) (b := r) (by rw [← e]; omega)
  · intro k hk
    obtain ⟨l, r, e⟩ := List.append_of_mem hk
    exact NK.deps_mem (a := l) (b := r) (by rw [← e]; omega)
theorem tree_lt : ∀ n : Nat, LtAt P w n := by
  intro n
  induction n with
  | zero =>
    intro x y A E s u v Q hx hy hu rx ry c h
    refine tree_lt_atom rx ry c ?_ h
    rintro ⟨a, rfl⟩
    rw [NK.dep] at hx
    omega
  | succ n ih =>
    intro x y A E s u v Q hx hy hu rx ry c h
    by_cases gx : ∃ a, x = .t a
    · obtain ⟨kx, rfl⟩ := gx
      cases rx with
      | @t a xs _ px rx =>
        cases ry with
        | i => simp [Cm] at c
        | s => simp [Cm] at c
        | @t b ys ky py ry =>
          exact wpAny_richCompare_same_room (op := .Lt) (isTuple_typeIs px) (isTuple_typeIs py) PySem.F.slot_tuple_lt (tup_lt_call ih hx hy hu (.t px rx) (.t py ry) c h) (by omega)
    · exact tree_lt_atom rx ry c gx h
/-- the tuple's own method -/
theorem tree_oneLt {n : Nat} {f : Bool} {x y : NK} {A : Around} {E : Value → Shared → Prop} {s : Shared} {u v : Value} {Q : Bool → Shared → Prop} (hx : x.dep ≤ n) (hy : y.dep ≤ n) (hu : A.units + n + 1 < cLine) (rx : IsTree s.heap x u) (ry : IsTree s.heap y v)
    (c : Cm x y = true) (h : Q (NK.lt x y) s) : wpAny (model P w) A (oneLt' f u v) Q E s := by
  cases f with
  | false =>
    rw [oneLt'_eq]
    simp only [Bool.false_eq_true, if_false]
    exact wpAny_bind (tree_lt n x y A E s u v _ hx hy (by omega) rx ry c (wpAny_truthy_bool h))
  | true =>
    cases rx with
    | i m t =>
      cases ry with
      | i m' t' => rw [lt_i] at h; exact oneLt_any_int h
      | s => simp [Cm] at c
      | t => simp [Cm] at c
    | s m t =>
      cases ry with
      | i m' t' => simp [Cm] at c
      | s m' t' => rw [lt_s] at h; exact oneLt_any_str (by simpa using h)
      | t => simp [Cm] at c
    | t px rx =>
      cases ry with
      | i => simp [Cm] at c
      | s => simp [Cm] at c
      | t py ry =>
        rw [oneLt'_eq]
        simp only [if_true]
        have hu2 : A.units < cLine := by omega
        refine wpAny_bind (wpAny_cRoomFor hu2 ?_)
        refine wpAny_bind (wpAny_callSpecialIfBound?_slot (isTuple_typeIs px) PySem.F.slot_tuple_lt (wpAny_mono (tup_lt_call (n := n) (Q := fun v s' => v = .bool (NK.lt (.t _) (.t _)) ∧ s' = s) (E := E) (tree_lt n) (by omega) (by omega) (by omega) (.t px rx) (.t py ry) c ⟨rfl, rfl⟩) ?_ fun _ _ x => x))
        rintro v s' ⟨_, rfl, rfl⟩
        exact wpAny_truthy_bool h
theorem tree_lex {n : Nat} {A : Around} {s : Shared} {b fin : Bool} {Q : Bool → Shared → Prop} (hu : A.units + n + 1 < cLine) : ∀ (ps qs : List Value) (i : Nat) (as bs : List NK), AreTree s.heap as ps → AreTree s.heap bs qs → Cms as bs = true → NK.deps as ≤ n → NK.deps bs ≤ n →
    fin = decide (ps.length < qs.length) → Q (NK.lts as bs) s → KatLex P w A b fin Q (ps.zip qs) i s
  | [], [], i, _, _, .nil, .nil, c, _, _, hf, h => by
    have e : fin = false := by rw [hf]; rfl
    subst e
    rw [lts_nil] at h
    exact kat_nil h
  | [], q :: qs, i, _, _, .nil, .cons r2 t2, c, _, _, hf, h => by
    have e : fin = true := by rw [hf]; exact decide_eq_true (Nat.succ_pos _)
    subst e
    rw [lts_nil_cons] at h
    exact kat_nil h
  | p :: ps, [], i, _, _, .cons r1 t1, .nil, c, _, _, hf, h => by
    have e : fin = false := by rw [hf]; exact decide_eq_false (Nat.not_lt_zero _)
    subst e
    rw [lts_cons_nil] at h
    exact kat_nil h
  | p :: ps, q :: qs, i, _, _, .cons (k := x) (ks := as) r1 t1, .cons (k := y) (ks := bs) r2 t2, c, d1, d2, hf, h => by
    have hf' : fin = decide (ps.length < qs.length) := by
      rw [hf]; simp only [List.length_cons, Nat.add_lt_add_iff_right]
    rw [NK.deps] at d1 d2
    refine kat_cons (tree_eq n x y A _ s p q _ (by omega) (by omega) (by omega) r1 r2 ?_)
    refine kat_go (fun e => kat_yes ?_) (fun e => kat_no ?_)
    · have hxy : x = y := of_decide_eq_true e
      subst hxy
      rw [lts_same] at h
      rcases cms_cons c with ⟨_, c2⟩ | ⟨z, _⟩
      · exact tree_lex hu ps qs (i + 1) as bs t1 t2 c2 (by omega) (by omega) hf' h
      · exact absurd rfl z
    · have hxy : ¬ x = y := of_decide_eq_false e
      rcases cms_cons c with ⟨z, _⟩ | ⟨_, c2⟩
      · exact absurd z hxy
      · rw [lts_other _ _ c2 hxy] at h
        exact tree_oneLt (n := n) (by omega) (by omega) hu r1 r2 c2 h
def SomeKind (κ : SortKind) : Prop := κ = general' ∨ κ = oneType' ∨ ∃ b, κ = tuples' b
theorem tree_keyLt {n : Nat} {κ : SortKind} (hκ : SomeKind κ) {x y : NK} {A : Around} {E : Value → Shared → Prop} {s : Shared} {u v : Value} {Q : Bool → Shared → Prop} (hu : A.units + n + 2 < cLine) (dx : x.dep ≤ n) (dy : y.dep ≤ n) (tx : ∃ a, x = .t a) (ty : ∃ a, y = .t a)
    (rx : IsTree s.heap x u) (ry : IsTree s.heap y v) (c : Cm x y = true) (h : Q (NK.lt x y) s) : wpAny (model P w) A (keyLt' κ u v) Q E s := by
  rcases hκ with rfl | rfl | ⟨b, rfl⟩
  · exact show wpAny (model P w) A (oneLt' false u v) Q E s from tree_oneLt (n := n) dx dy (by omega) rx ry c h
  · exact show wpAny (model P w) A (oneLt' true u v) Q E s from tree_oneLt (n := n) dx dy (by omega) rx ry c h
  · obtain ⟨a, rfl⟩ := tx
    obtain ⟨b', rfl⟩ := ty
    cases rx with
    | t px rx =>
      cases ry with
      | t py ry =>
        obtain ⟨oa, hoa, _, na, hda⟩ := px
        obtain ⟨ob, hob, _, nb, hdb⟩ := py
        rw [NK.dep] at dx dy
        rw [Cm] at c
        rw [lt_t] at h
        exact kat_lt hoa hda hob hdb (tree_lex (n := n) (by omega) _ _ 0 a b' rx ry c (by omega) (by omega) (by rw [Array.length_toList, Array.length_toList]) h)
/-- first items -/
inductive FstO (h : Heap) : List Value → List (Option Value) → Prop
  | nil : FstO h [] []
  | cons {a : Addr} {items : Array Value} {vs : List Value} {fs : List (Option Value)} : h.IsTuple a items → FstO h vs fs → FstO h (.ref a :: vs) (items[0]? :: fs)
theorem fo_walk {M : Model} {A : Around} {E : Value → Shared → Prop} {s : Shared} : ∀ (vs : List Value) (fs : List (Option Value)) {Q : List (Option Value) → Shared → Prop}, FstO s.heap vs fs → Q fs s → wpAny M A (vs.mapM firstOfTuple') Q E s
  | _, _, _, .nil, h => by rw [List.mapM_nil]; exact wpAny_pure h
  | _, _, Q, .cons (a := a) (items := items) (vs := vs) (fs := fs) p t, h => by
    obtain ⟨o, ho, hc, n, hd⟩ := p
    rw [List.mapM_cons]
    refine wpAny_bind ?_
    rw [kas_first_eq]
    refine wpAny_bind (Looks.here (show Looks M s.heap (typeOf (.ref a)) o.cls from (Looks.ld ho).andThen .now) ?_)
    rw [hc, if_neg (by first | decide | simp)]
    refine wpAny_bind (listItems_at ho hd (wpAny_pure ?_))
    exact wpAny_bind (fo_walk vs fs (Q := fun bs s' => wpAny M A (pure (items[0]? :: bs)) Q E s') t (wpAny_pure h))
def tyK : NK → Value
  | .i _ => .type "int"
  | .s _ => .type "str"
  | .t _ => .type "tuple"
theorem IsTree.ty {M : Model} {h : Heap} {k : NK} {v : Value} (r : IsTree h k v) : Looks M h (typeOf v) (tyK k) := by
  cases r with
  | i => exact Looks.of_pure rfl
  | s => exact Looks.of_pure rfl
  | @t a items ks p r =>
    obtain ⟨o, ho, hc, n, hd⟩ := p
    have : tyK (.t ks) = o.cls := hc.symm
    rw [this]
    exact (Looks.ld ho).andThen .now
inductive TyAll (M : Model) (h : Heap) : List Value → List Value → Prop
  | nil : TyAll M h [] []
  | cons {v t : Value} {vs ts : List Value} : Looks M h (typeOf v) t → TyAll M h vs ts → TyAll M h (v :: vs) (t :: ts)
theorem ty_walk {M : Model} {A : Around} {E : Value → Shared → Prop} {s : Shared} : ∀ (vs ts : List Value) {Q : List Value → Shared → Prop}, TyAll M s.heap vs ts → Q ts s → wpAny M A (vs.mapM typeOf) Q E s
  | _, _, _, .nil, h => by rw [List.mapM_nil]; exact wpAny_pure h
  | _, _, Q, .cons (t := t) (vs := vs) (ts := ts) p q, h => by
    rw [List.mapM_cons]
    refine wpAny_bind (p.here ?_)
    exact wpAny_bind (ty_walk vs ts (Q := fun bs s' => wpAny M A (pure (t :: bs)) Q E s') q (wpAny_pure h))
/-- the one type, or none -/
def oneTy (ts : List Value) : Option Value := match ts.toArray[0]? with
  | some t => if ts.toArray.all (· == t) then some t else none
  | none => none
theorem oneType_walk {M : Model} {A : Around} {E : Value → Shared → Prop} {s : Shared} {vs ts : List Value} {Q : Option Value → Shared → Prop} (r : TyAll M s.heap vs ts) (h : Q (oneTy ts) s) : wpAny M A (oneTypeOnly' vs.toArray) Q E s := by
  rw [oneTypeOnly'_eq, List.mapM_toArray, map_eq_pure_bind]
  refine wpAny_bind (wpAny_bind (ty_walk vs ts r (wpAny_pure ?_)))
  unfold oneTy at h
  cases q : ts.toArray[0]? with
  | none => rw [q] at h; exact wpAny_pure h
  | some t => rw [q] at h; exact wpAny_pure h
theorem tree_kind {M : Model} {s : Shared} {vs : List Value} (hv : ∀ v ∈ vs, ∃ ks, IsTree s.heap (.t ks) v) : ∃ κ, SomeKind κ ∧ ∀ (A : Around) (Q : SortKind → Shared → Prop) (E : Value → Shared → Prop), Q κ s → wpAny M A (keyKind' vs.toArray) Q E s := by
  obtain ⟨fs, hfs⟩ : ∃ fs, FstO s.heap vs fs := by
    induction vs with
    | nil => exact ⟨_, .nil⟩
    | cons v vs ih =>
      obtain ⟨fs, h⟩ := ih fun u hu => hv u (List.mem_cons_of_mem _ hu)
      obtain ⟨ks, r⟩ := hv v List.mem_cons_self
      cases r with
      | t p r => exact ⟨_, .cons p h⟩
  have htv : TyAll M s.heap vs (vs.map fun _ => .type "tuple") := by
    have : ∀ l : List Value, (∀ v ∈ l, ∃ ks, IsTree s.heap (.t ks) v) → TyAll M s.heap l (l.map fun _ => .type "tuple") := by
      intro l
      induction l with
      | nil => intro _; exact .nil
      | cons v l ih =>
        intro h
        obtain ⟨ks, r⟩ := h v List.mem_cons_self
        exact .cons r.ty (ih fun u hu => h u (List.mem_cons_of_mem _ hu))
    exact this vs hv
  obtain ⟨ts, hts⟩ : ∃ ts, TyAll M s.heap (fs.filterMap id) ts := by
    have : ∀ (vs : List Value) (fs : List (Option Value)), FstO s.heap vs fs → (∀ v ∈ vs, ∃ ks, IsTree s.heap (.t ks) v) → ∃ ts, TyAll M s.heap (fs.filterMap id) ts := by
      intro vs fs q
      induction q with
      | nil => intro _; exact ⟨_, .nil⟩
      | @cons a items vs fs p q ih =>
        intro h
        obtain ⟨ts, r⟩ := ih fun u hu => h u (List.mem_cons_of_mem _ hu)
        obtain ⟨ks, t⟩ := h _ List.mem_cons_self
        cases t with
        | @t _ items' _ p' t =>
          have := isTuple_inj p p'
          subst this
          cases e : items[0]? with
          | none => exact ⟨ts, by simpa using r⟩
          | some f =>
            have e2 : items.toList[0]? = some f := by rw [Array.getElem?_toList]; exact e
            generalize items.toList = il at t e2
            cases t with
            | nil => simp at e2
            | cons t1 t2 =>
              simp at e2
              subst e2
              exact ⟨_, by simpa using TyAll.cons t1.ty r⟩
    exact this vs fs hfs hv
  refine ⟨if fs.toArray.all (·.isSome) then tuples' ((oneTy ts).any (· != .type "tuple")) else if (fs.toArray[0]?.bind id).isSome then general' else if (oneTy (vs.map fun _ => .type "tuple")).isSome then oneType' else general', ?_, fun A Q E h => ?_⟩
  · split
    · exact .inr (.inr ⟨_, rfl⟩)
    · split
      · exact .inl rfl
      · split
        · exact .inr (.inl rfl)
        · exact .inl rfl
  · rw [kat_kind_eq, List.mapM_toArray, map_eq_pure_bind]
    refine wpAny_bind (wpAny_bind (fo_walk vs fs hfs (wpAny_pure ?_)))
    by_cases c1 : (fs.toArray.all (·.isSome)) = true
    · rw [if_pos c1] at h
      rw [if_pos c1]
      refine wpAny_bind (wpAny_rule ?_)
      have hfm : (fs.toArray.filterMap id) = (fs.filterMap id).toArray := by simp
      rw [hfm]
      exact wpAny_bind (oneType_walk hts (wpAny_pure h))
    · rw [if_neg c1] at h
      rw [if_neg c1]
      by_cases c2 : (fs.toArray[0]?.bind id).isSome = true
      · rw [if_pos c2] at h
        rw [if_pos c2]
        exact wpAny_pure h
      · rw [if_neg c2] at h
        rw [if_neg c2]
        exact wpAny_bind (oneType_walk htv (wpAny_pure h))
end
/-! ### sorted(xs) -/
mutual
theorem IsNK.inj {H : Hp} : ∀ {x y : NK} {v : V}, IsNK H x v → IsNK H y v → x = y
  | _, _, _, .i _, .i _ => rfl
  | _, _, _, .s x, q => by
    generalize hv : V.str ⟨x.toArray⟩ = v at q
    cases q with
    | i => cases hv
    | s y =>
      have e := congrArg Array.toList (congrArg Str.cps (V.str.inj hv))
      rw [show x = y by simpa using e]
    | t => cases hv
  | _, _, _, .t e r, .t e' r' => by
    rw [e] at e'
    cases e'
    rw [AreNK.inj r r']
theorem AreNK.inj {H : Hp} : ∀ {x y : List NK} {v : List V}, AreNK H x v → AreNK H y v → x = y
  | _, _, _, .nil, .nil => rfl
  | _, _, _, .cons p r, .cons p' r' => by rw [IsNK.inj p p', AreNK.inj r r']
end
open Classical in
noncomputable def kN (H : Hp) (v : V) : NK := if h : ∃ k, IsNK H k v then Classical.choose h else .i 0
theorem kN_at {H : Hp} {k : NK} {v : V} (h : IsNK H k v) : kN H v = k := by
  have hx : ∃ k, IsNK H k v := ⟨k, h⟩
  unfold kN
  rw [dif_pos hx]
  exact (Classical.choose_spec hx).inj h
def rSortN (K : PySem.W.Frag) : List V → Hp → VK → Prop := fun vs H Q => ∃ (a : Addr) (xs : List V), vs = [.ref a] ∧ SqL K H a xs ∧ (∀ x ∈ xs, ∃ ks, IsNK H (.t ks) x ∧ (NK.t ks).dep ≤ 8) ∧ (∀ x ∈ xs, ∀ y ∈ xs, Cm (kN H x) (kN H y) = true) ∧
  ∀ ys p, ys.Perm xs → ys.Pairwise (fun x y => NK.lt (kN H y) (kN H x) = false) → H p = none → Q (.ref p) (upd H p (.lst ys))
theorem cr_sortedN {X : Cx} (hu : X.A.units + 65 < cLine) : CallR X (.builtin "sorted") (rSortN X.K) := by
  intro pins s σ H vs us Q I r h
  obtain ⟨a, xs, rfl, hs, hx, hc, q⟩ := h
  obtain ⟨its, rv, hl, hz⟩ := I.list hs
  obtain ⟨u, rfl, ru⟩ := vals1 r
  obtain rfl : u = Value.ref a := ru
  have isref : ∀ x ∈ xs, ∃ t, x = V.ref t := fun x m => by
    obtain ⟨ks, h, _⟩ := hx x m
    cases h with
    | t e r => exact ⟨_, rfl⟩
  obtain ⟨e1, e2⟩ := refs_back rv isref
  have hv : ∀ v ∈ its, ∃ ks, kN H (backV v) = .t ks ∧ (NK.t ks).dep ≤ 8 ∧ IsTree s.heap (kN H (backV v)) v := fun v hm => by
    obtain ⟨t, rfl⟩ := e2 v hm
    have hm' : V.ref t ∈ xs := by rw [e1]; exact List.mem_map.mpr ⟨_, hm, rfl⟩
    obtain ⟨ks, h, h8⟩ := hx _ hm'
    have e3 : kN H (backV (.ref t)) = .t ks := kN_at h
    rw [e3]
    exact ⟨ks, rfl, h8, h.tree I.hok rfl⟩
  have hcm : ∀ v ∈ its, ∀ u ∈ its, Cm (kN H (backV v)) (kN H (backV u)) = true := fun v hm u hm2 => hc _ (by rw [e1]; exact List.mem_map.mpr ⟨_, hm, rfl⟩) _ (by rw [e1]; exact List.mem_map.mpr ⟨_, hm2, rfl⟩)
  refine SrtO.sorted_ord (ltv := fun v u => NK.lt (kN H (backV v)) (kN H (backV u))) (pk_swo fun v => (kN H (backV v)).enc) hl.isList (by rw [← rv.length]; exact hz) (fun h2 h₁ b hb kk => ?_) fun out h1 h2 => ?_
  · intro h' keep
    have hv' : ∀ v ∈ its, ∃ ks, kN H (backV v) = .t ks ∧ (NK.t ks).dep ≤ 8 ∧ IsTree h' (kN H (backV v)) v := fun v hm => by
      obtain ⟨ks, q1, q2, q3⟩ := hv v hm
      refine ⟨ks, q1, q2, q3.mono fun c items p => ?_⟩
      obtain ⟨o, ho, hcl, n, hd⟩ := p
      obtain ⟨n1, n2⟩ := kk c o ho
      exact ⟨o, keep c o n1 n2, hcl, n, hd⟩
    obtain ⟨κ, k1, k2⟩ := tree_kind (M := model X.prog X.w) (s := { s with heap := h' }) (vs := its) fun v hm => by
      obtain ⟨ks, q1, q2, q3⟩ := hv' v hm
      exact ⟨ks, q1 ▸ q3⟩
    refine ⟨κ, fun Q E hq => k2 _ Q E hq, ?_⟩
    intro p q hp hq
    obtain ⟨ks1, p1, p2, p3⟩ := hv' _ hp
    obtain ⟨ks2, q1, q2, q3⟩ := hv' _ hq
    exact tree_keyLt (n := 8) k1 (show X.A.units + 1 + 1 + 8 + 2 < cLine by omega) (by rw [p1]; exact p2) (by rw [q1]; exact q2) ⟨_, p1⟩ ⟨_, q1⟩ p3 q3 (hcm _ hp _ hq) ⟨rfl, rfl⟩
  · have h3 : ∀ u ∈ out, ∃ a, u = Value.ref a := fun u hu => e2 u (h2.perm.mem_iff.mp hu)
    have hp : (out.map backV).Perm xs := by rw [e1]; exact h2.perm.map backV
    obtain ⟨n, hn⟩ := sortedAll_at s.heap its out.toArray
    have hd : s.heap.objs.size ≤ s.heap.objs.size + 1 := Nat.le_succ _
    refine ⟨.ref _, upd H (s.heap.objs.size + 1) (.lst (out.map backV)), I.laid (t' := s.toks) (fun b o e => sortedAll_old e) hd ⟨?_, out, n, vals_back h3, hn⟩, rfl, q _ _ hp (List.pairwise_map.mpr h1) (I.hok.fresh hd)⟩
    rw [hp.length_eq]
    exact hz
/-! ### as a reading -/
def D.nkey (d : D) : NK := d.nk.getD (.i 0)
/-- sorted(xs): the items nested tuples that may be compared -/
def oSortN (ms : List M) (Q : M → Prop) : Prop := match ms with
  | [m] => ∃ ds, m.ld = some ds ∧ (∀ d ∈ ds, ∃ ks, d.nk = some (.t ks) ∧ (NK.t ks).dep ≤ 8) ∧ (∀ d ∈ ds, ∀ e ∈ ds, Cm d.nkey e.nkey = true) ∧
      ∀ es : List D, es.Perm ds → es.Pairwise (fun x y => NK.lt y.nkey x.nkey = false) → Q (.lst (es.map .dat))
  | _ => False
theorem nkey_ok {T : Top} {φ : Ob} {H : Hp} {v : V} {d : D} {k : NK} (r : FD T φ H v d) (e : d.nk = some k) : kN H v = k ∧ d.nkey = k := ⟨kN_at (r.isNK e), by unfold D.nkey; rw [e]; rfl⟩
theorem FDs.pwN {T : Top} {φ : Ob} {H : Hp} : ∀ {xs : List V} {ds : List D}, FDs T φ H xs ds → (∀ d ∈ ds, ∃ k, d.nk = some k) → xs.Pairwise (fun x y => NK.lt (kN H y) (kN H x) = false) → ds.Pairwise (fun x y => NK.lt y.nkey x.nkey = false)
  | _, _, .nil, _, _ => List.Pairwise.nil
  | _, _, .cons (v := v) (vs := vs) (d := d) (ds := ds) r rs, h, p => by
    obtain ⟨p1, p2⟩ := List.pairwise_cons.mp p
    refine List.pairwise_cons.mpr ⟨fun e he => ?_, rs.pwN (fun d hd => h d (List.mem_cons_of_mem _ hd)) p2⟩
    obtain ⟨y, hy, ry⟩ := rs.mem e he
    obtain ⟨k1, h1⟩ := h d List.mem_cons_self
    obtain ⟨k2, h2⟩ := h e (List.mem_cons_of_mem _ he)
    have a1 := nkey_ok r h1
    have a2 := nkey_ok ry h2
    have := p1 y hy
    rw [a1.1, a2.1] at this
    rw [a1.2, a2.2]
    exact this
theorem o_sortN {T : Top} : OpN T (rSortN T.K) oSortN := by
  intro φ H vs ms f Q Qm r w k
  unfold oSortN at w
  split at w
  · obtain ⟨ds, e, h1, h2, w⟩ := w
    cases r with
    | cons x r =>
      cases r
      obtain ⟨a, xs, rfl, h, rs⟩ := ld_ok x e
      refine ⟨a, xs, rfl, h, ?_, ?_, fun ys p hp hs hn => ?_⟩
      · intro x hx
        obtain ⟨d, hd, rd⟩ := rs.mem' x hx
        obtain ⟨ks, e, h8⟩ := h1 d hd
        exact ⟨ks, rd.isNK e, h8⟩
      · intro x hx y hy
        obtain ⟨d, hd, rd⟩ := rs.mem' x hx
        obtain ⟨d2, hd2, rd2⟩ := rs.mem' y hy
        obtain ⟨ks, e, _⟩ := h1 d hd
        obtain ⟨ks2, e2, _⟩ := h1 d2 hd2
        have := h2 d hd d2 hd2
        rw [(nkey_ok rd e).2, (nkey_ok rd2 e2).2] at this
        rw [(nkey_ok rd e).1, (nkey_ok rd2 e2).1]
        exact this
      · obtain ⟨es, h3, h4⟩ := rs.perm hp
        have F : Fresh H (upd H p (.lst ys)) [p] := Fresh.upd hn
        exact k _ _ _ [p] (w es h4 (h3.pwN (fun d hd => by
          obtain ⟨ks, e, _⟩ := h1 d (h4.mem_iff.mp hd)
          exact ⟨_, e⟩) hs)) F (.lst upd_same (h3.ext F.ext (Pre.refl _)).reps)
  · exact w.elim
end L2.Fn
/-! Fn, part J3: sorted, list, len of a dict whose keys are nested tuples. -/
namespace L2.Fn
open PySem PySem.Spec PyProof.Rows PySem.W

section
variable {X : Cx} {pins : List (Addr × Obj)} {σ : St} {H : Hp} {s : Shared} {a : Addr}
/-- the raw table -/
theorem dn_raw {kvs : List (NK × Addr × V)} (I : Inv X pins σ H s) (e : Rd H a (dN X.w a kvs)) : (a == sysModules) = false ∧ kvs.length ≤ sizeLine ∧ ∃ es ep, s.heap.DictRaw a es ep ∧ es.size = kvs.length ∧ ∀ i (hi : i < es.size), ∃ y, kvs[i]? = some y ∧ es[i].key = .ref y.2.1 := by
  obtain ⟨⟨z, y, d8, xs, r, o, es, ep, h1, h2, h3, h4, h5⟩, _⟩ := (show ObjOk X.prog X.w H s.heap a (.ext (dNφ X.w a kvs)) from e.ok I.hok)
  have hl : es.size = kvs.length := by
    rw [← Array.length_toList, h4, List.length_map, Paired.length r]
  refine ⟨y, z, es, ep, ⟨o, h1, h2, h3⟩, hl, fun i hi => ?_⟩
  have hi2 : i < xs.length := by rw [← Paired.length r, ← hl]; exact hi
  have e1 : es[i] = ⟨NK.hash X.w xs[i].1, .ref xs[i].2.1, xs[i].2.2⟩ := by
    have : es.toList[i]? = some es[i] := by rw [Array.getElem?_toList, Array.getElem?_eq_getElem hi]
    rw [h4, List.getElem?_map, List.getElem?_eq_getElem hi2] at this
    exact (Option.some.inj this).symm
  have pg : ∀ {l1 : List (NK × Addr × V)} {l2 : List (NK × Addr × Value)}, NT l1 l2 → ∀ (i : Nat) (q : NK × Addr × Value), l2[i]? = some q → ∃ p, l1[i]? = some p ∧ p.2.1 = q.2.1 := by
    intro l1 l2 t
    induction t with
    | nil => intro i q h; simp at h
    | @cons p q ps qs hq t ih =>
      intro i q' h
      cases i with
      | zero =>
        simp at h
        subst h
        exact ⟨p, rfl, hq.2.1⟩
      | succ i =>
        obtain ⟨p', h1, h2⟩ := ih i q' (by simpa using h)
        exact ⟨p', by simpa using h1, h2⟩
  obtain ⟨p, hp, hp2⟩ := pg r i xs[i] (List.getElem?_eq_getElem hi2)
  exact ⟨p, hp, by rw [e1, hp2]⟩
/-- the keys, collected -/
theorem refs_at {kvs : List (NK × Addr × V)} {es : Array DictEntry} {us : List Value} (hl : us.length = kvs.length) (h : ∀ (j : Nat) (v : Value), us[j]? = some v → ∃ y, kvs[j]? = some y ∧ v = .ref y.2.1) : Vals (kvs.map fun x => V.ref x.2.1) us := by
  induction kvs generalizing us with
  | nil =>
    cases us with
    | nil => exact .nil
    | cons u us => simp at hl
  | cons x kvs ih =>
    cases us with
    | nil => simp at hl
    | cons u us =>
      obtain ⟨y, h1, h2⟩ := h 0 u rfl
      simp at h1
      subst h1
      refine .cons h2 (ih (by simpa using hl) fun j v hj => ?_)
      obtain ⟨y, a1, a2⟩ := h (j + 1) v (by simpa using hj)
      exact ⟨y, by simpa using a1, a2⟩
end
section
variable {X : Cx}
def rListDN (w : World) : List V → Hp → VK → Prop := fun xs H Q => ∃ (a : Addr) (kvs : List (NK × Addr × V)), xs = [.ref a] ∧ Rd H a (dN w a kvs) ∧ ∀ p, H p = none → Q (.ref p) (upd H p (.lst (kvs.map fun x => V.ref x.2.1)))
theorem call_listDN (hcalm : X.calm = true) : CallR X (.type "list") (rListDN X.w) := by
  intro pins s σ H xs us Q I r q
  obtain ⟨a, kvs, ex, hd, q⟩ := q
  subst ex
  obtain ⟨u, eu, rx⟩ := vals1 r
  subst eu
  cases rx
  obtain ⟨lo, z, es, ep, raw, hl, hk⟩ := dn_raw I hd
  refine PySem.W.kdl_call (KdlSrc.rawDict (es := es) (ep := ep) lo) (I.ok.hd hcalm) raw (by rw [hl]; exact z) fun h' tk acc c' hk' hD hacc => ?_
  have hv : Vals (kvs.map fun x => V.ref x.2.1) acc.toList := refs_at (es := es) (by rw [Array.length_toList, hacc.1, hl]) fun j v e => by
    obtain ⟨hi, e1⟩ := hacc.2 j v (by rw [← Array.getElem?_toList]; exact e)
    obtain ⟨y, h1, h2⟩ := hk j hi
    exact ⟨y, h1, e1.trans h2⟩
  refine ⟨.ref s.heap.objs.size, upd H s.heap.objs.size (.lst (kvs.map fun x => V.ref x.2.1)), I.laid (t' := tk) hk' (Nat.le_refl _)
    (show ObjOk X.prog X.w _ _ _ (.lst (kvs.map fun x => V.ref x.2.1)) from ⟨by rw [List.length_map]; exact z, acc.toList, c', hv, by rw [Array.toArray_toList]; exact hD⟩), rfl, q _ (I.hok.fresh (Nat.le_refl _))⟩
def rSortDN (w : World) : List V → Hp → VK → Prop := fun vs H Q => ∃ (a : Addr) (kvs : List (NK × Addr × V)), vs = [.ref a] ∧ Rd H a (dN w a kvs) ∧ (∀ x ∈ kvs, ∃ ks, x.1 = .t ks ∧ IsNK H x.1 (.ref x.2.1) ∧ x.1.dep ≤ 8) ∧ (∀ x ∈ kvs, ∀ y ∈ kvs, Cm x.1 y.1 = true) ∧
  ∀ ys p, ys.Perm (kvs.map fun x => V.ref x.2.1) → ys.Pairwise (fun x y => NK.lt (kN H y) (kN H x) = false) → H p = none → Q (.ref p) (upd H p (.lst ys))
theorem cr_sortedDN (hcalm : X.calm = true) (hu : X.A.units + 65 < cLine) : CallR X (.builtin "sorted") (rSortDN X.w) := by
  intro pins s σ H vs us Q I r h
  obtain ⟨a, kvs, rfl, hd, hx, hc, q⟩ := h
  obtain ⟨u, rfl, ru⟩ := vals1 r
  obtain rfl : u = Value.ref a := ru
  obtain ⟨lo, z, es, ep, raw, hl, hk⟩ := dn_raw I hd
  refine Calls.call_function_entry PyProof.Rows.kind_sorted PyProof.Rows.plain_sorted PyProof.Rows.entry_sorted (PyProof.Rows.args_sorted1 _) ?_
  unfold Builtin.«sorted»
  refine wpAny_bind (m := checkCount "sorted" 1 1 _) (wpAny_pure ?_)
  refine wpAny_bind (PySem.W.kdu_collect (A := X.A.in1) (KdlSrc.rawDict (es := es) (ep := ep) lo) (I.ok.hd hcalm) raw (by rw [hl]; exact z) fun h' tk acc hkk hacc => ?_)
  have I1 : Inv X pins σ H { s with heap := h', toks := tk } := I.kept hkk
  have rv : Vals (kvs.map fun x => V.ref x.2.1) acc.toList := refs_at (es := es) (by rw [Array.length_toList, hacc.1, hl]) fun j v e => by
    obtain ⟨hi, e1⟩ := hacc.2 j v (by rw [← Array.getElem?_toList]; exact e)
    obtain ⟨y, h1, h2⟩ := hk j hi
    exact ⟨y, h1, e1.trans h2⟩
  generalize acc.toList = its at rv
  have hzl : its.length ≤ sizeLine := by rw [← rv.length, List.length_map]; exact z
  generalize hxs : (kvs.map fun x => V.ref x.2.1) = xs at rv q
  have isref : ∀ x ∈ xs, ∃ t, x = V.ref t := fun x m => by
    rw [← hxs] at m
    obtain ⟨y, _, rfl⟩ := List.mem_map.mp m
    exact ⟨_, rfl⟩
  obtain ⟨e1, e2⟩ := refs_back rv isref
  have hx' : ∀ x ∈ xs, ∃ y ∈ kvs, ∃ ks, IsNK H (.t ks) x ∧ y.1 = .t ks ∧ (NK.t ks).dep ≤ 8 := fun x m => by
    rw [← hxs] at m
    obtain ⟨y, hy, rfl⟩ := List.mem_map.mp m
    obtain ⟨ks, h1, h2, h3⟩ := hx y hy
    rw [h1] at h2 h3
    exact ⟨y, hy, ks, h2, h1, h3⟩
  have hv : ∀ v ∈ its, ∃ ks, kN H (backV v) = .t ks ∧ (NK.t ks).dep ≤ 8 ∧ IsTree h' (kN H (backV v)) v := fun v hm => by
    obtain ⟨t, rfl⟩ := e2 v hm
    have hm' : V.ref t ∈ xs := by rw [e1]; exact List.mem_map.mpr ⟨_, hm, rfl⟩
    obtain ⟨y, _, ks, h, _, h8⟩ := hx' _ hm'
    have e3 : kN H (backV (.ref t)) = .t ks := kN_at h
    rw [e3]
    exact ⟨ks, rfl, h8, h.tree I1.hok rfl⟩
  have hcm : ∀ v ∈ its, ∀ u ∈ its, Cm (kN H (backV v)) (kN H (backV u)) = true := fun v hm u hm2 => by
    obtain ⟨y, hy, ks, h, hk1, _⟩ := hx' (backV v) (by rw [e1]; exact List.mem_map.mpr ⟨_, hm, rfl⟩)
    obtain ⟨y2, hy2, ks2, h2, hk2, _⟩ := hx' (backV u) (by rw [e1]; exact List.mem_map.mpr ⟨_, hm2, rfl⟩)
    rw [kN_at h, kN_at h2, ← hk1, ← hk2]
    exact hc y hy y2 hy2
  refine wpAny_bind (wpAny_newList ?_ hzl)
  have hoL : (h'.push (seqObj "list" its.toArray 0)).get? h'.objs.size = some (seqObj "list" its.toArray 0) := Heap.get?_push_size _ rfl
  show wpAny _ _ _ _ _ { s with heap := h'.push (seqObj "list" its.toArray 0), toks := tk }
  refine wpAny_bind (wpAny_holding (wpAny_call_entry PyProof.Rows.slot_list_sort ⟨_, hoL, rfl⟩ PyProof.Rows.entry_list_sort
    (SrtO.list_sort_ord (s := { s with heap := h'.push (seqObj "list" its.toArray 0), toks := tk }) (ltv := fun v u => NK.lt (kN H (backV v)) (kN H (backV u))) (pk_swo fun v => (kN H (backV v)).enc) hoL hzl (fun h2 => ?_) fun out hs hb => ⟨_, rfl, ?_⟩)
    (PyProof.Rows.args_list_sort _)))
  · intro h2' keep
    have hv' : ∀ v ∈ its, ∃ ks, kN H (backV v) = .t ks ∧ (NK.t ks).dep ≤ 8 ∧ IsTree h2' (kN H (backV v)) v := fun v hm => by
      obtain ⟨ks, q1, q2, q3⟩ := hv v hm
      refine ⟨ks, q1, q2, q3.mono fun c items p => ?_⟩
      obtain ⟨o, ho, hcl, n, hd⟩ := p
      exact ⟨o, keep c o (Nat.ne_of_lt (Heap.lt_size ho)) (Heap.get?_push_of_some _ ho), hcl, n, hd⟩
    obtain ⟨κ, k1, k2⟩ := tree_kind (M := model X.prog X.w) (s := { s with heap := h2', toks := tk }) (vs := its) fun v hm => by
      obtain ⟨ks, q1, q2, q3⟩ := hv' v hm
      exact ⟨ks, q1 ▸ q3⟩
    refine ⟨κ, fun Q E hq => k2 _ Q E hq, ?_⟩
    intro p q hp hq
    obtain ⟨ks1, p1, p2, p3⟩ := hv' _ hp
    obtain ⟨ks2, q1, q2, q3⟩ := hv' _ hq
    exact tree_keyLt (n := 8) k1 (show X.A.units + 1 + 1 + 8 + 2 < cLine by omega) (by rw [p1]; exact p2) (by rw [q1]; exact q2) ⟨_, p1⟩ ⟨_, q1⟩ p3 q3 (hcm _ hp _ hq) ⟨rfl, rfl⟩
  · have h3 : ∀ u ∈ out, ∃ a, u = Value.ref a := fun u hu => e2 u (hb.perm.mem_iff.mp hu)
    have hp : (out.map backV).Perm xs := by rw [e1]; exact hb.perm.map backV
    obtain ⟨e', he'⟩ := PyProof.Rows.sortedHeap_at (vs := its) (out := out.toArray) hoL
    have hlen : (out.map backV).length ≤ sizeLine := by rw [hp.length_eq, ← hxs, List.length_map]; exact z
    refine wpAny_pure ⟨_, rfl, .ref h'.objs.size, upd H h'.objs.size (.lst (out.map backV)), I1.laid (t' := tk) (fun b u e => ?_) (Nat.le_refl _)
      (show ObjOk X.prog X.w _ _ _ (.lst (out.map backV)) from ⟨hlen, out, e', vals_back h3, he'⟩), rfl, q _ _ hp (List.pairwise_map.mpr hs) (I1.hok.fresh (Nat.le_refl _))⟩
    have hb2 : b < h'.objs.size := Heap.lt_size e
    rw [PyProof.Rows.sortedHeap_old (Nat.ne_of_lt hb2) (by rw [size_push']; exact Nat.lt_succ_of_lt hb2)]
    exact Heap.get?_push_of_some _ e
end
end L2.Fn
/-! Rs: reversed(a text). -/
namespace RS
open PySem PySem.Spec PyProof.Rows L2 RT
theorem norev_str : typeLookup (.type "str") "__reversed__" = pure none := by rw [typeLookup_type, builtinLookup_eq_fast]; kernel_rfl
theorem get_str : typeLookup (.type "str") "__getitem__" = pure (some (.builtin "str.__getitem__")) := by rw [typeLookup_type, builtinLookup_eq_fast]; kernel_rfl
def rsObj (x : Str) (t : Tok) (i : Int) : Obj := { cls := .type "reversed", data := .fields #[.str x t, rawInt i] }
def IsRs (h : Heap) (a : Addr) (x : Str) (t : Tok) (i : Int) : Prop := ∃ o, h.get? a = some o ∧ o.cls = .type "reversed" ∧ o.data = .fields #[.str x t, rawInt i]
theorem IsRs.at {h h' : Heap} {a : Addr} {x : Str} {t : Tok} {i : Int} (y : IsRs h a x t i) (e : ∀ o, h.get? a = some o → h'.get? a = some o) : IsRs h' a x t i := let ⟨o, ho, r⟩ := y; ⟨o, e _ ho, r⟩
section
variable {prog : Program} {w : World} {A : Around} {E : Value → Shared → Prop} {s : Shared}
theorem IsRs.typeIs {a : Addr} {x : Str} {t : Tok} {i : Int} (y : IsRs s.heap a x t i) : s.TypeIs (.ref a) "reversed" := let ⟨o, ho, hc, _⟩ := y; ⟨o, ho, hc⟩
theorem code_reversed_str {x : Str} {t : Tok} {Q₁ : Value → Shared → Prop} (hfit : ¬ (x.length : Int) ≥ 2 ^ 63)
    (h : Q₁ (.ref s.heap.objs.size) { s with heap := s.heap.push (rsObj x t ((x.length : Int) - 1)), toks := s.toks + 1 + 1 }) :
    codeAny (model prog w) A (.call (.builtin "reversed.__new__") ⟨[.type "reversed", .str x t], []⟩) (wants Q₁ E) s := by
  have hT : s.TypeIs (.str x t) "str" := typeIs_str s x t
  refine codeAny_of_tree ?_
  show wpAny _ A.in1 (do checkBuiltinCall "reversed.__new__" ⟨[.type "reversed", .str x t], []⟩; again (.builtin "reversed.__new__" ⟨[.type "reversed", .str x t], []⟩)) _ _ s
  refine wpAny_bind (wpAny_of_eq (F.newCall_reversed_1 _) (wpAny_pure ⟨plainId_quiet F.plain_reversed_new _, codeAny_builtin F.entry_reversed_new ?_⟩))
  rw [Around.under_plainId F.plain_reversed_new _]
  unfold Builtin.«reversed.__new__»
  refine wpAny_bind (wpAny_of_eq (newClass_reversed _) ?_)
  try dsimp only
  refine wpAny_bind (wpAny_of_eq (a := ()) (by first | rfl | kernel_rfl) ?_)
  try dsimp only
  refine wpAny_bind (wpAny_of_eq (a := ()) (by first | rfl | kernel_rfl) ?_)
  try dsimp only
  refine wpAny_bind (wpAny_specialOf hT norev_str ?_)
  try dsimp only
  refine wpAny_bind ?_
  wp_delta
  refine wpAny_bind (wpAny_isInstance (T := "str") (U := "dict") (b := false) hT PySem.F.sub_str_dict ?_)
  try dsimp only
  try rw [if_neg Bool.false_ne_true]
  try dsimp only
  refine wpAny_bind (wpAny_specialOf hT get_str ?_)
  try dsimp only
  try rw [if_pos (by decide +kernel)]
  refine wpAny_pure ?_
  try dsimp only
  try rw [if_neg (by decide)]
  try dsimp only
  refine wpAny_bind (len_str hfit ?_)
  refine wpAny_bind (wpAny_of_eq (a := some ((x.length : Nat) : Int)) rfl ?_)
  try dsimp only
  refine wpAny_bind ?_
  show wpAny _ _ (newObj (.type "reversed") (.fields #[.str x t, rawInt ((x.length : Int) - 1)])) _ _ _
  refine wpAny_newObj_type ?_
  exact wpAny_pure h
theorem call_reversed_str {x : Str} {t : Tok} {Q : Value → Shared → Prop} (hfit : ¬ (x.length : Int) ≥ 2 ^ 63)
    (h : Q (.ref s.heap.objs.size) { s with heap := s.heap.push (rsObj x t ((x.length : Int) - 1)), toks := s.toks + 1 + 1 }) : wpAny (model prog w) A (call (.type "reversed") [.str x t]) Q E s := by
  refine callType_codes (Q₁ := fun obj s₁ => s₁.TypeIs obj "reversed" ∧ Q obj s₁) called_rt (F.typeCall_reversed_1 _) F.entry_object_init
    (code_reversed_str (A := A.in1) hfit ⟨⟨_, Heap.get?_push_size _ rfl, rfl⟩, h⟩) fun obj s₁ h₁ => ?_
  exact ⟨h₁.1, F.args_object_init_2 obj _, object_init_meets called_rt.init.lookup called_rt.made (by decide) prog w A.in1 _ s₁ ⟨h₁.1, rfl, h₁.2⟩⟩
theorem next_rs_item {it : Addr} {x : Str} {t : Tok} {i c : Nat} {Q : Option Value → Shared → Prop} (hit : IsRs s.heap it x t (i : Int)) (hx : x.cps[i]? = some c) (hsz : x.length ≤ sizeLine)
    (hQ : ∀ h' u tk, IsRs h' it x t ((i : Int) - 1) → Heap.SameBut it s.heap h' → Q (some (.str ⟨#[c]⟩ u)) { s with heap := h', toks := tk }) : wpAny (model prog w) A (pyNext (.ref it)) Q E s := by
  obtain ⟨o, ho, hc, hd⟩ := id hit
  have hi : i < x.cps.size := (Array.getElem?_eq_some_iff.mp hx).1
  have hi' : i < x.length := hi
  have hT : s.TypeIs (.str x t) "str" := typeIs_str s x t
  rw [sizeLine_eq] at hsz
  unfold pyNext
  refine wpAny_bind (wpAny_attempt (wpAny_callSpecial?_slot (name := Str.ofString "__next__") hit.typeIs slot_rt_next
    (wpAny_call_entry slot_rt_next hit.typeIs entry_rt_next ?_ (args_rt_next _))))
  unfold Builtin.«reversed.__next__»
  refine wpAny_bind (wpAny_of_eq (a := (Value.ref it, [])) rfl ?_)
  try dsimp only
  refine wpAny_bind (wpAny_field ho hd (x := .str x t) rfl ?_)
  try dsimp only
  refine wpAny_bind (wpAny_field ho hd (x := rawInt (i : Int)) rfl ?_)
  show wpAny _ _ (if (i : Int) < 0 then _ else _) _ _ s
  rw [if_neg (by omega)]
  try dsimp only
  refine wpAny_bind (wpAny_specialOf hT get_str ?_)
  try dsimp only
  try rw [if_neg (by decide)]
  try dsimp only
  refine wpAny_bind (wpAny_mkInt ?_)
  refine wpAny_bind (wpAny_attempt ?_)
  have fin : seqIndex? (i : Int) x.length = some i := seqIndex_of (by omega) (by omega)
  refine getItem_str (s := { s with toks := s.toks + 1 }) (c := c) (by rw [decide_eq_false (by omega), decide_eq_false (by omega)]; rfl) (by rw [fin]; exact hx) ?_
  try dsimp only
  refine wpAny_bind (wpAny_field (s := { s with toks := s.toks + 1 + 1 }) ho hd (x := rawInt (i : Int)) rfl ?_)
  try dsimp only
  refine wpAny_bind (wpAny_setField (s := { s with toks := s.toks + 1 + 1 }) ho hd (by simp) ?_)
  first
  | refine wpAny_pure ⟨_, rfl, wpAny_pure (hQ _ _ _ ?_ (Heap.SameBut.update ..))⟩
  | refine wpAny_bind (wpAny_pure (wpAny_pure ⟨_, rfl, wpAny_pure (hQ _ _ _ ?_ (Heap.SameBut.update ..))⟩))
  exact ⟨_, Heap.get?_update_self _ ho (Obj.isFreed_of_fields (Obj.data_mapFields hd _)), (Obj.cls_mapFields ..).trans hc, by
    rw [Obj.data_mapFields hd]; simp⟩
theorem next_rs_end {it : Addr} {x : Str} {t : Tok} {Q : Option Value → Shared → Prop} (hh : A.handled = none) (hit : IsRs s.heap it x t (-1))
    (hQ : ∀ h', Heap.ExtBut it s.heap h' → Q none { s with heap := h' }) : wpAny (model prog w) A (pyNext (.ref it)) Q E s := by
  obtain ⟨o, ho, hc, hd⟩ := id hit
  unfold pyNext
  refine wpAny_bind (wpAny_attempt (wpAny_callSpecial?_slot (name := Str.ofString "__next__") hit.typeIs slot_rt_next
    (wpAny_call_entry slot_rt_next hit.typeIs entry_rt_next ?_ (args_rt_next _))))
  unfold Builtin.«reversed.__next__»
  refine wpAny_bind (wpAny_of_eq (a := (Value.ref it, [])) rfl ?_)
  try dsimp only
  refine wpAny_bind (wpAny_field ho hd (x := .str x t) rfl ?_)
  try dsimp only
  refine wpAny_bind (wpAny_field ho hd (x := rawInt (-1)) rfl ?_)
  show wpAny _ _ (if (-1 : Int) < 0 then _ else _) _ _ s
  rw [if_pos (by decide)]
  try dsimp only
  refine wpAny_bind (wpAny_rule ?_)
  refine wpAny_bind ?_
  wp_delta
  refine wpAny_bind (wpAny_setField ho hd (by simp) ?_)
  have ho2 := Heap.get?_update_self (Obj.mapFields (·.setIfInBounds 1 (rawInt (-1)))) ho (Obj.isFreed_of_fields (Obj.data_mapFields hd _))
  refine wpAny_setField (s := { s with heap := s.heap.update it (Obj.mapFields (·.setIfInBounds 1 (rawInt (-1)))) }) ho2 (Obj.data_mapFields hd _) (by simp) ?_
  try dsimp only
  first
  | show wpAny _ _ (newExc (.type "StopIteration") [] >>= _) _ _ _
  | (refine wpAny_bind ?_; show wpAny _ _ (newExc (.type "StopIteration") [] >>= _) _ _ _)
  | (refine wpAny_bind ?_; wp_delta; show wpAny _ _ (newExc (.type "StopIteration") [] >>= _) _ _ _)
  refine wpAny_bind ?_
  simp only [newExc, newTuple]
  refine wpAny_bind (wpAny_newObj_type ?_ (by size_fits))
  refine wpAny_bind (m := firstArgMember _ _) (wpAny_of_eq (a := Value.none) (by first | rfl | (simp only [firstArgMember]; rfl)) ?_)
  refine wpAny_newObj_type ?_ (by size_fits)
  simp only [raiseNew]
  refine wpAny_bind (wpAny_handled ?_)
  first | rw [show A.in1.handled = none from hh] | rw [hh]
  refine wpAny_bind (wpAny_pure (wpAny_throw ?_))
  refine wpAny_bind (wpAny_isInstance (T := "StopIteration") (b := true) ⟨_, Heap.get?_push_size _ rfl, rfl⟩ isSubtype_stop ?_)
  refine wpAny_pure (hQ _ ?_)
  refine ((?_ : Heap.ExtBut it s.heap _).push _).push _
  exact fun b ob hb e => (Heap.get?_update_other _ _ (Ne.symm hb)).trans ((Heap.get?_update_other _ _ (Ne.symm hb)).trans e)
theorem iter_rs {it : Addr} {x : Str} {t : Tok} {i : Int} {Q : Value → Shared → Prop} (hit : IsRs s.heap it x t i) (h : Q (.ref it) s) : wpAny (model prog w) A (pyIter (.ref it)) Q E s := by
  refine wpAny_pyIter_slot hit.typeIs slot_rt_iter (wpAny_call_entry slot_rt_iter hit.typeIs entry_rt_iter ?_ (args_rt_iter _))
  show wpAny _ _ (ret (.ref it)) _ _ s
  exact wpAny_pure ⟨_, rfl, "reversed", _, hit.typeIs, slot_rt_next.lookup, h⟩
end
/-- the signs from the right -/
def Itsv (x : Str) : It := ⟨fun i _ => i < x.cps.size, fun i H v H' => H' = H ∧ ∃ c, x.cps[x.cps.size - 1 - i]? = some c ∧ v = .str ⟨#[c]⟩, fun i _ => x.cps.size ≤ i⟩
theorem turn_rs {P : Program} {w : World} {K : PySem.W.Frag} {tg : Expr} (it : Addr) (x : Str) (t : Tok) (hz : x.length ≤ sizeLine) : Turn P w K tg (Itsv x) [it] it (fun i h => i ≤ x.cps.size ∧ IsRs h it x t ((x.cps.size : Int) - 1 - (i : Nat))) where
  mem := by simp
  obj := fun i h st b hb => by
    have e : b = it := by simpa using hb
    subst e
    obtain ⟨_, o, e, c, d⟩ := st
    exact ⟨o, e, fun v z => by rw [d] at z; cases z⟩
  keep := fun i h h' st k => ⟨st.1, st.2.at fun o e => k it (by simp) o e⟩
  item := by
    intro X hP hw hK hc i pins s σ H E I hf st hg
    subst hP hw hK
    have hin : i < x.cps.size := hg
    obtain ⟨f0, f1, f2, f3, f4, f5⟩ := hf it (by simp)
    obtain ⟨_, hit⟩ := st
    have e1 : (x.cps.size : Int) - 1 - ((i : Nat) : Int) = ((x.cps.size - 1 - i : Nat) : Int) := by omega
    rw [e1] at hit
    have hx : x.cps[x.cps.size - 1 - i]? = some x.cps[x.cps.size - 1 - i] := Array.getElem?_eq_getElem (by omega)
    refine next_rs_item hit hx hz fun h' u tk st' sb => ?_
    have e2 : ((x.cps.size - 1 - i : Nat) : Int) - 1 = (x.cps.size : Int) - 1 - ((i + 1 : Nat) : Int) := by omega
    rw [e2] at st'
    have I1 : Inv X pins σ H { s with heap := h', toks := tk } := I.turned (t' := tk) (fun b o hb e => (sb.2 b hb).trans e) f0 f1 f3 f4 f5
    obtain ⟨o, e, c, d⟩ := id st'
    exact ⟨_, rfl, go_of (s := { s with heap := h', toks := tk }) e c d (by decide) ⟨.str _, H, I1, ⟨u, rfl⟩, ⟨rfl, _, hx, rfl⟩, ⟨hin, st'⟩, fun b hb => (hf b hb).1⟩⟩
  done := by
    intro X hP hw hK hc i pins s σ H E I hf st hg
    subst hP hw hK
    obtain ⟨f0, f1, f2, f3, f4, f5⟩ := hf it (by simp)
    obtain ⟨hin, hit⟩ := st
    have hge : x.cps.size ≤ i := hg
    have e1 : (x.cps.size : Int) - 1 - ((i : Nat) : Int) = -1 := by omega
    rw [e1] at hit
    exact next_rs_end (I.ok.hd hc) hit fun h' eb => ⟨rfl, I.turned (t' := s.toks) (fun b o hb e => eb b o hb e) f0 f1 f3 f4 f5⟩
  self := fun A i s Q E st h => iter_rs st.2 h
def iRevS (te : TE) : TI := fun σ H R => te σ H fun v H1 => ∃ x : Str, v = .str x ∧ x.length ≤ sizeLine ∧ R (Itsv x) H1
theorem pi_revS {X : Cx} {tg e : Expr} {te : TE} {p pos : Pos} (hg : Gl X "reversed") (hm : X.mg "reversed" = none) (he : PE X e te) (hs : starEach [e] X.env = (false, eval e X.env) :: starEach [] X.env := by rfl) : PI X tg (.Call (.Name "reversed" p) [e] [] pos) (iRevS te) := by
  refine ⟨fun pins s σ H R I h => ?_⟩
  refine Call_ (ld_blt I hg hm PyProof.Rows.boot_reversed (PyProof.Rows.callWith_type1 (args_cons (thn (he.run pins s σ H _ I h) fun u s1 ⟨v, H1, I1, r1, q1⟩ => args_nil ?_) hs) hs rfl))
  obtain ⟨x, ev, hz, q⟩ := q1
  subst ev
  obtain ⟨t, rfl⟩ := r1
  have hl : sizeLine = 2 ^ 24 := sizeLine_eq
  refine call_reversed_str (by omega) (iter_rs (x := x) (t := t) (i := ((x.length : Nat) : Int) - 1) ⟨_, Heap.get?_push_size _ rfl, rfl, rfl⟩ ?_)
  refine pi_one (tk := s1.toks + 1 + 1) I1 _ (turn_rs _ x t hz) ⟨Nat.zero_le _, ?_⟩ q
  have e1 : (x.cps.size : Int) - 1 - ((0 : Nat) : Int) = ((x.length : Nat) : Int) - 1 := by show (x.cps.size : Int) - 1 - ((0 : Nat) : Int) = ((x.cps.size : Nat) : Int) - 1; omega
  rw [e1]
  exact ⟨_, Heap.get?_push_size _ rfl, rfl, rfl⟩
end RS
namespace L2.Fn
open PySem PySem.Spec PyProof.Rows RS
section
variable {X : Cx} {T : Top} {W : WX} {e : Expr} {t : FE} {pos p : Pos} {tg : Expr}
theorem walks_strv {φ : Ob} {H : Hp} (s : List Nat) : Walks T φ (Itsv ⟨s.toArray⟩) H (s.reverse.map fun c => .str [c]) := by
  intro i H2 φ2 ex p
  refine ⟨fun d hd => ?_, fun hi => by simpa [Itsv] using hi⟩
  rw [List.getElem?_map] at hd
  cases q : s.reverse[i]? with
  | none => rw [q] at hd; cases hd
  | some c =>
    rw [q] at hd
    cases hd
    have hi : i < s.length := by simpa using (List.getElem?_eq_some_iff.mp q).1
    rw [List.getElem?_reverse hi] at q
    refine ⟨?_, fun y H3 ⟨e, c', hc, hy⟩ => ?_⟩
    · show i < s.toArray.size
      simpa using hi
    · subst e
      have e2 : c = c' := by
        have : s[s.length - 1 - i]? = some c' := by simpa using hc
        rw [q] at this
        exact Option.some.inj this
      subst e2
      subst hy
      exact ⟨Fresh.refl _, .str [c]⟩
def oRevS (m : M) (Q : List D → Prop) : Prop := match m with
  | .dat (.str s) => s.length ≤ sizeLine ∧ Q (s.reverse.map fun c => .str [c])
  | _ => False
def fRevS (t : FE) : FI := fun ρ S Q E => t ρ S (fun m S' => oRevS m fun ds => Q ds S') E
theorem fi_revS (hg : Gl X "reversed") (hm : X.mg "reversed" = none) (he : PE X e (LB T W t)) (hs : starEach [e] X.env = (false, eval e X.env) :: starEach [] X.env := by rfl) : PI X tg (.Call (.Name "reversed" p) [e] [] pos) (LI T W (fRevS t)) :=
  PI.weak (pi_revS hg hm he hs) fun σ H R ⟨ρ, S, φ, fe, fs, E, Qm, G, w, hx, k⟩ => by
  refine ⟨ρ, S, φ, fe, fs, E, _, G, w, hx, fun m S' v H' φ' fs' fm q A r d R' => ?_⟩
  cases r with
  | lst => exact q.elim
  | dct => exact q.elim
  | dat r =>
    cases r with
    | str s => exact ⟨_, rfl, by show s.toArray.size ≤ sizeLine; simpa using q.1, k _ S' _ H' φ' fs' q.2 A R' (walks_strv s)⟩
    | _ => exact q.elim
end
end L2.Fn
/-! Fn, part W: shifts, chains, all and any, count and rfind, deep equality, calls by keywords, defaults. -/
namespace L2.Fn
open PySem PySem.Spec PyProof.Rows

abbrev oShl := oInt (fun i j => i * 2 ^ j.toNat) CShl
abbrev oShr := oInt (fun i j => i / 2 ^ j.toNat) fun _ j => 0 ≤ j
abbrev oBand := oInt0 fun i j => .int (Builtin.bitAnd i j)
section
variable {T : Top}
theorem o_shl : Op2 T (rI CShl fun i j => .int (i * 2 ^ j.toNat)) oShl := o_int fun _ _ h => h
theorem o_shr : Op2 T (rI (fun _ j => 0 ≤ j) fun i j => .int (i / 2 ^ j.toNat)) oShr := o_int fun _ _ h => h
theorem o_band : Op2 T (rI0 fun i j => .int (Builtin.bitAnd i j)) oBand := o_int0 fun _ _ _ _ => .int _
/-- all and any of a list of truth values -/
def boolsOf : List D → Option (List Bool)
  | [] => some []
  | .bl b :: l => (boolsOf l).map (b :: ·)
  | _ :: _ => none
theorem bools_ok {φ : Ob} {H : Hp} : ∀ {xs : List V} {ds : List D} {bs : List Bool}, FDs T φ H xs ds → boolsOf ds = some bs → xs = bs.map V.bl
  | _, _, _, .nil, e => by cases e; rfl
  | _, _, _, .cons h r, e => by
    cases h with
    | bl b =>
      rw [boolsOf] at e
      obtain ⟨cs, q, rfl⟩ := Option.map_eq_some_iff.mp e
      rw [bools_ok r q]
      rfl
    | _ => cases e
def oAll (ms : List M) (Q : M → Prop) : Prop := match ms with
  | [m] => ∃ ds, m.ld = some ds ∧ ∃ bs, boolsOf ds = some bs ∧ Q (.dat (.bl (bs.all id)))
  | _ => False
def oAny (ms : List M) (Q : M → Prop) : Prop := match ms with
  | [m] => ∃ ds, m.ld = some ds ∧ ∃ bs, boolsOf ds = some bs ∧ Q (.dat (.bl (bs.any id)))
  | _ => False
theorem o_all : OpN T (rAll T.K) oAll := by
  intro φ H vs ms f Q Qm r w k
  unfold oAll at w
  split at w
  · obtain ⟨ds, e, ns, e2, w⟩ := w
    cases r with
    | cons x r =>
      cases r
      obtain ⟨a, xs, rfl, h, rs⟩ := ld_ok x e
      exact ⟨a, ns, rfl, by rw [← bools_ok rs e2]; exact h, k _ _ H [] w (Fresh.refl H) (.dat (.bl _))⟩
  · exact w.elim
theorem o_any : OpN T (rAny T.K) oAny := by
  intro φ H vs ms f Q Qm r w k
  unfold oAny at w
  split at w
  · obtain ⟨ds, e, ns, e2, w⟩ := w
    cases r with
    | cons x r =>
      cases r
      obtain ⟨a, xs, rfl, h, rs⟩ := ld_ok x e
      exact ⟨a, ns, rfl, by rw [← bools_ok rs e2]; exact h, k _ _ H [] w (Fresh.refl H) (.dat (.bl _))⟩
  · exact w.elim
/-- a method of a text that takes a text and gives an int -/
def oSI (g : Str → Str → Int) (s : List Nat) (ms : List M) (Q : M → Prop) : Prop := match ms with
  | [.dat (.str b)] => Q (.dat (.int (g ⟨s.toArray⟩ ⟨b.toArray⟩)))
  | _ => False
theorem o_si {g : Str → Str → Int} : OpS T (fun x xs H Q => ∃ a b, x = .str a ∧ xs = [.str b] ∧ Q (.int (g a b)) H) (oSI g) := by
  intro φ H s vs ms f Q Qm r w k
  unfold oSI at w
  split at w
  · cases r with
    | cons x r =>
      cases r
      cases x with
      | dat x =>
        cases x with
        | str b => exact ⟨_, _, rfl, rfl, k _ _ H [] w (Fresh.refl H) (.dat (.int _))⟩
  · exact w.elim
abbrev oCount := oSI Txt.count
abbrev oRFind := oSI Txt.rfind
end

/-! ### == of tuples -/
mutual
def D.pd : D → Option PyData
  | .non => some .none
  | .bl b => some (.bool b)
  | .int i => some (.int i)
  | .str s => some (.str ⟨s.toArray⟩)
  | .tup l => (D.pds l).map .tuple
  | .lst l => (D.pds l).map .list
  | .ktup _ => none
  | .dct _ _ _ => none
  | .obj _ => none
  | .fn _ => none
  | .exn .. => none
def D.pds : List D → Option (List PyData)
  | [] => some []
  | d :: l => match D.pd d, D.pds l with
    | some p, some q => some (p :: q)
    | _, _ => none
end
section
variable {T : Top} {φ : Ob} {H : Hp}
mutual
theorem pd_ok : ∀ {v : V} {d : D} {p : PyData}, FD T φ H v d → d.pd = some p → Dp T.K H v p
  | _, _, _, .non, e => by cases e; exact .non
  | _, _, _, .bl b, e => by cases e; exact .bl b
  | _, _, _, .int i, e => by cases e; exact .int i
  | _, _, _, .str s, e => by cases e; exact .str _
  | _, _, _, .tup h r, e => by
    rw [D.pd] at e
    obtain ⟨q, e1, rfl⟩ := Option.map_eq_some_iff.mp e
    exact .tup (SqT.of h) (pds_ok r e1)
  | _, _, _, .lst h r, e => by
    rw [D.pd] at e
    obtain ⟨q, e1, rfl⟩ := Option.map_eq_some_iff.mp e
    exact .lst h.seq (pds_ok r e1)
  | _, _, _, .ktup _ _, e => by cases e
  | _, _, _, .dct .., e => by cases e
  | _, _, _, .obj _, e => by cases e
  | _, _, _, .fn .., e => by cases e
  | _, _, _, .exn .., e => by cases e
theorem pds_ok : ∀ {v : List V} {d : List D} {p : List PyData}, FDs T φ H v d → D.pds d = some p → DpAll T.K H v p
  | _, _, _, .nil, e => by rw [D.pds] at e; cases e; exact .nil
  | _, _, _, .cons (d := d) (ds := ds) h r, e => by
    rw [D.pds] at e
    cases e1 : d.pd with
    | none => rw [e1] at e; cases e
    | some p1 =>
      cases e2 : D.pds ds with
      | none => rw [e1, e2] at e; cases e
      | some p2 =>
        rw [e1, e2] at e
        cases e
        exact .cons (pd_ok h e1) (pds_ok r e2)
end
def oEqT (a b : M) (Q : M → Prop) : Prop := match a, b with
  | .dat d, .dat e => ∃ p q, d.pd = some p ∧ e.pd = some q ∧ SeqAt.shaped p = true ∧ SeqAt.shaped q = true ∧ Q (.dat (.bl (PyData.eqv p q)))
  | _, _ => False
def oNeT (a b : M) (Q : M → Prop) : Prop := match a, b with
  | .dat d, .dat e => ∃ p q, d.pd = some p ∧ e.pd = some q ∧ SeqAt.shaped p = true ∧ SeqAt.shaped q = true ∧ Q (.dat (.bl (!PyData.eqv p q)))
  | _, _ => False
theorem o_eqT : Op2 T (rEqD T.K) oEqT := by
  intro φ H x y m1 m2 f1 f2 Q Qm r1 r2 w k
  cases r1 with
  | lst => exact w.elim
  | dct => exact w.elim
  | dat r1 =>
    cases r2 with
    | lst => exact w.elim
    | dct => exact w.elim
    | dat r2 =>
      obtain ⟨p, q, e1, e2, s1, s2, w⟩ := w
      exact ⟨p, q, pd_ok r1 e1, pd_ok r2 e2, s1, s2, k _ _ H [] w (Fresh.refl H) (.dat (.bl _))⟩
theorem o_neT : Op2 T (rNeD T.K) oNeT := by
  intro φ H x y m1 m2 f1 f2 Q Qm r1 r2 w k
  cases r1 with
  | lst => exact w.elim
  | dct => exact w.elim
  | dat r1 =>
    cases r2 with
    | lst => exact w.elim
    | dct => exact w.elim
    | dat r2 =>
      obtain ⟨p, q, e1, e2, s1, s2, w⟩ := w
      exact ⟨p, q, pd_ok r1 e1, pd_ok r2 e2, s1, s2, k _ _ H [] w (Fresh.refl H) (.dat (.bl _))⟩
end

/-! ### a < b < c -/
def fChain (o o' : M → M → (M → Prop) → Prop) (ta tb tc : FE) : FE := fun ρ S Q E => ta ρ S (fun m1 S1 => tb ρ S1 (fun m2 S2 => o m1 m2 fun m => ∃ b, m = .dat (.bl b) ∧
  if b = true then tc ρ S2 (fun m3 S3 => o' m2 m3 fun r => Q r S3) E else Q (.dat (.bl false)) S2) E) E
section
variable {X : Cx} {T : Top} {W : WX} {a b c : Expr} {ta tb tc : FE} {pos : Pos} {op op' : CmpOp} {r r' : R2} {o o' : M → M → (M → Prop) → Prop}
theorem chain_looks {σ : St} {H : Hp} {Q : VK} (h2 : Op2 T r o) (h2' : Op2 T r' o') (h : LE T W (fChain o o' ta tb tc) σ H Q) : tChain r r' (LB T W ta) (LB T W tb) (LB T W tc) σ H Q := by
  obtain ⟨ρ, S, φ, fe, fs, E, Qm, G, w, hx, fin⟩ := h
  refine ⟨ρ, S, φ, fe, fs, E, _, G, w, hx, fun m1 S1 x H1 φ1 fs1 f1 w1 A1 r1 d1 R1 => ?_⟩
  refine ⟨ρ, S1, φ1, fe, fs1, E, _, A1.good G R1, w1, hx.aft A1, fun m2 S2 y H2 φ2 fs2 f2 w2 A2 r2 d2 R2 => ?_⟩
  refine h2 φ2 H2 x y m1 m2 f1 f2 _ _ (A2.rep R1 r1 d1) r2 w2 fun m v H3 fm q F rv => ?_
  obtain ⟨k, rfl, q⟩ := q
  cases rv with
  | dat rv =>
    cases rv with
    | bl =>
      have B : Aft φ2 fs2 H2 φ2 fs2 [] H3 := F.aft R2 A2.ndS
      have R3 := F.sto R2
      have A3 := (A1.trans A2).trans B
      refine ⟨k, rfl, ?_⟩
      cases k with
      | false => exact fin _ S2 _ H3 φ2 fs2 [] q A3 (.dat (.bl _)) R3
      | true =>
        have d3 : ∀ a ∈ f2, a ∉ fs2 ++ φ2.ads := d2
        refine ⟨ρ, S2, φ2, fe, fs2, E, _, A3.good G R3, q, hx.aft A3, fun m3 S3 z H4 φ4 fs4 f4 w4 A4 r4 d4 R4 => ?_⟩
        refine h2' φ4 H4 y z m2 m3 f2 f4 Q _ (A4.rep R3 (B.rep R2 r2 d2) d3) r4 w4 fun m v H5 fm q F5 rv => ?_
        exact fin m S3 v H5 φ4 fs4 fm q ((A3.trans A4).trans (F5.aft R4 A4.ndS)) rv (F5.sto R4)
theorem fe_chain (ho : OpR X (compareOp op) r) (h2 : Op2 T r o) (ho' : OpR X (compareOp op') r') (h2' : Op2 T r' o') (ha : PE X a (LB T W ta)) (hb : PE X b (LB T W tb)) (hc : PE X c (LB T W tc))
    (hm : lastMarks [op, op'] [b, c] = false := by with_unfolding_all rfl) : PE X (.Compare a [op, op'] [b, c] pos) (LE T W (fChain o o' ta tb tc)) :=
  PE.weak (pe_chain ho ho' ha hb hc hm) fun σ H Q h => chain_looks h2 h2' h
theorem ft_chain (ho : OpR X (compareOp op) r) (h2 : Op2 T r o) (ho' : OpR X (compareOp op') r') (h2' : Op2 T r' o') (ha : PE X a (LB T W ta)) (hb : PE X b (LB T W tb)) (hc : PE X c (LB T W tc))
    (hm : lastMarks [op, op'] [b, c] = false := by with_unfolding_all rfl) : PT X (.Compare a [op, op'] [b, c] pos) (LT T W (fBl (fChain o o' ta tb tc))) :=
  PT.weak (pt_chain ho ho' ha hb hc hm) fun σ H Q ⟨ρ, S, φ, fe, fs, E, Qm, G, w, hx, k⟩ => by
    refine chain_looks (T := T) (W := W) h2 h2' ⟨ρ, S, φ, fe, fs, E, _, G, w, hx, fun m S' v H' φ' fs' fm q A r R => ?_⟩
    obtain ⟨b, rfl, q⟩ := q
    cases r with
    | dat r =>
      cases r with
      | bl => exact ⟨b, rfl, k b S' H' φ' fs' q A.drop R⟩
end

/-! ### calls by keywords alone -/
abbrev FKw := FA
section
variable {X : Cx} {T : Top} {W : WX} {e : Expr} {t : FE} {u : FA} {kws : List Keyword} {kpos pos p : Pos} {nm : Option Str} {x : Str} {k : Nat} {ps ks : List Str} {wf : FF}
theorem pk_weak {t t' : TA} (h : L2.PK X kws t) (k : ∀ σ H Q, t' σ H Q → t σ H Q) : L2.PK X kws t' := ⟨fun p pins s σ H Q I w => h.run p pins s σ H Q I (k _ _ _ w)⟩
theorem fk_nil : L2.PK X [] (LAB T W fNil) := pk_weak pk_nil fun σ H Q ⟨ρ, S, φ, fe, fs, E, Qm, G, w, hx, k⟩ => k [] S [] H φ fs [] w (Aft.refl G.ndS) .nil (fun _ z => nomatch z) G.sto
theorem fk_cons (ha : PE X e (LB T W t)) (hr : L2.PK X kws (LAB T W u)) : L2.PK X (⟨nm, e, kpos⟩ :: kws) (LAB T W (fCons t u)) :=
  pk_weak (pk_cons ha hr) fun σ H Q ⟨ρ, S, φ, fe, fs, E, Qm, G, w, hx, k⟩ => by
    refine ⟨ρ, S, φ, fe, fs, E, _, G, w, hx, fun m S1 v H1 φ1 fs1 f1 q A1 r1 d1 R1 => ?_⟩
    refine ⟨ρ, S1, φ1, fe, fs1, E, _, A1.good G R1, q, hx.aft A1, fun ms S2 vs H2 φ2 fs2 f2 q2 A2 r2 d2 R2 => ?_⟩
    refine k (m :: ms) S2 (v :: vs) H2 φ2 fs2 (f1 ++ f2) q2 (A1.trans A2) (.cons (A2.rep R1 r1 d1) r2) (fun a z => ?_) R2
    rcases List.mem_append.mp z with z | z
    · exact fun y => A2.apart d1 r1.own' a z (List.mem_append_right _ y)
    · exact d2 a z
/-- all arguments by their names, in the order of the parameters -/
def KWn (K : PySem.W.Frag) (fd : FuncData) (ps : List Str) : Prop := ∀ (s : Shared) (ws : List Value), K.In s.heap → ws.length = ps.length → BindsTo s fd ⟨[], ps.zip ws⟩ (ps.zip ws)
theorem fe_calK (C : ∃ (f : Addr) (fd : FuncData), FnOk X.prog X.w X.K X.mg X.base (L2N.CX X.prog X.w) k f fd ps (LF ⟨X.K, X.mg, X.w⟩ wf) ∧ X.mg x = some (.ref f) ∧ PySem.W.keepIn X.K (.ref f) = true ∧ KWn X.K fd ps) (hr : Room k X.A) (hg : Gl X x) (tk : L2N.Takes X W)
    (hkw : L2.PK X kws (LAB ⟨X.K, X.mg, X.w⟩ W u)) (hall : (backToKw pos (keywordEach kws X.env)).all (·.1.isSome) = true := by rfl) (hks : (backToKw pos (keywordEach kws X.env)).filterMap (·.1) = ps := by rfl)
    (hdb : (x == ("__debug__" : Str)) = false := by decide) (hpl : ((backTo pos (starEach [] X.env)).any (·.1) || (backToKw pos (keywordEach kws X.env)).any (·.1.isNone)) = false := by rfl) :
    PE X (.Call (.Name x p) [] kws pos) (LE ⟨X.K, X.mg, X.w⟩ W (fCall wf u)) := by
  obtain ⟨f, fd, F, hm, hk, hb⟩ := C
  refine ⟨fun pins s σ H Q I h => ?_⟩
  refine wpAny_Call_Name_kw (ld_glob I hg hm ?_ hdb)
  refine PySem.W.callWith_KW0 (h₀ := X.base) I.ok.mod.kin hk hall (thn (hkw.run pos pins s σ H _ I (fCall_ok h)) fun ws s2 ⟨zs, H2, I2, rz, q2⟩ => ⟨I2.kIn, ?_⟩) hpl
  rw [hks]
  have hl : ws.length = ps.length := by rw [← rz.length]; exact F.len _ _ _ _ q2
  refine wpAny_call (codeAny_mono (F.run X.A X.stack s2 H2 ⟨[], ps.zip ws⟩ ws zs Q _ hr I2.env0 (hb s2 ws I2.kIn hl) rz q2) fun r s' hq => ?_)
  cases r with
  | error e => exact L2N.passAt tk σ pins H2 s2 e s' I2 hq
  | ok fl =>
    cases fl with
    | ret u => exact I2.after hq
    | next => exact False.elim hq
    | brk => exact False.elim hq
    | cont => exact False.elim hq
end
end L2.Fn
/-! TM: tuple * int, whatever the int's sign. -/
namespace L2
open PySem PySem.Spec PyProof.Rows
theorem tuple_mul1 (l : Addr) (items : Array Value) (n : Nat) (dd : Option Addr) (sl : Array (Option Value)) (x : Int) (u : Tok) (c0 : (decide (x < -(2 ^ 63)) || decide (x ≥ 2 ^ 63)) = false) (c1 : (items.isEmpty || x == 1) = true) :
    Meets (Builtin.«tuple.__mul__» ⟨[.ref l, .int x u], []⟩) (fun _ R s => s.heap.get? l = some { cls := .type "tuple", dict := dd, data := .seq items n, slots := sl } ∧ R (.ok (.ret (Value.ref l))) s) :=
  .of_wp fun prog w A R s h => by
    obtain ⟨hp, g, d, tk, os⟩ := s
    obtain ⟨hl, h⟩ := h
    have f1 := AutoSeq1.idx_int
    wp_walk using wpAny_loadPart' hl
    repeat (first
      | (refine wpAny_ite_false (decide_eq_false (by rw [c0]; exact Bool.false_ne_true)) ?_; wp_walk using wpAny_loadPart' hl)
      | (refine wpAny_ite_true (decide_eq_true c1) ?_; wp_walk using wpAny_loadPart' hl))
    exact ⟨_, rfl, h⟩
theorem tuple_mul0 (l : Addr) (items : Array Value) (n : Nat) (dd : Option Addr) (sl : Array (Option Value)) (x : Int) (u : Tok) (c0 : (decide (x < -(2 ^ 63)) || decide (x ≥ 2 ^ 63)) = false) (c1 : (items.isEmpty || x == 1) = false) (c2 : (decide (x ≤ 0) || items.isEmpty) = true) :
    Meets (Builtin.«tuple.__mul__» ⟨[.ref l, .int x u], []⟩) (fun _ R s => s.heap.get? l = some { cls := .type "tuple", dict := dd, data := .seq items n, slots := sl } ∧
      R (.ok (.ret (Value.ref s.heap.objs.size))) { s with heap := s.heap.push { cls := Value.type "tuple", data := Data.seq #[] }, toks := s.toks }) :=
  .of_wp fun prog w A R s h => by
    obtain ⟨hp, g, d, tk, os⟩ := s
    obtain ⟨hl, h⟩ := h
    have f1 := AutoSeq1.idx_int
    wp_walk using wpAny_loadPart' hl
    repeat (first
      | (refine wpAny_ite_false (decide_eq_false (by rw [c0]; exact Bool.false_ne_true)) ?_; wp_walk using wpAny_loadPart' hl)
      | (refine wpAny_ite_false (decide_eq_false (by rw [c1]; exact Bool.false_ne_true)) ?_; wp_walk using wpAny_loadPart' hl)
      | (refine wpAny_ite_true (decide_eq_true c2) ?_; wp_walk using wpAny_loadPart' hl))
    exact ⟨_, rfl, h⟩
def rRepT0 (K : PySem.W.Frag) : R2 := fun x y H Q => ∃ l k xs, x = .ref l ∧ y = .int k ∧ SqT K H l xs ∧ xs ≠ [] ∧ -1000 ≤ k ∧ k ≤ 1000 ∧ xs.length ≤ 1000 ∧ (k = 1 → Q (.ref l) H) ∧ (k ≠ 1 → ∀ p, H p = none → Q (.ref p) (upd H p (.tup (List.replicate k.toNat xs).flatten)))
section
variable {X : Cx}
theorem op_repT0 : OpR X (binaryOp .Mult) (rRepT0 X.K) := by
  intro pins s σ H x y v u Q I rx ry h
  obtain ⟨l, k, xs, rfl, rfl, hT, hne, h1, h2, hz, q1, q⟩ := h
  by_cases hk : 2 ≤ k
  · exact op_repT (X := X) pins s σ H _ _ v u Q I rx ry ⟨l, k, xs, rfl, rfl, hT, hne, hk, h2, hz, q (by omega)⟩
  cases rx
  obtain ⟨t, rfl⟩ := ry
  obtain ⟨its, r, ⟨⟨cls, dd, data, sl⟩, ho, hc, n, hd⟩, hs⟩ := I.tuple hT
  simp only at hc hd
  subst hc hd
  have hle : its.length = xs.length := r.length.symm
  have hn : its ≠ [] := fun e => hne (by
    rw [e] at hle
    exact List.eq_nil_of_length_eq_zero hle.symm)
  have hi : its.toArray.isEmpty = false := by
    cases its with
    | nil => exact absurd rfl hn
    | cons a b => rfl
  have c0 : (decide (k < -(2 ^ 63)) || decide (k ≥ 2 ^ 63)) = false := by
    rw [decide_eq_false (by omega), decide_eq_false (by omega)] <;> rfl
  by_cases h1k : k = 1
  · subst h1k
    refine wpAny_binaryOp_repeat_ref (T := "tuple") (U := "int") (by decide) ⟨_, ho, rfl⟩ (fun s' => typeIs_int s' 1 t) noFill_tuple_mul F.fills_int_mul F.slot_int_rmul repeat_tuple F.slot_int_index.lookup
      (call_meets F.slot_int_rmul (typeIs_int s 1 t) F.entry_int_rmul (F.args_int_rmul_2 _ _) (int_rmul_tuple 1 t l its.toArray n dd sl)
        ⟨ho, rfl, ⟨_, ho, rfl⟩, call_meets F.slot_tuple_mul ⟨_, ho, rfl⟩ F.entry_tuple_mul (F.args_tuple_mul_2 _ _) (tuple_mul1 l its.toArray n dd sl 1 t c0 (by rw [hi]; rfl)) ⟨ho, ?_⟩⟩)
    exact ⟨.ref l, H, I, rfl, q1 rfl⟩
  · have c1 : (its.toArray.isEmpty || k == 1) = false := by
      rw [hi, Bool.false_or]
      exact beq_eq_false_iff_ne.mpr (by omega)
    have c2 : (decide (k ≤ 0) || its.toArray.isEmpty) = true := by rw [decide_eq_true (by omega)]; rfl
    refine wpAny_binaryOp_repeat_ref (T := "tuple") (U := "int") (by decide) ⟨_, ho, rfl⟩ (fun s' => typeIs_int s' k t) noFill_tuple_mul F.fills_int_mul F.slot_int_rmul repeat_tuple F.slot_int_index.lookup
      (call_meets F.slot_int_rmul (typeIs_int s k t) F.entry_int_rmul (F.args_int_rmul_2 _ _) (int_rmul_tuple k t l its.toArray n dd sl)
        ⟨ho, rfl, ⟨_, ho, rfl⟩, call_meets F.slot_tuple_mul ⟨_, ho, rfl⟩ F.entry_tuple_mul (F.args_tuple_mul_2 _ _) (tuple_mul0 l its.toArray n dd sl k t c0 c1 c2) ⟨ho, ?_⟩⟩)
    have e0 : (List.replicate k.toNat xs).flatten = [] := by rw [show k.toNat = 0 by omega]; rfl
    refine ⟨.ref s.heap.objs.size, _, I.laid (t' := s.toks) (o := .tup (List.replicate k.toNat xs).flatten) (fun b ob q => Heap.get?_push_of_some _ q) (Nat.le_refl _) ?_, rfl, q h1k _ (I.hok.fresh (Nat.le_refl _))⟩
    rw [e0]
    exact ⟨Nat.zero_le _, [], .nil, IsTup.new _ _⟩
end
end L2
namespace L2.Fn
open PySem PySem.Spec PyProof.Rows
def oRepT (a b : M) (Q : M → Prop) : Prop := match a, b with
  | .dat (.tup ds), .dat (.int k) => ds ≠ [] ∧ -1000 ≤ k ∧ k ≤ 1000 ∧ ds.length ≤ 1000 ∧ Q (.dat (.tup (List.replicate k.toNat ds).flatten))
  | _, _ => False
section
variable {T : Top}
theorem o_repT : Op2 T (rRepT0 T.K) oRepT := by
  intro φ H x y m1 m2 f1 f2 Q Qm r1 r2 w k
  unfold oRepT at w
  split at w
  · cases r1 with
    | dat r1 =>
      cases r2 with
      | dat r2 =>
        cases r2
        cases r1 with
        | @tup a xs ds h rs =>
          obtain ⟨w1, w2, w3, w4, w5⟩ := w
          refine ⟨a, _, xs, rfl, rfl, SqT.of h, fun e => w1 ?_, w2, w3, by rw [rs.len]; exact w4, fun e => ?_, fun e p hp => ?_⟩
          · subst e
            cases rs
            rfl
          · subst e
            rw [show (1 : Int).toNat = 1 from rfl] at w5
            simp only [List.replicate_one, List.flatten_singleton] at w5
            exact k _ _ H [] w5 (Fresh.refl H) (.dat (.tup h rs))
          · have F := Fresh.upd0 (o := HO.tup (List.replicate (Int.toNat (by assumption)) xs).flatten) hp
            exact k _ _ _ [] w5 F (.dat (.tup upd_same ((rs.rep _).ext F.ext (Pre.refl _))))
  · exact w.elim
end

/-! ### defs with defaults, all arguments given; calls by keywords -/
def DefAtD (K : PySem.W.Frag) (mg : Str → Option Value) (x : Str) (st : Stmt) (dvs : List V) (ps : List Str) : Prop :=
  ∃ (f : Addr) (fd : FuncData), FunD K x x (defArgs st) (defBody st) (defScope st) dvs [] f fd ∧ mg x = some (.ref f) ∧ Binds K fd ps []
theorem fn_okD {P : Program} {w : World} {K : PySem.W.Frag} {mg : Str → Option Value} {base : Heap} {T : Top} {x qual : Str} {st : Stmt} {dvs : List V} {f : Addr} {fd : FuncData} {N ps : List Str} {k : Nat} {r : FS} (F : FunD K x qual (defArgs st) (defBody st) (defScope st) dvs [] f fd) (S : FnScope N ps (defScope st))
    (hb : ∀ (cdv : Value) (A : Around) (outer : List Env) (s : Shared) (H : Hp) (E : XK), Room k (A.deeper (envOfC qual (defScope st) s.heap.objs.size f cdv)) →
      PSs (cxOf (L2N.CX P w) P w K mg base N qual (defScope st) f cdv A outer s H E) (defBody st) (LS T (fun c d _ H' => E c d H') r)) :
    FnOk P w K mg base (L2N.CX P w) (k + 1) f fd ps (LF T (mkW N.length ps.length r)) := by
  refine F.ok S (fun vs H Q E h => ?_) (fun cdv A outer s H vs Q E hr h => ⟨_, hb cdv A outer s H E hr, ?_⟩)
  · obtain ⟨ds, S, φ, fs, _, _, h1, _, _, h2, _⟩ := h
    rw [h1.len]; exact h2.1
  · obtain ⟨ds, S, φ, fs, Ex, Qm, h1, R, nd, h2, hx, k⟩ := h
    refine ⟨_, S, φ, [], fs, _, ⟨?_, R, nd⟩, h2.2, ⟨fun ρ' S' σ' H' φ' fe' fs' p A G' => ?_, fun ρ' S' σ' H' φ' fe' fs' p A G' => p.elim, fun ρ' S' σ' H' φ' fe' fs' p A G' => p.elim, fun m S' v H' φ' fm fs' p A n r R => ?_, fun x ρ' S' c d σ' H' φ' fe' fs' p A G' r => ?_⟩⟩
    · unfold L2.start
      rw [h1.len, h2.1, blanks_eq]
      exact RepE.start _ h1
    · exact k _ S' _ H' φ' fs' [] p ⟨A.pre, A.keep, fun a z => A.new a (List.mem_append_right _ z), G'.ndS⟩ (.dat .non) G'.sto
    · exact k m S' v H' φ' fs' fm p ⟨A.pre, A.keep, A.new, n⟩ r R
    · exact hx x S' c d H' φ' fs' p ⟨A.pre, A.keep, fun a z => A.new a (List.mem_append_right _ z), G'.ndS⟩ r G'.sto
theorem cal_mkD {P : Program} {w : World} {K : PySem.W.Frag} {mg : Str → Option Value} {base : Heap} {x : Str} {st : Stmt} {dvs : List V} {N ps : List Str} {k : Nat} {r : FS} (F : DefAtD K mg x st dvs ps) (S : FnScope N ps (defScope st))
    (hb : ∀ (f : Addr) (cdv : Value) (A : Around) (outer : List Env) (s : Shared) (H : Hp) (E : XK), Room k (A.deeper (envOfC x (defScope st) s.heap.objs.size f cdv)) →
      PSs (cxOf (L2N.CX P w) P w K mg base N x (defScope st) f cdv A outer s H E) (defBody st) (LS ⟨K, mg, w⟩ (fun c d _ H' => E c d H') r)) : Cal P w K mg base x (k + 1) ps (mkW N.length ps.length r) := by
  obtain ⟨f, fd, F, hm, b⟩ := F
  exact ⟨f, fd, fn_okD F S (hb f), hm, F.kp, b⟩
def CalK (P : Program) (w : World) (K : PySem.W.Frag) (mg : Str → Option Value) (base : Heap) (x : Str) (k : Nat) (ps : List Str) (wf : FF) : Prop :=
  ∃ (f : Addr) (fd : FuncData), FnOk P w K mg base (L2N.CX P w) k f fd ps (LF ⟨K, mg, w⟩ wf) ∧ mg x = some (.ref f) ∧ PySem.W.keepIn K (.ref f) = true ∧ KWn K fd ps
def DefAtK (K : PySem.W.Frag) (mg : Str → Option Value) (x : Str) (st : Stmt) (ps : List Str) : Prop :=
  ∃ (f : Addr) (fd : FuncData), Fun K x x st f fd ∧ mg x = some (.ref f) ∧ KWn K fd ps
theorem cal_mkK {P : Program} {w : World} {K : PySem.W.Frag} {mg : Str → Option Value} {base : Heap} {x : Str} {st : Stmt} {N ps : List Str} {k : Nat} {r : FS} (F : DefAtK K mg x st ps) (S : FnScope N ps (defScope st))
    (hb : ∀ (f : Addr) (cdv : Value) (A : Around) (outer : List Env) (s : Shared) (H : Hp) (E : XK), Room k (A.deeper (envOfC x (defScope st) s.heap.objs.size f cdv)) →
      PSs (cxOf (L2N.CX P w) P w K mg base N x (defScope st) f cdv A outer s H E) (defBody st) (LS ⟨K, mg, w⟩ (fun c d _ H' => E c d H') r)) : CalK P w K mg base x (k + 1) ps (mkW N.length ps.length r) := by
  obtain ⟨f, fd, F, hm, b⟩ := F
  exact ⟨f, fd, fn_ok F S (hb f), hm, F.kp, b⟩
/-- how the keywords bind: h is «fun .. ws hl => match ws, hl with | [_, _], _ => rfl» -/
theorem fun_kwn {K : PySem.W.Frag} {x qual : Str} {st : Stmt} {f : Addr} {fd : FuncData} {ps : List Str} (F : Fun K x qual st f fd)
    (h : ∀ (kV doc pm : Value) (an : Option Addr) (cdv ct : Value) (us : List Value), us.length = ps.length → bindArgs (PySem.W.fnOf x qual (defArgs st) (defBody st) (defScope st) .none kV doc pm an cdv ct) ⟨[], ps.zip us⟩ = pure (ps.zip us)) : KWn K fd ps := by
  obtain ⟨oc, od, kV, doc, pm, an, cdv, ct, osl, rfl, lk, hcd⟩ := F.ex
  exact fun s ws _ hl => .of_eq (h kV doc pm an cdv ct ws hl)
end L2.Fn
/-! TSet: sets of tuples of ints and texts. -/
namespace L2.Fn
open PySem PySem.Spec PyProof.Rows

/-- a flat tuple key -/
def FlatK (h : Heap) (k : NK) (a : Addr) : Prop := IsTree h k (.ref a) ∧ k.dep ≤ 1
theorem FlatK.open {h : Heap} {k : NK} {a : Addr} (x : FlatK h k a) : ∃ ks items, k = .t ks ∧ h.IsTuple a items ∧ AreTree h ks items.toList ∧ ∀ q ∈ ks, q.dep = 0 := by
  obtain ⟨r, d⟩ := x
  cases r with
  | @t a items ks p r =>
    refine ⟨ks, items, rfl, p, r, fun q hq => ?_⟩
    obtain ⟨l, m, e⟩ := List.append_of_mem hq
    have := NK.deps_mem (n := 0) (a := l) (b := m) (k := q) (by rw [← e]; rw [NK.dep] at d; omega)
    omega
theorem atoms_of {h : Heap} : ∀ {ks : List NK} {vs : List Value}, AreTree h ks vs → (∀ q ∈ ks, q.dep = 0) → ∀ v ∈ vs, (∃ i t, v = Value.int i t) ∨ ∃ x t, v = Value.str x t
  | _, _, .nil, _, v, hv => nomatch hv
  | _, _, .cons (k := k) r rs, hd, v, hv => by
    rcases List.mem_cons.mp hv with e | hv
    · subst e
      cases r with
      | i n t => exact .inl ⟨n, t, rfl⟩
      | s x t => exact .inr ⟨_, t, rfl⟩
      | t p r =>
        have := hd _ List.mem_cons_self
        rw [NK.dep] at this
        omega
    · exact atoms_of rs (fun q hq => hd q (List.mem_cons_of_mem _ hq)) v hv
theorem FlatK.ty {s : Shared} {k : NK} {a : Addr} (x : FlatK s.heap k a) : s.TypeIs (.ref a) "tuple" := by
  obtain ⟨ks, items, _, p, _⟩ := x.open
  exact isTuple_typeIs p
theorem FlatK.inj {h : Heap} {k k' : NK} {a : Addr} (x : FlatK h k a) (y : FlatK h k' a) : k = k' := x.1.inj y.1
theorem FlatK.mono {h h' : Heap} {k : NK} {a : Addr} (x : FlatK h k a) (e : ∀ b o, h.get? b = some o → h'.get? b = some o) : FlatK h' k a :=
  ⟨x.1.mono fun b items ⟨o, ho, r⟩ => ⟨o, e b o ho, r⟩, x.2⟩
/-- a store to a set leaves the tuples -/
theorem FlatK.beside {h h' : Heap} {k : NK} {a b : Addr} {o : Obj} {es : Array (Int × Value)} {ep : Nat} {t : SetTable} (x : FlatK h k b) (ho : h.get? a = some o) (hd : o.data = .set es ep t) (hs : Heap.SameBut a h h') : FlatK h' k b := by
  refine ⟨x.1.mono fun c items ⟨q, hq, r1, n, r2⟩ => ?_, x.2⟩
  have hne : c ≠ a := by
    rintro rfl
    rw [Option.some.inj (hq.symm.trans ho), hd] at r2
    exact nomatch r2
  exact ⟨q, (hs.2 c hne).trans hq, r1, n, r2⟩
section
variable {P : Program} {w : World} {A : Around} {E : Value → Shared → Prop} {s : Shared}
/-- no atom is of a class statement -/
theorem atom_class (n : Nat) {v : Value} (h : (∃ i t, v = Value.int i t) ∨ ∃ x t, v = Value.str x t) : ofAClassStatement n v = pure false := by
  rcases h with ⟨i, t, rfl⟩ | ⟨x, t, rfl⟩ <;> (cases n <;> rfl)
theorem atom_byval (n : Nat) {v : Value} (h : (∃ i t, v = Value.int i t) ∨ ∃ x t, v = Value.str x t) : hashByValue n v = pure true ∨ hashByValue n v = pure false := by
  rcases h with ⟨i, t, rfl⟩ | ⟨x, t, rfl⟩
  · exact .inl (by cases n <;> rfl)
  · exact .inr (by cases n <;> rfl)
theorem flat_class {k : NK} {b : Addr} {Q : Bool → Shared → Prop} (hk : FlatK s.heap k b) (h : Q false s) : wpAny (model P w) A (ofAClassStatement 8 (.ref b)) Q E s := by
  have hT := hk.ty
  obtain ⟨ks, items, _, ⟨o, ho, _, n, hd⟩, r, d⟩ := hk.open
  unfold ofAClassStatement
  refine wpAny_bind (wpAny_typeOf hT ?_)
  dsimp only
  simp only [show (("tuple" : String) == "tuple") = true by decide, if_true, Bool.not_true, Bool.false_eq_true, if_false]
  try refine wpAny_bind (wpAny_pure ?_)
  try simp only [Bool.not_true, Bool.false_eq_true, if_false]
  show wpAny _ _ (seqItems? (.ref b) >>= _) _ _ s
  refine wpAny_bind (wpAny_seqItems ho hd ?_)
  dsimp only
  refine wpAny_bind ?_
  show wpAny _ _ (forIn items _ _) _ _ s
  rw [← Array.forIn_toList]
  refine wpAny_forIn_list _ (fun rest r s' => r.1 = none ∧ s' = s ∧ ∀ v ∈ rest, (∃ i t, v = Value.int i t) ∨ ∃ x t, v = Value.str x t) _ ?_ ?_ _ _ ⟨rfl, rfl, atoms_of r d⟩
  · rintro v rest r s' ⟨hr, rfl, hall⟩
    rw [atom_class _ (hall v List.mem_cons_self)]
    refine wpAny_bind (wpAny_pure ?_)
    simp only [Bool.false_eq_true, if_false]
    exact wpAny_pure ⟨rfl, rfl, fun u hu' => hall u (List.mem_cons_of_mem _ hu')⟩
  · rintro ⟨r1, r2⟩ s' ⟨hr, rfl, _⟩
    simp only at hr
    subst hr
    exact wpAny_pure h
theorem flat_byval {k : NK} {b : Addr} {Q : Bool → Shared → Prop} (hk : FlatK s.heap k b) (h : ∀ c, Q c s) : wpAny (model P w) A (hashByValue 8 (.ref b)) Q E s := by
  have hT := hk.ty
  obtain ⟨ks, items, _, ⟨o, ho, _, n, hd⟩, r, d⟩ := hk.open
  unfold hashByValue
  refine wpAny_bind (wpAny_specialOf hT F.slot_tuple_hash.lookup ?_)
  show wpAny _ _ (seqItems? (.ref b) >>= _) _ _ s
  refine wpAny_bind (wpAny_seqItems ho hd ?_)
  refine wpAny_bind ?_
  show wpAny _ _ (forIn items _ _) _ _ s
  rw [← Array.forIn_toList]
  refine wpAny_forIn_list _ (fun rest r s' => r.1 = none ∧ s' = s ∧ ∀ v ∈ rest, (∃ i t, v = Value.int i t) ∨ ∃ x t, v = Value.str x t) _ ?_ ?_ _ _ ⟨rfl, rfl, atoms_of r d⟩
  · rintro v rest r s' ⟨hr, rfl, hall⟩
    rcases atom_byval 7 (hall v List.mem_cons_self) with e | e
    · rw [e]
      refine wpAny_bind (wpAny_pure ?_)
      simp only [Bool.not_true, Bool.false_eq_true, if_false]
      exact wpAny_pure ⟨rfl, rfl, fun u hu' => hall u (List.mem_cons_of_mem _ hu')⟩
    · rw [e]
      refine wpAny_bind (wpAny_pure ?_)
      simp only [Bool.not_false, if_true]
      exact wpAny_pure (wpAny_pure (h false))
  · rintro ⟨r1, r2⟩ s' ⟨hr, rfl, _⟩
    simp only at hr
    subst hr
    exact wpAny_pure (h true)
theorem flat_quiet {k : NK} {a : Addr} {Q : Bool → Shared → Prop} (hk : FlatK s.heap k a) (h : Q true s) : wpAny (model P w) A (eqIsQuiet 8 (.ref a)) Q E s :=
  (treeKind P w).quiet (k := k) ⟨hk.1, by have := hk.2; omega⟩ h
theorem flat_seen {k : NK} {b : Addr} {Q : Bool → Shared → Prop} (hk : FlatK s.heap k b) {ys : List Value} (hy : ∀ y ∈ ys, ∃ k' c, y = Value.ref c ∧ FlatK s.heap k' c) (h : Q false s) :
    wpAny (model P w) A (searchCouldBeSeen (.ref b) ys) Q E s := by
  unfold searchCouldBeSeen
  refine wpAny_bind (wpAny_forIn_list _ (fun rest r s' => r.1 = none ∧ s' = s ∧ ∀ y ∈ rest, ∃ k' c, y = Value.ref c ∧ FlatK s.heap k' c) _ ?_ ?_ _ _ ⟨rfl, rfl, hy⟩)
  · rintro v rest r s' ⟨hr, rfl, hall⟩
    obtain ⟨k', c, rfl, hc⟩ := hall v List.mem_cons_self
    have more : ∀ y ∈ rest, ∃ k' c, y = Value.ref c ∧ FlatK s'.heap k' c := fun u hu' => hall u (List.mem_cons_of_mem _ hu')
    dsimp only
    by_cases hv : (b == c || (carriedByValue (.ref b) && carriedByValue (.ref c))) = true
    · exact wp_if_pos hv (wpAny_pure ⟨rfl, rfl, more⟩)
    · refine wp_if_neg hv (wpAny_bind (flat_quiet hk ?_))
      simp only [Bool.not_true, Bool.false_eq_true, if_false]
      refine wpAny_bind (flat_quiet hc ?_)
      simp only [Bool.not_true, Bool.false_eq_true, if_false]
      refine wpAny_bind (flat_class hk ?_)
      simp only [Bool.false_eq_true, if_false]
      refine wpAny_bind (flat_class hc ?_)
      simp only [Bool.false_eq_true, if_false]
      exact wpAny_pure ⟨rfl, rfl, more⟩
  · rintro ⟨r1, r2⟩ s' ⟨hr, rfl, _⟩
    simp only at hr
    subst hr
    exact wpAny_pure h

/-! ### the table -/
abbrev EN := Addr × NK
def rowN (w : World) (p : EN) : Int × Value := (p.2.hash w, .ref p.1)
structure Tbl (w : World) (h : Heap) (a : Addr) (L : List EN) (es : Array (Int × Value)) (ep : Nat) (t : SetTable) : Prop where
  ob : ∃ o, h.get? a = some o ∧ o.ExactSet ∧ o.data = .set es ep t
  rows : es.toList = L.map (rowN w)
  tab : TabOk t (L.map fun p => p.2.hash w)
  nd : (L.map (·.2)).Nodup
  led : w.params.followText "set-order" = true ∨ t.led = true
  room : L.length * 5 < t.mask * 3
  few : L.length < 64
variable {a : Addr} {L : List EN} {es : Array (Int × Value)} {ep : Nat} {t : SetTable}
theorem rows_len {L : List EN} {es : Array (Int × Value)} (h : es.toList = L.map (rowN w)) : es.size = L.length := by
  have := congrArg List.length h
  simpa using this
theorem rows_at {L : List EN} {es : Array (Int × Value)} (h : es.toList = L.map (rowN w)) {i : Nat} {p : EN} (hp : L[i]? = some p) : es[i]? = some (rowN w p) := by
  rw [← Array.getElem?_toList, h, List.getElem?_map, hp] <;> rfl
theorem fits_of {n : Nat} (h1 : t.place.size = n) (h2 : t.dummies = #[]) (h3 : n ≤ t.mask) : t.fits n = true := by
  unfold SetTable.fits SetTable.fill
  rw [h2, Bool.and_eq_true, beq_iff_eq, decide_eq_true_eq]
  exact ⟨h1, by show t.place.size + 0 ≤ t.mask; omega⟩
theorem Tbl.fits (R : Tbl w s.heap a L es ep t) : t.fits es.size = true := by
  have h1 := R.tab.sz
  rw [List.length_map] at h1
  have h2 := rows_len R.rows
  have h3 := R.room
  exact fits_of (by omega) R.tab.dm (by omega)
theorem Tbl.sound (R : Tbl w s.heap a L es ep t) : ¬ t.gaveWay = true := by
  unfold SetTable.gaveWay
  rw [mask_odd R.tab.mok]
  decide
theorem nth_undummied (m : Nat) : ∀ (n : Nat) (p : SetTable.Probe), p.dummy = none → (nth m p n).dummy = none
  | 0, p, h => h
  | n + 1, p, h => nth_undummied m n (adv m p) (by unfold adv; split <;> exact h)
/-- where the way to the hash h stands at its c-th step -/
abbrev stepAt (m : Nat) (h : Int) (c : Nat) : SetTable.Probe := nth m (runAt m (SetTable.bits h % (m + 1)) (SetTable.bits h)) c
theorem stepAt_add (m : Nat) (h : Int) (c q : Nat) : nth m (stepAt m h c) q = stepAt m h (c + q) := (nth_add m c _ q).symm
theorem tbl_search_from (R : Tbl w s.heap a L es ep t) (hL : ∀ p ∈ L, FlatK s.heap p.2 p.1) {x : Addr} {k : NK} (hx : FlatK s.heap k x) (hu : A.units + 1 < cLine) {K : Nat} (hKf : K < 10 * SetTable.turns t.mask)
    (hK : way t.mask (k.hash w) K ∉ t.place.toList) (hKb : ∀ c, c < K → way t.mask (k.hash w) c ∈ t.place.toList) {Q : SetFound → Shared → Prop}
    (hin : k ∈ L.map (·.2) → Q (.there none) s) (hout : k ∉ L.map (·.2) → Q (.free (way t.mask (k.hash w) K) false) s) :
    ∀ (f c : Nat) (stand : Option SetTable.Probe), stand.getD (t.probeStart (k.hash w)) = stepAt t.mask (k.hash w) c → c ≤ K → K - c < f →
      (∀ (i : Nat) p, L[i]? = some p → p.2 = k → ∃ c', c ≤ c' ∧ c' < K ∧ t.place.toList[i]? = some (way t.mask (k.hash w) c')) →
      wpAny (model P w) A (setSearchFrom a (.ref x) (k.hash w) true f stand) Q E s := by
  obtain ⟨o, ho, hex, hd⟩ := R.ob
  intro f
  induction f with
  | zero => exact fun c _ _ _ hf _ => absurd hf (Nat.not_lt_zero _)
  | succ f ih =>
    intro c stand hst hc hf hre
    rw [setSearchFrom_succ]
    refine wpAny_bind (wpAny_setState_of ho hd R.fits ?_)
    dsimp only
    refine wp_if_neg R.sound ?_
    try refine wpAny_bind (wpAny_pure ?_)
    have spec := go_spec t R.tab.ris R.tab.dm (fun i => (es[i]?.map (·.1)).getD 0) (k.hash w) (10 * SetTable.turns t.mask) (K - c) (stepAt t.mask (k.hash w) c) (nth_undummied _ c _ rfl) (by omega)
      (fun q hq => by rw [stepAt_add]; exact hKb (c + q) (by omega)) (by rw [stepAt_add, show c + (K - c) = K by omega]; exact hK)
    have hashAt : ∀ (i : Nat) p, L[i]? = some p → (es[i]?.map (·.1)).getD 0 = p.2.hash w := fun i p hp => by rw [rows_at R.rows hp] <;> rfl
    rcases spec with ⟨q, i, hq, hi, hh, hno, hpr⟩ | ⟨hno, hpr⟩
    · rw [stepAt_add] at hi
      rw [stepAt_add, stepAt_add] at hpr
      have hpr' : t.probe (fun i => (es[i]?.map (·.1)).getD 0) (k.hash w) (stand.getD (t.probeStart (k.hash w))) = some (.candidate (way t.mask (k.hash w) (c + q)) i (stepAt t.mask (k.hash w) (c + (q + 1)))) := by
        rw [hst]
        exact hpr
      rw [hpr']
      dsimp only
      have hi' : t.place.toList[i]? = some (way t.mask (k.hash w) (c + q)) := hi
      have hil : i < L.length := by
        have h1 : i < t.place.toList.length := (List.getElem?_eq_some_iff.mp hi').1
        have h2 := R.tab.sz
        rw [List.length_map] at h2
        rw [Array.length_toList] at h1
        omega
      obtain ⟨p, hp⟩ : ∃ p, L[i]? = some p := ⟨_, List.getElem?_eq_getElem hil⟩
      have hmem : p ∈ L := List.mem_of_getElem? hp
      have rest : wpAny (model P w) A (searchRest a (.ref x) (k.hash w) true f es t (way t.mask (k.hash w) (c + q)) i (stepAt t.mask (k.hash w) (c + (q + 1)))) Q E s := by
        unfold searchRest
        rw [rows_at R.rows hp]
        dsimp only [rowN]
        refine wpAny_bind (wpAny_holding (tree_eq 1 p.2 k _ _ _ _ _ _ (hL p hmem).2 hx.2 hu (hL p hmem).1 hx.1 ?_))
        refine wpAny_bind (wpAny_setState_of ho hd R.fits ?_)
        dsimp only
        by_cases hkk : p.2 = k
        · exact wp_if_pos (by simp [hkk]) (wpAny_pure (hin (List.mem_map.mpr ⟨p, hmem, hkk⟩)))
        · refine wp_if_neg (by simp [hkk]) ?_
          try refine wpAny_bind (wpAny_pure ?_)
          rw [sameMem]
          dsimp only
          have hsl : t.slot (way t.mask (k.hash w) (c + q)) = .live i := slot_live R.tab.ris hi'
          simp only [if_true, hsl, rows_at R.rows hp, rowN]
          refine wpAny_bind (wpAny_isSame_ref_self (wpAny_bind (wpAny_pure ?_)))
          simp only [if_true]
          refine wp_if_neg (by simp [hkk]) ?_
          refine ih (c + (q + 1)) _ rfl (by omega) (by omega) fun i0 p0 h0 hk0 => ?_
          obtain ⟨c', a1, a2, a3⟩ := hre i0 p0 h0 hk0
          refine ⟨c', ?_, a2, a3⟩
          rcases Nat.lt_trichotomy c' (c + q) with z | z | z
          · refine absurd ((hashAt i0 p0 h0).trans (congrArg (NK.hash w) hk0)) (hno (c' - c) i0 (by omega) ?_)
            rw [stepAt_add, show c + (c' - c) = c' by omega]
            exact a3
          · rw [z] at a3
            have s0 := slot_live R.tab.ris a3
            rw [hsl] at s0
            injection s0 with s0
            rw [← s0, hp] at h0
            exact absurd ((congrArg Prod.snd (Option.some.inj h0)).trans hk0) hkk
          · omega
      by_cases hl : t.led = true
      · refine wp_if_neg (by simp [hl]) ?_
        try refine wpAny_bind (wpAny_pure ?_)
        exact rest
      · refine wp_if_pos (by simp [hl]) (wpAny_bind (flat_seen hx (fun y hy => ?_) ?_))
        · obtain ⟨e, he, ee⟩ := List.mem_map.mp hy
          have he1 : e ∈ es ∧ e.1 = k.hash w := by simpa using he
          have he2 : e ∈ es.toList := by simpa using he1.1
          rw [R.rows] at he2
          obtain ⟨p2, hp2, e2⟩ := List.mem_map.mp he2
          exact ⟨p2.2, p2.1, by rw [← ee, ← e2]; rfl, hL p2 hp2⟩
        · refine wp_if_neg (by decide) ?_
          try refine wpAny_bind (wpAny_pure ?_)
          exact rest
    · rw [stepAt_add, show c + (K - c) = K by omega] at hpr
      rw [hst, show t.probe (fun i => (es[i]?.map (·.1)).getD 0) (k.hash w) (stepAt t.mask (k.hash w) c) = some (.empty (way t.mask (k.hash w) K) none) from hpr]
      dsimp only
      refine wpAny_pure (hout fun hm => ?_)
      obtain ⟨p0, h0, hk0⟩ := List.mem_map.mp hm
      obtain ⟨i0, h00⟩ := List.getElem?_of_mem h0
      obtain ⟨c', a1, a2, a3⟩ := hre i0 p0 h00 hk0
      refine absurd ((hashAt i0 p0 h00).trans (congrArg (NK.hash w) hk0)) (hno (c' - c) i0 (by omega) ?_)
      rw [stepAt_add, show c + (c' - c) = c' by omega]
      exact a3
theorem tbl_search (R : Tbl w s.heap a L es ep t) (hL : ∀ p ∈ L, FlatK s.heap p.2 p.1) {x : Addr} {k : NK} (hx : FlatK s.heap k x) (hu : A.units + 1 < cLine) {Q : SetFound → Shared → Prop}
    (hin : k ∈ L.map (·.2) → Q (.there none) s)
    (hout : ∀ K, k ∉ L.map (·.2) → way t.mask (k.hash w) K ∉ t.place.toList → (∀ c, c < K → way t.mask (k.hash w) c ∈ t.place.toList) → Q (.free (way t.mask (k.hash w) K) false) s) :
    wpAny (model P w) A (setSearch a (.ref x) (k.hash w) true) Q E s := by
  have hroom := R.room
  obtain ⟨K, hKf, hK, hKb⟩ := R.tab.first (by rw [List.length_map]; omega) (k.hash w)
  have hbig : K < 100000 := by
    have : 10 * SetTable.turns t.mask ≤ 1420 := by
      unfold SetTable.turns
      rcases R.tab.mok with e | e | e <;> omega
    omega
  unfold setSearch
  refine tbl_search_from R hL hx hu hKf hK hKb hin (fun hn => hout K hn hK hKb) 100000 0 none rfl (Nat.zero_le _) (by omega) fun i p hp hk => ?_
  have hil : i < t.place.toList.length := by
    have h1 : i < L.length := (List.getElem?_eq_some_iff.mp hp).1
    have h2 := R.tab.sz
    rw [List.length_map] at h2
    rw [Array.length_toList]
    omega
  obtain ⟨c, hc, e⟩ := R.tab.before hK (h := k.hash w) (i := i) (by rw [List.getElem?_map, hp, ← hk] <;> rfl) (List.getElem?_eq_getElem hil)
  exact ⟨c, Nat.zero_le _, hc, by rw [List.getElem?_eq_getElem hil, e]⟩
end
end L2.Fn
/-! TSet2: adding to a set of flat tuples; sorting it. -/
namespace L2.Fn
open PySem PySem.Spec PyProof.Rows

theorem pick_all {α : Type} : ∀ L : List α, (List.range L.length).filterMap (fun i => L[i]?) = L
  | [] => rfl
  | x :: L => by
    rw [List.length_cons, List.range_succ_eq_map]
    have e : ∀ l : List Nat, List.filterMap (fun i => (x :: L)[i]?) (0 :: l) = x :: List.filterMap (fun i => (x :: L)[i]?) l := fun l => by rw [List.filterMap_cons] <;> rfl
    rw [e, List.filterMap_map]
    exact congrArg (x :: ·) (pick_all L)
theorem pick_map {α β : Type} {L : List α} {g : α → β} {f : Nat → β} (hf : ∀ i p, L[i]? = some p → f i = g p) : ∀ {l : List Nat}, (∀ i ∈ l, i < L.length) → (l.filterMap (fun i => L[i]?)).map g = l.map f
  | [], _ => rfl
  | i :: l, h => by
    have e := List.getElem?_eq_getElem (h i List.mem_cons_self)
    rw [List.filterMap_cons_some e, List.map_cons, List.map_cons, hf i _ e, pick_map hf fun j hj => h j (List.mem_cons_of_mem _ hj)]
section
variable {P : Program} {w : World} {A : Around} {E : Value → Shared → Prop} {s : Shared} {a : Addr} {L : List EN} {es : Array (Int × Value)} {ep : Nat} {t : SetTable}
theorem rows_get {L : List EN} {es : Array (Int × Value)} (h : es.toList = L.map (rowN w)) (i : Nat) : es[i]? = (L[i]?).map (rowN w) := by
  rw [← Array.getElem?_toList, h, List.getElem?_map]
/-- the table laid anew -/
theorem tbl_relay {o : Obj} (ho : s.heap.get? a = some o) (hex : o.ExactSet) (hd : o.data = .set es ep t) (hrows : es.toList = L.map (rowN w)) (T0 : TabOk t (L.map fun p => p.2.hash w)) (hfl : L.length ≤ t.mask)
    (nd : (L.map (·.2)).Nodup) (ld : w.params.followText "set-order" = true ∨ t.led = true) (few : L.length < 64) {wanted M : Nat}
    (hw : SetTable.sizeAbove wanted - 1 = M) (hM : MaskOk M) (hw2 : SetTable.sizeAbove wanted ≤ 128) (hn : L.length * 5 < M * 3) {Q : Unit → Shared → Prop}
    (hQ : ∀ h' L' es' ep' t', Heap.SameBut a s.heap h' → Tbl w h' a L' es' ep' t' → L'.Perm L → Q () { s with heap := h' }) : wpAny (model P w) A (setRelay a wanted) Q E s := by
  have hsl := rows_len hrows
  have hz : (es.map (·.1)).size = L.length := by rw [Array.size_map, hsl]
  obtain ⟨t', order, e, hp, T, em, el, _, ed⟩ := relaid_ok t (hs := es.map (·.1)) (wanted := wanted) hw hM (by rw [hz]; omega)
  rw [hz] at hp
  have hin : ∀ i ∈ order.toList, i < L.length := fun i hi => List.mem_range.mp (hp.mem_iff.mp hi)
  obtain ⟨L2, hL2⟩ : ∃ L2, L2 = order.toList.filterMap (fun i => L[i]?) := ⟨_, rfl⟩
  have pm : L2.Perm L := by
    have := hp.filterMap (fun i => L[i]?)
    rw [pick_all, ← hL2] at this
    exact this
  have r1 : (order.filterMap (es[·]?)).toList = L2.map (rowN w) := by
    rw [Array.toList_filterMap, hL2, List.map_filterMap]
    exact congrArg (List.filterMap · _) (funext fun i => rows_get hrows i)
  have r3 : L2.map (fun p => p.2.hash w) = order.toList.map fun i => (es.map (·.1)).getD i 0 := by
    rw [hL2]
    refine pick_map (fun i p hp => ?_) hin
    have : (es.map (·.1))[i]? = some (p.2.hash w) := by rw [Array.getElem?_map, rows_at hrows hp] <;> rfl
    simp [Array.getD_eq_getD_getElem?, this]
  rw [← r3] at T
  have hs2 : (order.filterMap (es[·]?)).size = L.length := by rw [rows_len r1, pm.length_eq]
  have hsz : t.place.size = es.size := by
    have := T0.sz
    rw [List.length_map] at this
    omega
  rw [setRelay_eq]
  refine wpAny_bind (wpAny_setState_of ho hd (fits_of hsz T0.dm (by omega)) ?_)
  dsimp only
  refine wp_if_neg (by rw [sizeLine_eq]; omega) ?_
  try refine wpAny_bind (wpAny_pure ?_)
  rw [e]
  dsimp only
  refine wpAny_bind (wp_if_neg (by rw [hs2, hsl]; simp) ?_)
  try refine wpAny_bind (wpAny_pure ?_)
  refine wpAny_pure ?_
  dsimp only
  refine wpAny_storeSet_of ho hd (hQ _ L2 (order.filterMap (es[·]?)) (ep + 1) t' (Heap.SameBut.update ..) ?_ pm) (by rw [hs2, sizeLine_eq]; omega)
  exact ⟨⟨_, store_at ho hd, ⟨hex.1, hex.2.1, hex.2.2⟩, rfl⟩, r1, T, (pm.map (·.2)).nodup_iff.mpr nd, by rw [el]; exact ld, by rw [pm.length_eq, em]; exact hn, by rw [pm.length_eq]; exact few⟩

/-- what adding does -/
def Added (L L' : List EN) (x : Addr) (k : NK) : Prop := (k ∈ L.map (·.2) ∧ L' = L) ∨ (k ∉ L.map (·.2) ∧ L'.Perm ((x, k) :: L))
theorem tbl_add (R : Tbl w s.heap a L es ep t) (hL : ∀ p ∈ L, FlatK s.heap p.2 p.1) {x : Addr} {k : NK} (hx : FlatK s.heap k x) (hu : A.units + 1 < cLine) (hfew : L.length + 1 < 64) {Q : Bool → Shared → Prop}
    (hQ : ∀ b h' L' es' ep' t', Heap.SameBut a s.heap h' → Tbl w h' a L' es' ep' t' → Added L L' x k → Q b { s with heap := h' }) :
    wpAny (model P w) A (setAddHashed a (.ref x) (k.hash w)) Q E s := by
  obtain ⟨o, ho, hex, hd⟩ := R.ob
  have hsl := rows_len R.rows
  have hroom := R.room
  unfold setAddHashed
  refine wpAny_holding ?_
  rw [show (100000 : Nat) = 99999 + 1 from rfl, setAddHashedIn_succ]
  refine wpAny_bind (wpAny_setState_of ho hd R.fits ?_)
  dsimp only
  refine wp_if_neg (by simp [byScan, Value.scannable]) ?_
  try refine wpAny_bind (wpAny_pure ?_)
  refine wpAny_bind (tbl_search R hL hx hu (fun hm => ?_) fun K hm hK hb => ?_)
  · dsimp only
    exact wpAny_pure (hQ false s.heap L es ep t (Heap.SameBut.refl a s.heap) R (.inl ⟨hm, rfl⟩))
  · dsimp only
    refine wpAny_bind (wpAny_setState_of ho hd R.fits ?_)
    dsimp only
    obtain ⟨q1, q2, q3, q4, q5, _, q7, q8, q9⟩ := R.tab.put hK hb
    generalize t.put (way t.mask (k.hash w) K) = pt at q1 q3 q4 q5 q7 q8 q9 ⊢
    obtain ⟨t1, p⟩ := pt
    dsimp only at q1 q3 q4 q5 q7 q8 q9 ⊢
    subst q1
    have hin : (SetTable.insertAt es (SetTable.below t.place (way t.mask (k.hash w) K)) (k.hash w, Value.ref x)).toList = (L.take (SetTable.below t.place (way t.mask (k.hash w) K)) ++ (x, k) :: L.drop (SetTable.below t.place (way t.mask (k.hash w) K))).map (rowN w) := by
      rw [SetTable.toList_insertAt, R.rows, List.map_append, List.map_cons, List.map_take, List.map_drop] <;> rfl
    generalize SetTable.below t.place (way t.mask (k.hash w) K) = p at q2 q3 hin ⊢
    have pm := put_perm L p (x, k)
    have hlen : (L.take p ++ (x, k) :: L.drop p).length = L.length + 1 := pm.length_eq
    have hhs : (L.take p ++ (x, k) :: L.drop p).map (fun p => p.2.hash w) = (L.map fun p => p.2.hash w).take p ++ k.hash w :: (L.map fun p => p.2.hash w).drop p := by
      rw [List.map_append, List.map_cons, List.map_take, List.map_drop]
    rw [← hhs] at q3
    have nd1 : ((L.take p ++ (x, k) :: L.drop p).map (·.2)).Nodup := (pm.map (·.2)).nodup_iff.mpr (by rw [List.map_cons]; exact List.nodup_cons.mpr ⟨hm, R.nd⟩)
    have hes := (rows_len hin).trans hlen
    generalize SetTable.insertAt es p (k.hash w, Value.ref x) = es1 at hin hes ⊢
    generalize L.take p ++ (x, k) :: L.drop p = L1 at pm hlen q3 nd1 hin
    -- what is left, whatever the flag says
    have rest : ∀ t2 : SetTable, t2.mask = t1.mask → t2.place = t1.place → t2.dummies = t1.dummies → t2.led = t1.led → wpAny (model P w) A (do
        storeSet a es1 t2
        if !false && t2.tooFull then setRelay a (SetTable.grown (es.size + 1))
        return true) Q E s := fun t2 m2 p2 d2 l2 => by
      have T2 : TabOk t2 (L1.map fun p => p.2.hash w) := ⟨by rw [p2]; exact q3.ris, by rw [d2]; exact q3.dm, by rw [p2]; exact q3.sz, by rw [m2]; exact q3.mok, by rw [p2, m2]; exact q3.bd, by rw [p2, m2]; exact q3.reach⟩
      have ld2 : w.params.followText "set-order" = true ∨ t2.led = true := by rw [l2, q5]; exact R.led
      have f2 : t2.fill = L.length + 1 := by
        have := q9
        unfold SetTable.fill at this ⊢
        rw [p2, d2, this, List.length_map]
      refine wpAny_bind (wpAny_storeSet_of ho hd ?_ (by rw [hes, sizeLine_eq]; omega))
      have sb : Heap.SameBut a s.heap (s.heap.update a (Obj.putSet es1 t2)) := Heap.SameBut.update ..
      have ho1 := store_at (es' := es1) (t' := t2) ho hd
      generalize s.heap.update a (Obj.putSet es1 t2) = h1 at sb ho1 ⊢
      by_cases hf : t2.tooFull = true
      · refine wp_if_pos (by simp [hf]) (wpAny_bind ?_)
        have hfull : (L.length + 1) * 5 ≥ t2.mask * 3 := by
          have h := hf
          unfold SetTable.tooFull at h
          rw [decide_eq_true_eq, f2] at h
          exact h
        rw [m2, q4] at hfull
        rw [hsl]
        have go : ∀ M, SetTable.sizeAbove (SetTable.grown (L.length + 1)) - 1 = M → MaskOk M → SetTable.sizeAbove (SetTable.grown (L.length + 1)) ≤ 128 → (L.length + 1) * 5 < M * 3 → L.length + 1 ≤ t.mask →
            wpAny (model P w) A (setRelay a (SetTable.grown (L.length + 1))) (fun _ s' => wpAny (model P w) A (pure true) Q E s') E { s with heap := h1 } := fun M h1' h2' h3' h4' h5' =>
          tbl_relay (s := { s with heap := h1 }) ho1 ⟨hex.1, hex.2.1, hex.2.2⟩ rfl hin T2 (by rw [hlen, m2, q4]; exact h5') nd1 ld2 (by rw [hlen]; exact hfew) h1' h2' h3' (by rw [hlen]; exact h4')
            fun h2 L2 es2 ep2 t2 sb2 R2 pm2 => wpAny_pure (hQ true h2 L2 es2 ep2 t2 (sb.trans sb2) R2 (.inr ⟨hm, pm2.trans pm⟩))
        rcases R.tab.mok with e | e | e
        · rw [e] at hfull hroom
          have e2 : L.length = 4 := by omega
          exact go 31 (by rw [e2, size_20]) (.inr (.inl rfl)) (by rw [e2, size_20]; decide) (by omega) (by omega)
        · rw [e] at hfull hroom
          have e2 : L.length = 18 := by omega
          exact go 127 (by rw [e2, size_76]) (.inr (.inr rfl)) (by rw [e2, size_76]; decide) (by omega) (by omega)
        · rw [e] at hfull hroom
          omega
      · refine wp_if_neg (by simp [hf]) ?_
        try refine wpAny_bind (wpAny_pure ?_)
        refine wpAny_pure (hQ true h1 L1 es1 (ep + 1) t2 sb ⟨⟨_, ho1, ⟨hex.1, hex.2.1, hex.2.2⟩, rfl⟩, hin, T2, nd1, ld2, ?_, by rw [hlen]; exact hfew⟩ (.inr ⟨hm, pm⟩))
        have h := hf
        unfold SetTable.tooFull at h
        rw [decide_eq_true_eq, f2] at h
        rw [hlen]
        omega
    by_cases hp1 : t1.plain = true
    · refine wp_if_pos hp1 (wpAny_bind (flat_byval hx fun c => ?_))
      cases c with
      | true => exact rest t1 rfl rfl rfl rfl
      | false => exact rest { t1 with plain := false } rfl rfl rfl rfl
    · refine wp_if_neg hp1 (wpAny_bind (wpAny_pure ?_))
      exact rest t1 rfl rfl rfl rfl
end
end L2.Fn
/-! TSet3: a set of flat tuples as a tracked thing; {elt for .. for ..}; sorted of it. -/
namespace L2.Fn
open PySem PySem.Spec PyProof.Rows
/-- the set at a -/
def setφ (w : World) (a : Addr) (L : List EN) : Heap → Prop := fun h => ∃ es ep t, Tbl w h a L es ep t
def setN (w : World) (a : Addr) (L : List EN) : HO := .ext (setφ w a L)
theorem setN_new {P : Program} {w : World} {H : Hp} {h : Heap} {a : Addr} {L : List EN} {es : Array (Int × Value)} {ep : Nat} {t : SetTable} (R : Tbl w h a L es ep t) : ObjOk P w H h a (setN w a L) := by
  refine ⟨⟨es, ep, t, R⟩, let ⟨o, ho, _⟩ := R.ob; ⟨o, ho⟩, fun h1 h2 ⟨es, ep, t, p⟩ k => ⟨es, ep, t, ?_, p.rows, p.tab, p.nd, p.led, p.room, p.few⟩⟩
  obtain ⟨o, ho, r⟩ := p.ob
  exact ⟨o, k o ho, r⟩
/-- flat tuples, as tracked -/
def FlatV (H : Hp) (k : NK) (b : Addr) : Prop := IsNK H k (.ref b) ∧ k.dep ≤ 1
def FlatVs (H : Hp) (L : List EN) : Prop := ∀ p ∈ L, FlatV H p.2 p.1
section
variable {P : Program} {w : World} {A : Around} {E : Value → Shared → Prop} {s : Shared} {a : Addr} {L : List EN} {es : Array (Int × Value)} {ep : Nat} {t : SetTable}
theorem Tbl.ty (R : Tbl w s.heap a L es ep t) : s.TypeIs (.ref a) "set" := let ⟨o, ho, hc, _⟩ := R.ob; ⟨o, ho, hc.1⟩
theorem tbl_add_call (R : Tbl w s.heap a L es ep t) (hL : ∀ p ∈ L, FlatK s.heap p.2 p.1) {x : Addr} {k : NK} (hx : FlatK s.heap k x) (hu : A.units + 10 < cLine) (hfew : L.length + 1 < 64) {Q : Value → Shared → Prop}
    (hQ : ∀ h' L' es' ep' t', Heap.SameBut a s.heap h' → Tbl w h' a L' es' ep' t' → Added L L' x k → ∀ tk, Q .none { s with heap := h', toks := tk }) :
    wpAny (model P w) A (call (.builtin "set.add") [.ref a, .ref x]) Q E s := by
  refine wpAny_call_entry F.slot_set_add R.ty F.entry_set_add ?_ (F.args_set_add_2 _ _)
  unfold Builtin.«set.add» Builtin.Frozenset.oneOther
  simp only [List.isEmpty_nil, bind_assoc]
  unfold Builtin.Frozenset.addrOf setAdd
  refine wpAny_bind (wpAny_pure ?_)
  try dsimp only
  refine wpAny_bind (wpAny_pure ?_)
  try dsimp only
  refine wpAny_bind (wpAny_holding (wpAny_bind (tree_hash 1 k _ _ _ _ _ hx.2 (show A.units + 1 + 1 < cLine by omega) hx.1 ?_)))
  refine tbl_add (s := { s with toks := s.toks + k.draws }) R hL hx (show A.units + 1 + 1 < cLine by omega) hfew fun b h' L' es' ep' t' sb R' ad => ?_
  show wpAny _ _ (ret Value.none) _ _ _
  exact wpAny_pure ⟨_, rfl, hQ h' L' es' ep' t' sb R' ad _⟩
end
theorem flatV_at {P : Program} {w : World} {H : Hp} {h : Heap} {k : NK} {b : Addr} (hok : HOk P w H h) (x : FlatV H k b) : FlatK h k b := ⟨x.1.tree hok rfl, x.2⟩
section
variable {X : Cx} {pins : List (Addr × Obj)} {σ : St} {H : Hp} {s : Shared}
theorem addN_ok {E : Value → Shared → Prop} {D : Addr} {L : List EN} {b : Addr} {k : NK} {Q : Value → Shared → Prop} (hu : X.A.units + 10 < cLine) (I : Inv X pins σ H s) (hD : H D = some (setN X.w D L)) (hL : FlatVs H L) (hx : FlatV H k b) (room : L.length + 1 < 64)
    (h : ∀ L', Added L L' b k → ∀ s', Inv X pins σ (upd H D (setN X.w D L')) s' → Q .none s') : wpAny (model X.prog X.w) X.A (call (.builtin "set.add") [.ref D, .ref b]) Q E s := by
  obtain ⟨⟨es, ep, t, R⟩, _⟩ := I.hok D _ hD
  refine tbl_add_call R (fun p hp => flatV_at I.hok (hL p hp)) (flatV_at I.hok hx) hu room fun h' L' es' ep' t' sb R' ad tk => ?_
  have he : ∃ u, h'.get? D = some u := let ⟨o, ho, _⟩ := R'.ob; ⟨o, ho⟩
  exact h L' ad _ (I.write (e := D) (t' := tk) (by rw [hD]; trivial) (.inl rfl) (fun b u hb hu => (sb.2 b hb).trans hu) he (setN_new R'))
end

/-! ### the comprehension of two fors -/
section
variable {prog : Program} {w : World} {A : Around} {R : Result → Shared → Prop} {s : Shared} {elt t0 i0 t1 i1 : Expr} {ifs0 ifs1 : List Expr} {scope : Scope} {pos : Pos} {it acc : Value} {env : Env}
abbrev sc2 (elt t0 i0 t1 i1 : Expr) (ifs0 ifs1 : List Expr) (scope : Scope) (pos : Pos) : Expr := .SetComp elt [⟨t0, i0, ifs0, 0⟩, ⟨t1, i1, ifs1, 0⟩] scope pos
abbrev allOf (ifs : List Expr) (env : Env) : Sem Bool := forIn ifs true fun c r => if r = true then do let ok ← isTrue c env (eval c env); pure (ForInStep.yield ok) else pure (ForInStep.yield r)
theorem turnS_out : compTurn (sc2 elt t0 i0 t1 i1 ifs0 ifs1 scope pos) 0 it acc env = (do
      standAt i0.pos
      match ← pyNext it with
      | none => pure (.done .next)
      | some v =>
        letOwnedTupleGo t0 it v
        assign t0 env v
        let ok ← allOf ifs0 env
        if ok then
          let x ← eval i1 env
          standAt i1.pos
          let x ← foldedSetIterable i1 env x
          let _ ← runOwn (.compStart (sc2 elt t0 i0 t1 i1 ifs0 ifs1 scope pos) 1 (← holding [x] (pyIter x)) acc env) env
        again (.compLoop (sc2 elt t0 i0 t1 i1 ifs0 ifs1 scope pos) 0 it acc env)) := by rfl
theorem turnS_in : compTurn (sc2 elt t0 i0 t1 i1 ifs0 ifs1 scope pos) 1 it acc env = (do
      standAt i1.pos
      match ← pyNext it with
      | none => pure (.done .next)
      | some v =>
        letOwnedTupleGo t1 it v
        assign t1 env v
        let ok ← allOf ifs1 env
        if ok then
          (do let v ← eval elt env; standAt elt.pos; let _ ← call (.builtin "set.add") [acc, v])
        again (.compLoop (sc2 elt t0 i0 t1 i1 ifs0 ifs1 scope pos) 1 it acc env)) := by rfl
theorem loopS_out (hs : ∀ x, foldedSetIterable i1 env x = pure x) (I : Nat → Shared → Prop)
    (turn : ∀ n s, I n s → wpAny (model prog w) A (pyNext it) (fun r s₁ => match r with
      | none => R (.ok .next) s₁
      | some v => wpAny (model prog w) A (letOwnedTupleGo t0 it v) (fun _ s₁' => wpAny (model prog w) A (assign t0 env v) (fun _ s₂ =>
          wpAny (model prog w) A (allOf ifs0 env) (fun ok s₃ =>
            if ok = true then wpAny (model prog w) A (eval i1 env) (fun x s₄ => wpAny (model prog w) A (pyIter x) (fun it1 s₅ =>
              codeAny (model prog w) A (.compStart (sc2 elt t0 i0 t1 i1 ifs0 ifs1 scope pos) 1 it1 acc env) (fun r s' => match r with
                | .ok _ => ∃ m, m < n ∧ I m s'
                | .error _ => False) s₅) (notedBy (model prog w) A env fun e s' => R (.error e) s') s₄) (notedBy (model prog w) A env fun e s' => R (.error e) s') s₃
            else ∃ m, m < n ∧ I m s₃) (notedBy (model prog w) A env fun e s' => R (.error e) s') s₂) (notedBy (model prog w) A env fun e s' => R (.error e) s') s₁') (notedBy (model prog w) A env fun e s' => R (.error e) s') s₁) (notedBy (model prog w) A env fun e s' => R (.error e) s') s)
    (n : Nat) (h : I n s) : codeAny (model prog w) A (.compLoop (sc2 elt t0 i0 t1 i1 ifs0 ifs1 scope pos) 0 it acc env) R s := by
  refine codeAny_loop rfl I (fun n s hI => ?_) n h
  show wpAny _ A ((compTurn (sc2 elt t0 i0 t1 i1 ifs0 ifs1 scope pos) 0 it acc env).onRaise (fun x => do noteFrame x env; theTreesLotGoes x)) _ _ s
  refine wpAny_noted ?_
  rw [turnS_out]
  refine wpAny_bind (wpAny_standAt (wpAny_bind (wpAny_mono (turn n s hI) (fun r s₁ h₁ => ?_) fun _ _ h' => h')))
  cases r with
  | none => exact wpAny_pure h₁
  | some v =>
    refine wpAny_bind (wpAny_mono h₁ (fun _ s₁' h₁' => wpAny_bind (wpAny_mono h₁' (fun _ s₂ h₂ => wpAny_bind (wpAny_mono h₂ (fun ok s₃ h₃ => ?_) fun _ _ h' => h')) fun _ _ h' => h')) fun _ _ h' => h')
    cases ok with
    | false => exact wpAny_pure ⟨rfl, h₃⟩
    | true =>
      refine wpAny_bind (wpAny_mono h₃ (fun x s₄ h₄ => wpAny_bind (wpAny_standAt (wpAny_bind (wpAny_of_eq (hs x) (wpAny_bind (wpAny_holding (wpAny_mono h₄ (fun it1 s₅ h₅ => wpAny_bind (wpAny_runOwn ?_)) fun _ _ h' => h'))))))) fun _ _ h' => h')
      rw [Around.mark_none]
      refine codeAny_mono h₅ fun r s' hr => ?_
      cases r with
      | ok f =>
        first
          | exact wpAny_pure ⟨rfl, hr⟩
          | exact wpAny_bind (wpAny_pure (wpAny_pure ⟨rfl, hr⟩))
      | error e => exact hr.elim
theorem loopS_in (I : Nat → Shared → Prop)
    (turn : ∀ n s, I n s → wpAny (model prog w) A (pyNext it) (fun r s₁ => match r with
      | none => R (.ok .next) s₁
      | some v => wpAny (model prog w) A (letOwnedTupleGo t1 it v) (fun _ s₁' => wpAny (model prog w) A (assign t1 env v) (fun _ s₂ =>
          wpAny (model prog w) A (allOf ifs1 env) (fun ok s₃ =>
            if ok = true then wpAny (model prog w) A (eval elt env) (fun x s₄ =>
              wpAny (model prog w) A (call (.builtin "set.add") [acc, x]) (fun _ s₅ => ∃ m, m < n ∧ I m s₅) (notedBy (model prog w) A env fun e s' => R (.error e) s') s₄) (notedBy (model prog w) A env fun e s' => R (.error e) s') s₃
            else ∃ m, m < n ∧ I m s₃) (notedBy (model prog w) A env fun e s' => R (.error e) s') s₂) (notedBy (model prog w) A env fun e s' => R (.error e) s') s₁') (notedBy (model prog w) A env fun e s' => R (.error e) s') s₁) (notedBy (model prog w) A env fun e s' => R (.error e) s') s)
    (n : Nat) (h : I n s) : codeAny (model prog w) A (.compLoop (sc2 elt t0 i0 t1 i1 ifs0 ifs1 scope pos) 1 it acc env) R s := by
  refine codeAny_loop rfl I (fun n s hI => ?_) n h
  show wpAny _ A ((compTurn (sc2 elt t0 i0 t1 i1 ifs0 ifs1 scope pos) 1 it acc env).onRaise (fun x => do noteFrame x env; theTreesLotGoes x)) _ _ s
  refine wpAny_noted ?_
  rw [turnS_in]
  refine wpAny_bind (wpAny_standAt (wpAny_bind (wpAny_mono (turn n s hI) (fun r s₁ h₁ => ?_) fun _ _ h' => h')))
  cases r with
  | none => exact wpAny_pure h₁
  | some v =>
    refine wpAny_bind (wpAny_mono h₁ (fun _ s₁' h₁' => wpAny_bind (wpAny_mono h₁' (fun _ s₂ h₂ => wpAny_bind (wpAny_mono h₂ (fun ok s₃ h₃ => ?_) fun _ _ h' => h')) fun _ _ h' => h')) fun _ _ h' => h')
    cases ok with
    | false => exact wpAny_pure ⟨rfl, h₃⟩
    | true => exact wpAny_bind (wpAny_bind (wpAny_mono h₃ (fun x s₄ h₄ => wpAny_bind (wpAny_standAt (wpAny_bind (wpAny_mono h₄ (fun _ s₅ h₅ => wpAny_pure (wpAny_pure ⟨rfl, h₅⟩)) fun _ _ h' => h')))) fun _ _ h' => h'))
theorem startS_in (h0 : codeAny (model prog w) A (.compLoop (sc2 elt t0 i0 t1 i1 ifs0 ifs1 scope pos) 1 it acc env) R s)
    (h : wpAny (model prog w) A (pyIter it) (fun it' s' => codeAny (model prog w) A (.compLoop (sc2 elt t0 i0 t1 i1 ifs0 ifs1 scope pos) 1 it' acc env) R s') (notedBy (model prog w) A env fun x s' => R (.error x) s') s) :
    codeAny (model prog w) A (.compStart (sc2 elt t0 i0 t1 i1 ifs0 ifs1 scope pos) 1 it acc env) R s := by
  refine codeAny_of_tree ?_
  show wpAny _ _ ((compStart (sc2 elt t0 i0 t1 i1 ifs0 ifs1 scope pos) 1 it acc env).onRaise (fun x => do noteFrame x env; standAt theWindowsPlace)) _ _ s
  refine wpAny_notedAt ?_
  unfold compStart
  show wpAny _ _ (ask >>= _) _ _ s
  refine wpAny_bind (wpAny_askSetting (wpAny_ite ?_))
  split
  · first
      | exact wpAny_bind (wpAny_pure (wpAny_pure (And.intro rfl h0)))
      | exact wpAny_pure (And.intro rfl h0)
  · first
      | exact wpAny_bind (wpAny_rule (wpAny_bind (wpAny_standAt (wpAny_bind (wpAny_mono h (fun it' s' h' => wpAny_pure (And.intro rfl h')) fun _ _ x => x)))))
      | (refine wpAny_bind (wpAny_rule ?_); show wpAny _ _ (standAt i1.pos >>= _) _ _ s; exact wpAny_bind (wpAny_standAt (wpAny_bind (wpAny_mono h (fun it' s' h' => wpAny_pure (And.intro rfl h')) fun _ _ x => x))))
end
end L2.Fn
/-! TSet4: {elt for tg in iter if .. for tg1 in iter1 if ..} as a value. -/
namespace L2.Fn
open PySem PySem.Spec PyProof.Rows
/-- Dd: the new set; behind the first clause's store and tests the second source's loop, from which Nx is reached -/
def tSc2 (w : World) (wi : TI) (g : TG) (tt : TT) (wi1 : TI) (g1 : TG) (tt1 : TT) (te : TE) (vs vs1 : List Nat) : TE := fun σ H Q => wi σ H fun J H1 => ∀ D, H1 D = none → ∃ W : Nat → Nat → Hp → Prop, (∃ m, W 0 m (upd H1 D (setN w D []))) ∧ ∀ i m H, W i m H →
  (J.stop i H ∧ Q (.ref D) H) ∨ (J.go i H ∧ ∃ Nx : Hp → Prop, (∀ H', Nx H' → ∃ m', m' < m ∧ W (i + 1) m' H') ∧ ∀ x H', J.yld i H x H' → g x (wipe σ vs) H' fun σ2 H2 => wipe σ2 vs = wipe σ vs ∧ tt σ2 H2 fun b H3 =>
    if b = true then wi1 σ2 H3 fun J1 H4 => ∃ W1 : Nat → Nat → Hp → Prop, (∃ m, W1 0 m H4) ∧ ∀ j k H, W1 j k H →
      (J1.stop j H ∧ Nx H) ∨ (J1.go j H ∧ ∃ Nx1 : Hp → Prop, (∀ H', Nx1 H' → ∃ k', k' < k ∧ W1 (j + 1) k' H') ∧ ∀ x H', J1.yld j H x H' → g1 x (wipe σ2 vs1) H' fun σ3 H5 => wipe σ3 vs1 = wipe σ2 vs1 ∧ tt1 σ3 H5 fun b H6 =>
        if b = true then te σ3 H6 fun y H7 => ∃ (L : List EN) (c : Addr) (k : NK), y = .ref c ∧ H7 D = some (setN w D L) ∧ FlatVs H7 L ∧ FlatV H7 k c ∧ L.length + 1 < 64 ∧ ∀ L', Added L L' c k → Nx1 (upd H7 D (setN w D L')) else Nx1 H6)
    else Nx H3)
section
variable {X : Cx} {elt tg iter tg1 iter1 : Expr} {ifs ifs1 : List Expr} {sc : Scope} {own : List (Str × Nat)} {vs1 : List Nat} {pos pos' : Pos} {wi wi1 : TI} {g g1 : TG} {tt tt1 : TT} {te : TE}
theorem sc2_run {pins : List (Addr × Obj)} {s : Shared} {σ : St} {H : Hp} {Q : VK} {use : Option (Value → Sem Unit)} {Qf : Value → Shared → Prop} (hu : X.A.units + 10 < cLine)
    (hc : X.calm = true) (hN : X.N.Nodup) (I : Inv X pins σ H s) (hi : PI X tg iter wi) (ok : BlkOk X.N X.env.scope sc own) (hv : ∀ i ∈ vs1, i ∈ own.map (·.2))
    (hg : InBlk X sc fun Y => PG Y tg g) (ht : InBlk X sc fun Y => PTs Y ifs tt) (hi1 : InBlk X sc fun Y => PI Y tg1 iter1 wi1) (hg1 : InBlk X sc fun Y => PG Y tg1 g1) (ht1 : InBlk X sc fun Y => PTs Y ifs1 tt1) (he : InBlk X sc fun Y => PE Y elt te)
    (hs : ∀ x, foldedSetIterable iter X.env x = pure x) (hs1 : ∀ env x, foldedSetIterable iter1 env x = pure x) (h : tSc2 X.w wi g tt wi1 g1 tt1 te (own.map (·.2)) vs1 σ H Q)
    (fin : ∀ D C s' m H', Inv X pins σ H' s' → Q (.ref D) H' → s'.heap.Ns C m → FpOk X pins H' C → compPost (model X.prog X.w) X.A X.xe use Qf (.ref D) C (.ok .next) s') :
    wpAny (model X.prog X.w) X.A (comprehension (sc2 elt tg iter tg1 iter1 ifs ifs1 sc pos) sc X.env pos' (newSet (.type "set")) false (eval iter X.env) use) Qf X.xe s := by
  have cap : ∀ y ∈ sc.names, y.2 = .free → ∃ c, X.env.cells.lookup y.1 = some c := fun y hy e => (ok.free y hy e).elim (fun k => I.ok.has _ (.inl k)) fun k => I.ok.has _ (.inr k)
  refine wpAny_comprehension_free (use := use) rfl hs (closure_ok cap) ok.kind (fun y hy e => by rw [ok.uniq y hy, e]) (thn (hi.run pins s σ H _ I h) fun xv sa hx => thn hx fun itv sb hb => ?_)
  obtain ⟨it, fp, tn, J, Hb, rfl, Ib, TJ, stb, fpb, q⟩ := hb
  refine PpSet.newSet_ok (newEnv_comp ?_)
  obtain ⟨D, hD⟩ : ∃ D, D = sb.heap.objs.size := ⟨_, rfl⟩
  obtain ⟨W, ⟨m0, w0⟩, turn⟩ := q D (Ib.hok.fresh (Nat.le_of_eq hD.symm))
  rw [← hD]
  obtain ⟨so, eso⟩ : ∃ so : Obj, so = { cls := .type "set", dict := none, data := .set #[] 0 (.fresh 0 0 (!X.w.params.followText "set-order")) } := ⟨_, rfl⟩
  rw [← eso]
  obtain ⟨s3, hs3⟩ : ∃ s3 : Shared, s3 = { sb with heap := sb.heap.push so } := ⟨_, rfl⟩
  have h3 : s3.heap = sb.heap.push so := by rw [hs3]
  obtain ⟨H3, hH3⟩ : ∃ H3, H3 = upd Hb D (setN X.w D []) := ⟨_, rfl⟩
  have I3 : Inv X pins σ H3 s3 := by
    rw [hs3, hH3]
    refine Ib.laid (t' := sb.toks) (fun b o e => Heap.get?_push_of_some _ e) (Nat.le_of_eq hD.symm) (setN_new (es := #[]) (ep := 0) (t := .fresh 0 0 (!X.w.params.followText "set-order")) ⟨⟨so, by rw [hD]; exact Heap.get?_push_size _ (by rw [eso]; rfl), by rw [eso]; exact ⟨rfl, rfl, rfl⟩, by rw [eso]⟩, rfl, ?_, List.nodup_nil, ?_, ?_, ?_⟩)
    · exact ⟨List.Pairwise.nil, rfl, rfl, .inl rfl, fun x hx => (nomatch hx), fun i h j hi => by simp at hi⟩
    · show _ ∨ (!X.w.params.followText "set-order") = true
      cases X.w.params.followText "set-order"
      · exact .inr rfl
      · exact .inl rfl
    · show 0 * 5 < 7 * 3
      decide
    · exact Nat.zero_lt_succ _
  have fp3 : ∀ b ∈ fp, FpOk X pins H3 b ∧ b < s3.heap.objs.size := fun b hb => by
    obtain ⟨o, e, _⟩ := TJ.obj _ _ stb b hb
    have lt : b < sb.heap.objs.size := Heap.lt_size e
    refine ⟨⟨?_, (fpb b hb).2⟩, by rw [h3, Heap.size_push]; exact Nat.lt_succ_of_lt lt⟩
    rw [hH3, upd_ne (by rw [hD]; exact Nat.ne_of_lt lt)]
    exact (fpb b hb).1
  have st3 : tn 0 s3.heap := TJ.keep _ _ _ stb fun b _ o e => by rw [h3]; exact Heap.get?_push_of_some _ e
  have I4 := block_start I3 ok hN fp3
  have at_ := fun {p : Cx → Prop} (f : InBlk X sc p) => f s3 H3 s3.heap.objs.size (cellsFrom (s3.heap.objs.size + 1) sc.names (cloFrom X.env.cells sc.names [])) fp
  have pg := at_ hg
  have pt := at_ ht
  have pe := at_ he
  have pi1 := at_ hi1
  have pg1 := at_ hg1
  have pt1 := at_ ht1
  rw [← hH3] at w0
  show codeAny _ _ (.compStart (sc2 elt tg iter tg1 iter1 ifs ifs1 sc pos) 0 (.ref it) (.ref D) (compEnvC sc (cellsFrom ((sb.heap.push so).objs.size + 1) sc.names (cloFrom X.env.cells sc.names [])) (sb.heap.push so).objs.size X.env)) (compPost (model X.prog X.w) X.A X.xe use Qf (.ref D) (sb.heap.push so).objs.size)
    { sb with heap := pushCells ((sb.heap.push so).push { cls := .type "dict", data := .dict #[] }) sc.names }
  rw [← h3, show ({ sb with heap := pushCells (s3.heap.push { cls := .type "dict", data := .dict #[] }) sc.names } : Shared) = { s3 with heap := pushCells (s3.heap.push { cls := .type "dict", data := .dict #[] }) sc.names } by rw [hs3]]
  have nfp : ∀ b ∈ fp, H3 b = none := fun b hb => (fp3 b hb).1.1
  generalize hce : compEnvC sc (cellsFrom (s3.heap.objs.size + 1) sc.names (cloFrom X.env.cells sc.names [])) s3.heap.objs.size X.env = ce at I4 pg pt pe pi1 pg1 pt1 ⊢
  have cL : ce.locals = s3.heap.objs.size := by subst hce; rfl
  generalize hs4 : ({ s3 with heap := pushCells (s3.heap.push { cls := .type "dict", data := .dict #[] }) sc.names } : Shared) = s4 at I4 ⊢
  have st4 : tn 0 s4.heap := TJ.keep _ _ _ st3 fun b _ o e => by rw [← hs4]; exact pushCells_keeps _ _ _ _ (Heap.get?_push_of_some _ e)
  have stat : ∀ {σ' : St} {H' : Hp} {s' : Shared}, Inv (X.blk s3 H3 sc ce fp) [] σ' H' s' → (∀ b ∈ fp, H' b = none) → ∀ b ∈ fp, FpOk (X.blk s3 H3 sc ce fp) [] H' b := fun I' hn b hb =>
    ⟨hn b hb, (I'.ok.exf b hb).1, I'.ok.exfs b hb, .inl hb, fun x c e => (I'.ok.exf b hb).2 x c e, fun p hp => absurd (show p ∈ ([] : List (Addr × Obj)) ++ [] from hp) (by simp)⟩
  -- the outer loop
  have loop : codeAny (model X.prog X.w) X.A (.compLoop (sc2 elt tg iter tg1 iter1 ifs ifs1 sc pos) 0 (.ref it) (.ref D) ce) (compPost (model X.prog X.w) X.A X.xe use Qf (.ref D) s3.heap.objs.size) s4 := by
    refine loopS_out (hs1 ce) (fun n s' => ∃ i H', Inv (X.blk s3 H3 sc ce fp) [] (wipe σ (own.map (·.2))) H' s' ∧ tn i s'.heap ∧ (∀ b ∈ fp, H' b = none) ∧ W i n H') ?_ m0 ⟨0, H3, I4, st4, nfp, w0⟩
    rintro n s5 ⟨i, H5, I5, st5, n5, w5⟩
    rcases turn i n H5 w5 with ⟨stop, qq⟩ | ⟨go, Nx, hNx, step⟩
    · refine thnF (TJ.done (X.blk s3 H3 sc ce fp) rfl rfl rfl hc i [] s5 _ H5 (fun _ _ => False) I5 (stat I5 n5) st5 stop) fun r s6 ⟨hr, I6⟩ => ?_
      subst hr
      have I7 : Inv X pins σ H5 s6 := I3.call' (ch := fp) I6.os I6.base I6.hok I6.bare fun b hb => let z := (fp3 b hb).1.2; ⟨z.2.2.1, z.1, z.2.2.2.1, z.2.2.2.2⟩
      have nC : H5 s3.heap.objs.size = none := cL ▸ (show H5 ce.locals = none from I6.free)
      obtain ⟨m, hn, _⟩ := I6.loc
      exact fin D s3.heap.objs.size s6 m H5 I7 qq (cL ▸ (show s6.heap.Ns ce.locals m from hn)) (I3.fpOk (Nat.le_refl _) nC)
    · refine thnF (TJ.item (X.blk s3 H3 sc ce fp) rfl rfl rfl hc i [] s5 _ H5 (fun _ _ => False) I5 (stat I5 n5) st5 go) fun r s6 ⟨u, hr, h6⟩ => ?_
      subst hr
      refine thnF h6 fun _ s7 ⟨x, H7, I7, r7, y7, st7, n7⟩ => ?_
      refine thnF (pg.run _ s7 _ H7 x u _ (I7.pinned (stat I7 n7) (TJ.obj _ _ st7)) r7 (step x H7 y7)) fun _ s8 ⟨σ8, H8, I8, hw8, q8⟩ => ?_
      refine thnF (pt.run _ s8 σ8 H8 _ I8 q8) fun b s9 ⟨H9, I9, q9⟩ => ?_
      have back : ∀ {σ9 : St} {s' : Shared} {H' : Hp}, Inv (X.blk s3 H3 sc ce fp) ([] ++ pinsAt fp s7.heap) σ9 H' s' → (wipe σ (own.map (·.2))).length = σ9.length → (∀ (j : Nat) v, (wipe σ (own.map (·.2)))[j]? = some (some v) → σ9[j]? = some (some v)) → Nx H' →
          ∃ m, m < n ∧ ∃ i H', Inv (X.blk s3 H3 sc ce fp) [] (wipe σ (own.map (·.2))) H' s' ∧ tn i s'.heap ∧ (∀ b ∈ fp, H' b = none) ∧ W i m H' := fun {σ9 s' H'} I' hl hk nx => by
        obtain ⟨m', hm, w'⟩ := hNx H' nx
        have pin' : ∀ b ∈ fp, ∀ o, s7.heap.get? b = some o → s'.heap.get? b = some o ∧ H' b = none := fun b hb o e => by
          have z := I'.pin (b, o) (List.mem_append_right _ (List.mem_append_right _ (mem_pinsAt hb e)))
          exact ⟨z.1, z.2.1⟩
        exact ⟨m', hm, i + 1, H', (I'.unpinned (pins := [])).weak hl hk, TJ.keep _ _ _ st7 fun b hb o e => (pin' b hb o e).1, fun b hb => let ⟨o, e, _⟩ := TJ.obj _ _ st7 b hb; (pin' b hb o e).2, w'⟩
      have hl8 : (wipe σ (own.map (·.2))).length = σ8.length := by rw [← hw8, wipe_length]
      have hk8 : ∀ (j : Nat) v, (wipe σ (own.map (·.2)))[j]? = some (some v) → σ8[j]? = some (some v) := fun j v e => (wipe_some (hw8 ▸ e)).1
      cases b with
      | false =>
        simp only [Bool.false_eq_true, if_false] at q9 ⊢
        exact back I9 hl8 hk8 q9
      | true =>
        simp only [if_true] at q9 ⊢
        refine thnF (pi1.run _ s9 σ8 H9 _ I9 q9) fun xv s10 hx => thnF hx fun itv s11 h11 => ?_
        obtain ⟨it1, fp1, tn1, J1, H11, rfl, I11, T1, st11, f11, W1, ⟨m1, w1⟩, turn1⟩ := h11
        have stat1 : ∀ {H' : Hp}, (∀ b ∈ fp1, H' b = none) → ∀ b ∈ fp1, FpOk (X.blk s3 H3 sc ce fp) ([] ++ pinsAt fp s7.heap) H' b := fun hn b hb => ⟨hn b hb, (f11 b hb).2⟩
        -- the inner loop
        have loop1 : codeAny (model X.prog X.w) X.A (.compLoop (sc2 elt tg iter tg1 iter1 ifs ifs1 sc pos) 1 (.ref it1) (.ref D) ce)
            (fun r s' => match r with
              | .ok _ => ∃ m, m < n ∧ ∃ i H', Inv (X.blk s3 H3 sc ce fp) [] (wipe σ (own.map (·.2))) H' s' ∧ tn i s'.heap ∧ (∀ b ∈ fp, H' b = none) ∧ W i m H'
              | .error _ => False) s11 := by
          refine loopS_in (fun k s' => ∃ j H', Inv (X.blk s3 H3 sc ce fp) ([] ++ pinsAt fp s7.heap) (wipe σ8 vs1) H' s' ∧ tn1 j s'.heap ∧ (∀ b ∈ fp1, H' b = none) ∧ W1 j k H') ?_ m1 ⟨0, H11, I11.weak (wipe_length _ _) (fun j v e => (wipe_some e).1), st11, fun b hb => (f11 b hb).1, w1⟩
          rintro k s12 ⟨j, H12, I12, st12, n12, w12⟩
          rcases turn1 j k H12 w12 with ⟨stop1, nx1⟩ | ⟨go1, Nx1, hNx1, step1⟩
          · refine thnF (T1.done (X.blk s3 H3 sc ce fp) rfl rfl rfl hc j _ s12 (wipe σ8 vs1) H12 (fun _ _ => False) I12 (stat1 n12) st12 stop1) fun r s13 ⟨hr, I13⟩ => ?_
            subst hr
            refine back I13 (hl8.trans (wipe_length σ8 vs1).symm) (fun j v e => ?_) nx1
            rw [← hw8] at e
            obtain ⟨e1, e2⟩ := wipe_some e
            rw [wipe_out fun z => e2 (hv j z)]
            exact e1
          · refine thnF (T1.item (X.blk s3 H3 sc ce fp) rfl rfl rfl hc j _ s12 (wipe σ8 vs1) H12 (fun _ _ => False) I12 (stat1 n12) st12 go1) fun r s13 ⟨u1, hr, h13⟩ => ?_
            subst hr
            refine thnF h13 fun _ s14 ⟨x1, H14, I14, r14, y14, st14, n14⟩ => ?_
            refine thnF (pg1.run _ s14 (wipe σ8 vs1) H14 x1 u1 _ (I14.pinned (stat1 n14) (T1.obj _ _ st14)) r14 (step1 x1 H14 y14)) fun _ s15 ⟨σ15, H15, I15, hw15, q15⟩ => ?_
            refine thnF (pt1.run _ s15 σ15 H15 _ I15 q15) fun b1 s16 ⟨H16, I16, q16⟩ => ?_
            have back1 : ∀ {s' : Shared} {H' : Hp}, Inv (X.blk s3 H3 sc ce fp) (([] ++ pinsAt fp s7.heap) ++ pinsAt fp1 s14.heap) σ15 H' s' → Nx1 H' → ∃ m, m < k ∧ ∃ j H', Inv (X.blk s3 H3 sc ce fp) ([] ++ pinsAt fp s7.heap) (wipe σ8 vs1) H' s' ∧ tn1 j s'.heap ∧ (∀ b ∈ fp1, H' b = none) ∧ W1 j m H' := fun {s' H'} I' nx => by
              obtain ⟨m', hm, w'⟩ := hNx1 H' nx
              have pin' : ∀ b ∈ fp1, ∀ o, s14.heap.get? b = some o → s'.heap.get? b = some o ∧ H' b = none := fun b hb o e => by
                have z := I'.pin (b, o) (List.mem_append_right _ (List.mem_append_right _ (mem_pinsAt hb e)))
                exact ⟨z.1, z.2.1⟩
              exact ⟨m', hm, j + 1, H', I'.unpinned.weak (by rw [← hw15, wipe_length]) (fun j v e => (wipe_some (hw15 ▸ e)).1), T1.keep _ _ _ st14 fun b hb o e => (pin' b hb o e).1, fun b hb => let ⟨o, e, _⟩ := T1.obj _ _ st14 b hb; (pin' b hb o e).2, w'⟩
            cases b1 with
            | false =>
              simp only [Bool.false_eq_true, if_false] at q16 ⊢
              exact back1 I16 q16
            | true =>
              simp only [if_true] at q16 ⊢
              refine thnF (pe.run _ s16 σ15 H16 _ I16 q16) fun z s17 ⟨yv, H17, I17, r17, L, c, kk, ey, hD17, hL, hx, room, nx⟩ => ?_
              subst ey
              cases r17
              exact addN_ok (X := X.blk s3 H3 sc ce fp) hu I17 hD17 hL hx room fun L' ad s18 I18 => back1 I18 (nx L' ad)
        exact startS_in loop1 (T1.self X.A 0 _ _ _ st11 loop1)
  exact PpSet.codeAny_compStart_set loop (TJ.self X.A 0 _ _ _ st4 loop)
theorem pe_sc2 (hu : X.A.units + 10 < cLine) (hc : X.calm = true) (hN : X.N.Nodup) (hi : PI X tg iter wi) (ok : BlkOk X.N X.env.scope sc own) (hv : ∀ i ∈ vs1, i ∈ own.map (·.2))
    (hg : InBlk X sc fun Y => PG Y tg g) (ht : InBlk X sc fun Y => PTs Y ifs tt) (hi1 : InBlk X sc fun Y => PI Y tg1 iter1 wi1) (hg1 : InBlk X sc fun Y => PG Y tg1 g1) (ht1 : InBlk X sc fun Y => PTs Y ifs1 tt1) (he : InBlk X sc fun Y => PE Y elt te)
    (hs : ∀ x, foldedSetIterable iter X.env x = pure x := by intro _; rfl) (hs1 : ∀ env x, foldedSetIterable iter1 env x = pure x := by intro _ _; rfl) :
    PE X (sc2 elt tg iter tg1 iter1 ifs ifs1 sc pos) (tSc2 X.w wi g tt wi1 g1 tt1 te (own.map (·.2)) vs1) := by
  refine ⟨fun pins s σ H Q I h => ?_⟩
  show wpAny _ _ (eval (.SetComp elt [⟨tg, iter, ifs, 0⟩, ⟨tg1, iter1, ifs1, 0⟩] sc pos) X.env) _ _ s
  rw [PpSet.eval_SetComp]
  refine sc2_run hu hc hN I hi ok hv hg ht hi1 hg1 ht1 he hs hs1 h fun D C s' m H' I' q hn f => ⟨m, hn, fun h'' sb => ?_⟩
  obtain ⟨f0, f1, f2, f3, f4, f5⟩ := f
  exact ⟨.ref D, H', I'.turned (t' := s'.toks) (fun b o hb e => (sb.2 b hb).trans e) f0 f1 f3 f4 f5, rfl, q⟩
end
end L2.Fn
/-! TSet5: sorted of a set of flat tuples. -/
namespace L2.Fn
open PySem PySem.Spec PyProof.Rows
section
variable {X : Cx}
def rSortSN (w : World) : List V → Hp → VK → Prop := fun vs H Q => ∃ (a : Addr) (L : List EN), vs = [.ref a] ∧ H a = some (setN w a L) ∧ FlatVs H L ∧ (∀ x ∈ L, ∀ y ∈ L, Cm x.2 y.2 = true) ∧
  ∀ ys p, (L.map (·.2)).Nodup → ys.Perm (L.map fun x => V.ref x.1) → ys.Pairwise (fun x y => NK.lt (kN H y) (kN H x) = false) → H p = none → Q (.ref p) (upd H p (.lst ys))
theorem flat_t {H : Hp} {k : NK} {b : Addr} (h : FlatV H k b) : ∃ ks, k = .t ks := by
  obtain ⟨h, _⟩ := h
  cases h with
  | t p r => exact ⟨_, rfl⟩
theorem cr_sortedSN (hcalm : X.calm = true) (hu : X.A.units + 65 < cLine) : CallR X (.builtin "sorted") (rSortSN X.w) := by
  intro pins s σ H vs us Q I r h
  obtain ⟨a, L, rfl, hd, hL, hc, q⟩ := h
  obtain ⟨u, rfl, ru⟩ := vals1 r
  obtain rfl : u = Value.ref a := ru
  obtain ⟨⟨es, ep, t, R⟩, _⟩ := I.hok a _ hd
  obtain ⟨o, ho, hex, hdat⟩ := id R.ob
  have hfew := R.few
  refine Calls.call_function_entry PyProof.Rows.kind_sorted PyProof.Rows.plain_sorted PyProof.Rows.entry_sorted (PyProof.Rows.args_sorted1 _) ?_
  unfold Builtin.«sorted»
  refine wpAny_bind (m := checkCount "sorted" 1 1 _) (wpAny_pure ?_)
  refine wpAny_bind (collect_set (A := X.A.in1) (I.ok.hd hcalm) ⟨o, ho, hex.1, hdat⟩ R.fits (by rw [rows_len R.rows]; unfold scanBound; omega) R.tab.ris R.led fun s1 its kk hz hg hos pm => ?_)
  have I1 : Inv X pins σ H s1 := I.call' (ch := []) hos (Un.kept kk) (I.hok.kept kk) (by rw [hg]; exact I.bare) (fun _ z => nomatch z)
  have pm1 : its.Perm (L.map fun p => Value.ref p.1) := by
    have e : es.toList.map (·.2) = L.map fun p => Value.ref p.1 := by rw [R.rows, List.map_map] <;> rfl
    rw [← e]; exact pm
  have e2 : ∀ v ∈ its, ∃ t, v = Value.ref t := fun v hv => by
    obtain ⟨p, _, e⟩ := List.mem_map.mp (pm1.mem_iff.mp hv)
    exact ⟨_, e.symm⟩
  obtain ⟨xs, e1⟩ : ∃ xs, xs = its.map backV := ⟨_, rfl⟩
  have rv : Vals xs its := by rw [e1]; exact vals_back e2
  have pmx : xs.Perm (L.map fun p => V.ref p.1) := by
    have := pm1.map backV
    rw [List.map_map] at this
    rw [e1]; exact this
  have hzl : its.length ≤ sizeLine := by rw [pm1.length_eq, List.length_map, sizeLine_eq]; omega
  have hx' : ∀ x ∈ xs, ∃ y ∈ L, ∃ ks, IsNK H (.t ks) x ∧ y.2 = .t ks ∧ (NK.t ks).dep ≤ 8 := fun x m => by
    obtain ⟨y, hy, rfl⟩ := List.mem_map.mp (pmx.mem_iff.mp m)
    obtain ⟨ks, h1⟩ := flat_t (hL y hy)
    obtain ⟨h2, h3⟩ := hL y hy
    rw [h1] at h2 h3
    exact ⟨y, hy, ks, h2, h1, by omega⟩
  have hv : ∀ v ∈ its, ∃ ks, kN H (backV v) = .t ks ∧ (NK.t ks).dep ≤ 8 ∧ IsTree s1.heap (kN H (backV v)) v := fun v hm => by
    obtain ⟨t, rfl⟩ := e2 v hm
    have hm' : V.ref t ∈ xs := by rw [e1]; exact List.mem_map.mpr ⟨_, hm, rfl⟩
    obtain ⟨y, _, ks, h, _, h8⟩ := hx' _ hm'
    have e3 : kN H (backV (.ref t)) = .t ks := kN_at h
    rw [e3]
    exact ⟨ks, rfl, h8, h.tree I1.hok rfl⟩
  have hcm : ∀ v ∈ its, ∀ u ∈ its, Cm (kN H (backV v)) (kN H (backV u)) = true := fun v hm u hm2 => by
    obtain ⟨y, hy, ks, h, hk1, _⟩ := hx' (backV v) (by rw [e1]; exact List.mem_map.mpr ⟨_, hm, rfl⟩)
    obtain ⟨y2, hy2, ks2, h2, hk2, _⟩ := hx' (backV u) (by rw [e1]; exact List.mem_map.mpr ⟨_, hm2, rfl⟩)
    rw [kN_at h, kN_at h2, ← hk1, ← hk2]
    exact hc y hy y2 hy2
  refine wpAny_bind (wpAny_newList ?_ hzl)
  have hoL : (s1.heap.push (seqObj "list" its.toArray 0)).get? s1.heap.objs.size = some (seqObj "list" its.toArray 0) := Heap.get?_push_size _ rfl
  show wpAny _ _ _ _ _ { s1 with heap := s1.heap.push (seqObj "list" its.toArray 0) }
  refine wpAny_bind (wpAny_holding (wpAny_call_entry PyProof.Rows.slot_list_sort ⟨_, hoL, rfl⟩ PyProof.Rows.entry_list_sort
    (SrtO.list_sort_ord (s := { s1 with heap := s1.heap.push (seqObj "list" its.toArray 0) }) (ltv := fun v u => NK.lt (kN H (backV v)) (kN H (backV u))) (pk_swo fun v => (kN H (backV v)).enc) hoL hzl (fun h2 => ?_) fun out hs hb => ⟨_, rfl, ?_⟩)
    (PyProof.Rows.args_list_sort _)))
  · intro h2' keep
    have hv' : ∀ v ∈ its, ∃ ks, kN H (backV v) = .t ks ∧ (NK.t ks).dep ≤ 8 ∧ IsTree h2' (kN H (backV v)) v := fun v hm => by
      obtain ⟨ks, q1, q2, q3⟩ := hv v hm
      refine ⟨ks, q1, q2, q3.mono fun c items p => ?_⟩
      obtain ⟨o, ho, hcl, n, hd⟩ := p
      exact ⟨o, keep c o (Nat.ne_of_lt (Heap.lt_size ho)) (Heap.get?_push_of_some _ ho), hcl, n, hd⟩
    obtain ⟨κ, k1, k2⟩ := tree_kind (M := model X.prog X.w) (s := { s1 with heap := h2' }) (vs := its) fun v hm => by
      obtain ⟨ks, q1, q2, q3⟩ := hv' v hm
      exact ⟨ks, q1 ▸ q3⟩
    refine ⟨κ, fun Q E hq => k2 _ Q E hq, ?_⟩
    intro p q hp hq
    obtain ⟨ks1, p1, p2, p3⟩ := hv' _ hp
    obtain ⟨ks2, q1, q2, q3⟩ := hv' _ hq
    exact tree_keyLt (n := 8) k1 (show X.A.units + 1 + 1 + 8 + 2 < cLine by omega) (by rw [p1]; exact p2) (by rw [q1]; exact q2) ⟨_, p1⟩ ⟨_, q1⟩ p3 q3 (hcm _ hp _ hq) ⟨rfl, rfl⟩
  · have h3 : ∀ u ∈ out, ∃ a, u = Value.ref a := fun u hu => e2 u (hb.perm.mem_iff.mp hu)
    have hp : (out.map backV).Perm xs := by rw [e1]; exact hb.perm.map backV
    obtain ⟨e', he'⟩ := PyProof.Rows.sortedHeap_at (vs := its) (out := out.toArray) hoL
    have hlen : (out.map backV).length ≤ sizeLine := by rw [List.length_map, hb.perm.length_eq]; exact hzl
    refine wpAny_pure ⟨_, rfl, .ref s1.heap.objs.size, upd H s1.heap.objs.size (.lst (out.map backV)), I1.laid (t' := s1.toks) (fun b u e => ?_) (Nat.le_refl _)
      (show ObjOk X.prog X.w _ _ _ (.lst (out.map backV)) from ⟨hlen, out, e', vals_back h3, he'⟩), rfl, q _ _ R.nd (hp.trans pmx) (List.pairwise_map.mpr hs) (I1.hok.fresh (Nat.le_refl _))⟩
    have hb2 : b < s1.heap.objs.size := Heap.lt_size e
    rw [PyProof.Rows.sortedHeap_old (Nat.ne_of_lt hb2) (by rw [size_push']; exact Nat.lt_succ_of_lt hb2)]
    exact Heap.get?_push_of_some _ e
end
end L2.Fn
/-! Fn, part SC: sorted({elt for .. for ..}) of flat tuples. -/
namespace L2.Fn
open PySem PySem.Spec PyProof.Rows
def flatD (d : D) : Prop := ∃ ks, d.nk = some (.t ks) ∧ (NK.t ks).dep ≤ 1
def innerS (g1 : FG) (c1 : FT) (t : FE) (vs1 : List Nat) (ρ : Ev) (K : List D → Sto → Prop) : List D → List D → Sto → Prop
  | [], acc, S => K acc S
  | e :: es, acc, S => g1 (.dat e) (wipeE ρ vs1) fun ρ2 => c1 ρ2 S (fun b S2 => if b = true then t ρ2 S2 (fun m S3 => acc.length < 62 ∧ ∃ d, m = .dat d ∧ flatD d ∧ innerS g1 c1 t vs1 ρ K es (acc ++ [d]) S3) noX else innerS g1 c1 t vs1 ρ K es acc S2) noX
def compS (g : FG) (c : FT) (ti1 : FI) (g1 : FG) (c1 : FT) (t : FE) (vs vs1 : List Nat) (ρ : Ev) (Q : List D → Sto → Prop) : List D → List D → Sto → Prop
  | [], acc, S => Q acc S
  | d :: ds, acc, S => g (.dat d) (wipeE ρ vs) fun ρ1 => c ρ1 S (fun b S2 => if b = true then ti1 ρ1 S2 (fun es S3 => innerS g1 c1 t vs1 ρ1 (compS g c ti1 g1 c1 t vs vs1 ρ Q ds) es acc S3) noX else compS g c ti1 g1 c1 t vs vs1 ρ Q ds acc S2) noX
def oSortS (es : List D) (Q : M → Prop) : Prop := (∀ d ∈ es, ∀ e ∈ es, Cm d.nkey e.nkey = true) ∧ ∀ ys : List D, ys.Nodup → (∀ d, d ∈ ys ↔ d ∈ es) → ys.Pairwise (fun x y => NK.lt y.nkey x.nkey = false) → Q (.lst (ys.map .dat))
def fSortS (ti : FI) (g : FG) (c : FT) (ti1 : FI) (g1 : FG) (c1 : FT) (t : FE) (vs vs1 : List Nat) : FE := fun ρ S Q E => ti ρ S (fun ds S' => compS g c ti1 g1 c1 t vs vs1 ρ (fun es S => oSortS es fun m => Q m S) ds [] S') E
theorem nk_inj {d e : D} {k : NK} (h : d.nk = some k) (h' : e.nk = some k) : d = e := (nk_toD h).symm.trans (nk_toD h')
section
variable {T : Top} {W : WX}
/-- the set that grows, the store, relative to the start -/
structure SS (T : Top) (φ : Ob) (fs : List Addr) (H : Hp) (D0 : Addr) (acc : List D) (S1 : Sto) (φ1 : Ob) (fs1 : List Addr) (L : List EN) (H1 : Hp) : Prop where
  aft : Aft φ fs H φ1 fs1 [D0] H1
  at_ : H1 D0 = some (setN T.w D0 L)
  sub : ∀ p ∈ L, p.2.dep ≤ 1 ∧ ∃ d ∈ acc, d.nk = some p.2 ∧ FD T φ1 H1 (.ref p.1) d
  all : ∀ d ∈ acc, ∃ p ∈ L, d.nk = some p.2
  len : L.length ≤ acc.length
  sto : RepS T H1 φ1 φ1 S1 fs1
theorem SS.own {φ φ1 : Ob} {fs fs1 : List Addr} {H H1 : Hp} {D0 : Addr} {acc : List D} {S1 : Sto} {L : List EN} (c : SS T φ fs H D0 acc S1 φ1 fs1 L H1) : ∀ a ∈ [D0], H1 a ≠ none := fun a ha => by
  rw [List.mem_singleton.mp ha, c.at_]; exact fun z => nomatch z
theorem SS.step {φ φ1 φ2 : Ob} {fs fs1 fs2 fm : List Addr} {H H1 H2 : Hp} {D0 : Addr} {acc : List D} {S1 S2 : Sto} {L : List EN} (c : SS T φ fs H D0 acc S1 φ1 fs1 L H1) (A : Aft φ1 fs1 H1 φ2 fs2 fm H2) (R : RepS T H2 φ2 φ2 S2 fs2) : SS T φ fs H D0 acc S2 φ2 fs2 L H2 := by
  have B := c.aft.both A.drop c.own
  rw [List.append_nil] at B
  refine ⟨B, A.keep D0 _ (c.aft.disj D0 List.mem_cons_self) c.at_, fun p hp => ?_, c.all, c.len, R⟩
  obtain ⟨h8, d, hd, e, r⟩ := c.sub p hp
  exact ⟨h8, d, hd, e, A.fd c.sto r⟩
theorem SS.flat {φ φ1 : Ob} {fs fs1 : List Addr} {H H1 : Hp} {D0 : Addr} {acc : List D} {S1 : Sto} {L : List EN} (c : SS T φ fs H D0 acc S1 φ1 fs1 L H1) : FlatVs H1 L := fun p hp => by
  obtain ⟨h8, d, _, e, r⟩ := c.sub p hp
  exact ⟨r.isNK e, h8⟩
theorem SS.push {φ φ1 : Ob} {fs fs1 : List Addr} {H H1 : Hp} {D0 b : Addr} {acc : List D} {S1 : Sto} {L L' : List EN} {d : D} {k : NK} (c : SS T φ fs H D0 acc S1 φ1 fs1 L H1) (e : d.nk = some k) (h8 : k.dep ≤ 1) (r : FD T φ1 H1 (.ref b) d) (ad : Added L L' b k) :
    SS T φ fs H D0 (acc ++ [d]) S1 φ1 fs1 L' (upd H1 D0 (setN T.w D0 L')) := by
  have nM : D0 ∉ fs1 ++ φ1.ads := c.aft.disj D0 List.mem_cons_self
  have ex : Ext H1 (upd H1 D0 (setN T.w D0 L')) := upd_extO c.at_ trivial
  have mem : ∀ p ∈ L', p ∈ L ∨ p = (b, k) := fun p hp => by
    rcases ad with ⟨_, rfl⟩ | ⟨_, pm⟩
    · exact .inl hp
    · exact (List.mem_cons.mp (pm.mem_iff.mp hp)).symm
  refine ⟨⟨c.aft.pre, fun a o n h => ?_, c.aft.new, c.aft.nd⟩, upd_same, fun p hp => ?_, fun x hx => ?_, ?_, c.sto.wrO c.at_ trivial nM⟩
  · rw [upd_ne fun z => ?_]; exact c.aft.keep a o n h
    subst z
    rcases c.aft.new a List.mem_cons_self with q | q
    · exact n q
    · rw [q] at h; cases h
  · rcases mem p hp with z | z
    · obtain ⟨g8, d', hd', e', r'⟩ := c.sub p z
      exact ⟨g8, d', List.mem_append_left _ hd', e', r'.ext ex (Pre.refl _)⟩
    · subst z
      exact ⟨h8, d, List.mem_append_right _ List.mem_cons_self, e, r.ext ex (Pre.refl _)⟩
  · rcases List.mem_append.mp hx with z | z
    · obtain ⟨p, hp, e'⟩ := c.all x z
      rcases ad with ⟨_, rfl⟩ | ⟨_, pm⟩
      · exact ⟨p, hp, e'⟩
      · exact ⟨p, pm.mem_iff.mpr (List.mem_cons_of_mem _ hp), e'⟩
    · rw [List.mem_singleton.mp z]
      rcases ad with ⟨m, rfl⟩ | ⟨_, pm⟩
      · obtain ⟨p, hp, e'⟩ := List.mem_map.mp m
        exact ⟨p, hp, by rw [e, ← e']⟩
      · exact ⟨(b, k), pm.mem_iff.mpr List.mem_cons_self, e⟩
  · rw [List.length_append, List.length_singleton]
    have := c.len
    rcases ad with ⟨_, rfl⟩ | ⟨_, pm⟩
    · omega
    · rw [pm.length_eq, List.length_cons]; omega
/-- the end: the sorted list -/
theorem SS.sorted {φ φ1 : Ob} {fs fs1 : List Addr} {H H1 : Hp} {D0 : Addr} {acc : List D} {S1 : Sto} {L : List EN} {Q : VK} {Qm : M → Prop} (c : SS T φ fs H D0 acc S1 φ1 fs1 L H1) (w : oSortS acc Qm)
    (k : ∀ m v H' fm, Qm m → Fresh H1 H' fm → Rep T φ1 H' v m fm → Q v H') : rSortSN T.w [.ref D0] H1 Q := by
  obtain ⟨hc, w⟩ := w
  refine ⟨D0, L, rfl, c.at_, c.flat, fun x hx y hy => ?_, fun ys p nd pm pw hn => ?_⟩
  · obtain ⟨_, d, hd, e, _⟩ := c.sub x hx
    obtain ⟨_, d', hd', e', _⟩ := c.sub y hy
    have := hc d hd d' hd'
    unfold D.nkey at this
    rw [e, e'] at this
    exact this
  · have all : ∀ M : List EN, (∀ p ∈ M, p ∈ L) → ∃ ds : List D, FDs T φ1 H1 (M.map fun x => V.ref x.1) ds ∧ ds.map D.nk = M.map (fun p => some p.2) ∧ ∀ d ∈ ds, d ∈ acc := by
      intro M
      induction M with
      | nil => exact fun _ => ⟨[], .nil, rfl, fun _ z => nomatch z⟩
      | cons p M ih =>
        intro hM
        obtain ⟨ds, h1, h2, h3⟩ := ih fun q hq => hM q (List.mem_cons_of_mem _ hq)
        obtain ⟨_, d, hd, e, r⟩ := c.sub p (hM p List.mem_cons_self)
        refine ⟨d :: ds, .cons r h1, by rw [List.map_cons, List.map_cons, h2, e], fun x hx => ?_⟩
        rcases List.mem_cons.mp hx with z | z
        · rw [z]; exact hd
        · exact h3 x z
    obtain ⟨ds, h1, h2, h3⟩ := all L fun _ h => h
    obtain ⟨es, h4, h5⟩ := h1.perm pm
    have nds : ds.Nodup := by
      have : (ds.map D.nk).Nodup := by
        rw [h2, show (L.map fun p => some p.2) = (L.map (·.2)).map some by rw [List.map_map] <;> rfl]
        exact List.pairwise_map.mpr (nd.imp fun h e => h (Option.some.inj e))
      exact List.Pairwise.of_map D.nk (fun a b h e => h (congrArg D.nk e)) this
    have F : Fresh H1 (upd H1 p (.lst ys)) [p] := Fresh.upd hn
    refine k _ _ _ [p] (w es (h5.nodup_iff.mpr nds) (fun d => ?_) (h4.pwN (fun d hd => ?_) pw)) F (.lst upd_same (h4.ext F.ext (Pre.refl _)).reps)
    · rw [h5.mem_iff]
      refine ⟨h3 d, fun hd => ?_⟩
      obtain ⟨q, hq, e⟩ := c.all d hd
      have : some q.2 ∈ ds.map D.nk := by rw [h2]; exact List.mem_map.mpr ⟨q, hq, rfl⟩
      obtain ⟨d', hd', e'⟩ := List.mem_map.mp this
      rw [nk_inj e e']
      exact hd'
    · have : d.nk ∈ ds.map D.nk := List.mem_map.mpr ⟨d, h5.mem_iff.mp hd, rfl⟩
      rw [h2] at this
      obtain ⟨q, _, e⟩ := List.mem_map.mp this
      exact ⟨_, e.symm⟩
theorem lSortS {ti ti1 : FI} {g g1 : FG} {c c1 : FT} {t : FE} {vs vs1 : List Nat} {σ : St} {H : Hp} {Q : VK} (h : LE T W (fSortS ti g c ti1 g1 c1 t vs vs1) σ H Q) : tSc2 T.w (LI T W ti) (LG T vs g) (LT T W0 c) (LI T W0 ti1) (LG T vs1 g1) (LT T W0 c1) (LE T W0 t) vs vs1 σ H fun x H1 => rSortSN T.w [x] H1 Q := by
  obtain ⟨ρ, S, φ, fe, fs, E, Qm, G, w, hx, k⟩ := h
  refine ⟨ρ, S, φ, fe, fs, E, _, G, w, hx, fun ds S0 J H0 φ0 fs0 q0 A0 R0 wk D0 hD => ?_⟩
  have F0 : Fresh H0 (upd H0 D0 (setN T.w D0 [])) [D0] := Fresh.upd hD
  have B0 := F0.aft R0 A0.ndS
  refine ⟨fun i m H1 => i + m = ds.length ∧ ∃ (acc : List D) (L : List EN) (S1 : Sto) (φ1 : Ob) (fs1 : List Addr), compS g c ti1 g1 c1 t vs vs1 ρ (fun es S => oSortS es fun m => Qm m S) (ds.drop i) acc S1 ∧ SS T φ fs H D0 acc S1 φ1 fs1 L H1 ∧ Ext H0 H1 ∧ Pre φ0 φ1,
    ⟨ds.length, by omega, [], [], S0, φ0, fs0, q0, ⟨A0.trans B0, upd_same, fun _ z => (nomatch z), fun _ z => (nomatch z), Nat.le_refl _, F0.sto R0⟩, F0.ext, Pre.refl _⟩, ?_⟩
  intro i m H1 ⟨him, acc, L, S1, φ1, fs1, h1, cs1, ex1, pr1⟩
  have wk1 := wk i H1 φ1 ex1 pr1
  by_cases hi : ds.length ≤ i
  · rw [List.drop_of_length_le hi] at h1
    have h1 : oSortS acc fun m => Qm m S1 := h1
    refine .inl ⟨wk1.2 hi, cs1.sorted h1 fun m v H' fm q F r => ?_⟩
    have A2 := cs1.aft.drop.trans (F.aft cs1.sto cs1.aft.ndS)
    exact k m S1 v H' φ1 fs1 fm q A2 r (F.sto cs1.sto)
  · have hlt : i < ds.length := by omega
    rw [List.drop_eq_getElem_cons hlt] at h1
    obtain ⟨go, yl⟩ := wk1.1 ds[i] (List.getElem?_eq_getElem hlt)
    refine .inr ⟨go, fun H' => ∃ (acc : List D) (L : List EN) (S1 : Sto) (φ1 : Ob) (fs1 : List Addr), compS g c ti1 g1 c1 t vs vs1 ρ (fun es S => oSortS es fun m => Qm m S) (ds.drop (i + 1)) acc S1 ∧ SS T φ fs H D0 acc S1 φ1 fs1 L H' ∧ Ext H0 H' ∧ Pre φ0 φ1, fun H' z => ⟨m - 1, by omega, by omega, z⟩, fun x H2 hy => ?_⟩
    obtain ⟨F2, rd⟩ := yl x H2 hy
    have A2 := F2.aft cs1.sto cs1.aft.ndS
    have R2 := F2.sto cs1.sto
    have cs2 := cs1.step A2 R2
    have G2 := cs2.aft.good G R2
    obtain ⟨fw, sw, Gw⟩ := wiped_good G2 vs
    refine ⟨.dat ds[i], wipeE ρ vs, S1, φ1, [], fw, fs1, _, .dat rd, Gw, (List.nodup_append.mp Gw.nd).1, fun _ z => (nomatch z), h1, fun ρ3 σ3 fe3 q3 sub3 G3 hw => ⟨hw.trans (wipe_wipe σ vs vs fun _ z => z), ?_⟩⟩
    have s3 : ∀ a ∈ fe3, a ∈ fe := fun a ha => sw a (by simpa using sub3 a ha)
    refine ⟨ρ3, S1, φ1, fe3, fs1, noX, _, G3, q3, fun _ _ _ _ _ _ _ z => z.elim, fun b S4 H4 φ4 fs4 q4 A4 R4 => ?_⟩
    have G4 := A4.good G3 R4
    have cs4 := cs2.step A4 R4
    have ex4 : Ext H0 H4 := (ex1.trans F2.ext).trans (A4.ext R2)
    have pr4 : Pre φ0 φ4 := pr1.trans A4.pre
    cases b with
    | false => exact ⟨acc, L, S4, φ4, fs4, q4, cs4, ex4, pr4⟩
    | true =>
      refine ⟨ρ3, S4, φ4, fe3, fs4, noX, _, G4, q4, fun _ _ _ _ _ _ _ z => z.elim, fun es S5 J1 H5 φ5 fs5 q5 A5 R5 wk5 => ?_⟩
      have G5 := A5.good G4 R5
      have cs5 := cs4.step A5 R5
      have ex5 : Ext H0 H5 := ex4.trans (A5.ext R4)
      have pr5 : Pre φ0 φ5 := pr4.trans A5.pre
      refine ⟨fun j l H' => j + l = es.length ∧ ∃ (acc : List D) (L : List EN) (S1 : Sto) (φ1 : Ob) (fs1 : List Addr), innerS g1 c1 t vs1 ρ3 (compS g c ti1 g1 c1 t vs vs1 ρ (fun es S => oSortS es fun m => Qm m S) (ds.drop (i + 1))) (es.drop j) acc S1 ∧ SS T φ fs H D0 acc S1 φ1 fs1 L H' ∧ Ext H5 H' ∧ Pre φ5 φ1,
        ⟨es.length, by omega, acc, L, S5, φ5, fs5, q5, cs5, Ext.refl _, Pre.refl _⟩, ?_⟩
      intro j l H6 ⟨hjl, acc6, L6, S6, φ6, fs6, h6, cs6, ex6, pr6⟩
      have wk6 := wk5 j H6 φ6 ex6 pr6
      by_cases hj : es.length ≤ j
      · rw [List.drop_of_length_le hj] at h6
        exact .inl ⟨wk6.2 hj, acc6, L6, S6, φ6, fs6, h6, cs6, ex5.trans ex6, pr5.trans pr6⟩
      · have hlt6 : j < es.length := by omega
        rw [List.drop_eq_getElem_cons hlt6] at h6
        obtain ⟨go6, yl6⟩ := wk6.1 es[j] (List.getElem?_eq_getElem hlt6)
        refine .inr ⟨go6, fun H' => ∃ (acc : List D) (L : List EN) (S1 : Sto) (φ1 : Ob) (fs1 : List Addr), innerS g1 c1 t vs1 ρ3 (compS g c ti1 g1 c1 t vs vs1 ρ (fun es S => oSortS es fun m => Qm m S) (ds.drop (i + 1))) (es.drop (j + 1)) acc S1 ∧ SS T φ fs H D0 acc S1 φ1 fs1 L H' ∧ Ext H5 H' ∧ Pre φ5 φ1, fun H' z => ⟨l - 1, by omega, by omega, z⟩, fun x7 H7 hy7 => ?_⟩
        obtain ⟨F7, rd7⟩ := yl6 x7 H7 hy7
        have A7 := F7.aft cs6.sto cs6.aft.ndS
        have R7 := F7.sto cs6.sto
        have cs7 := cs6.step A7 R7
        have G7 : Good T φ6 H7 σ3 ρ3 S6 fe3 fs6 := frame_on G G5 s3 cs7.aft ⟨_, cs5.aft⟩ (ex6.trans F7.ext) pr6 R7
        obtain ⟨fw7, sw7, Gw7⟩ := wiped_good G7 vs1
        refine ⟨.dat es[j], wipeE ρ3 vs1, S6, φ6, [], fw7, fs6, _, .dat rd7, Gw7, (List.nodup_append.mp Gw7.nd).1, fun _ z => (nomatch z), h6, fun ρ8 σ8 fe8 q8 sub8 G8 hw8 => ⟨hw8.trans (wipe_wipe σ3 vs1 vs1 fun _ z => z), ?_⟩⟩
        refine ⟨ρ8, S6, φ6, fe8, fs6, noX, _, G8, q8, fun _ _ _ _ _ _ _ z => z.elim, fun b S9 H9 φ9 fs9 q9 A9 R9 => ?_⟩
        have G9 := A9.good G8 R9
        have cs9 := cs7.step A9 R9
        have ex9 : Ext H5 H9 := (ex6.trans F7.ext).trans (A9.ext R7)
        have pr9 : Pre φ5 φ9 := pr6.trans A9.pre
        cases b with
        | false => exact ⟨acc6, L6, S9, φ9, fs9, q9, cs9, ex9, pr9⟩
        | true =>
          refine ⟨ρ8, S9, φ9, fe8, fs9, noX, _, G9, q9, fun _ _ _ _ _ _ _ z => z.elim, fun m10 S10 y H10 φ10 fs10 fm10 q10 A10 r10 R10 => ?_⟩
          have cs10 := cs9.step A10 R10
          obtain ⟨hl10, d, rfl, ⟨ks, e10, d10⟩, q10⟩ := q10
          cases r10 with
          | dat r10 =>
            have nk := r10.isNK e10
            cases nk with
            | @t a xs _ p r =>
              refine ⟨L6, a, .t ks, rfl, cs10.at_, cs10.flat, ⟨.t p r, d10⟩, by have := cs10.len; omega, fun L' ad => ?_⟩
              exact ⟨acc6 ++ [d], L', S10, φ10, fs10, q10, cs10.push e10 d10 r10 ad, (ex9.trans (A10.ext R9)).trans (upd_extO cs10.at_ trivial), pr9.trans A10.pre⟩
end
section
variable {X : Cx} {W : WX} {elt tg iter tg1 iter1 : Expr} {ifs ifs1 : List Expr} {sc : Scope} {own : List (Str × Nat)} {vs1 : List Nat} {pos p posc : Pos} {ti ti1 : FI} {g g1 : FG} {c c1 : FT} {t : FE}
theorem fe_sortS (hu10 : X.A.units + 10 < cLine) (hu : X.A.units + 65 < cLine) (hc : X.calm = true) (hN : X.N.Nodup) (hgl : Gl X "sorted") (hm : X.mg "sorted" = none) (hi : PI X tg iter (LI ⟨X.K, X.mg, X.w⟩ W ti)) (ok : BlkOk X.N X.env.scope sc own) (hv : ∀ i ∈ vs1, i ∈ own.map (·.2)) (hg : InBlk X sc fun Y => PG Y tg (LG ⟨X.K, X.mg, X.w⟩ (own.map (·.2)) g)) (ht : InBlk X sc fun Y => PTs Y ifs (LT ⟨X.K, X.mg, X.w⟩ W0 c))
    (hi1 : InBlk X sc fun Y => PI Y tg1 iter1 (LI ⟨X.K, X.mg, X.w⟩ W0 ti1)) (hg1 : InBlk X sc fun Y => PG Y tg1 (LG ⟨X.K, X.mg, X.w⟩ vs1 g1)) (ht1 : InBlk X sc fun Y => PTs Y ifs1 (LT ⟨X.K, X.mg, X.w⟩ W0 c1)) (he : InBlk X sc fun Y => PE Y elt (LE ⟨X.K, X.mg, X.w⟩ W0 t))
    (hs : ∀ x, foldedSetIterable iter X.env x = pure x := by intro _; rfl) (hs1 : ∀ env x, foldedSetIterable iter1 env x = pure x := by intro _ _; rfl)
    (hst : starEach [sc2 elt tg iter tg1 iter1 ifs ifs1 sc posc] X.env = (false, eval (sc2 elt tg iter tg1 iter1 ifs ifs1 sc posc) X.env) :: starEach [] X.env := by rfl) :
    PE X (.Call (.Name "sorted" p) [sc2 elt tg iter tg1 iter1 ifs ifs1 sc posc] [] pos) (LE ⟨X.K, X.mg, X.w⟩ W (fSortS ti g c ti1 g1 c1 t (own.map (·.2)) vs1)) :=
  PE.weak (pe_callB (cr_sortedSN hc hu) hgl hm (by decide +kernel) (pa_cons (pe_sc2 hu10 hc hN hi ok hv hg ht hi1 hg1 ht1 he hs hs1) pa_nil hst) (by decide) (by decide) hst (by rfl)) fun σ H Q h => lSortS h
end
end L2.Fn
/-! Fn, part DC: {k: v for ..}, the keys atoms or nested tuples. -/
namespace L2.Fn
open PySem PySem.Spec PyProof.Rows
/-- an empty dict of either kind -/
def dict0 (w : World) (b : Bool) (a : Addr) : HO := if b = true then dN w a [] else .dK []
def tDcN (w : World) (b : Bool) (wi : TI) (g : TG) (tt : TT) (tk tv : TE) (vs : List Nat) : TE := fun σ H Q => wi σ H fun J H1 => ∀ D, H1 D = none → ∃ W : Nat → Nat → Hp → Prop, (∃ m, W 0 m (upd H1 D (dict0 w b D))) ∧ ∀ i m H, W i m H →
  (J.stop i H ∧ Q (.ref D) H) ∨ (J.go i H ∧ ∃ Nx : Hp → Prop, (∀ H', Nx H' → ∃ m', m' < m ∧ W (i + 1) m' H') ∧ ∀ x H', J.yld i H x H' → g x (wipe σ vs) H' fun σ2 H2 => wipe σ2 vs = wipe σ vs ∧ tt σ2 H2 fun c H3 =>
    if c = true then tk σ2 H3 fun y H4 => tv σ2 H4 fun z H5 => ∃ H6, DPutN w H5 D y z H6 ∧ Nx H6 else Nx H3)
section
variable {X : Cx}
theorem n_dictSet {pins : List (Addr × Obj)} {σ : St} {H H' : Hp} {s : Shared} {E : Value → Shared → Prop} {a : Addr} {y v : V} {u r : Value} {Q : Unit → Shared → Prop} (hu : X.A.units + 10 < cLine) (I : Inv X pins σ H s) (g : DPutN X.w H a y v H') (ry : RelV y u) (rv : RelV v r)
    (h : ∀ s', Inv X pins σ H' s' → Q () s') : wpAny (model X.prog X.w) X.A (dictSet a u r) Q E s := by
  rcases g with ⟨kvs, k, e, ey, l, eH⟩ | ⟨kvs, k, b, e, hk, ey, eb, d8, l, eH⟩
  · subst ey eH
    exact d_dictSet I e l ry rv h
  · subst ey eH
    cases (show u = Value.ref b from ry)
    obtain ⟨z, hd, d8s, xs, rel, dd⟩ := dn_rd I.hok (.inl e) hk
    have hz : xs.length ≤ sizeLine := by rw [← Paired.length rel]; exact z
    have hl : (putN kvs k b v).length ≤ sizeLine := by have := length_putN kvs k b v; omega
    refine wpAny_dictSet_heap (knd := treeKind X.prog X.w) (hsz := hz) (show X.A.units + 8 < cLine by omega) ⟨eb.tree I.hok rfl, d8⟩ dd fun h' dd' hs => h _ ?_
    have hq : ∃ q, h'.get? a = some q := let ⟨q, _, _, hq, _⟩ := dd'; ⟨q, hq⟩
    refine d_write I (by rw [e]; exact True.intro) hs hq (dn_new hl hd (fun x hx => ?_) (rel.put k b rv) dd')
    rcases putN_mem x hx with ⟨y, hy, e1, _⟩ | e1
    · rw [← e1]; exact d8s y hy
    · rw [e1]; exact d8
variable {kx vx tg iter : Expr} {ifs : List Expr} {sc : Scope} {own : List (Str × Nat)} {pos pos' : Pos} {wi : TI} {g : TG} {tt : TT} {tk tv : TE} {b : Bool}
theorem dcN_run {pins : List (Addr × Obj)} {s : Shared} {σ : St} {H : Hp} {Q : VK} {use : Option (Value → Sem Unit)} {Qf : Value → Shared → Prop} (hu : X.A.units + 10 < cLine) (hc : X.calm = true) (hN : X.N.Nodup) (I : Inv X pins σ H s) (hi : PI X tg iter wi) (ok : BlkOk X.N X.env.scope sc own)
    (hg : InBlk X sc fun Y => PG Y tg g) (ht : InBlk X sc fun Y => PTs Y ifs tt) (hk : InBlk X sc fun Y => PE Y kx tk) (he : InBlk X sc fun Y => PE Y vx tv) (hs : ∀ x, foldedSetIterable iter X.env x = pure x) (h : tDcN X.w b wi g tt tk tv (own.map (·.2)) σ H Q)
    (fin : ∀ D C s' m H', Inv X pins σ H' s' → Q (.ref D) H' → s'.heap.Ns C m → FpOk X pins H' C → compPost (model X.prog X.w) X.A X.xe use Qf (.ref D) C (.ok .next) s') :
    wpAny (model X.prog X.w) X.A (comprehension (.DictComp kx vx [⟨tg, iter, ifs, 0⟩] sc pos) sc X.env pos' newDict false (eval iter X.env) use) Qf X.xe s := by
  have cap : ∀ y ∈ sc.names, y.2 = .free → ∃ c, X.env.cells.lookup y.1 = some c := fun y hy e => (ok.free y hy e).elim (fun k => I.ok.has _ (.inl k)) fun k => I.ok.has _ (.inr k)
  refine wpAny_comprehension_free (use := use) rfl hs (closure_ok cap) ok.kind (fun y hy e => by rw [ok.uniq y hy, e]) (thn (hi.run pins s σ H _ I h) fun xv sa hx => thn hx fun itv sb hb => ?_)
  obtain ⟨it, fp, tn, J, Hb, rfl, Ib, TJ, stb, fpb, q⟩ := hb
  refine wpAny_newObj_type (newEnv_comp ?_)
  obtain ⟨D, hD⟩ : ∃ D, D = sb.heap.objs.size := ⟨_, rfl⟩
  obtain ⟨W, ⟨m0, w0⟩, turn⟩ := q D (Ib.hok.fresh (Nat.le_of_eq hD.symm))
  rw [← hD]
  obtain ⟨so, eso⟩ : ∃ so : Obj, so = { cls := .type "dict", data := .dict #[] } := ⟨_, rfl⟩
  rw [← eso]
  obtain ⟨s3, hs3⟩ : ∃ s3 : Shared, s3 = { sb with heap := sb.heap.push so } := ⟨_, rfl⟩
  have h3 : s3.heap = sb.heap.push so := by rw [hs3]
  obtain ⟨H3, hH3⟩ : ∃ H3, H3 = upd Hb D (dict0 X.w b D) := ⟨_, rfl⟩
  have I3 : Inv X pins σ H3 s3 := by
    rw [hs3, hH3, hD, eso]
    unfold dict0
    cases b with
    | false => exact Ib.laid (t' := sb.toks) (fun b o e => Heap.get?_push_of_some _ e) (Nat.le_refl _) (dk_empty sb.heap Ib.big)
    | true => exact Ib.laid (t' := sb.toks) (fun b o e => Heap.get?_push_of_some _ e) (Nat.le_refl _) (dn_new (xs := []) (Nat.zero_le _) (beq_eq_false_iff_ne.mpr (Ne.symm (Nat.ne_of_lt Ib.big))) (fun _ z => nomatch z) .nil (Heap.DictOfH.new (knd := treeKind X.prog X.w) sb.heap))
  have fp3 : ∀ b ∈ fp, FpOk X pins H3 b ∧ b < s3.heap.objs.size := fun b hb => by
    obtain ⟨o, e, _⟩ := TJ.obj _ _ stb b hb
    have lt : b < sb.heap.objs.size := Heap.lt_size e
    refine ⟨⟨?_, (fpb b hb).2⟩, by rw [h3, Heap.size_push]; exact Nat.lt_succ_of_lt lt⟩
    rw [hH3, upd_ne (by rw [hD]; exact Nat.ne_of_lt lt)]
    exact (fpb b hb).1
  have st3 : tn 0 s3.heap := TJ.keep _ _ _ stb fun b _ o e => by rw [h3]; exact Heap.get?_push_of_some _ e
  have I4 := block_start I3 ok hN fp3
  have at_ := fun {p : Cx → Prop} (f : InBlk X sc p) => f s3 H3 s3.heap.objs.size (cellsFrom (s3.heap.objs.size + 1) sc.names (cloFrom X.env.cells sc.names [])) fp
  have pg := at_ hg
  have pt := at_ ht
  have pk := at_ hk
  have pe := at_ he
  rw [← hH3] at w0
  show codeAny _ _ (.compStart (.DictComp kx vx [⟨tg, iter, ifs, 0⟩] sc pos) 0 (.ref it) (.ref D) (compEnvC sc (cellsFrom ((sb.heap.push so).objs.size + 1) sc.names (cloFrom X.env.cells sc.names [])) (sb.heap.push so).objs.size X.env)) (compPost (model X.prog X.w) X.A X.xe use Qf (.ref D) (sb.heap.push so).objs.size)
    { sb with heap := pushCells ((sb.heap.push so).push so) sc.names }
  rw [← h3, show ({ sb with heap := pushCells (s3.heap.push so) sc.names } : Shared) = { s3 with heap := pushCells (s3.heap.push { cls := .type "dict", data := .dict #[] }) sc.names } by rw [hs3, eso]]
  have nfp : ∀ b ∈ fp, H3 b = none := fun b hb => (fp3 b hb).1.1
  generalize hce : compEnvC sc (cellsFrom (s3.heap.objs.size + 1) sc.names (cloFrom X.env.cells sc.names [])) s3.heap.objs.size X.env = ce at I4 pg pt pk pe ⊢
  have cL : ce.locals = s3.heap.objs.size := by subst hce; rfl
  generalize hs4 : ({ s3 with heap := pushCells (s3.heap.push { cls := .type "dict", data := .dict #[] }) sc.names } : Shared) = s4 at I4 ⊢
  have st4 : tn 0 s4.heap := TJ.keep _ _ _ st3 fun b _ o e => by rw [← hs4]; exact pushCells_keeps _ _ _ _ (Heap.get?_push_of_some _ e)
  have stat : ∀ {σ' : St} {H' : Hp} {s' : Shared}, Inv (X.blk s3 H3 sc ce fp) [] σ' H' s' → (∀ b ∈ fp, H' b = none) → ∀ b ∈ fp, FpOk (X.blk s3 H3 sc ce fp) [] H' b := fun I' hn b hb =>
    ⟨hn b hb, (I'.ok.exf b hb).1, I'.ok.exfs b hb, .inl hb, fun x c e => (I'.ok.exf b hb).2 x c e, fun p hp => absurd (show p ∈ ([] : List (Addr × Obj)) ++ [] from hp) (by simp)⟩
  have loop : codeAny (model X.prog X.w) X.A (.compLoop (.DictComp kx vx [⟨tg, iter, ifs, 0⟩] sc pos) 0 (.ref it) (.ref D) ce) (compPost (model X.prog X.w) X.A X.xe use Qf (.ref D) s3.heap.objs.size) s4 := by
    refine compLoop_anyD (fun n s' => ∃ i H', Inv (X.blk s3 H3 sc ce fp) [] (wipe σ (own.map (·.2))) H' s' ∧ tn i s'.heap ∧ (∀ b ∈ fp, H' b = none) ∧ W i n H') ?_ m0 ⟨0, H3, I4, st4, nfp, w0⟩
    rintro n s5 ⟨i, H5, I5, st5, n5, w5⟩
    rcases turn i n H5 w5 with ⟨stop, qq⟩ | ⟨go, Nx, hNx, step⟩
    · refine thnF (TJ.done (X.blk s3 H3 sc ce fp) rfl rfl rfl hc i [] s5 _ H5 (fun _ _ => False) I5 (stat I5 n5) st5 stop) fun r s6 ⟨hr, I6⟩ => ?_
      subst hr
      have I7 : Inv X pins σ H5 s6 := I3.call' (ch := fp) I6.os I6.base I6.hok I6.bare fun b hb => let z := (fp3 b hb).1.2; ⟨z.2.2.1, z.1, z.2.2.2.1, z.2.2.2.2⟩
      have nC : H5 s3.heap.objs.size = none := cL ▸ (show H5 ce.locals = none from I6.free)
      obtain ⟨m, hn, _⟩ := I6.loc
      exact fin D s3.heap.objs.size s6 m H5 I7 qq (cL ▸ (show s6.heap.Ns ce.locals m from hn)) (I3.fpOk (Nat.le_refl _) nC)
    · refine thnF (TJ.item (X.blk s3 H3 sc ce fp) rfl rfl rfl hc i [] s5 _ H5 (fun _ _ => False) I5 (stat I5 n5) st5 go) fun r s6 ⟨u, hr, h6⟩ => ?_
      subst hr
      refine thnF h6 fun _ s7 ⟨x, H7, I7, r7, y7, st7, n7⟩ => ?_
      refine thnF (pg.run _ s7 _ H7 x u _ (I7.pinned (stat I7 n7) (TJ.obj _ _ st7)) r7 (step x H7 y7)) fun _ s8 ⟨σ8, H8, I8, hw8, q8⟩ => ?_
      refine thnF (pt.run _ s8 σ8 H8 _ I8 q8) fun cc s9 ⟨H9, I9, q9⟩ => ?_
      have back : ∀ {s' : Shared} {H' : Hp}, Inv (X.blk s3 H3 sc ce fp) ([] ++ pinsAt fp s7.heap) σ8 H' s' → Nx H' → ∃ m, m < n ∧ ∃ i H', Inv (X.blk s3 H3 sc ce fp) [] (wipe σ (own.map (·.2))) H' s' ∧ tn i s'.heap ∧ (∀ b ∈ fp, H' b = none) ∧ W i m H' := fun {s' H'} I' nx => by
        obtain ⟨m', hm, w'⟩ := hNx H' nx
        have pin' : ∀ b ∈ fp, ∀ o, s7.heap.get? b = some o → s'.heap.get? b = some o ∧ H' b = none := fun b hb o e => by
          have z := I'.pin (b, o) (List.mem_append_right _ (List.mem_append_right _ (mem_pinsAt hb e)))
          exact ⟨z.1, z.2.1⟩
        exact ⟨m', hm, i + 1, H', (I'.unpinned (pins := [])).weak (by rw [← hw8, wipe_length]) (fun j v e => (wipe_some (hw8 ▸ e)).1), TJ.keep _ _ _ st7 fun b hb o e => (pin' b hb o e).1, fun b hb => let ⟨o, e, _⟩ := TJ.obj _ _ st7 b hb; (pin' b hb o e).2, w'⟩
      cases cc with
      | false =>
        simp only [Bool.false_eq_true, if_false] at q9 ⊢
        exact back I9 q9
      | true =>
        simp only [if_true] at q9 ⊢
        refine thnF (pk.run _ s9 σ8 H9 _ I9 q9) fun z s10 ⟨yk, H10, I10, r10, q10⟩ => ?_
        refine thnF (pe.run _ s10 σ8 H10 _ I10 q10) fun z2 s11 ⟨yv, H11, I11, r11, H6, dp, nx⟩ => ?_
        exact n_dictSet (X := X.blk s3 H3 sc ce fp) hu I11 dp r10 r11 fun s12 I12 => back I12 nx
  exact codeAny_compStart_dict loop (TJ.self X.A 0 _ _ _ st4 loop)
theorem pe_dcN (hu : X.A.units + 10 < cLine) (hc : X.calm = true) (hN : X.N.Nodup) (hi : PI X tg iter wi) (ok : BlkOk X.N X.env.scope sc own) (hg : InBlk X sc fun Y => PG Y tg g) (ht : InBlk X sc fun Y => PTs Y ifs tt) (hk : InBlk X sc fun Y => PE Y kx tk) (he : InBlk X sc fun Y => PE Y vx tv)
    (hs : ∀ x, foldedSetIterable iter X.env x = pure x := by intro _; rfl) : PE X (.DictComp kx vx [⟨tg, iter, ifs, 0⟩] sc pos) (tDcN X.w b wi g tt tk tv (own.map (·.2))) := by
  refine ⟨fun pins s σ H Q I h => ?_⟩
  rw [arm_eval_DictComp]
  refine dcN_run hu hc hN I hi ok hg ht hk he hs h fun D C s' m H' I' q hn f => ⟨m, hn, fun h'' sb => ?_⟩
  obtain ⟨f0, f1, f2, f3, f4, f5⟩ := f
  exact ⟨.ref D, H', I'.turned (t' := s'.toks) (fun b o hb e => (sb.2 b hb).trans e) f0 f1 f3 f4 f5, rfl, q⟩
theorem ps_setDcN {i : Nat} {y : Str} {py spos : Pos} (hu : X.A.units + 10 < cLine) (hc : X.calm = true) (hN : X.N.Nodup) (hy : X.N[i]? = some y) (hyl : X.env.scope.names.lookup y = some .local)
    (hsw : swapsWith (.DictComp kx vx [⟨tg, iter, ifs, 0⟩] sc pos) (some (.Name y py)) spos.line X.env = pure true) (hi : PI X tg iter wi) (ok : BlkOk X.N X.env.scope sc own) (hg : InBlk X sc fun Y => PG Y tg g) (ht : InBlk X sc fun Y => PTs Y ifs tt) (hk : InBlk X sc fun Y => PE Y kx tk) (he : InBlk X sc fun Y => PE Y vx tv)
    (hs : ∀ x, foldedSetIterable iter X.env x = pure x := by intro _; rfl) : PS X (.Assign [.Name y py] (.DictComp kx vx [⟨tg, iter, ifs, 0⟩] sc pos) spos) (tAsg (tDcN X.w b wi g tt tk tv (own.map (·.2))) (gName i)) := by
  refine ⟨fun pins s σ H D I h => ?_⟩
  rw [exec_Assign_Name_used _ _ _ _ hsw]
  refine wpAny_bind (wpAny_standAt (wpAny_bind ?_))
  show wpAny _ X.A (do let _ ← comprehension (.DictComp kx vx [⟨tg, iter, ifs, 0⟩] sc pos) sc X.env (firstIterPos [⟨tg, iter, ifs, 0⟩] pos) newDict false (eval iter X.env) (some (assign (.Name y py) X.env))) _ _ s
  have h : tDcN X.w b wi g tt tk tv (own.map (·.2)) σ H (fun x H1 => gName i x σ H1 D.nx) := h
  refine wpAny_bind (thn (dcN_run (Qf := fun _ s' => SP X pins D .next s') hu hc hN I hi ok hg ht hk he hs h fun L C s' m H' I' q hn f => ?_) fun _ s' hq => wpAny_pure (wpAny_pure hq))
  show wpAny _ _ (assign (.Name y py) X.env (.ref L)) _ _ _
  refine wpAny_assign_Name (store_ok2 (v := V.ref L) I' hN hy (.inl hyl) rfl (fun s2 I2 ⟨a, sb, ha⟩ => ?_) (.inr hyl))
  obtain ⟨f0, f1, f2, f3, f4, f5⟩ := f
  have haC : C ≠ a := ha.elim (fun z => by rw [z]; exact f1) fun z e => f4 y a z e.symm
  exact ⟨m, hn.sameBut sb haC, fun h3 sb3 => ⟨_, H', I2.turned (t' := s2.toks) (fun b o hb e => (sb3.2 b hb).trans e) f0 f1 f3 f4 f5, q⟩⟩
end

/-! ### as a reading -/
def dcompW (g : FG) (c : FT) (tk tv : FE) (vs : List Nat) (ρ : Ev) (b : Bool) (Q : WP) : List D → List (NK × D) → Sto → Prop
  | [], acc, S => Q (.dct b acc) S
  | d :: ds, acc, S => g (.dat d) (wipeE ρ vs) fun ρ1 => c ρ1 S (fun cc S2 => if cc = true then tk ρ1 S2 (fun mk S3 => tv ρ1 S3 (fun mv S4 => acc.length < sizeLine ∧ ∃ kd p x, mk = .dat kd ∧ kd.nk = some p ∧ okK b p ∧ mv = .dat x ∧ dcompW g c tk tv vs ρ b Q ds (dput acc p x) S4) noX) noX else dcompW g c tk tv vs ρ b Q ds acc S2) noX
def fDComp (b : Bool) (ti : FI) (g : FG) (c : FT) (tk tv : FE) (vs : List Nat) : FE := fun ρ S Q E => ti ρ S (fun ds S' => dcompW g c tk tv vs ρ b Q ds [] S') E
section
variable {T : Top} {W : WX}
structure DS (T : Top) (φ : Ob) (fs : List Addr) (H : Hp) (D0 : Addr) (b : Bool) (acc : List (NK × D)) (S1 : Sto) (φ1 : Ob) (fs1 : List Addr) (H1 : Hp) : Prop where
  aft : Aft φ fs H φ1 fs1 [D0] H1
  at_ : ∃ h, H1 D0 = some h ∧ OwnO h ∧ DHo T φ1 H1 D0 b h acc
  sto : RepS T H1 φ1 φ1 S1 fs1
theorem DS.step {φ φ1 φ2 : Ob} {fs fs1 fs2 fm : List Addr} {H H1 H2 : Hp} {D0 : Addr} {b : Bool} {acc : List (NK × D)} {S1 S2 : Sto} (c : DS T φ fs H D0 b acc S1 φ1 fs1 H1) (A : Aft φ1 fs1 H1 φ2 fs2 fm H2) (R : RepS T H2 φ2 φ2 S2 fs2) : DS T φ fs H D0 b acc S2 φ2 fs2 H2 := by
  obtain ⟨h, e, ow, dh⟩ := c.at_
  have B := c.aft.both A.drop (fun a ha => by rw [List.mem_singleton.mp ha, e]; exact fun z => nomatch z)
  rw [List.append_nil] at B
  exact ⟨B, ⟨h, A.keep D0 _ (c.aft.disj D0 List.mem_cons_self) e, ow, dh.ext (A.ext c.sto) A.pre⟩, R⟩
theorem lDComp {b : Bool} {ti : FI} {g : FG} {c : FT} {tk tv : FE} {vs : List Nat} {σ : St} {H : Hp} {Q : VK} (h : LE T W (fDComp b ti g c tk tv vs) σ H Q) : tDcN T.w b (LI T W ti) (LG T vs g) (LT T W0 c) (LE T W0 tk) (LE T W0 tv) vs σ H Q := by
  obtain ⟨ρ, S, φ, fe, fs, E, Qm, G, w, hx, k⟩ := h
  refine ⟨ρ, S, φ, fe, fs, E, _, G, w, hx, fun ds S0 J H0 φ0 fs0 q0 A0 R0 wk D0 hD => ?_⟩
  have F0 : Fresh H0 (upd H0 D0 (dict0 T.w b D0)) [D0] := Fresh.upd hD
  have B0 := F0.aft R0 A0.ndS
  have d0 : ∃ h, upd H0 D0 (dict0 T.w b D0) D0 = some h ∧ OwnO h ∧ DHo T φ0 (upd H0 D0 (dict0 T.w b D0)) D0 b h [] := by
    refine ⟨_, upd_same, ?_, ?_⟩
    · unfold dict0
      cases b <;> trivial
    · unfold dict0
      cases b with
      | false => exact DHo.of (.k []) rfl .nil .nil
      | true => exact DHo.of (.t []) rfl .nil .nil
  refine ⟨fun i m H1 => i + m = ds.length ∧ ∃ (acc : List (NK × D)) (S1 : Sto) (φ1 : Ob) (fs1 : List Addr), dcompW g c tk tv vs ρ b Qm (ds.drop i) acc S1 ∧ DS T φ fs H D0 b acc S1 φ1 fs1 H1 ∧ Ext H0 H1 ∧ Pre φ0 φ1,
    ⟨ds.length, by omega, [], S0, φ0, fs0, q0, ⟨A0.trans B0, d0, F0.sto R0⟩, F0.ext, Pre.refl _⟩, ?_⟩
  intro i m H1 ⟨him, acc, S1, φ1, fs1, h1, cs1, ex1, pr1⟩
  have wk1 := wk i H1 φ1 ex1 pr1
  by_cases hi : ds.length ≤ i
  · rw [List.drop_of_length_le hi] at h1
    obtain ⟨ho, e, ow, dh⟩ := cs1.at_
    exact .inl ⟨wk1.2 hi, k _ S1 _ H1 φ1 fs1 [D0] h1 cs1.aft (dh.rep e) cs1.sto⟩
  · have hlt : i < ds.length := by omega
    rw [List.drop_eq_getElem_cons hlt] at h1
    obtain ⟨go, yl⟩ := wk1.1 ds[i] (List.getElem?_eq_getElem hlt)
    refine .inr ⟨go, fun H' => ∃ (acc : List (NK × D)) (S1 : Sto) (φ1 : Ob) (fs1 : List Addr), dcompW g c tk tv vs ρ b Qm (ds.drop (i + 1)) acc S1 ∧ DS T φ fs H D0 b acc S1 φ1 fs1 H' ∧ Ext H0 H' ∧ Pre φ0 φ1, fun H' z => ⟨m - 1, by omega, by omega, z⟩, fun x H2 hy => ?_⟩
    obtain ⟨F2, rd⟩ := yl x H2 hy
    have A2 := F2.aft cs1.sto cs1.aft.ndS
    have R2 := F2.sto cs1.sto
    have cs2 := cs1.step A2 R2
    have G2 := cs2.aft.good G R2
    obtain ⟨fw, sw, Gw⟩ := wiped_good G2 vs
    refine ⟨.dat ds[i], wipeE ρ vs, S1, φ1, [], fw, fs1, _, .dat rd, Gw, (List.nodup_append.mp Gw.nd).1, fun _ z => (nomatch z), h1, fun ρ3 σ3 fe3 q3 sub3 G3 hw => ⟨hw.trans (wipe_wipe σ vs vs fun _ z => z), ?_⟩⟩
    refine ⟨ρ3, S1, φ1, fe3, fs1, noX, _, G3, q3, fun _ _ _ _ _ _ _ z => z.elim, fun cc S4 H4 φ4 fs4 q4 A4 R4 => ?_⟩
    have G4 := A4.good G3 R4
    have cs4 := cs2.step A4 R4
    have ex4 : Ext H0 H4 := (ex1.trans F2.ext).trans (A4.ext R2)
    have pr4 : Pre φ0 φ4 := pr1.trans A4.pre
    cases cc with
    | false => exact ⟨acc, S4, φ4, fs4, q4, cs4, ex4, pr4⟩
    | true =>
      refine ⟨ρ3, S4, φ4, fe3, fs4, noX, _, G4, q4, fun _ _ _ _ _ _ _ z => z.elim, fun mk S5 y H5 φ5 fs5 fm5 q5 A5 r5 R5 => ?_⟩
      have G5 := A5.good G4 R5
      have cs5 := cs4.step A5 R5
      refine ⟨ρ3, S5, φ5, fe3, fs5, noX, _, G5, q5, fun _ _ _ _ _ _ _ z => z.elim, fun mv S6 z H6 φ6 fs6 fm6 q6 A6 r6 R6 => ?_⟩
      have cs6 := cs5.step A6 R6
      obtain ⟨hz, kd, p, x6, rfl, e6, ok6, rfl, q6⟩ := q6
      obtain ⟨ho, e, ow, dh⟩ := cs6.at_
      cases r5 with
      | dat r5 =>
        cases r6 with
        | dat r6 =>
          obtain ⟨h', dp, dh', _⟩ := dput_ok e dh (A6.fd R5 r5) r6 e6 ok6 hz
          have exu : Ext H6 (upd H6 D0 h') := upd_extO e ow
          have ow' : OwnO h' := by
            rcases dh' with ⟨_, K, rfl, _⟩ | ⟨_, K, rfl, _⟩ <;> trivial
          have nM : D0 ∉ fs6 ++ φ6.ads := cs6.aft.disj D0 List.mem_cons_self
          refine ⟨_, dp, dput acc p x6, S6, φ6, fs6, q6, ⟨⟨cs6.aft.pre, fun a o n h => ?_, cs6.aft.new, cs6.aft.nd⟩, ⟨h', upd_same, ow', dh'.ext exu (Pre.refl _)⟩, R6.wrO e ow nM⟩, ((ex4.trans (A5.ext R4)).trans (A6.ext R5)).trans exu, (pr4.trans A5.pre).trans A6.pre⟩
          rw [upd_ne fun z => ?_]; exact cs6.aft.keep a o n h
          subst z
          rcases cs6.aft.new a List.mem_cons_self with q | q
          · exact n q
          · rw [q] at h; cases h
end
section
variable {X : Cx} {T : Top} {W : WX} {kx vx tg iter : Expr} {ifs : List Expr} {sc : Scope} {own : List (Str × Nat)} {pos spos py : Pos} {ti : FI} {g : FG} {c : FT} {tk tv : FE} {b : Bool} {i : Nat} {y : Str}
theorem fe_dc (hu : X.A.units + 10 < cLine) (hc : X.calm = true) (hN : X.N.Nodup) (hi : PI X tg iter (LI T W ti)) (ok : BlkOk X.N X.env.scope sc own) (hg : InBlk X sc fun Y => PG Y tg (LG T (own.map (·.2)) g)) (ht : InBlk X sc fun Y => PTs Y ifs (LT T W0 c)) (hk : InBlk X sc fun Y => PE Y kx (LE T W0 tk)) (he : InBlk X sc fun Y => PE Y vx (LE T W0 tv))
    (hs : ∀ x, foldedSetIterable iter X.env x = pure x := by intro _; rfl) (hw : X.w = T.w := by rfl) : PE X (.DictComp kx vx [⟨tg, iter, ifs, 0⟩] sc pos) (LE T W (fDComp b ti g c tk tv (own.map (·.2)))) :=
  PE.weak (pe_dcN (b := b) hu hc hN hi ok hg ht hk he hs) fun σ H Q h => by rw [hw]; exact lDComp h
theorem fs_setDc (hu : X.A.units + 10 < cLine) (hc : X.calm = true) (hN : X.N.Nodup) (hy : X.N[i]? = some y) (hyl : X.env.scope.names.lookup y = some .local) (hsw : swapsWith (.DictComp kx vx [⟨tg, iter, ifs, 0⟩] sc pos) (some (.Name y py)) spos.line X.env = pure true)
    (hi : PI X tg iter (LI T W ti)) (ok : BlkOk X.N X.env.scope sc own) (hg : InBlk X sc fun Y => PG Y tg (LG T (own.map (·.2)) g)) (ht : InBlk X sc fun Y => PTs Y ifs (LT T W0 c)) (hk : InBlk X sc fun Y => PE Y kx (LE T W0 tk)) (he : InBlk X sc fun Y => PE Y vx (LE T W0 tv))
    (hs : ∀ x, foldedSetIterable iter X.env x = pure x := by intro _; rfl) (hw : X.w = T.w := by rfl) : PS X (.Assign [.Name y py] (.DictComp kx vx [⟨tg, iter, ifs, 0⟩] sc pos) spos) (LS T W (fAsg (fDComp b ti g c tk tv (own.map (·.2))) (gN i))) :=
  PS.weak (ps_setDcN (b := b) hu hc hN hy hyl hsw hi ok hg ht hk he hs) fun D σ H h => by
    obtain ⟨ρ, S, φ, fe, fs, E, Qm, G, w, hx, k⟩ := lSet h
    rw [hw]
    exact lDComp ⟨ρ, S, φ, fe, fs, E, Qm, G, w, hx, k⟩
end
end L2.Fn
/-! Fn, part DS: list(d), sorted(d) of dicts whose keys are nested tuples. -/
namespace L2.Fn
open PySem PySem.Spec PyProof.Rows
section
variable {T : Top}
def oLstDN (ms : List M) (Q : M → Prop) : Prop := match ms with
  | [m] => ∃ l, m.asD = some (true, l) ∧ Q (.lst (l.map fun p => .dat p.1.toD))
  | _ => False
theorem o_lstDN : OpN T (rListDN T.w) oLstDN := by
  intro φ H vs ms f Q Qm r w k
  unfold oLstDN at w
  split at w
  · obtain ⟨l, e, w⟩ := w
    cases r with
    | cons x r =>
      cases r
      obtain ⟨a, h, rfl, hr, dh⟩ := asD_ok x e
      rcases dh with ⟨z, _⟩ | ⟨_, K, rfl, rr, q⟩
      · cases z
      · refine ⟨a, K, rfl, hr, fun p hp => ?_⟩
        have F : Fresh H (upd H p (.lst (K.map fun x => V.ref x.2.1))) [p] := Fresh.upd hp
        have ek : l.map (fun p => (M.dat p.1.toD)) = (K.map fun x => x.1.toD).map .dat := by
          have := congrArg (List.map fun z : NK => M.dat z.toD) rr.keys
          simpa [List.map_map, Function.comp_def] using this
        exact k _ _ _ [p] w F (.lst upd_same (by rw [ek]; exact (q.ext F.ext (Pre.refl _)).reps))
  · exact w.elim
def oSortDN (ms : List M) (Q : M → Prop) : Prop := match ms with
  | [m] => ∃ l, m.asD = some (true, l) ∧ (∀ p ∈ l, ∃ ks, p.1 = .t ks ∧ (NK.t ks).dep ≤ 8) ∧ (∀ p ∈ l, ∀ q ∈ l, Cm p.1 q.1 = true) ∧
      ∀ es : List NK, es.Perm (l.map (·.1)) → es.Pairwise (fun x y => NK.lt y x = false) → Q (.lst (es.map fun k => .dat k.toD))
  | _ => False
theorem fds_keys {φ : Ob} {H : Hp} : ∀ {K : List (NK × Addr × V)}, FDs T φ H (K.map fun x => V.ref x.2.1) (K.map fun x => x.1.toD) → ∀ x ∈ K, FD T φ H (.ref x.2.1) x.1.toD
  | [], _, _, hx => nomatch hx
  | y :: K, .cons r rs, x, hx => by
    rcases List.mem_cons.mp hx with e | hx
    · rw [e]; exact r
    · exact fds_keys rs x hx
theorem o_sortDN : OpN T (rSortDN T.w) oSortDN := by
  intro φ H vs ms f Q Qm r w k
  unfold oSortDN at w
  split at w
  · obtain ⟨l, e, h8, hc, w⟩ := w
    cases r with
    | cons x r =>
      cases r
      obtain ⟨a, h, rfl, hr, dh⟩ := asD_ok x e
      rcases dh with ⟨z, _⟩ | ⟨_, K, rfl, rr, q⟩
      · cases z
      · have ek : l.map (·.1) = K.map (·.1) := rr.keys
        have inl : ∀ x ∈ K, ∃ p ∈ l, p.1 = x.1 := fun x hx => by
          have : x.1 ∈ l.map (·.1) := by rw [ek]; exact List.mem_map.mpr ⟨x, hx, rfl⟩
          obtain ⟨p, hp, e⟩ := List.mem_map.mp this
          exact ⟨p, hp, e⟩
        refine ⟨a, K, rfl, hr, fun x hx => ?_, fun x hx y hy => ?_, fun ys p hp hs hn => ?_⟩
        · obtain ⟨p, hp, e⟩ := inl x hx
          obtain ⟨ks, h1, h2⟩ := h8 p hp
          exact ⟨ks, e ▸ h1, (fds_keys q x hx).isNK (toD_nk _), by rw [← e, h1]; exact h2⟩
        · obtain ⟨p, hp, e⟩ := inl x hx
          obtain ⟨p2, hp2, e2⟩ := inl y hy
          rw [← e, ← e2]
          exact hc p hp p2 hp2
        · obtain ⟨es, h3, h4⟩ := q.perm hp
          have F : Fresh H (upd H p (.lst ys)) [p] := Fresh.upd hn
          have nk : ∀ d ∈ es, ∃ k, d.nk = some k := fun d hd => by
            obtain ⟨x, _, e⟩ := List.mem_map.mp (h4.mem_iff.mp hd)
            exact ⟨x.1, by rw [← e]; exact toD_nk _⟩
          have e1 : (es.map (fun d => d.nkey)).map NK.toD = es := by
            rw [List.map_map]
            refine (List.map_congr_left (g := id) fun d hd => ?_).trans (List.map_id es)
            obtain ⟨k, e⟩ := nk d hd
            show d.nkey.toD = d
            unfold D.nkey
            rw [e]
            exact nk_toD e
          have pm : (es.map fun d => d.nkey).Perm (l.map (·.1)) := by
            rw [ek]
            have := h4.map fun d => d.nkey
            rw [List.map_map] at this
            refine this.trans (List.Perm.of_eq (List.map_congr_left fun x _ => ?_))
            show x.1.toD.nkey = x.1
            unfold D.nkey
            rw [toD_nk] <;> rfl
          have := w (es.map fun d => d.nkey) pm (List.pairwise_map.mpr (h3.pwN nk hs))
          refine k _ _ _ [p] this F (.lst upd_same ?_)
          have e2 : (es.map fun d => d.nkey).map (fun k => M.dat k.toD) = es.map .dat := by
            conv => rhs; rw [← e1]
            simp [List.map_map, Function.comp_def]
          rw [e2]
          exact (h3.ext F.ext (Pre.refl _)).reps
  · exact w.elim
end
end L2.Fn
/-! Fn, part X: small rules for the generator. -/
namespace L2.Fn
open PySem PySem.Spec PyProof.Rows
section
variable {X : Cx}
theorem op_eqT (h : X.A.units + 65 < cLine) : OpR X (compareOp .Eq) (rEqD X.K) := op_eqD (by omega)
theorem op_neT (h : X.A.units + 65 < cLine) : OpR X (compareOp .NotEq) (rNeD X.K) := op_neD (by omega)
end
theorem sw_dc {kx vx : Expr} {gs : List Comprehension} {scope : Scope} {pos py : Pos} {y : Str} {l : Nat} {env : Env} (hk : env.scope.kind = .function) (hy : env.scope.names.lookup y = some .local) (hl : (py.line == pos.line) = true)
    (ha : (scope.names.any fun (n, k) => n == y && (k == .local || k == .cell)) = false) : swapsWith (.DictComp kx vx gs scope pos) (some (.Name y py)) l env = pure true := by
  have ky : env.kindOf y = some .local := hy
  have hb : env.blockKind = .function := by unfold Env.blockKind; rw [hk] <;> rfl
  unfold swapsWith
  simp only [hb, ky, ha, Expr.pos, hl]
  rfl
/-- a def with one default, a text, all of its parameters given -/
theorem defD {K : PySem.W.Frag} {mg : Str → Option Value} {x : Str} {st : Stmt} {ps : List Str} {z : Str} {f : Addr} {oc : Value} {od an : Option Addr} {osl : Array (Option Value)} {kV doc pm cdv ct : Value} {T : Addr} {tc : Value} {tod : Option Addr} {n : Nat} {tsl : Array (Option Value)} {tk : Tok}
    (l : K.lookup f = some ⟨oc, od, .func (PySem.W.fnOf x x (defArgs st) (defBody st) (defScope st) (.ref T) kV doc pm an cdv ct), osl⟩) (c : PySem.W.codeIn K cdv x = true) (k : PySem.W.keepIn K (.ref f) = true)
    (lT : K.lookup T = some ⟨tc, tod, .seq ([.str z tk] : List Value).toArray n, tsl⟩) (hm : mg x = some (.ref f))
    (h : ∀ (T : Addr) (kV doc pm : Value) (an : Option Addr) (cdv ct : Value) (us its : List Value), us.length = ps.length → its.length = 1 →
      ∃ k, bindArgs (PySem.W.fnOf x x (defArgs st) (defBody st) (defScope st) (.ref T) kV doc pm an cdv ct) ⟨us, []⟩ = seqItems? (.ref T) >>= k ∧ k (some its.toArray) = pure (ps.zip (us ++ its.drop 1))) : DefAtD K mg x st [.str z] ps := by
  have F : FunD K x x (defArgs st) (defBody st) (defScope st) [.str z] [] f (PySem.W.fnOf x x (defArgs st) (defBody st) (defScope st) (.ref T) kV doc pm an cdv ct) :=
    ⟨⟨oc, od, .ref T, kV, doc, pm, an, cdv, ct, osl, rfl, l, c, .inr ⟨(fun e => nomatch e), T, _, [.str z tk], n, rfl, lT, rfl, .cons ⟨tk, rfl⟩ .nil⟩, .inl rfl⟩, k⟩
  obtain ⟨ds, hv, hb⟩ := F.binds1 ps.length 1 (fun e => nomatch e) (by simp) h
  have e : ds = [] := by
    have : Vals ([] : List V) ds := hv
    cases this
    rfl
  subst e
  exact ⟨f, _, F, hm, hb⟩
end L2.Fn
/-! Fn, part CU: a call that looks at an own list and leaves it one's own. -/
namespace L2.Fn
open PySem PySem.Spec PyProof.Rows
def scalD : D → Prop
  | .non => True
  | .bl _ => True
  | .int _ => True
  | .str _ => True
  | _ => False
theorem FD.scal {T : Top} {φ φ' : Ob} {H H' : Hp} {v : V} {d : D} (r : FD T φ H v d) (sc : scalD d) : FD T φ' H' v d := by
  cases r with
  | non => exact .non
  | bl b => exact .bl b
  | int i => exact .int i
  | str s => exact .str s
  | _ => exact sc.elim
/-- the first argument an own list, the result plain, no instances -/
def fCallU (wf : FF) (t : FA) : FE := fun ρ S Q E => t ρ S (fun ms S' => ∃ ds0 ds, ms = .lst (ds0.map .dat) :: ds.map .dat ∧ wf (.lst ds0 :: ds) S' (fun m S'' => S'' = [] ∧ ∃ d, m = .dat d ∧ scalD d ∧ Q m S'') noX) E
section
variable {X : Cx} {W : WX} {e : Expr} {pos p : Pos} {es : List Expr} {x : Str} {k : Nat} {ps : List Str} {wf : FF} {u : FA}
theorem fe_calU (C : Cal X.prog X.w X.K X.mg X.base x k ps wf) (hr : Room k X.A) (hg : Gl X x) (tk : L2N.Takes X W) (ha : PA X (e :: es) (LAB ⟨X.K, X.mg, X.w⟩ W u)) (hdb : (x == ("__debug__" : Str)) = false := by decide)
    (he : starEach (e :: es) X.env = (false, eval e X.env) :: starEach es X.env := by rfl) (hpl : (backTo pos (starEach es X.env)).any (·.1) = false := by rfl) : PE X (.Call (.Name x p) (e :: es) [] pos) (LE ⟨X.K, X.mg, X.w⟩ W (fCallU wf u)) := by
  obtain ⟨f, fd, F, hm, hk, hb⟩ := C
  refine ⟨fun pins s σ H Q I ⟨ρ, S, φ, fe, fs, E, Qm, G, w, hx, kk⟩ => ?_⟩
  refine wpAny_Call_Name_kw (ld_glob I hg hm ?_ hdb)
  refine PySem.W.callWith_K (h₀ := X.base) I.ok.mod.kin hk (thn (ha.run pos pins s σ H (fun vs H1 => ∃ ms S1 φ1 fs1 fm, (∃ ds0 ds, ms = .lst (ds0.map .dat) :: ds.map .dat ∧ wf (.lst ds0 :: ds) S1 (fun m S'' => S'' = [] ∧ ∃ d, m = .dat d ∧ scalD d ∧ Qm m S'') noX) ∧ Aft φ fs H φ1 fs1 [] H1 ∧ Reps ⟨X.K, X.mg, X.w⟩ φ1 H1 vs ms fm ∧ (∀ a ∈ fm, a ∉ fs1 ++ φ1.ads) ∧ RepS ⟨X.K, X.mg, X.w⟩ H1 φ1 φ1 S1 fs1) I
    ⟨ρ, S, φ, fe, fs, E, _, G, w, hx, fun ms S1 vs H1 φ1 fs1 fm q A r d R => ⟨ms, S1, φ1, fs1, fm, q, A, r, d, R⟩⟩) fun us s1 ⟨vs, H1, I1, rv, ms, S1, φ1, fs1, fm, ⟨ds0, ds, em, w1⟩, A1, r1, d1, R1⟩ => ⟨I1.kIn, ?_⟩) he hpl
  subst em
  cases r1 with
  | @cons v0 m0 vs0 ms0 f0 g0 r0 rs =>
    obtain ⟨rds, eg⟩ := rs.dats rfl
    subst eg
    cases r0 with
    | @lst a xs ms1 f1 ea ra =>
      obtain ⟨rxs, ef⟩ := ra.dats rfl
      subst ef
      obtain ⟨o, I2⟩ := I1.lock ea trivial
      have hn := I1.nofrz ea trivial
      have e2 : upd H1 a (.frz o (.lst xs)) a = some (.frz o (.lst xs)) := upd_same
      have k2 : ∀ b, b ≠ a → upd H1 a (.frz o (.lst xs)) b = H1 b := fun b hb => upd_ne hb
      generalize upd H1 a (.frz o (.lst xs)) = H2 at I2 e2 k2
      have ex : Ext H1 H2 := by
        refine ⟨fun b ys h => ?_, fun b q u h => ?_, fun b u h => ?_⟩
        · rw [k2 b fun z => by rw [z, ea] at h; cases h]; exact h
        · rw [k2 b fun z => by rw [z, ea] at h; cases h]; exact h
        · rw [k2 b fun z => by rw [z, ea] at h; cases h]; exact h
      have na : a ∉ fs1 ++ φ1.ads := d1 a (List.mem_append_left _ List.mem_cons_self)
      have R2 : RepS ⟨X.K, X.mg, X.w⟩ H2 φ1 φ1 S1 fs1 := R1.ext ex (Pre.refl _) (fun b ys hb h => (k2 b fun z => na (by rw [← z]; exact List.mem_append_left _ hb)).trans h) fun b C' dx gs hb h => (k2 b fun z => na (by rw [← z]; exact List.mem_append_right _ hb)).trans h
      refine thn (run_fnS (Q := fun v H3 => ∃ S3 φ3 fs3 d, S3 = [] ∧ Aft φ1 fs1 H2 φ3 fs3 [] H3 ∧ FD ⟨X.K, X.mg, X.w⟩ φ3 H3 v d ∧ scalD d ∧ Qm (.dat d) S3 ∧ RepS ⟨X.K, X.mg, X.w⟩ H3 φ3 φ3 S3 fs3) F hr hb (L2N.passAt tk σ) I2 rv ⟨.lst ds0 :: ds, S1, φ1, fs1, noX, _, .cons (.lst (.inl ⟨o, e2⟩) (rxs.ext ex (Pre.refl _))) (rds.ext ex (Pre.refl _)), R2, A1.ndS, w1, fun _ _ _ _ _ _ _ z => z.elim, fun m S3 v H3 φ3 fs3 fm3 q A3 r3 R3 => ?_⟩) fun v s3 ⟨v3, H3, I3, rv3, S3, φ3, fs3, d, es3, A3, r3, sc, q3, R3⟩ => ?_
      · obtain ⟨es, d, rfl, sc, q⟩ := q
        cases r3 with
        | dat r3 => exact ⟨S3, φ3, fs3, d, es, A3, r3, sc, q, R3⟩
      · have e3 : H3 a = some (.frz o (.lst xs)) := A3.keep a _ na e2
        have I4 := I3.unlock e3 hn
        have A4 : Aft φ1 fs1 H1 φ3 fs3 [] (upd H3 a (.lst xs)) := by
          refine ⟨A3.pre, fun b ob n h => ?_, fun b h => ?_, A3.nd⟩
          · by_cases hb : b = a
            · subst hb
              rw [ea] at h
              cases h
              exact upd_same
            · rw [upd_ne hb]
              exact A3.keep b ob n ((k2 b hb).trans h)
          · rcases A3.new b h with z | z
            · exact .inl z
            · by_cases hb : b = a
              · subst hb
                rw [e2] at z
                cases z
              · exact .inr ((k2 b hb).symm.trans z)
        have R4 : RepS ⟨X.K, X.mg, X.w⟩ (upd H3 a (.lst xs)) φ3 φ3 S3 fs3 := by
          subst es3
          cases R3
          exact .nil
        exact ⟨v3, _, I4, rv3, kk _ S3 v3 _ φ3 fs3 [] q3 (A1.trans A4) (.dat (r3.scal sc)) R4⟩
end
end L2.Fn
/-! Fn, part TI: tuple.index of tuples of ints and texts. -/
namespace L2
open PySem PySem.Spec PyProof.Rows
variable {X : Cx}
def rIndexT (K : PySem.W.Frag) : V → List V → Hp → VK → Prop := fun x xs H Q => ∃ (a : Addr) (y : V) (d : PyData) (ds : List PyData) (j : Nat) (z : PyData), x = V.ref a ∧ xs = [y] ∧ Dp K H (V.ref a) (.tuple ds) ∧ Dp K H y d ∧
  SeqAt.shaped (.tuple ds) = true ∧ SeqAt.shaped d = true ∧ ds[j]? = some z ∧ PyData.eqv z d = true ∧ (∀ (m : Nat) (z' : PyData), m < j → ds[m]? = some z' → PyData.eqv z' d = false) ∧ Q (.int (j : Nat)) H
theorem mt_indexT (hu : X.A.units + 65 < cLine) : MtR X "tuple.index" (rIndexT X.K) := by
  intro pins s σ H x xs v us Q I rx rxs h
  obtain ⟨a, y, d, ds, j, z, rfl, rfl, hl, hy, sl, sd, hz, hzj, hno, q⟩ := h
  cases rx
  cases rxs with
  | cons ry rt =>
    rename_i uy ut
    cases rt
    obtain ⟨bs, r1⟩ := Dp.reads I d y uy hy ry
    have hxs : PyData.canLayAll0 ds = true := SeqAt.canLay_of_shaped sl
    have hroom : X.A.units + 1 + min (PyData.depthAll ds) d.depth < cLine := room_in_shaped sd hu
    cases hl with
    | tup hs ha =>
      obtain ⟨its, rv, ⟨⟨cls, dd, data, sls⟩, ho, hc, n, hdt⟩, hlen⟩ := I.tuple hs
      simp only at hc hdt
      subst hc hdt
      obtain ⟨as, h4⟩ := Dp.readsAll I ds _ its ha rv
      have hn : its.length = ds.length := SeqAt.ReadsAll.length ds its as h4
      have hmap : its.map (SeqAt.readOf s.heap) = ds := SeqAt.readsAll_map ds its as hxs h4
      have hvl := rv.length
      obtain ⟨hjd, _⟩ := List.getElem?_eq_some_iff.mp hz
      have hjl : j < its.length := by omega
      have hj : j < its.toArray.size := by simpa using hjl
      have at_ : ∀ (m : Nat) (hm : m < its.toArray.size) (z' : PyData), ds[m]? = some z' → SeqAt.readOf s.heap its.toArray[m] = z' := by
        intro m hm z' hz'
        have hml : m < its.length := by simpa using hm
        rw [← hmap, List.getElem?_map, List.getElem?_eq_getElem hml] at hz'
        have e1 : SeqAt.readOf s.heap its[m] = z' := Option.some.inj (show some (SeqAt.readOf s.heap its[m]) = some z' from hz')
        simpa using e1
      refine call_meets PySem.F.slot_tuple_index ⟨_, ho, rfl⟩ PySem.F.entry_tuple_index (PySem.F.args_tuple_index_2 _ _)
        (TI.tuple_indexAt a its.toArray n dd sls uy (fun u => PyData.eqv (SeqAt.readOf s.heap u) d) j hj ?_ ?_) ⟨ho, SeqAt.items_eqAt (vs := its.toArray) (show ReadsAll s.heap its.toArray.toList ds as from h4) r1 hxs (SeqAt.canLay_of_shaped sd) hroom, ?_⟩
      · show PyData.eqv (SeqAt.readOf s.heap its.toArray[j]) d = true
        rw [at_ j hj z hz]
        exact hzj
      · intro m hm hmj
        have hmd : m < ds.length := by omega
        have hz' : ds[m]? = some ds[m] := List.getElem?_eq_getElem hmd
        show PyData.eqv (SeqAt.readOf s.heap its.toArray[m]) d = false
        rw [at_ m hm _ hz']
        exact hno m _ hmj hz'
      · exact ⟨.int (j : Nat), H, I.tok _, ⟨_, rfl⟩, q⟩
/-- a tuple known to have no dict -/
def tyN (K : PySem.W.Frag) (x : V) (H : Hp) : Prop := match x with
  | .ref p => (∃ o, K.lookup p = some o ∧ o.cls = .type "tuple" ∧ o.dict = none) ∨ ∃ (o : Obj) (xs : List V), H p = some (.frz o (.tup xs)) ∧ o.cls = .type "tuple" ∧ o.dict = none
  | _ => False
theorem tyN_is {pins : List (Addr × Obj)} {σ : St} {H : Hp} {s : Shared} {x : V} {v : Value} (I : Inv X pins σ H s) (r : RelV x v) (ty : tyN X.K x H) :
    s.TypeIs v "tuple" ∧ ∀ a, v = .ref a → ∃ ob, s.heap.get? a = some ob ∧ ob.dict = none := by
  cases x with
  | ref p =>
    cases r
    rcases ty with ⟨o, hk, hc, hd⟩ | ⟨o, xs, hk, hc, hd⟩
    · refine ⟨⟨o, I.kIn p o hk, hc⟩, fun a e => ?_⟩
      cases e
      exact ⟨o, I.kIn _ o hk, hd⟩
    · obtain ⟨e, _⟩ := I.hok p _ hk
      refine ⟨⟨o, e, hc⟩, fun a e2 => ?_⟩
      cases e2
      exact ⟨o, e, hd⟩
  | _ => exact False.elim ty
def tBMN (K : PySem.W.Frag) (r : V → List V → Hp → VK → Prop) (to : TE) (t : TA) : TE := fun σ H Q => to σ H fun x H1 => tyN K x H1 ∧ t σ H1 fun xs H2 => r x xs H2 Q
section
variable {o e : Expr} {es : List Expr} {to : TE} {t : TA} {name : Str} {apos cpos : Pos} {id : String} {r : V → List V → Hp → VK → Prop}
theorem pe_bmN (slot : Slot "tuple" name id) (hty : typeOf (.builtin id) = pure (.type "method_descriptor")) (hm : MtR X id r) (ho : PE X o to) (ha : PA X (e :: es) t)
    (hbase : attributeBase o name X.env (eval o X.env) = eval o X.env := by rfl)
    (hfew : ((backTo cpos (starEach (e :: es) X.env)).all (fun x => !x.1) && (backToKw cpos (keywordEach [] X.env)).all (fun x => x.1.isSome)
      && decide ((e :: es).length + ([] : List Keyword).length + (if ([] : List Keyword).isEmpty then 0 else 1) < 30)) = true := by rfl)
    (hline : (apos.endLine == cpos.line) = true := by rfl) (hs : starEach (e :: es) X.env = (false, eval e X.env) :: starEach es X.env := by rfl) (hplain : (backTo cpos (starEach es X.env)).any (·.1) = false := by rfl) :
    PE X (.Call (.Attribute o name apos) (e :: es) [] cpos) (tBMN X.K r to t) := by
  refine ⟨fun pins s σ H Q I h => ?_⟩
  refine wpAny_Call_method_late hbase hfew hline rfl (thn (ho.run pins s σ H _ I h) fun v s1 ⟨x, H1, I1, r1, ty, q1⟩ => ?_)
  obtain ⟨h1, h2⟩ := tyN_is I1 r1 ty
  refine ⟨"tuple", id, PySem.F.plainAttrs_tuple, slot, hty, h1, h2, ?_⟩
  have hA := ha.run cpos pins s1 σ H1 _ I1 q1
  rw [hs] at hA ⊢
  refine Calls.callWith_builtin (by show (false || (backTo cpos (starEach es X.env)).any (·.1)) = false; rw [hplain] <;> rfl) (Calls.evalArgs_plain ?_)
  exact thn hA fun us s2 ⟨vs, H2, I2, r2, q2⟩ => hm pins s2 σ H2 x vs v us Q I2 r1 r2 q2
end
/-- tuple(list): a tuple that is known to have no dict -/
theorem call_tuple_ofN : CallR X (.type "tuple") (fun xs H Q => ∃ p ys, xs = [.ref p] ∧ SqL X.K H p ys ∧ ∀ (l : Addr) (o : Obj), H l = none → o.cls = .type "tuple" → o.dict = none → Q (.ref l) (upd H l (.frz o (.tup ys)))) := by
  intro pins s σ H xs us Q I r h
  obtain ⟨p, ys, rfl, hq, q⟩ := h
  obtain ⟨u, rfl, rx⟩ := vals1 r
  cases rx
  obtain ⟨its, r', pl, hz⟩ := I.list hq
  have hlen := r'.length
  refine call_tuple_list pl.isList (fun h' kp => ?_) (by simp only [List.size_toArray] <;> omega)
  have I1 : Inv X pins σ H { s with heap := h' } := I.kept (t' := s.toks) kp
  have I2 : Inv X pins σ (upd H h'.objs.size (.frz { cls := .type "tuple", data := .seq its.toArray } (.tup ys))) { s with heap := h'.push { cls := .type "tuple", data := .seq its.toArray } } :=
    I1.laid (t' := s.toks) (fun b o e => Heap.get?_push_of_some _ e) (Nat.le_refl _) (show ObjOk X.prog X.w _ _ _ (.frz _ (.tup ys)) from ⟨Heap.get?_push_size _ rfl, hz, its, r', IsTup.new _ _⟩)
  exact ⟨.ref h'.objs.size, _, I2, rfl, q _ _ (I1.hok.fresh (Nat.le_refl _)) rfl rfl⟩
end L2
namespace L2.Fn
open PySem PySem.Spec PyProof.Rows
section
variable {X : Cx} {T : Top} {φ : Ob} {H : Hp}
def oIdxT (m : M) (ms : List M) (Q : M → Prop) : Prop := match ms with
  | [.dat d] => ∃ ds, m.asT = some ds ∧ ∃ ps, keysD ds = some ps ∧ (∀ p ∈ ps, smallK p) ∧ ∃ q, d.pk true = some q ∧ smallK q ∧ ∃ j, ps.findIdx? (fun p => decide (p = q)) = some j ∧ Q (.dat (.int (j : Nat)))
  | _ => False
theorem o_idxT {x : V} {m : M} {f : List Addr} {vs : List V} {ms : List M} {g : List Addr} {Q : VK} {Qm : M → Prop} (rx : Rep T φ H x m f) (r : Reps T φ H vs ms g) (w : oIdxT m ms Qm) (k : ∀ m v H' fm, Qm m → Fresh H H' fm → Rep T φ H' v m fm → Q v H') : rIndexT T.K x vs H Q := by
  unfold oIdxT at w
  split at w
  · obtain ⟨ds, e, ps, e2, sm, q, e3, sq, j, hj, w⟩ := w
    cases r with
    | cons y r =>
      cases r
      cases y with
      | dat y =>
        obtain ⟨a, xs, rfl, h, rs⟩ := asT_ok rx e
        obtain ⟨hlt, hp, hno⟩ := List.findIdx?_eq_some_iff_getElem.mp hj
        refine ⟨a, _, pyK q, ps.map pyK, j, pyK ps[j], rfl, rfl, .tup h (dp_keys rs e2), dp_key y e3, shaped_keys ps sm, shaped_key q sq, by rw [List.getElem?_map, List.getElem?_eq_getElem hlt]; rfl, ?_, fun m z hm hz => ?_, k _ _ H [] w (Fresh.refl H) (.dat (.int _))⟩
        · rw [eqv_key]
          exact hp
        · have hml : m < ps.length := by omega
          rw [List.getElem?_map, List.getElem?_eq_getElem hml] at hz
          cases hz
          rw [eqv_key]
          have := hno m hm
          simpa using this
  · exact w.elim
end
section
variable {T : Top}
/-- tuple(list), the result known to have no dict -/
def oTupN (ms : List M) (Q : M → Prop) : Prop := match ms with
  | [m] => ∃ ds, m.ld = some ds ∧ Q (.dat (.ktup ds))
  | _ => False
theorem o_tupN : OpN T (fun xs H Q => ∃ p ys, xs = [.ref p] ∧ SqL T.K H p ys ∧ ∀ (l : Addr) (o : Obj), H l = none → o.cls = .type "tuple" → o.dict = none → Q (.ref l) (upd H l (.frz o (.tup ys)))) oTupN := by
  intro φ H vs ms f Q Qm r w k
  unfold oTupN at w
  split at w
  · obtain ⟨ds, e, w⟩ := w
    cases r with
    | cons x r =>
      cases r
      obtain ⟨a, xs, rfl, h, rs⟩ := ld_ok x e
      refine ⟨a, xs, rfl, h, fun l o hl hc hd => ?_⟩
      have F : Fresh H (upd H l (.frz o (.tup xs))) [] := Fresh.upd0 hl
      exact k _ _ _ [] w F (.dat (.ktup (.inr ⟨o, upd_same, hc, hd⟩) (rs.ext F.ext (Pre.refl _))))
  · exact w.elim
end
def fIdxT (t ta : FE) : FE := fun ρ S Q E => t ρ S (fun m S1 => (∃ ds, m = .dat (.ktup ds)) ∧ ta ρ S1 (fun m2 S2 => oIdxT m [m2] fun r => Q r S2) E) E
section
variable {X : Cx} {T : Top} {W : WX} {b e : Expr} {t ta : FE} {apos cpos : Pos}
theorem fe_idxT (hK : X.K = T.K) (hu : X.A.units + 65 < cLine) (ho : PE X b (LB T W t)) (he : PE X e (LB T W ta)) (hbase : attributeBase b "index" X.env (eval b X.env) = eval b X.env := by rfl)
    (hpl : (((backTo cpos (starEach [e] X.env)).all fun x => !x.1) && (backToKw cpos (keywordEach [] X.env)).all (fun x => x.1.isSome) && decide ([e].length + ([] : List Keyword).length + (if ([] : List Keyword).isEmpty then 0 else 1) < 30)) = true := by rfl)
    (hline : (apos.endLine == cpos.line) = true := by rfl) (h3 : starEach [e] X.env = (false, eval e X.env) :: starEach [] X.env := by rfl) (h4 : (backTo cpos (starEach [] X.env)).any (·.1) = false := by rfl) :
    PE X (.Call (.Attribute b "index" apos) [e] [] cpos) (LE T W (fIdxT t ta)) :=
  PE.weak (pe_bmN PySem.F.slot_tuple_index PySem.F.type_tuple_index (mt_indexT hu) ho (pa_cons he pa_nil h3) hbase hpl hline h3 h4) fun σ H Q ⟨ρ, S, φ, fe, fs, E, Qm, G, w, hx, k⟩ => by
    refine ⟨ρ, S, φ, fe, fs, E, _, G, w, hx, fun m1 S1 x H1 φ1 fs1 f1 w1 A1 r1 d1 R1 => ?_⟩
    obtain ⟨⟨ds, rfl⟩, w1⟩ := w1
    have G1 := A1.good G R1
    have ty : tyN X.K x H1 := by
      cases r1 with
      | dat r1 =>
        cases r1 with
        | ktup h rs =>
          rw [hK]
          rcases h with ⟨o, its, n, h1, h2, _, _, _, h6⟩ | ⟨o, h1, h2, h3⟩
          · exact .inl ⟨o, h1, h2, h6⟩
          · exact .inr ⟨o, _, h1, h2, h3⟩
    refine ⟨ty, ρ, S1, φ1, fe, fs1, E, _, G1, w1, hx.aft A1, fun m2 S2 y H2 φ2 fs2 f2 w2 A2 r2 d2 R2 => ?_⟩
    have r1' := A2.rep R1 r1 d1
    rw [hK]
    have r2' : Reps T φ2 H2 [y] [m2] (f2 ++ []) := .cons r2 .nil
    exact o_idxT (Qm := fun r => Qm r S2) r1' r2' w2 fun m v H' fm q F r => k m S2 v H' φ2 fs2 fm q ((A1.trans A2).trans (F.aft R2 A2.ndS)) r (F.sto R2)
end
end L2.Fn
namespace K64
open PySem PySem.Spec PyProof.Rows L2 L2.Fn

def topS (i : Nat) : Stmt := PySem.Challenge.pw_plainbehind_k64_border_whole.main.body.getD i (.Pass ⟨0, 0, 0, 0⟩)
def gv_LETTERS : D := .str [97, 98, 99, 100, 101]
def r_order_of_1 : FS := (fRetV 1)
def r_order_of_2 : FS := (fSeq (fFor (fRevS (fVar 0)) (gN 2) (fIfS (fBl (fBin (oIn true) (fVar 2) (fVar 1))) (fAsg (fBin oAdd (fVar 2) (fVar 1)) (gN 1)) fNext))
    r_order_of_1)
def r_order_of : FS := (fSeq (fAsg (fC (.str [])) (gN 1))
    r_order_of_2)
def w_order_of : FF := mkW 3 1 r_order_of
def r_orders_1 : FS := (fFz 2 (fAsg (fFrz (fBin oCat (fVar 1) (fVar 2))) (gN 1)))
def r_orders_2 : FS := (fRet (fCB oTupC (fCons (fVar 1) fNil)))
def r_orders_3 : FS := (fSeq (fFor (fRng oR1 (fCons (fVar 0) fNil)) (gN 3) (fSeq (fAsg (fComp2 (fWalk (fVar 2)) (gN 4) fYes (fWalk (fFrz (fSl (fC (gv_LETTERS)) fNoP (fPart (fVar 0))))) (gN 5) (fBl (fBin (oIn true) (fVar 5) (fVar 4))) (fBin oAdd (fVar 4) (fVar 5)) [4, 5] [5]) (gN 2))
    r_orders_1))
    r_orders_2)
def r_orders_4 : FS := (fSeq (fAsg (fFrz (fLst (fCons (fC (.str [])) fNil))) (gN 2))
    r_orders_3)
def r_orders : FS := (fSeq (fAsg (fFrz (fLst (fCons (fC (.str [])) fNil))) (gN 1))
    r_orders_4)
def w_orders : FF := mkW 6 1 r_orders
def r_behind_variables_1 : FS := (fFor (fWalk (fFrz (fSl (fVar 1) fNoP (fPart (fVar 3))))) (gN 5) (fApp 2 (fTup (fCons (fDat (fVar 0)) (fCons (fDat (fVar 4)) (fCons (fDat (fVar 5)) fNil))))))
def r_behind_variables_2 : FS := (fRet (fCB oTupC (fCons (fCB oSortN (fCons (fVar 2) fNil)) fNil)))
def r_behind_variables_3 : FS := (fSeq (fFor (fRng oEnum (fCons (fVar 1) fNil)) (gTupP 2 (gConsP (gN 3) (gConsP (gN 4) gNilP))) (fSeq (fApp 2 (fTup (fCons (fDat (fVar 0)) (fCons (fDat (fVar 4)) (fCons (fC (.str [])) fNil)))))
    r_behind_variables_1))
    r_behind_variables_2)
def r_behind_variables : FS := (fSeq (fAsg (fLst fNil) (gN 2))
    r_behind_variables_3)
def w_behind_variables : FF := mkW 6 2 r_behind_variables
def r_monomial_of_1 : FS := (fRet (fCB oTupC (fCons (fComp (fWalk (fFrz (fCB oSortDN (fCons (fVar 1) fNil)))) (gN 2) (fBl (fBin oGt (fBin oDIx (fVar 1) (fVar 2)) (fC (.int 0)))) (fTup (fCons (fDat (fVar 2)) (fCons (fBin oDIx (fVar 1) (fVar 2)) fNil))) [2]) fNil)))
def r_monomial_of_2 : FS := (fSeq (fFor (fWalk (fVar 0)) (gTupP 2 (gConsP (gN 2) (gConsP (gN 3) gNilP))) (fDSet 1 (fVar 2) (fBin oAdd (fDGet2 (fVar 1) (fVar 2) (fC (.int 0))) (fVar 3))))
    r_monomial_of_1)
def r_monomial_of : FS := (fSeq (fAsg (fDict true) (gN 1))
    r_monomial_of_2)
def w_monomial_of : FF := mkW 4 1 r_monomial_of
def r_variables_in : FS := (fRet (fCB oTupC (fCons (fSortS (fWalk (fVar 0)) (gTupP 2 (gConsP (gN 2) (gConsP (gN 3) gNilP))) fYes (fWalk (fVar 2)) (gTupP 2 (gConsP (gN 1) (gConsP (gN 3) gNilP))) fYes (fDat (fVar 1)) [2, 3, 1] [1, 3]) fNil)))
def w_variables_in : FF := mkW 4 1 r_variables_in
def r_value_at_1 : FS := (fAsg (fBin oAdd (fVar 3) (fVar 7)) (gN 3))
def r_value_at_2 : FS := (fSeq (fFor (fWalk (fVar 6)) (gTupP 2 (gConsP (gN 4) (gConsP (gN 8) gNilP))) (fFor (fRng oR1 (fCons (fVar 8) fNil)) (gN 9) (fAsg (fBin oMul (fVar 7) (fDGet2 (fVar 2) (fVar 4) (fC (.int 0)))) (gN 7))))
    r_value_at_1)
def r_value_at_3 : FS := (fRetV 3)
def r_value_at_4 : FS := (fSeq (fFor (fWalk (fVar 0)) (gTupP 2 (gConsP (gN 6) (gConsP (gN 5) gNilP))) (fSeq (fAsg (fDat (fVar 5)) (gN 7))
    r_value_at_2))
    r_value_at_3)
def r_value_at_5 : FS := (fSeq (fAsg (fC (.int 0)) (gN 3))
    r_value_at_4)
def r_value_at : FS := (fSeq (fAsg (fDComp true (fWalk (fVar 1)) (gTupP 2 (gConsP (gN 4) (gConsP (gN 5) gNilP))) fYes (fDat (fVar 4)) (fDat (fVar 5)) [4, 5]) (gN 2))
    r_value_at_5)
def w_value_at : FF := mkW 10 2 r_value_at
def r__law_cell_1 : FS := (fRet (fBin oMod (fCB oIntC (fCons (fBin oMul (fBin oMul (fBin oAdd (fVar 2) (fC (.int 7))) (fBin oAdd (fVar 1) (fC (.int 3)))) (fC (.int 69621))) fNil)) (fC (.int 2147483647))))
def r__law_cell_2 : FS := (fSeq (fFor (fWalk (fVar 0)) (gN 3) (fAsg (fBin oMod (fCB oIntC (fCons (fBin oAdd (fBin oMul (fVar 2) (fC (.int 31))) (fBin oMod (fCB oIntC (fCons (fVar 3) fNil)) (fC (.int 1000003)))) fNil)) (fC (.int 1000003))) (gN 2)))
    r__law_cell_1)
def r__law_cell_3 : FS := (fSeq (fAsg (fC (.int 17)) (gN 2))
    r__law_cell_2)
def r__law_cell : FS := (fSeq (fIfS (fBl (fBin oLt (fVar 1) (fCB oLen (fCons (fVar 0) fNil)))) (fRet (fDat (fBin oIx (fVar 0) (fVar 1)))) fNext)
    r__law_cell_3)
def w__law_cell : FF := mkW 4 2 r__law_cell
def r__law_digits_1 : FS := (fAsg (fBin oFDiv (fCB oIntC (fCons (fVar 3) fNil)) (fVar 6)) (gN 3))
def r__law_digits_2 : FS := (fRetV 2)
def r__law_digits_3 : FS := (fSeq (fFor (fWalk (fVar 1)) (gN 6) (fSeq (fApp 2 (fBin oMod (fCB oIntC (fCons (fVar 3) fNil)) (fVar 6)))
    r__law_digits_1))
    r__law_digits_2)
def r__law_digits_4 : FS := (fApp 2 (fBin oMod (fBin oFDiv (fVar 7) (fC (.int 19))) (fBin oIx (fVar 1) (fVar 5))))
def r__law_digits_5 : FS := (fSeq (fAsg (fBin oMod (fCB oIntC (fCons (fBin oMul (fVar 4) (fBin oAdd (fBin oFDiv (fVar 4) (fC (.int 65537))) (fC (.int 3)))) fNil)) (fC (.int 2147483629))) (gN 7))
    r__law_digits_4)
def r__law_digits_6 : FS := (fRetV 2)
def r__law_digits_7 : FS := (fSeq (fFor (fRng oR1 (fCons (fCB oLen (fCons (fVar 1) fNil)) fNil)) (gN 5) (fSeq (fAsg (fBin oMod (fCB oIntC (fCons (fBin oAdd (fBin oAdd (fBin oMul (fVar 4) (fC (.int 48271))) (fBin oMul (fC (.int 974711)) (fVar 5))) (fC (.int 12345))) fNil)) (fC (.int 2147483647))) (gN 4))
    r__law_digits_5))
    r__law_digits_6)
def r__law_digits_8 : FS := (fSeq (fAsg (fBin oMod (fCB oIntC (fCons (fVar 3) fNil)) (fC (.int 2147483629))) (gN 4))
    r__law_digits_7)
def r__law_digits_9 : FS := (fSeq (fIfS (fBl (fBin oGe (fVar 3) (fBin oPow (fC (.int 10)) (fC (.int 18))))) (fSeq (fAsg (fBin oSub (fVar 3) (fBin oPow (fC (.int 10)) (fC (.int 18)))) (gN 3))
    r__law_digits_3) fNext)
    r__law_digits_8)
def r__law_digits_10 : FS := (fSeq (fAsg (fCB oIntC (fCons (fVar 0) fNil)) (gN 3))
    r__law_digits_9)
def r__law_digits : FS := (fSeq (fAsg (fLst fNil) (gN 2))
    r__law_digits_10)
def w__law_digits : FF := mkW 8 2 r__law_digits
def r__law_collected_1 : FS := (fRet (fComp (fWalk (fFrz (fCB oLstDN (fCons (fVar 1) fNil)))) (gN 3) (fBl (fBin oNe (fBin oDIx (fVar 1) (fVar 3)) (fC (.int 0)))) (fLst (fCons (fDat (fVar 3)) (fCons (fBin oDIx (fVar 1) (fVar 3)) fNil))) [3]))
def r__law_collected_2 : FS := (fSeq (fFor (fWalk (fVar 0)) (gN 2) (fDSet 1 (fBin oIx (fVar 2) (fC (.int 0))) (fBin oAdd (fDGet2 (fVar 1) (fBin oIx (fVar 2) (fC (.int 0))) (fC (.int 0))) (fBin oIx (fVar 2) (fC (.int 1))))))
    r__law_collected_1)
def r__law_collected : FS := (fSeq (fAsg (fDict true) (gN 1))
    r__law_collected_2)
def w__law_collected : FF := mkW 4 1 r__law_collected
def r__law_written_1 : FS := (fFz 4 (fApp 1 (fTup (fCons (fCB oTupC (fCons (fVar 4) fNil)) (fCons (fDat (fBin oIx (fVar 2) (fC (.int 1)))) fNil)))))
def r__law_written_2 : FS := (fSeq (fAsg (fComp (fRng oR1 (fCons (fCB oLen (fCons (fVar 3) fNil)) fNil)) (gN 5) (fBl (fBin oGt (fBin oIx (fVar 3) (fVar 5)) (fC (.int 0)))) (fTup (fCons (fTup (fCons (fDat (fVar 5)) (fCons (fC (.str [97])) (fCons (fC (.str [])) fNil)))) (fCons (fDat (fBin oIx (fVar 3) (fVar 5))) fNil))) [5]) (gN 4))
    r__law_written_1)
def r__law_written_3 : FS := (fRet (fCB oTupC (fCons (fCB oSortN (fCons (fVar 1) fNil)) fNil)))
def r__law_written_4 : FS := (fSeq (fFor (fWalk (fVar 0)) (gN 2) (fSeq (fAsg (fDat (fBin oIx (fVar 2) (fC (.int 0)))) (gN 3))
    r__law_written_2))
    r__law_written_3)
def r__law_written : FS := (fSeq (fAsg (fLst fNil) (gN 1))
    r__law_written_4)
def w__law_written : FF := mkW 6 1 r__law_written
def r__law_worth_1 : FS := (fAsg (fBin oAdd (fVar 2) (fVar 4)) (gN 2))
def r__law_worth_2 : FS := (fSeq (fFor (fRng oR1 (fCons (fCB oLen (fCons (fVar 1) fNil)) fNil)) (gN 5) (fFor (fRng oR1 (fCons (fBin oIx (fBin oIx (fVar 3) (fC (.int 0))) (fVar 5)) fNil)) (gN 6) (fAsg (fBin oMul (fVar 4) (fBin oIx (fVar 1) (fVar 5))) (gN 4))))
    r__law_worth_1)
def r__law_worth_3 : FS := (fRetV 2)
def r__law_worth_4 : FS := (fSeq (fFor (fWalk (fVar 0)) (gN 3) (fSeq (fAsg (fDat (fBin oIx (fVar 3) (fC (.int 1)))) (gN 4))
    r__law_worth_2))
    r__law_worth_3)
def r__law_worth : FS := (fSeq (fAsg (fC (.int 0)) (gN 2))
    r__law_worth_4)
def w__law_worth : FF := mkW 7 2 r__law_worth
def r__law_bad_1 : FS := (fRet (fLst (fCons (fDat (fBin oIx (fVar 1) (fC (.int 2)))) (fCons (fCB oTupC (fCons (fComp (fRng oR1 (fCons (fVar 0) fNil)) (gN 4) fYes (fDat (fBin oIx (fVar 1) (fBin oAdd (fC (.int 3)) (fVar 4)))) [4]) fNil)) (fCons (fDat (fVar 3)) (fCons (fBin oAdd (fC (.int 1)) (fBin oIx (fVar 1) (fC (.int 1)))) fNil))))))
def r__law_bad_2 : FS := (fSeq (fAsg (fDat (fBin oIx (fLst (fCons (fTup (fCons (fDat (fVar 0)) (fCons (fC (.str [97])) (fCons (fC (.str [])) fNil)))) (fCons (fTup (fCons (fBin oAdd (fBin oAdd (fVar 0) (fC (.int 1))) (fBin oIx (fVar 1) (fC (.int 1)))) (fCons (fC (.str [97])) (fCons (fC (.str [])) fNil)))) (fCons (fTup (fCons (fDat (fVar 2)) (fCons (fC (.str [98])) (fCons (fC (.str [])) fNil)))) (fCons (fTup (fCons (fDat (fVar 2)) (fCons (fC (.str [97])) (fCons (fC (.str [97])) fNil)))) (fCons (fTup (fCons (fDat (fVar 2)) (fCons (fC (.str [97])) (fCons (fC (.str [98])) fNil)))) fNil)))))) (fBin oIx (fVar 1) (fC (.int 2))))) (gN 3))
    r__law_bad_1)
def r__law_bad : FS := (fSeq (fAsg (fBin oMod (fBin oIx (fVar 1) (fC (.int 0))) (fCB oMax2 (fCons (fC (.int 1)) (fCons (fVar 0) fNil)))) (gN 2))
    r__law_bad_2)
def w__law_bad : FF := mkW 5 2 r__law_bad
def r__law_with_1 : FS := (fFz 3 (fRet (fCB oTupC (fCons (fCB oSortN (fCons (fBin oCat (fCB oLstC (fCons (fVar 0) fNil)) (fLst (fCons (fTup (fCons (fCB oTupC (fCons (fCB oSortN (fCons (fBin oCat (fVar 3) (fLst (fCons (fTup (fCons (fDat (fBin oIx (fVar 1) (fC (.int 2)))) (fCons (fDat (fBin oIx (fVar 1) (fC (.int 3)))) fNil))) fNil))) fNil)) fNil)) (fCons (fDat (fVar 2)) fNil))) fNil))) fNil)) fNil))))
def r__law_with : FS := (fSeq (fAsg (fComp (fRng oR1 (fCons (fCB oLen (fCons (fBin oIx (fVar 1) (fC (.int 1))) fNil)) fNil)) (gN 4) (fBl (fBin oGt (fBin oIx (fBin oIx (fVar 1) (fC (.int 1))) (fVar 4)) (fC (.int 0)))) (fTup (fCons (fTup (fCons (fDat (fVar 4)) (fCons (fC (.str [97])) (fCons (fC (.str [])) fNil)))) (fCons (fDat (fBin oIx (fBin oIx (fVar 1) (fC (.int 1))) (fVar 4))) fNil))) [4]) (gN 3))
    r__law_with_1)
def w__law_with : FF := mkW 5 3 r__law_with
def r_order_rows_1 : FS := (fRet (fCB oTupN (fCons (fVar 1) fNil)))
def r_order_rows_2 : FS := (fSeq (fFor (fWalk (fVar 0)) (gN 2) (fFz 1 (fAsg (fComp2 (fWalk (fVar 1)) (gN 3) fYes (fWalk (fCall w_orders (fCons (fVar 2) fNil))) (gN 4) fYes (fBin oAdd (fVar 3) (fTup (fCons (fDat (fVar 4)) fNil))) [3, 4] [4]) (gN 1))))
    r_order_rows_1)
def r_order_rows : FS := (fSeq (fAsg (fFrz (fLst (fCons (fTup fNil) fNil))) (gN 1))
    r_order_rows_2)
def w_order_rows : FF := mkW 5 1 r_order_rows
def r_from_terms_1 : FS := (fDSet 1 (fVar 4) (fBin oAdd (fDGet2 (fVar 1) (fVar 4) (fC (.int 0))) (fVar 3)))
def r_from_terms_2 : FS := (fRet (fCB oTupC (fCons (fComp (fWalk (fFrz (fCB oSortDN (fCons (fVar 1) fNil)))) (gN 4) (fBl (fBin oNe (fBin oDIx (fVar 1) (fVar 4)) (fC (.int 0)))) (fTup (fCons (fDat (fVar 4)) (fCons (fBin oDIx (fVar 1) (fVar 4)) fNil))) [4]) fNil)))
def r_from_terms_3 : FS := (fSeq (fFor (fWalk (fVar 0)) (gTupP 2 (gConsP (gN 2) (gConsP (gN 3) gNilP))) (fSeq (fAsg (fCall w_monomial_of (fCons (fVar 2) fNil)) (gN 4))
    r_from_terms_1))
    r_from_terms_2)
def r_from_terms : FS := (fSeq (fAsg (fDict true) (gN 1))
    r_from_terms_3)
def w_from_terms : FF := mkW 5 1 r_from_terms
def r__law_squared_1 : FS := (fFz 1 (fRet (fCall w__law_collected (fCons (fVar 1) fNil))))
def r__law_squared_2 : FS := (fSeq (fFor (fWalk (fVar 0)) (gN 2) (fFor (fWalk (fVar 0)) (gN 3) (fApp 1 (fFrz (fLst (fCons (fCB oTupC (fCons (fComp (fRng oR1 (fCons (fCB oLen (fCons (fBin oIx (fVar 2) (fC (.int 0))) fNil)) fNil)) (gN 4) fYes (fBin oAdd (fBin oIx (fBin oIx (fVar 2) (fC (.int 0))) (fVar 4)) (fBin oIx (fBin oIx (fVar 3) (fC (.int 0))) (fVar 4))) [4]) fNil)) (fCons (fBin oMul (fBin oIx (fVar 2) (fC (.int 1))) (fBin oIx (fVar 3) (fC (.int 1)))) fNil)))))))
    r__law_squared_1)
def r__law_squared : FS := (fSeq (fAsg (fLst fNil) (gN 1))
    r__law_squared_2)
def w__law_squared : FF := mkW 5 1 r__law_squared
def r__law_book_1 : FS := (fFz 4 (fApp 2 (fCall w__law_written (fCons (fVar 4) fNil))))
def r__law_book_2 : FS := (fSeq (fFor (fWalk (fVar 0)) (gN 5) (fIfS (fTru (fCB oAll (fCons (fComp (fRng oR1 (fCons (fVar 1) fNil)) (gN 6) fYes (fOrV (fBin oEq (fBin oIx (fBin oIx (fVar 5) (fC (.int 0))) (fVar 6)) (fC (.int 0))) (fBin oEq (fBin oBand (fBin oShr (fVar 3) (fBin oSub (fBin oSub (fVar 1) (fC (.int 1))) (fVar 6))) (fC (.int 1))) (fC (.int 1)))) [6]) fNil))) (fApp 4 (fDat (fVar 5))) fNext))
    r__law_book_1)
def r__law_book_3 : FS := (fRet (fTup (fCons (fCB oTupC (fCons (fComp (fRng oR1 (fCons (fVar 1) fNil)) (gN 6) fYes (fC (.int 1)) [6]) fNil)) (fCons (fCB oTupC (fCons (fVar 2) fNil)) fNil))))
def r__law_book_4 : FS := (fSeq (fFor (fRng oR1 (fCons (fBin oShl (fC (.int 1)) (fVar 1)) fNil)) (gN 3) (fSeq (fAsg (fLst fNil) (gN 4))
    r__law_book_2))
    r__law_book_3)
def r__law_book : FS := (fSeq (fAsg (fLst fNil) (gN 2))
    r__law_book_4)
def w__law_book : FF := mkW 7 2 r__law_book
def r__law_equation_1 : FS := (fApp 5 (fFrz (fLst (fCons (fCB oTupC (fCons (fVar 9) fNil)) (fCons (fDat (fVar 8)) fNil)))))
def r__law_equation_2 : FS := (fSeq (fIfS (fAnd (fBl (fBin oEq (fBin oIx (fVar 7) (fC (.int 5))) (fC (.int 1)))) (fBl (fBin oGt (fVar 1) (fC (.int 0))))) (fSet0 9 (fBin oMod (fBin oIx (fVar 7) (fC (.int 7))) (fVar 1)) (fBin oAdd (fC (.int 9)) (fBin oIx (fVar 7) (fC (.int 6))))) fNext)
    r__law_equation_1)
def r__law_equation_3 : FS := (fSeq (fIfS (fBl (fBin oEq (fBin oIx (fVar 7) (fC (.int 5))) (fC (.int 0)))) (fAsg (fBin oSub (fBin oMod (fCB oIntC (fCons (fCall w__law_cell (fCons (fVar 0) (fCons (fBin oAdd (fC (.int 4)) (fBin oMul (fC (.int 2)) (fVar 6))) fNil))) fNil)) (fBin oPow (fC (.int 10)) (fC (.int 24)))) (fBin oMul (fC (.int 5)) (fBin oPow (fC (.int 10)) (fC (.int 23))))) (gN 8)) fNext)
    r__law_equation_2)
def r__law_equation_4 : FS := (fSeq (fAsg (fComp (fRng oR1 (fCons (fVar 1) fNil)) (gN 10) fYes (fDat (fBin oIx (fVar 7) (fVar 10))) [10]) (gN 9))
    r__law_equation_3)
def r__law_equation_5 : FS := (fSeq (fAsg (fBin oSub (fBin oIx (fVar 7) (fC (.int 4))) (fC (.int 9))) (gN 8))
    r__law_equation_4)
def r__law_equation_6 : FS := (fFz 5 (fRet (fCall w__law_collected (fCons (fVar 5) fNil))))
def r__law_equation_7 : FS := (fSeq (fIfS (fTru (fVar 3)) (fApp 5 (fFrz (fLst (fCons (fCB oTupC (fCons (fComp (fRng oR1 (fCons (fVar 1) fNil)) (gN 10) fYes (fC (.int 0)) [10]) fNil)) (fCons (fNeg (fCallU w__law_worth (fCons (fVar 5) (fCons (fVar 4) fNil)))) fNil))))) fNext)
    r__law_equation_6)
def r__law_equation_8 : FS := (fSeq (fFor (fRng oR1 (fCons (fVar 2) fNil)) (gN 6) (fSeq (fAsg (fFrz (fCall w__law_digits (fCons (fCall w__law_cell (fCons (fVar 0) (fCons (fBin oAdd (fC (.int 3)) (fBin oMul (fC (.int 2)) (fVar 6))) fNil))) (fCons (fFrz (fLst (fCons (fC (.int 4)) (fCons (fC (.int 4)) (fCons (fC (.int 4)) (fCons (fC (.int 4)) (fCons (fC (.int 19)) (fCons (fC (.int 6)) (fCons (fC (.int 19)) (fCons (fC (.int 4)) fNil)))))))))) fNil)))) (gN 7))
    r__law_equation_5))
    r__law_equation_7)
def r__law_equation : FS := (fSeq (fAsg (fLst fNil) (gN 5))
    r__law_equation_8)
def w__law_equation : FF := mkW 11 5 r__law_equation
def r_behind_1 : FS := (fRet (fM1 oCount (fSl (fVar 0) (fPart (fBin oAdd (fVar 3) (fC (.int 1)))) fNoP) (fCons (fVar 1) fNil)))
def r_behind_2 : FS := (fSeq (fIfS (fBl (fBin oLt (fVar 3) (fC (.int 0)))) (fRaise1 "Malformed" "what" (fC (.str [109, 97, 114, 107]))) fNext)
    r_behind_1)
def r_behind_3 : FS := (fSeq (fAsg (fM1 oRFind (fVar 0) (fCons (fVar 2) fNil)) (gN 3))
    r_behind_2)
def r_behind : FS := (fSeq (fIfS (fBl (fBin oEq (fVar 2) (fC (.str [])))) (fRet (fM1 oCount (fVar 0) (fCons (fVar 1) fNil))) fNext)
    r_behind_3)
def w_behind : FF := mkW 4 3 r_behind
def r_constant : FS := (fRet (fCall w_from_terms (fCons (fTup (fCons (fTup (fCons (fTup fNil) (fCons (fDat (fVar 0)) fNil))) fNil)) fNil)))
def w_constant : FF := mkW 1 1 r_constant
def r_added : FS := (fRet (fCall w_from_terms (fCons (fBin oAdd (fVar 0) (fVar 1)) fNil)))
def w_added : FF := mkW 2 2 r_added
def r_scaled : FS := (fRet (fCall w_from_terms (fCons (fCB oTupC (fCons (fComp (fWalk (fVar 0)) (gTupP 2 (gConsP (gN 2) (gConsP (gN 3) gNilP))) fYes (fTup (fCons (fDat (fVar 2)) (fCons (fBin oMul (fVar 1) (fVar 3)) fNil))) [2, 3]) fNil)) fNil)))
def w_scaled : FF := mkW 4 2 r_scaled
def r_multiplied : FS := (fRet (fCall w_from_terms (fCons (fCB oTupC (fCons (fComp2 (fWalk (fVar 0)) (gTupP 2 (gConsP (gN 2) (gConsP (gN 4) gNilP))) fYes (fWalk (fVar 1)) (gTupP 2 (gConsP (gN 3) (gConsP (gN 5) gNilP))) fYes (fTup (fCons (fBin oAdd (fVar 2) (fVar 3)) (fCons (fBin oMul (fVar 4) (fVar 5)) fNil))) [2, 4, 3, 5] [3, 5]) fNil)) fNil)))
def w_multiplied : FF := mkW 6 2 r_multiplied
def r_book_row : FS := (fRet (fDat (fBin oIx (fBin oIx (fVar 0) (fC (.int 1))) (fIdxT (fCall w_order_rows (fCons (fBin oIx (fVar 0) (fC (.int 0))) fNil)) (fVar 1)))))
def w_book_row : FF := mkW 2 2 r_book_row
def r_plain_book_1 : FS := (fApp 2 (fCall w_from_terms (fCons (fCB oTupC (fCons (fVar 4) fNil)) fNil)))
def r_plain_book_2 : FS := (fSeq (fFor (fWalk (fVar 1)) (gTupP 2 (gConsP (gN 5) (gConsP (gN 6) gNilP))) (fIfS (fTru (fCB oAll (fCons (fComp (fWalk (fVar 5)) (gTupP 2 (gConsP (gN 7) (gConsP (gN 8) gNilP))) fYes (fBin (oIn false) (fBin oIx (fVar 7) (fC (.int 1))) (fBin oIx (fVar 3) (fBin oIx (fVar 7) (fC (.int 0))))) [7, 8]) fNil))) (fApp 4 (fTup (fCons (fDat (fVar 5)) (fCons (fDat (fVar 6)) fNil)))) fNext))
    r_plain_book_1)
def r_plain_book_3 : FS := (fRet (fTup (fCons (fDat (fVar 0)) (fCons (fCB oTupC (fCons (fVar 2) fNil)) fNil))))
def r_plain_book_4 : FS := (fSeq (fFor (fWalk (fCall w_order_rows (fCons (fVar 0) fNil))) (gN 3) (fSeq (fAsg (fLst fNil) (gN 4))
    r_plain_book_2))
    r_plain_book_3)
def r_plain_book : FS := (fSeq (fAsg (fLst fNil) (gN 2))
    r_plain_book_4)
def w_plain_book : FF := mkW 9 2 r_plain_book
def r__law_sides_1 : FS := (fRet (fLst (fCons (fDat (fVar 4)) (fCons (fComp (fWalk (fVar 2)) (gN 5) (fBl (fBin oGt (fBin oIx (fVar 5) (fC (.int 1))) (fC (.int 0)))) (fDat (fVar 5)) [5]) fNil))))
def r__law_sides_2 : FS := (fFz 3 (fSeq (fAsg (fFrz (fCall w__law_collected (fCons (fFrz (fBin oCat (fFrz (fLst (fCons (fLst (fCons (fCB oTupC (fCons (fComp (fRng oR1 (fCons (fVar 1) fNil)) (gN 6) fYes (fC (.int 0)) [6]) fNil)) (fCons (fC (.int 1)) fNil))) fNil))) (fVar 3))) fNil))) (gN 4))
    r__law_sides_1))
def r__law_sides_3 : FS := (fSeq (fAsg (fComp (fWalk (fVar 2)) (gN 5) (fBl (fBin oLt (fBin oIx (fVar 5) (fC (.int 1))) (fC (.int 0)))) (fLst (fCons (fDat (fBin oIx (fVar 5) (fC (.int 0)))) (fCons (fNeg (fBin oIx (fVar 5) (fC (.int 1)))) fNil))) [5]) (gN 3))
    r__law_sides_2)
def r__law_sides : FS := (fSeq (fAsg (fFrz (fCall w__law_squared (fCons (fVar 0) fNil))) (gN 2))
    r__law_sides_3)
def w__law_sides : FF := mkW 7 2 r__law_sides
def r_behind_counts_1 : FS := (fRet (fCB oTupC (fCons (fComp (fWalk (fVar 2)) (gN 3) fYes (fTup (fCons (fDat (fVar 3)) (fCons (fCall w_behind (fCons (fVar 1) (fCons (fBin oIx (fVar 3) (fC (.int 1))) (fCons (fBin oIx (fVar 3) (fC (.int 2))) fNil)))) fNil))) [3]) fNil)))
def r_behind_counts : FS := (fSeq (fAsg (fCall w_behind_variables (fCons (fVar 0) (fCons (fCall w_order_of (fCons (fVar 1) fNil)) fNil))) (gN 2))
    r_behind_counts_1)
def w_behind_counts : FF := mkW 4 2 r_behind_counts
def r_border_books_1 : FS := (fRet (fTup (fCons (fCall w_plain_book (fCons (fVar 6) (fCons (fCall w_added (fCons (fCall w_constant (fCons (fC (.int 1)) fNil)) (fCons (fVar 5) fNil))) fNil))) (fCons (fCall w_plain_book (fCons (fVar 6) (fCons (fVar 4) fNil))) fNil))))
def r_border_books_2 : FS := (fSeq (fAsg (fBin oRepT (fTup (fCons (fC (.int 1)) fNil)) (fVar 0)) (gN 6))
    r_border_books_1)
def r_border_books_3 : FS := (fSeq (fAsg (fCall w_scaled (fCons (fCB oTupC (fCons (fComp (fWalk (fVar 3)) (gN 7) (fBl (fBin oLt (fBin oIx (fVar 7) (fC (.int 1))) (fC (.int 0)))) (fDat (fVar 7)) [7]) fNil)) (fCons (fNeg (fC (.int 1))) fNil))) (gN 5))
    r_border_books_2)
def r_border_books_4 : FS := (fSeq (fAsg (fCB oTupC (fCons (fComp (fWalk (fVar 3)) (gN 7) (fBl (fBin oGt (fBin oIx (fVar 7) (fC (.int 1))) (fC (.int 0)))) (fDat (fVar 7)) [7]) fNil)) (gN 4))
    r_border_books_3)
def r_border_books_5 : FS := (fSeq (fAsg (fCall w_multiplied (fCons (fVar 1) (fCons (fVar 1) fNil))) (gN 3))
    r_border_books_4)
def r_border_books : FS := (fSeq (fFor (fWalk (fCall w_variables_in (fCons (fVar 1) fNil))) (gN 2) (fIfS (fOr (fNot (fBl (fChain oLe oLt (fC (.int 0)) (fBin oIx (fVar 2) (fC (.int 0))) (fVar 0)))) (fBl (fBin oNeT (fSl (fVar 2) (fPart (fC (.int 1))) fNoP) (fTup (fCons (fC (.str [97])) (fCons (fC (.str [])) fNil)))))) (fRaise1 "Malformed" "what" (fC (.str [101, 113, 117, 97, 116, 105, 111, 110]))) fNext))
    r_border_books_5)
def w_border_books : FF := mkW 8 2 r_border_books
def r__law_due_1 : FS := (fRet (fTup (fCons (fCall w__law_book (fCons (fBin oIx (fVar 2) (fC (.int 0))) (fCons (fVar 1) fNil))) (fCons (fCall w__law_book (fCons (fBin oIx (fVar 2) (fC (.int 1))) (fCons (fVar 1) fNil))) fNil))))
def r__law_due : FS := (fSeq (fAsg (fFrz (fCall w__law_sides (fCons (fVar 0) (fCons (fVar 1) fNil)))) (gN 2))
    r__law_due_1)
def w__law_due : FF := mkW 3 2 r__law_due
def r_book_value_1 : FS := (fRet (fCall w_value_at (fCons (fCall w_book_row (fCons (fVar 0) (fCons (fVar 2) fNil))) (fCons (fCB oTupC (fCons (fVar 3) fNil)) fNil))))
def r_book_value_2 : FS := (fSeq (fFor (fRng oEnum (fCons (fVar 1) fNil)) (gTupP 2 (gConsP (gN 4) (gConsP (gN 5) gNilP))) (fExt 3 (fCall w_behind_counts (fCons (fVar 4) (fCons (fVar 5) fNil)))))
    r_book_value_1)
def r_book_value_3 : FS := (fSeq (fAsg (fLst fNil) (gN 3))
    r_book_value_2)
def r_book_value : FS := (fSeq (fAsg (fCB oTupC (fCons (fComp (fWalk (fVar 1)) (gN 5) fYes (fCall w_order_of (fCons (fVar 5) fNil)) [5]) fNil)) (gN 2))
    r_book_value_3)
def w_book_value : FF := mkW 6 2 r_book_value
def r__law_refused_1 : FS := (fRet (fC (.bl false)))
def r__law_refused : FS := (fSeq (fTry "Malformed" "what" 3 (fDrop (fCall w_border_books (fCons (fVar 0) (fCons (fVar 1) fNil)))) fun a dd d => (fSeq (fAsg (fFrz (fLst (fCons (fIsE a dd "Malformed" "what" d false (fVar 3)) (fCons (fIsE a dd "Malformed" "what" d false (fVar 3)) (fCons (fIsE a dd "Malformed" "what" d false (fVar 3)) (fCons (fIsE a dd "Malformed" "what" d false (fVar 3)) fNil)))))) (gN 2))
    (fSeq (fAsg (fFrz (fBin oCat (fVar 2) (fLst (fCons (fIsE a dd "Malformed" "what" d false (fVar 3)) (fCons (fIsE a dd "Malformed" "what" d false (fVar 3)) (fCons (fIsE a dd "Malformed" "what" d false (fVar 3)) (fCons (fIsE a dd "Malformed" "what" d false (fVar 3)) fNil))))))) (gN 2))
    (fSeq (fIfS (fOr (fNot (fTru (fIsE a dd "Malformed" "what" d true (fVar 3)))) (fOr (fTru (fIsE a dd "Malformed" "what" d false (fVar 3))) (fTru (fCB oAny (fCons (fVar 2) fNil))))) (fRet (fC (.bl false))) fNext)
    (fRet (fAndV (fIsE a dd "Malformed" "what" d true (fVar 3)) (fAndV (fIsi (fXf a dd "Malformed" "what" d (fVar 3)) "str") (fBin oEq (fXf a dd "Malformed" "what" d (fVar 3)) (fC (.str [101, 113, 117, 97, 116, 105, 111, 110]))))))))))
    r__law_refused_1)
def w__law_refused : FF := mkW 4 2 r__law_refused
def r__law_same_1 (w : FF) : FS := (fRet (fCB oAll (fCons (fComp (fRng oR1 (fCons (fCB oLen (fCons (fVar 1) fNil)) fNil)) (gN 2) fYes (fCall w (fCons (fBin oIx (fVar 0) (fVar 2)) (fCons (fBin oIx (fVar 1) (fVar 2)) fNil))) [2]) fNil)))
def r__law_same_2 (w : FF) : FS := (fRet (fAndV (fIsi (fVar 0) "int") (fAndV (fNotV (fIsi (fVar 0) "bool")) (fBin oEq (fVar 0) (fVar 1)))))
def r__law_same_3 (w : FF) : FS := (fSeq (fIfS (fTru (fIsi (fVar 1) "str")) (fRet (fAndV (fIsi (fVar 0) "str") (fBin oEq (fVar 0) (fVar 1)))) fNext)
    (r__law_same_2 w))
def r__law_same (w : FF) : FS := (fSeq (fIfS (fTru (fIsi (fVar 1) "tuple")) (fSeq (fIfS (fOr (fNot (fTru (fIsi (fVar 0) "tuple"))) (fBl (fBin oNe (fCB oLen (fCons (fVar 0) fNil)) (fCB oLen (fCons (fVar 1) fNil))))) (fRet (fC (.bl false))) fNext)
    (r__law_same_1 w)) fNext)
    (r__law_same_3 w))
def w__law_same : Nat → FF
  | 0 => mkW 3 2 fun _ _ _ => False
  | k + 1 => mkW 3 2 (r__law_same (w__law_same k))
def r__law_holds_1 : FS := (fRet (fBin oEq (fBin oGt (fVar 5) (fVar 6)) (fBin oEq (fCall w__law_worth (fCons (fVar 1) (fCons (fVar 3) fNil))) (fC (.int 0)))))
def r__law_holds_2 : FS := (fSeq (fIfS (fOr (fNot (fTru (fCall (w__law_same 9) (fCons (fVar 5) (fCons (fCall w__law_worth (fCons (fBin oIx (fVar 2) (fC (.int 0))) (fCons (fVar 3) fNil))) fNil))))) (fNot (fTru (fCall (w__law_same 9) (fCons (fVar 6) (fCons (fCall w__law_worth (fCons (fBin oIx (fVar 2) (fC (.int 1))) (fCons (fVar 3) fNil))) fNil)))))) (fRet (fC (.bl false))) fNext)
    r__law_holds_1)
def r__law_holds_3 : FS := (fSeq (fAsg (fCall w_book_value (fCons (fBin oIx (fVar 0) (fC (.int 1))) (fCons (fVar 4) fNil))) (gN 6))
    r__law_holds_2)
def r__law_holds_4 : FS := (fSeq (fAsg (fCall w_book_value (fCons (fBin oIx (fVar 0) (fC (.int 0))) (fCons (fVar 4) fNil))) (gN 5))
    r__law_holds_3)
def r__law_holds : FS := (fSeq (fAsg (fCB oTupC (fCons (fComp (fWalk (fVar 3)) (gN 7) fYes (fBin oMulS (fC (.str [97])) (fVar 7)) [7]) fNil)) (gN 4))
    r__law_holds_4)
def w__law_holds : FF := mkW 8 4 r__law_holds
def r_law_1 : FS := (fSet0 11 (fVar 16) (fCB oAbs (fCons (fBin oSub (fBin oAdd (fBin oIx (fVar 11) (fVar 16)) (fC (.int 1))) (fBin oMul (fC (.int 2)) (fBin oIx (fVar 4) (fC (.int 5))))) fNil)))
def r_law_2 : FS := (fIfS (fNot (fTru (fCall (w__law_same 9) (fCons (fCall w_border_books (fCons (fBin oAdd (fVar 2) (fC (.int 1))) (fCons (fCall w__law_with (fCons (fVar 7) (fCons (fVar 14) (fCons (fVar 15) fNil)))) fNil))) (fCons (fCall w__law_due (fCons (fVar 17) (fCons (fBin oAdd (fVar 2) (fC (.int 1))) fNil))) fNil))))) (fRet (fC (.bl false))) fNext)
def r_law_3 : FS := (fRet (fCall (w__law_same 9) (fCons (fCall w_border_books (fCons (fVar 2) (fCons (fVar 7) fNil))) (fCons (fVar 8) fNil))))
def r_law_4 : FS := (fSeq (fIfS (fAnd (fBl (fBin oEq (fBin oIx (fVar 14) (fC (.int 0))) (fC (.int 0)))) (fBl (fBin oLt (fVar 2) (fC (.int 4))))) (fSeq (fAsg (fFrz (fBin oCat (fFrz (fComp (fWalk (fVar 6)) (gN 19) fYes (fLst (fCons (fBin oAdd (fBin oIx (fVar 19) (fC (.int 0))) (fTup (fCons (fC (.int 0)) fNil))) (fCons (fDat (fBin oIx (fVar 19) (fC (.int 1)))) fNil))) [19])) (fFrz (fLst (fCons (fLst (fCons (fBin oAdd (fBin oIx (fVar 14) (fC (.int 1))) (fTup (fCons (fDat (fBin oIx (fVar 14) (fC (.int 3)))) fNil))) (fCons (fDat (fVar 15)) fNil))) fNil))))) (gN 17))
    r_law_2) fNext)
    r_law_3)
def r_law_5 : FS := (fSeq (fIfS (fNot (fTru (fCall w__law_refused (fCons (fVar 2) (fCons (fCall w__law_with (fCons (fVar 7) (fCons (fVar 14) (fCons (fVar 15) fNil)))) fNil))))) (fRet (fC (.bl false))) fNext)
    r_law_4)
def r_law_6 : FS := (fSeq (fAsg (fDat (fBin oIx (fLst (fCons (fC (.int 1)) (fCons (fNeg (fC (.int 1))) (fCons (fC (.int 7)) (fCons (fNeg (fC (.int 2))) fNil))))) (fBin oIx (fVar 4) (fC (.int 7))))) (gN 15))
    r_law_5)
def r_law_7 : FS := (fSeq (fAsg (fFrz (fCall w__law_bad (fCons (fVar 2) (fCons (fVar 4) fNil)))) (gN 14))
    r_law_6)
def r_law_8 : FS := (fSeq (fAsg (fFrz (fCall w__law_digits (fCons (fCall w__law_cell (fCons (fVar 0) (fCons (fC (.int 16)) fNil))) (fCons (fFrz (fLst (fCons (fC (.int 4)) (fCons (fC (.int 3)) (fCons (fC (.int 5)) (fCons (fC (.int 4)) (fCons (fC (.int 4)) (fCons (fC (.int 4)) (fCons (fC (.int 4)) (fCons (fC (.int 4)) fNil)))))))))) fNil)))) (gN 4))
    r_law_7)
def r_law_9 : FS := (fFz 11 (fSeq (fFor (fWalk (fFrz (fLst (fCons (fDat (fVar 5)) (fCons (fDat (fVar 11)) (fCons (fComp (fRng oR1 (fCons (fVar 2) fNil)) (gN 18) fYes (fC (.int 0)) [18]) (fCons (fSl (fVar 12) fNoP (fPart (fVar 2))) (fCons (fSl (fVar 12) (fPart (fC (.int 4))) (fPart (fBin oAdd (fC (.int 4)) (fVar 2)))) fNil)))))))) (gN 13) (fIfS (fNot (fTru (fCall w__law_holds (fCons (fVar 9) (fCons (fVar 6) (fCons (fVar 10) (fCons (fVar 13) fNil))))))) (fRet (fC (.bl false))) fNext))
    r_law_8))
def r_law_10 : FS := (fSeq (fAsg (fFrz (fCall w__law_digits (fCons (fCall w__law_cell (fCons (fVar 0) (fCons (fC (.int 15)) fNil))) (fCons (fFrz (fBin oRep (fLst (fCons (fC (.int 15)) fNil)) (fC (.int 8)))) fNil)))) (gN 12))
    r_law_9)
def r_law_11 : FS := (fSeq (fIfS (fBl (fBin oGt (fVar 2) (fC (.int 0)))) (fSeq (fAsg (fBin oMod (fBin oIx (fVar 4) (fC (.int 4))) (fVar 2)) (gN 16))
    r_law_1) fNext)
    r_law_10)
def r_law_12 : FS := (fSeq (fAsg (fComp (fRng oR1 (fCons (fVar 2) fNil)) (gN 18) fYes (fDat (fBin oIx (fVar 5) (fVar 18))) [18]) (gN 11))
    r_law_11)
def r_law_13 : FS := (fSeq (fAsg (fFrz (fCall w__law_sides (fCons (fVar 6) (fCons (fVar 2) fNil)))) (gN 10))
    r_law_12)
def r_law_14 : FS := (fSeq (fIfS (fNot (fTru (fCall (w__law_same 9) (fCons (fVar 9) (fCons (fVar 8) fNil))))) (fRet (fC (.bl false))) fNext)
    r_law_13)
def r_law_15 : FS := (fSeq (fAsg (fCall w_border_books (fCons (fVar 2) (fCons (fVar 7) fNil))) (gN 9))
    r_law_14)
def r_law_16 : FS := (fSeq (fAsg (fCall w__law_due (fCons (fVar 6) (fCons (fVar 2) fNil))) (gN 8))
    r_law_15)
def r_law_17 : FS := (fSeq (fAsg (fCall w__law_written (fCons (fVar 6) fNil)) (gN 7))
    r_law_16)
def r_law_18 : FS := (fSeq (fAsg (fFrz (fCall w__law_equation (fCons (fVar 0) (fCons (fVar 2) (fCons (fVar 3) (fCons (fBin oGt (fBin oIx (fVar 1) (fC (.int 1))) (fC (.int 0))) (fCons (fVar 5) fNil))))))) (gN 6))
    r_law_17)
def r_law_19 : FS := (fSeq (fAsg (fFrz (fSl (fVar 4) fNoP (fPart (fVar 2)))) (gN 5))
    r_law_18)
def r_law_20 : FS := (fSeq (fAsg (fFrz (fCall w__law_digits (fCons (fCall w__law_cell (fCons (fVar 0) (fCons (fC (.int 1)) fNil))) (fCons (fFrz (fLst (fCons (fC (.int 8)) (fCons (fC (.int 8)) (fCons (fC (.int 8)) (fCons (fC (.int 8)) (fCons (fC (.int 4)) (fCons (fC (.int 2)) fNil)))))))) fNil)))) (gN 4))
    r_law_19)
def r_law_21 : FS := (fSeq (fAsg (fDat (fBin oIx (fLst (fCons (fC (.int 3)) (fCons (fC (.int 1)) (fCons (fC (.int 4)) (fCons (fC (.int 2)) (fCons (fC (.int 5)) (fCons (fC (.int 6)) (fCons (fC (.int 2)) (fCons (fC (.int 0)) fNil))))))))) (fBin oIx (fVar 1) (fC (.int 2))))) (gN 3))
    r_law_20)
def r_law_22 : FS := (fSeq (fAsg (fDat (fBin oIx (fLst (fCons (fC (.int 2)) (fCons (fC (.int 1)) (fCons (fC (.int 3)) (fCons (fC (.int 4)) (fCons (fC (.int 2)) (fCons (fC (.int 1)) (fCons (fC (.int 3)) (fCons (fC (.int 0)) fNil))))))))) (fBin oIx (fVar 1) (fC (.int 0))))) (gN 2))
    r_law_21)
def r_law : FS := (fSeq (fAsg (fFrz (fCall w__law_digits (fCons (fCall w__law_cell (fCons (fVar 0) (fCons (fC (.int 0)) fNil))) (fCons (fFrz (fLst (fCons (fC (.int 8)) (fCons (fC (.int 3)) (fCons (fC (.int 8)) fNil))))) fNil)))) (gN 1))
    r_law_22)
def w_law : FF := mkW 20 1 r_law
section
variable {P : Program} {w : World} {K : PySem.W.Frag} {mg : Str → Option Value} {base : Heap}
abbrev st_order_of : Stmt := topS 14
theorem sc_order_of : FnScope ["text", "order", "letter"] ["text"] (defScope st_order_of) := ⟨rfl, rfl, rfl, by decide +kernel, rfl, by decide +kernel, by decide +kernel⟩
theorem ok_order_of (F : DefAt K mg "order_of" st_order_of ["text"]) (z_reversed : mg "reversed" = none) : Cal P w K mg base "order_of" 1 ["text"] w_order_of := by
  refine cal_mk (r := r_order_of) F sc_order_of fun f cdv A outer s H E hr => ?_
  exact (fs_cons (fs_set (i := 1) sc_order_of.nd rfl (by first | exact Or.inl rfl | exact Or.inr rfl) (fe_c pe_str fun _ _ => FD.str' (by decide +kernel)))
    (fs_cons (fs_for (vs := [2]) (passes_of rfl) rfl (fi_revS (by rfl) z_reversed (fe_var (pv 0))) (fg_name (pg_name (i := 2) sc_order_of.nd rfl (by first | exact Or.inl rfl | exact Or.inr rfl))) (fs_one (fs_if (ft_cmp op_notInA (o_in (neg := true)) (fe_var (pv 2)) (fe_var (pv 1)) (by rfl)) (fs_one (fs_set (i := 1) sc_order_of.nd rfl (by first | exact Or.inl rfl | exact Or.inr rfl) (fe_op op_addA o_add (fe_var (pv 2)) (fe_var (pv 1))))) fs_nil)))
    (fs_one (fs_retV (i := 1) (pv 1)))))
abbrev st_orders : Stmt := topS 15
theorem sc_orders : FnScope ["count", "found", "layer", "_", "order", "letter"] ["count"] (defScope st_orders) := ⟨rfl, rfl, rfl, by decide +kernel, rfl, by decide +kernel, by decide +kernel⟩
theorem ok_orders (F : DefAt K mg "orders" st_orders ["count"]) (z_range : mg "range" = none) (z_tuple : mg "tuple" = none) (g_LETTERS : GlobD ⟨K, mg, w⟩ "LETTERS" gv_LETTERS) (hNL : NoLists K) : Cal P w K mg base "orders" 1 ["count"] w_orders := by
  refine cal_mk (r := r_orders) F sc_orders fun f cdv A outer s H E hr => ?_
  exact (fs_cons (fs_set (i := 1) sc_orders.nd rfl (by first | exact Or.inl rfl | exact Or.inr rfl) (fe_frz (fe_lst (fa_cons (fe_c pe_str fun _ _ => FD.str' (by decide +kernel)) fa_nil))))
    (fs_cons (fs_set (i := 2) sc_orders.nd rfl (by first | exact Or.inl rfl | exact Or.inr rfl) (fe_frz (fe_lst (fa_cons (fe_c pe_str fun _ _ => FD.str' (by decide +kernel)) fa_nil))))
    (fs_cons (fs_for (vs := [3]) (passes_of rfl) rfl (fi_rng1 (by rfl) z_range (fb_cons (fe_var (pv 0)) fb_nil)) (fg_name (pg_name (i := 3) sc_orders.nd rfl (by first | exact Or.inl rfl | exact Or.inr rfl))) (fs_cons (fs_setLc2 (i := 2) (own := [("order", 4), ("letter", 5)]) (vs1 := [5]) rfl sc_orders.nd rfl rfl (sw_true rfl rfl rfl (by decide +kernel)) (fi_any rfl (fe_var (pv 2))) (blkOk_by (own := [("order", 4), ("letter", 5)]) (N := ["count", "found", "layer", "_", "order", "letter"]) (sc := defScope st_orders) (by decide +kernel)) (by decide) (fun _ _ _ _ _ => (fg_name (pg_name (i := 4) sc_orders.nd rfl (by first | exact Or.inl rfl | exact Or.inr rfl)))) (fun _ _ _ _ _ => fts_nil) (fun _ _ _ _ _ => (fi_any rfl (fe_lb (fe_frz (fe_slice rfl (fe_lb (fe_glob g_LETTERS (by rfl))) fo_none (fo_some (fe_var (pv 0)))))))) (fun _ _ _ _ _ => (fg_name (pg_name (i := 5) sc_orders.nd rfl (by first | exact Or.inl rfl | exact Or.inr rfl)))) (fun _ _ _ _ _ => (fts_one (ft_cmp op_notInA (o_in (neg := true)) (fe_var (pv 5)) (fe_var (pv 4)) (by rfl)))) (fun _ _ _ _ _ => (fe_op op_addA o_add (fe_var (pv 4)) (fe_var (pv 5)))))
    (fs_fz (i := 2) (fs_one (fs_set (i := 1) sc_orders.nd rfl (by first | exact Or.inl rfl | exact Or.inr rfl) (fe_frz (fe_op op_catR (o_cat hNL) (fe_var (pv 1)) (fe_var (pv 2)))))))))
    (fs_one (fs_ret (fe_callTy call_tuple_of o_tupC (by rfl) z_tuple (by decide +kernel) (fb_cons (fe_var (pv 1)) fb_nil)))))))
abbrev st_behind_variables : Stmt := topS 19
theorem sc_behind_variables : FnScope ["argument", "order", "found", "at", "letter", "mark"] ["argument", "order"] (defScope st_behind_variables) := ⟨rfl, rfl, rfl, by decide +kernel, rfl, by decide +kernel, by decide +kernel⟩
theorem ok_behind_variables (F : DefAt K mg "behind_variables" st_behind_variables ["argument", "order"]) (z_enumerate : mg "enumerate" = none) (z_sorted : mg "sorted" = none) (z_tuple : mg "tuple" = none) : Cal P w K mg base "behind_variables" 1 ["argument", "order"] w_behind_variables := by
  refine cal_mk (r := r_behind_variables) F sc_behind_variables fun f cdv A outer s H E hr => ?_
  exact (fs_cons (fs_set (i := 2) sc_behind_variables.nd rfl (by first | exact Or.inl rfl | exact Or.inr rfl) (fe_lst fa_nil))
    (fs_cons (fs_for (vs := [3, 4]) (passes_of rfl) rfl (fi_enum rfl (by rfl) z_enumerate (fb_cons (fe_var (pv 1)) fb_nil)) (fg_tup rfl rfl (fgs_cons (fg_name (pg_name (i := 3) sc_behind_variables.nd rfl (by first | exact Or.inl rfl | exact Or.inr rfl))) (fgs_cons (fg_name (pg_name (i := 4) sc_behind_variables.nd rfl (by first | exact Or.inl rfl | exact Or.inr rfl))) fgs_nil))) (fs_cons (fs_append (i := 2) rfl (pv 2) (fe_tup (fa_cons (fe_dat (fe_var (pv 0))) (fa_cons (fe_dat (fe_var (pv 4))) (fa_cons (fe_c pe_str fun _ _ => FD.str' (by decide +kernel)) fa_nil)))))
    (fs_one (fs_for (vs := [5]) (passes_of rfl) rfl (fi_any rfl (fe_lb (fe_frz (fe_slice rfl (fe_var (pv 1)) fo_none (fo_some (fe_var (pv 3))))))) (fg_name (pg_name (i := 5) sc_behind_variables.nd rfl (by first | exact Or.inl rfl | exact Or.inr rfl))) (fs_one (fs_append (i := 2) rfl (pv 2) (fe_tup (fa_cons (fe_dat (fe_var (pv 0))) (fa_cons (fe_dat (fe_var (pv 4))) (fa_cons (fe_dat (fe_var (pv 5))) fa_nil))))))))))
    (fs_one (fs_ret (fe_callTy call_tuple_of o_tupC (by rfl) z_tuple (by decide +kernel) (fb_cons (fe_lb (fe_callB (cr_sortedN (hu65 hr)) o_sortN (by rfl) z_sorted (by decide +kernel) (fb_cons (fe_var (pv 2)) fb_nil))) fb_nil))))))
abbrev st_monomial_of : Stmt := topS 22
theorem sc_monomial_of : FnScope ["pairs", "powers", "name", "power"] ["pairs"] (defScope st_monomial_of) := ⟨rfl, rfl, rfl, by decide +kernel, rfl, by decide +kernel, by decide +kernel⟩
theorem ok_monomial_of (F : DefAt K mg "monomial_of" st_monomial_of ["pairs"]) (z_sorted : mg "sorted" = none) (z_tuple : mg "tuple" = none) : Cal P w K mg base "monomial_of" 1 ["pairs"] w_monomial_of := by
  refine cal_mk (r := r_monomial_of) F sc_monomial_of fun f cdv A outer s H E hr => ?_
  exact (fs_cons (fs_set (i := 1) sc_monomial_of.nd rfl (by first | exact Or.inl rfl | exact Or.inr rfl) fe_dictT)
    (fs_cons (fs_for (vs := [2, 3]) (passes_of rfl) rfl (fi_any rfl (fe_var (pv 0))) (fg_tup rfl rfl (fgs_cons (fg_name (pg_name (i := 2) sc_monomial_of.nd rfl (by first | exact Or.inl rfl | exact Or.inr rfl))) (fgs_cons (fg_name (pg_name (i := 3) sc_monomial_of.nd rfl (by first | exact Or.inl rfl | exact Or.inr rfl))) fgs_nil))) (fs_one (fs_dset (i := 1) (hu10 hr) (fe_op op_addA o_add (fe_lb (fe_dget2 (hu10 hr) (fe_var (pv 1)) (fe_var (pv 2)) (fe_lb (fe_c pe_int fun _ _ => .int _)))) (fe_var (pv 3))) (pv 1) (fe_var (pv 2)))))
    (fs_one (fs_ret (fe_callTy call_tuple_of o_tupC (by rfl) z_tuple (by decide +kernel) (fb_cons (fe_lb (fe_lc (own := [("name", 2)]) rfl sc_monomial_of.nd (fi_any rfl (fe_lb (fe_frz (fe_callB (cr_sortedDN rfl (hu65 hr)) o_sortDN (by rfl) z_sorted (by decide +kernel) (fb_cons (fe_var (pv 1)) fb_nil))))) (blkOk_by (own := [("name", 2)]) (N := ["pairs", "powers", "name", "power"]) (sc := defScope st_monomial_of) (by decide +kernel)) (fun _ _ _ _ _ => (fg_name (pg_name (i := 2) sc_monomial_of.nd rfl (by first | exact Or.inl rfl | exact Or.inr rfl)))) (fun _ _ _ _ _ => (fts_one (ft_cmp op_gt o_gt (fe_lb (fe_dix (hu10 hr) (fe_var (pv 1)) (fe_var (pv 2)) (fun _ _ => rfl))) (fe_lb (fe_c pe_int fun _ _ => .int _)) (nomark _)))) (fun _ _ _ _ _ => (fe_tup (fa_cons (fe_dat (fe_var (pv 2))) (fa_cons (fe_dix (hu10 hr) (fe_var (pv 1)) (fe_var (pv 2)) (fun _ _ => rfl)) fa_nil)))))) fb_nil))))))
abbrev st_variables_in : Stmt := topS 28
theorem sc_variables_in : FnScope ["one", "name", "monomial", "_"] ["one"] (defScope st_variables_in) := ⟨rfl, rfl, rfl, by decide +kernel, rfl, by decide +kernel, by decide +kernel⟩
theorem ok_variables_in (F : DefAt K mg "variables_in" st_variables_in ["one"]) (z_sorted : mg "sorted" = none) (z_tuple : mg "tuple" = none) : Cal P w K mg base "variables_in" 1 ["one"] w_variables_in := by
  refine cal_mk (r := r_variables_in) F sc_variables_in fun f cdv A outer s H E hr => ?_
  exact (fs_one (fs_ret (fe_callTy call_tuple_of o_tupC (by rfl) z_tuple (by decide +kernel) (fb_cons (fe_lb (fe_sortS (own := [("monomial", 2), ("_", 3), ("name", 1)]) (vs1 := [1, 3]) (hu10 hr) (hu65 hr) rfl sc_variables_in.nd (by rfl) z_sorted (fi_any rfl (fe_var (pv 0))) (blkOk_by (own := [("monomial", 2), ("_", 3), ("name", 1)]) (N := ["one", "name", "monomial", "_"]) (sc := defScope st_variables_in) (by decide +kernel)) (by decide) (fun _ _ _ _ _ => (fg_tup rfl rfl (fgs_cons (fg_name (pg_name (i := 2) sc_variables_in.nd rfl (by first | exact Or.inl rfl | exact Or.inr rfl))) (fgs_cons (fg_name (pg_name (i := 3) sc_variables_in.nd rfl (by first | exact Or.inl rfl | exact Or.inr rfl))) fgs_nil)))) (fun _ _ _ _ _ => fts_nil) (fun _ _ _ _ _ => (fi_any rfl (fe_var (pv 2)))) (fun _ _ _ _ _ => (fg_tup rfl rfl (fgs_cons (fg_name (pg_name (i := 1) sc_variables_in.nd rfl (by first | exact Or.inl rfl | exact Or.inr rfl))) (fgs_cons (fg_name (pg_name (i := 3) sc_variables_in.nd rfl (by first | exact Or.inl rfl | exact Or.inr rfl))) fgs_nil)))) (fun _ _ _ _ _ => fts_nil) (fun _ _ _ _ _ => (fe_dat (fe_var (pv 1)))))) fb_nil))))
abbrev st_value_at : Stmt := topS 29
theorem sc_value_at : FnScope ["one", "point", "numbers", "total", "name", "number", "monomial", "worth", "power", "_"] ["one", "point"] (defScope st_value_at) := ⟨rfl, rfl, rfl, by decide +kernel, rfl, by decide +kernel, by decide +kernel⟩
theorem ok_value_at (F : DefAt K mg "value_at" st_value_at ["one", "point"]) (z_range : mg "range" = none) : Cal P w K mg base "value_at" 1 ["one", "point"] w_value_at := by
  refine cal_mk (r := r_value_at) F sc_value_at fun f cdv A outer s H E hr => ?_
  exact (fs_cons (fs_setDc (i := 2) (b := true) (own := [("name", 4), ("number", 5)]) (hu10 hr) rfl sc_value_at.nd rfl rfl (sw_dc rfl rfl rfl (by decide +kernel)) (fi_any rfl (fe_var (pv 1))) (blkOk_by (own := [("name", 4), ("number", 5)]) (N := ["one", "point", "numbers", "total", "name", "number", "monomial", "worth", "power", "_"]) (sc := defScope st_value_at) (by decide +kernel)) (fun _ _ _ _ _ => (fg_tup rfl rfl (fgs_cons (fg_name (pg_name (i := 4) sc_value_at.nd rfl (by first | exact Or.inl rfl | exact Or.inr rfl))) (fgs_cons (fg_name (pg_name (i := 5) sc_value_at.nd rfl (by first | exact Or.inl rfl | exact Or.inr rfl))) fgs_nil)))) (fun _ _ _ _ _ => fts_nil) (fun _ _ _ _ _ => (fe_dat (fe_var (pv 4)))) (fun _ _ _ _ _ => (fe_dat (fe_var (pv 5)))))
    (fs_cons (fs_set (i := 3) sc_value_at.nd rfl (by first | exact Or.inl rfl | exact Or.inr rfl) (fe_c pe_int fun _ _ => .int _))
    (fs_cons (fs_for (vs := [6, 5]) (passes_of rfl) rfl (fi_any rfl (fe_var (pv 0))) (fg_tup rfl rfl (fgs_cons (fg_name (pg_name (i := 6) sc_value_at.nd rfl (by first | exact Or.inl rfl | exact Or.inr rfl))) (fgs_cons (fg_name (pg_name (i := 5) sc_value_at.nd rfl (by first | exact Or.inl rfl | exact Or.inr rfl))) fgs_nil))) (fs_cons (fs_set (i := 7) sc_value_at.nd rfl (by first | exact Or.inl rfl | exact Or.inr rfl) (fe_dat (fe_var (pv 5))))
    (fs_cons (fs_for (vs := [4, 8]) (passes_of rfl) rfl (fi_any rfl (fe_var (pv 6))) (fg_tup rfl rfl (fgs_cons (fg_name (pg_name (i := 4) sc_value_at.nd rfl (by first | exact Or.inl rfl | exact Or.inr rfl))) (fgs_cons (fg_name (pg_name (i := 8) sc_value_at.nd rfl (by first | exact Or.inl rfl | exact Or.inr rfl))) fgs_nil))) (fs_one (fs_for (vs := [9]) (passes_of rfl) rfl (fi_rng1 (by rfl) z_range (fb_cons (fe_var (pv 8)) fb_nil)) (fg_name (pg_name (i := 9) sc_value_at.nd rfl (by first | exact Or.inl rfl | exact Or.inr rfl))) (fs_one (fs_set (i := 7) sc_value_at.nd rfl (by first | exact Or.inl rfl | exact Or.inr rfl) (fe_op op_mulW o_mul (fe_var (pv 7)) (fe_lb (fe_dget2 (hu10 hr) (fe_var (pv 2)) (fe_var (pv 4)) (fe_lb (fe_c pe_int fun _ _ => .int _))))))))))
    (fs_one (fs_set (i := 3) sc_value_at.nd rfl (by first | exact Or.inl rfl | exact Or.inr rfl) (fe_op op_addA o_add (fe_var (pv 3)) (fe_var (pv 7))))))))
    (fs_one (fs_retV (i := 3) (pv 3))))))
abbrev st__law_cell : Stmt := topS 37
theorem sc__law_cell : FnScope ["script", "k", "seed", "cell"] ["script", "k"] (defScope st__law_cell) := ⟨rfl, rfl, rfl, by decide +kernel, rfl, by decide +kernel, by decide +kernel⟩
theorem ok__law_cell (F : DefAt K mg "_law_cell" st__law_cell ["script", "k"]) (z_len : mg "len" = none) (z_int : mg "int" = none) : Cal P w K mg base "_law_cell" 1 ["script", "k"] w__law_cell := by
  refine cal_mk (r := r__law_cell) F sc__law_cell fun f cdv A outer s H E hr => ?_
  exact (fs_cons (fs_if (ft_cmp op_lt o_lt (fe_var (pv 1)) (fe_lb (fe_callB call_len o_len (by rfl) z_len (by decide +kernel) (fb_cons (fe_var (pv 0)) fb_nil))) (nomark _)) (fs_one (fs_ret (fe_dat (fb_ix ix_seq o_ix (fe_var (pv 0)) (fe_var (pv 1)) (fun _ _ => rfl))))) fs_nil)
    (fs_cons (fs_set (i := 2) sc__law_cell.nd rfl (by first | exact Or.inl rfl | exact Or.inr rfl) (fe_c pe_int fun _ _ => .int _))
    (fs_cons (fs_for (vs := [3]) (passes_of rfl) rfl (fi_any rfl (fe_var (pv 0))) (fg_name (pg_name (i := 3) sc__law_cell.nd rfl (by first | exact Or.inl rfl | exact Or.inr rfl))) (fs_one (fs_set (i := 2) sc__law_cell.nd rfl (by first | exact Or.inl rfl | exact Or.inr rfl) (fe_op op_mod o_mod (fe_lb (fe_callTy call_int1 o_intC (by rfl) z_int (by decide +kernel) (fb_cons (fe_lb (fe_op op_addA o_add (fe_lb (fe_op op_mulW o_mul (fe_var (pv 2)) (fe_lb (fe_c pe_int fun _ _ => .int _)))) (fe_lb (fe_op op_mod o_mod (fe_lb (fe_callTy call_int1 o_intC (by rfl) z_int (by decide +kernel) (fb_cons (fe_var (pv 3)) fb_nil))) (fe_lb (fe_c pe_int fun _ _ => .int _)))))) fb_nil))) (fe_lb (fe_c pe_int fun _ _ => .int _))))))
    (fs_one (fs_ret (fe_op op_mod o_mod (fe_lb (fe_callTy call_int1 o_intC (by rfl) z_int (by decide +kernel) (fb_cons (fe_lb (fe_op op_mulW o_mul (fe_lb (fe_op op_mulW o_mul (fe_lb (fe_op op_addA o_add (fe_var (pv 2)) (fe_lb (fe_c pe_int fun _ _ => .int _)))) (fe_lb (fe_op op_addA o_add (fe_var (pv 1)) (fe_lb (fe_c pe_int fun _ _ => .int _)))))) (fe_lb (fe_c pe_int fun _ _ => .int _)))) fb_nil))) (fe_lb (fe_c pe_int fun _ _ => .int _))))))))
abbrev st__law_digits : Stmt := topS 38
theorem sc__law_digits : FnScope ["cell", "sizes", "row", "rest", "seed", "k", "size", "twice"] ["cell", "sizes"] (defScope st__law_digits) := ⟨rfl, rfl, rfl, by decide +kernel, rfl, by decide +kernel, by decide +kernel⟩
theorem ok__law_digits (F : DefAt K mg "_law_digits" st__law_digits ["cell", "sizes"]) (z_int : mg "int" = none) (z_len : mg "len" = none) (z_range : mg "range" = none) : Cal P w K mg base "_law_digits" 1 ["cell", "sizes"] w__law_digits := by
  refine cal_mk (r := r__law_digits) F sc__law_digits fun f cdv A outer s H E hr => ?_
  exact (fs_cons (fs_set (i := 2) sc__law_digits.nd rfl (by first | exact Or.inl rfl | exact Or.inr rfl) (fe_lst fa_nil))
    (fs_cons (fs_set (i := 3) sc__law_digits.nd rfl (by first | exact Or.inl rfl | exact Or.inr rfl) (fe_callTy call_int1 o_intC (by rfl) z_int (by decide +kernel) (fb_cons (fe_var (pv 0)) fb_nil)))
    (fs_cons (fs_if (ft_cmp op_ge o_ge (fe_var (pv 3)) (fe_lb (fe_op op_pow o_pow (fe_lb (fe_c pe_int fun _ _ => .int _)) (fe_lb (fe_c pe_int fun _ _ => .int _)))) (nomark _)) (fs_cons (fs_set (i := 3) sc__law_digits.nd rfl (by first | exact Or.inl rfl | exact Or.inr rfl) (fe_op op_sub o_sub (fe_var (pv 3)) (fe_lb (fe_op op_pow o_pow (fe_lb (fe_c pe_int fun _ _ => .int _)) (fe_lb (fe_c pe_int fun _ _ => .int _))))))
    (fs_cons (fs_for (vs := [6]) (passes_of rfl) rfl (fi_any rfl (fe_var (pv 1))) (fg_name (pg_name (i := 6) sc__law_digits.nd rfl (by first | exact Or.inl rfl | exact Or.inr rfl))) (fs_cons (fs_append (i := 2) rfl (pv 2) (fe_op op_mod o_mod (fe_lb (fe_callTy call_int1 o_intC (by rfl) z_int (by decide +kernel) (fb_cons (fe_var (pv 3)) fb_nil))) (fe_var (pv 6))))
    (fs_one (fs_set (i := 3) sc__law_digits.nd rfl (by first | exact Or.inl rfl | exact Or.inr rfl) (fe_op op_fdivW o_fdiv (fe_lb (fe_callTy call_int1 o_intC (by rfl) z_int (by decide +kernel) (fb_cons (fe_var (pv 3)) fb_nil))) (fe_var (pv 6)))))))
    (fs_one (fs_retV (i := 2) (pv 2))))) fs_nil)
    (fs_cons (fs_set (i := 4) sc__law_digits.nd rfl (by first | exact Or.inl rfl | exact Or.inr rfl) (fe_op op_mod o_mod (fe_lb (fe_callTy call_int1 o_intC (by rfl) z_int (by decide +kernel) (fb_cons (fe_var (pv 3)) fb_nil))) (fe_lb (fe_c pe_int fun _ _ => .int _))))
    (fs_cons (fs_for (vs := [5]) (passes_of rfl) rfl (fi_rng1 (by rfl) z_range (fb_cons (fe_lb (fe_callB call_len o_len (by rfl) z_len (by decide +kernel) (fb_cons (fe_var (pv 1)) fb_nil))) fb_nil)) (fg_name (pg_name (i := 5) sc__law_digits.nd rfl (by first | exact Or.inl rfl | exact Or.inr rfl))) (fs_cons (fs_set (i := 4) sc__law_digits.nd rfl (by first | exact Or.inl rfl | exact Or.inr rfl) (fe_op op_mod o_mod (fe_lb (fe_callTy call_int1 o_intC (by rfl) z_int (by decide +kernel) (fb_cons (fe_lb (fe_op op_addA o_add (fe_lb (fe_op op_addA o_add (fe_lb (fe_op op_mulW o_mul (fe_var (pv 4)) (fe_lb (fe_c pe_int fun _ _ => .int _)))) (fe_lb (fe_op op_mulW o_mul (fe_lb (fe_c pe_int fun _ _ => .int _)) (fe_var (pv 5)))))) (fe_lb (fe_c pe_int fun _ _ => .int _)))) fb_nil))) (fe_lb (fe_c pe_int fun _ _ => .int _))))
    (fs_cons (fs_set (i := 7) sc__law_digits.nd rfl (by first | exact Or.inl rfl | exact Or.inr rfl) (fe_op op_mod o_mod (fe_lb (fe_callTy call_int1 o_intC (by rfl) z_int (by decide +kernel) (fb_cons (fe_lb (fe_op op_mulW o_mul (fe_var (pv 4)) (fe_lb (fe_op op_addA o_add (fe_lb (fe_op op_fdivW o_fdiv (fe_var (pv 4)) (fe_lb (fe_c pe_int fun _ _ => .int _)))) (fe_lb (fe_c pe_int fun _ _ => .int _)))))) fb_nil))) (fe_lb (fe_c pe_int fun _ _ => .int _))))
    (fs_one (fs_append (i := 2) rfl (pv 2) (fe_op op_mod o_mod (fe_lb (fe_op op_fdivW o_fdiv (fe_var (pv 7)) (fe_lb (fe_c pe_int fun _ _ => .int _)))) (fb_ix ix_seq o_ix (fe_var (pv 1)) (fe_var (pv 5)) (fun _ _ => rfl))))))))
    (fs_one (fs_retV (i := 2) (pv 2))))))))
abbrev st__law_collected : Stmt := topS 40
theorem sc__law_collected : FnScope ["terms", "sums", "term", "powers"] ["terms"] (defScope st__law_collected) := ⟨rfl, rfl, rfl, by decide +kernel, rfl, by decide +kernel, by decide +kernel⟩
theorem ok__law_collected (F : DefAt K mg "_law_collected" st__law_collected ["terms"]) (z_list : mg "list" = none) : Cal P w K mg base "_law_collected" 1 ["terms"] w__law_collected := by
  refine cal_mk (r := r__law_collected) F sc__law_collected fun f cdv A outer s H E hr => ?_
  exact (fs_cons (fs_set (i := 1) sc__law_collected.nd rfl (by first | exact Or.inl rfl | exact Or.inr rfl) fe_dictT)
    (fs_cons (fs_for (vs := [2]) (passes_of rfl) rfl (fi_any rfl (fe_var (pv 0))) (fg_name (pg_name (i := 2) sc__law_collected.nd rfl (by first | exact Or.inl rfl | exact Or.inr rfl))) (fs_one (fs_dset (i := 1) (hu10 hr) (fe_op op_addA o_add (fe_lb (fe_dget2 (hu10 hr) (fe_var (pv 1)) (fb_ix ix_seq o_ix (fe_var (pv 2)) (fe_lb (fe_c pe_int fun _ _ => .int _)) (fun _ _ => rfl)) (fe_lb (fe_c pe_int fun _ _ => .int _)))) (fb_ix ix_seq o_ix (fe_var (pv 2)) (fe_lb (fe_c pe_int fun _ _ => .int _)) (fun _ _ => rfl))) (pv 1) (fb_ix ix_seq o_ix (fe_var (pv 2)) (fe_lb (fe_c pe_int fun _ _ => .int _)) (fun _ _ => rfl)))))
    (fs_one (fs_ret (fe_lc (own := [("powers", 3)]) rfl sc__law_collected.nd (fi_any rfl (fe_lb (fe_frz (fe_callTy (call_listDN rfl) o_lstDN (by rfl) z_list (by decide +kernel) (fb_cons (fe_var (pv 1)) fb_nil))))) (blkOk_by (own := [("powers", 3)]) (N := ["terms", "sums", "term", "powers"]) (sc := defScope st__law_collected) (by decide +kernel)) (fun _ _ _ _ _ => (fg_name (pg_name (i := 3) sc__law_collected.nd rfl (by first | exact Or.inl rfl | exact Or.inr rfl)))) (fun _ _ _ _ _ => (fts_one (ft_cmp op_ne o_ne (fe_lb (fe_dix (hu10 hr) (fe_var (pv 1)) (fe_var (pv 3)) (fun _ _ => rfl))) (fe_lb (fe_c pe_int fun _ _ => .int _)) (nomark _)))) (fun _ _ _ _ _ => (fe_lst (fa_cons (fe_dat (fe_var (pv 3))) (fa_cons (fe_dix (hu10 hr) (fe_var (pv 1)) (fe_var (pv 3)) (fun _ _ => rfl)) fa_nil)))))))))
abbrev st__law_written : Stmt := topS 41
theorem sc__law_written : FnScope ["terms", "rows", "term", "powers", "pairs", "k"] ["terms"] (defScope st__law_written) := ⟨rfl, rfl, rfl, by decide +kernel, rfl, by decide +kernel, by decide +kernel⟩
theorem ok__law_written (F : DefAt K mg "_law_written" st__law_written ["terms"]) (z_len : mg "len" = none) (z_range : mg "range" = none) (z_tuple : mg "tuple" = none) (z_sorted : mg "sorted" = none) : Cal P w K mg base "_law_written" 1 ["terms"] w__law_written := by
  refine cal_mk (r := r__law_written) F sc__law_written fun f cdv A outer s H E hr => ?_
  exact (fs_cons (fs_set (i := 1) sc__law_written.nd rfl (by first | exact Or.inl rfl | exact Or.inr rfl) (fe_lst fa_nil))
    (fs_cons (fs_for (vs := [2]) (passes_of rfl) rfl (fi_any rfl (fe_var (pv 0))) (fg_name (pg_name (i := 2) sc__law_written.nd rfl (by first | exact Or.inl rfl | exact Or.inr rfl))) (fs_cons (fs_set (i := 3) sc__law_written.nd rfl (by first | exact Or.inl rfl | exact Or.inr rfl) (fe_dat (fb_ix ix_seq o_ix (fe_var (pv 2)) (fe_lb (fe_c pe_int fun _ _ => .int _)) (fun _ _ => rfl))))
    (fs_cons (fs_setLc (i := 4) (own := [("k", 5)]) rfl sc__law_written.nd rfl rfl (sw_true rfl rfl rfl (by decide +kernel)) (fi_rng1 (by rfl) z_range (fb_cons (fe_lb (fe_callB call_len o_len (by rfl) z_len (by decide +kernel) (fb_cons (fe_var (pv 3)) fb_nil))) fb_nil)) (blkOk_by (own := [("k", 5)]) (N := ["terms", "rows", "term", "powers", "pairs", "k"]) (sc := defScope st__law_written) (by decide +kernel)) (fun _ _ _ _ _ => (fg_name (pg_name (i := 5) sc__law_written.nd rfl (by first | exact Or.inl rfl | exact Or.inr rfl)))) (fun _ _ _ _ _ => (fts_one (ft_cmp op_gt o_gt (fb_ix ix_seq o_ix (fe_var (pv 3)) (fe_var (pv 5)) (fun _ _ => rfl)) (fe_lb (fe_c pe_int fun _ _ => .int _)) (nomark _)))) (fun _ _ _ _ _ => (fe_tup (fa_cons (fe_tup (fa_cons (fe_dat (fe_var (pv 5))) (fa_cons (fe_c pe_str fun _ _ => FD.str' (by decide +kernel)) (fa_cons (fe_c pe_str fun _ _ => FD.str' (by decide +kernel)) fa_nil)))) (fa_cons (fe_dat (fb_ix ix_seq o_ix (fe_var (pv 3)) (fe_var (pv 5)) (fun _ _ => rfl))) fa_nil)))))
    (fs_fz (i := 4) (fs_one (fs_append (i := 1) rfl (pv 1) (fe_tup (fa_cons (fe_callTy call_tuple_of o_tupC (by rfl) z_tuple (by decide +kernel) (fb_cons (fe_var (pv 4)) fb_nil)) (fa_cons (fe_dat (fb_ix ix_seq o_ix (fe_var (pv 2)) (fe_lb (fe_c pe_int fun _ _ => .int _)) (fun _ _ => rfl))) fa_nil)))))))))
    (fs_one (fs_ret (fe_callTy call_tuple_of o_tupC (by rfl) z_tuple (by decide +kernel) (fb_cons (fe_lb (fe_callB (cr_sortedN (hu65 hr)) o_sortN (by rfl) z_sorted (by decide +kernel) (fb_cons (fe_var (pv 1)) fb_nil))) fb_nil))))))
abbrev st__law_worth : Stmt := topS 43
theorem sc__law_worth : FnScope ["terms", "point", "total", "term", "product", "k", "turn"] ["terms", "point"] (defScope st__law_worth) := ⟨rfl, rfl, rfl, by decide +kernel, rfl, by decide +kernel, by decide +kernel⟩
theorem ok__law_worth (F : DefAt K mg "_law_worth" st__law_worth ["terms", "point"]) (z_len : mg "len" = none) (z_range : mg "range" = none) : Cal P w K mg base "_law_worth" 1 ["terms", "point"] w__law_worth := by
  refine cal_mk (r := r__law_worth) F sc__law_worth fun f cdv A outer s H E hr => ?_
  exact (fs_cons (fs_set (i := 2) sc__law_worth.nd rfl (by first | exact Or.inl rfl | exact Or.inr rfl) (fe_c pe_int fun _ _ => .int _))
    (fs_cons (fs_for (vs := [3]) (passes_of rfl) rfl (fi_any rfl (fe_var (pv 0))) (fg_name (pg_name (i := 3) sc__law_worth.nd rfl (by first | exact Or.inl rfl | exact Or.inr rfl))) (fs_cons (fs_set (i := 4) sc__law_worth.nd rfl (by first | exact Or.inl rfl | exact Or.inr rfl) (fe_dat (fb_ix ix_seq o_ix (fe_var (pv 3)) (fe_lb (fe_c pe_int fun _ _ => .int _)) (fun _ _ => rfl))))
    (fs_cons (fs_for (vs := [5]) (passes_of rfl) rfl (fi_rng1 (by rfl) z_range (fb_cons (fe_lb (fe_callB call_len o_len (by rfl) z_len (by decide +kernel) (fb_cons (fe_var (pv 1)) fb_nil))) fb_nil)) (fg_name (pg_name (i := 5) sc__law_worth.nd rfl (by first | exact Or.inl rfl | exact Or.inr rfl))) (fs_one (fs_for (vs := [6]) (passes_of rfl) rfl (fi_rng1 (by rfl) z_range (fb_cons (fb_ix ix_seq o_ix (fb_ix ix_seq o_ix (fe_var (pv 3)) (fe_lb (fe_c pe_int fun _ _ => .int _)) (fun _ _ => rfl)) (fe_var (pv 5)) (fun _ _ => rfl)) fb_nil)) (fg_name (pg_name (i := 6) sc__law_worth.nd rfl (by first | exact Or.inl rfl | exact Or.inr rfl))) (fs_one (fs_set (i := 4) sc__law_worth.nd rfl (by first | exact Or.inl rfl | exact Or.inr rfl) (fe_op op_mulW o_mul (fe_var (pv 4)) (fb_ix ix_seq o_ix (fe_var (pv 1)) (fe_var (pv 5)) (fun _ _ => rfl))))))))
    (fs_one (fs_set (i := 2) sc__law_worth.nd rfl (by first | exact Or.inl rfl | exact Or.inr rfl) (fe_op op_addA o_add (fe_var (pv 2)) (fe_var (pv 4))))))))
    (fs_one (fs_retV (i := 2) (pv 2)))))
abbrev st__law_bad : Stmt := topS 48
theorem sc__law_bad : FnScope ["many", "row", "good", "bad", "k"] ["many", "row"] (defScope st__law_bad) := ⟨rfl, rfl, rfl, by decide +kernel, rfl, by decide +kernel, by decide +kernel⟩
theorem ok__law_bad (F : DefAt K mg "_law_bad" st__law_bad ["many", "row"]) (z_max : mg "max" = none) (z_range : mg "range" = none) (z_tuple : mg "tuple" = none) : Cal P w K mg base "_law_bad" 1 ["many", "row"] w__law_bad := by
  refine cal_mk (r := r__law_bad) F sc__law_bad fun f cdv A outer s H E hr => ?_
  exact (fs_cons (fs_set (i := 2) sc__law_bad.nd rfl (by first | exact Or.inl rfl | exact Or.inr rfl) (fe_op op_mod o_mod (fb_ix ix_seq o_ix (fe_var (pv 1)) (fe_lb (fe_c pe_int fun _ _ => .int _)) (fun _ _ => rfl)) (fe_lb (fe_callB (call_max2 rfl) o_max2 (by rfl) z_max (by decide +kernel) (fb_cons (fe_lb (fe_c pe_int fun _ _ => .int _)) (fb_cons (fe_var (pv 0)) fb_nil))))))
    (fs_cons (fs_set (i := 3) sc__law_bad.nd rfl (by first | exact Or.inl rfl | exact Or.inr rfl) (fe_dat (fb_ix ix_seq o_ix (fe_lb (fe_lst (fa_cons (fe_tup (fa_cons (fe_dat (fe_var (pv 0))) (fa_cons (fe_c pe_str fun _ _ => FD.str' (by decide +kernel)) (fa_cons (fe_c pe_str fun _ _ => FD.str' (by decide +kernel)) fa_nil)))) (fa_cons (fe_tup (fa_cons (fe_op op_addA o_add (fe_lb (fe_op op_addA o_add (fe_var (pv 0)) (fe_lb (fe_c pe_int fun _ _ => .int _)))) (fb_ix ix_seq o_ix (fe_var (pv 1)) (fe_lb (fe_c pe_int fun _ _ => .int _)) (fun _ _ => rfl))) (fa_cons (fe_c pe_str fun _ _ => FD.str' (by decide +kernel)) (fa_cons (fe_c pe_str fun _ _ => FD.str' (by decide +kernel)) fa_nil)))) (fa_cons (fe_tup (fa_cons (fe_dat (fe_var (pv 2))) (fa_cons (fe_c pe_str fun _ _ => FD.str' (by decide +kernel)) (fa_cons (fe_c pe_str fun _ _ => FD.str' (by decide +kernel)) fa_nil)))) (fa_cons (fe_tup (fa_cons (fe_dat (fe_var (pv 2))) (fa_cons (fe_c pe_str fun _ _ => FD.str' (by decide +kernel)) (fa_cons (fe_c pe_str fun _ _ => FD.str' (by decide +kernel)) fa_nil)))) (fa_cons (fe_tup (fa_cons (fe_dat (fe_var (pv 2))) (fa_cons (fe_c pe_str fun _ _ => FD.str' (by decide +kernel)) (fa_cons (fe_c pe_str fun _ _ => FD.str' (by decide +kernel)) fa_nil)))) fa_nil))))))) (fb_ix ix_seq o_ix (fe_var (pv 1)) (fe_lb (fe_c pe_int fun _ _ => .int _)) (fun _ _ => rfl)) (fun _ _ => rfl))))
    (fs_one (fs_ret (fe_lst (fa_cons (fe_dat (fb_ix ix_seq o_ix (fe_var (pv 1)) (fe_lb (fe_c pe_int fun _ _ => .int _)) (fun _ _ => rfl))) (fa_cons (fe_callTy call_tuple_of o_tupC (by rfl) z_tuple (by decide +kernel) (fb_cons (fe_lb (fe_lc (own := [("k", 4)]) rfl sc__law_bad.nd (fi_rng1 (by rfl) z_range (fb_cons (fe_var (pv 0)) fb_nil)) (blkOk_by (own := [("k", 4)]) (N := ["many", "row", "good", "bad", "k"]) (sc := defScope st__law_bad) (by decide +kernel)) (fun _ _ _ _ _ => (fg_name (pg_name (i := 4) sc__law_bad.nd rfl (by first | exact Or.inl rfl | exact Or.inr rfl)))) (fun _ _ _ _ _ => fts_nil) (fun _ _ _ _ _ => (fe_dat (fb_ix ix_seq o_ix (fe_var (pv 1)) (fe_lb (fe_op op_addA o_add (fe_lb (fe_c pe_int fun _ _ => .int _)) (fe_var (pv 4)))) (fun _ _ => rfl)))))) fb_nil)) (fa_cons (fe_dat (fe_var (pv 3))) (fa_cons (fe_op op_addA o_add (fe_lb (fe_c pe_int fun _ _ => .int _)) (fb_ix ix_seq o_ix (fe_var (pv 1)) (fe_lb (fe_c pe_int fun _ _ => .int _)) (fun _ _ => rfl))) fa_nil)))))))))
abbrev st__law_with : Stmt := topS 49
theorem sc__law_with : FnScope ["one", "bad", "number", "pairs", "k"] ["one", "bad", "number"] (defScope st__law_with) := ⟨rfl, rfl, rfl, by decide +kernel, rfl, by decide +kernel, by decide +kernel⟩
theorem ok__law_with (F : DefAt K mg "_law_with" st__law_with ["one", "bad", "number"]) (z_len : mg "len" = none) (z_range : mg "range" = none) (z_list : mg "list" = none) (z_sorted : mg "sorted" = none) (z_tuple : mg "tuple" = none) (hNL : NoLists K) : Cal P w K mg base "_law_with" 1 ["one", "bad", "number"] w__law_with := by
  refine cal_mk (r := r__law_with) F sc__law_with fun f cdv A outer s H E hr => ?_
  exact (fs_cons (fs_setLc (i := 3) (own := [("k", 4)]) rfl sc__law_with.nd rfl rfl (sw_true rfl rfl rfl (by decide +kernel)) (fi_rng1 (by rfl) z_range (fb_cons (fe_lb (fe_callB call_len o_len (by rfl) z_len (by decide +kernel) (fb_cons (fb_ix ix_seq o_ix (fe_var (pv 1)) (fe_lb (fe_c pe_int fun _ _ => .int _)) (fun _ _ => rfl)) fb_nil))) fb_nil)) (blkOk_by (own := [("k", 4)]) (N := ["one", "bad", "number", "pairs", "k"]) (sc := defScope st__law_with) (by decide +kernel)) (fun _ _ _ _ _ => (fg_name (pg_name (i := 4) sc__law_with.nd rfl (by first | exact Or.inl rfl | exact Or.inr rfl)))) (fun _ _ _ _ _ => (fts_one (ft_cmp op_gt o_gt (fb_ix ix_seq o_ix (fb_ix ix_seq o_ix (fe_var (pv 1)) (fe_lb (fe_c pe_int fun _ _ => .int _)) (fun _ _ => rfl)) (fe_var (pv 4)) (fun _ _ => rfl)) (fe_lb (fe_c pe_int fun _ _ => .int _)) (nomark _)))) (fun _ _ _ _ _ => (fe_tup (fa_cons (fe_tup (fa_cons (fe_dat (fe_var (pv 4))) (fa_cons (fe_c pe_str fun _ _ => FD.str' (by decide +kernel)) (fa_cons (fe_c pe_str fun _ _ => FD.str' (by decide +kernel)) fa_nil)))) (fa_cons (fe_dat (fb_ix ix_seq o_ix (fb_ix ix_seq o_ix (fe_var (pv 1)) (fe_lb (fe_c pe_int fun _ _ => .int _)) (fun _ _ => rfl)) (fe_var (pv 4)) (fun _ _ => rfl))) fa_nil)))))
    (fs_fz (i := 3) (fs_one (fs_ret (fe_callTy call_tuple_of o_tupC (by rfl) z_tuple (by decide +kernel) (fb_cons (fe_lb (fe_callB (cr_sortedN (hu65 hr)) o_sortN (by rfl) z_sorted (by decide +kernel) (fb_cons (fe_lb (fe_op op_catR (o_cat hNL) (fe_lb (fe_callTy call_list_of o_lstC (by rfl) z_list (by decide +kernel) (fb_cons (fe_var (pv 0)) fb_nil))) (fe_lb (fe_lst (fa_cons (fe_tup (fa_cons (fe_callTy call_tuple_of o_tupC (by rfl) z_tuple (by decide +kernel) (fb_cons (fe_lb (fe_callB (cr_sortedN (hu65 hr)) o_sortN (by rfl) z_sorted (by decide +kernel) (fb_cons (fe_lb (fe_op op_catR (o_cat hNL) (fe_var (pv 3)) (fe_lb (fe_lst (fa_cons (fe_tup (fa_cons (fe_dat (fb_ix ix_seq o_ix (fe_var (pv 1)) (fe_lb (fe_c pe_int fun _ _ => .int _)) (fun _ _ => rfl))) (fa_cons (fe_dat (fb_ix ix_seq o_ix (fe_var (pv 1)) (fe_lb (fe_c pe_int fun _ _ => .int _)) (fun _ _ => rfl))) fa_nil))) fa_nil))))) fb_nil))) fb_nil)) (fa_cons (fe_dat (fe_var (pv 2))) fa_nil))) fa_nil))))) fb_nil))) fb_nil))))))
abbrev st_order_rows : Stmt := topS 16
theorem sc_order_rows : FnScope ["counts", "choices", "count", "choice", "order"] ["counts"] (defScope st_order_rows) := ⟨rfl, rfl, rfl, by decide +kernel, rfl, by decide +kernel, by decide +kernel⟩
theorem ok_order_rows (F : DefAt K mg "order_rows" st_order_rows ["counts"]) (c_orders : Cal P w K mg base "orders" 1 ["count"] w_orders) (z_tuple : mg "tuple" = none) : Cal P w K mg base "order_rows" 2 ["counts"] w_order_rows := by
  refine cal_mk (r := r_order_rows) F sc_order_rows fun f cdv A outer s H E hr => ?_
  exact (fs_cons (fs_set (i := 1) sc_order_rows.nd rfl (by first | exact Or.inl rfl | exact Or.inr rfl) (fe_frz (fe_lst (fa_cons (fe_tup fa_nil) fa_nil))))
    (fs_cons (fs_for (vs := [2]) (passes_of rfl) rfl (fi_any rfl (fe_var (pv 0))) (fg_name (pg_name (i := 2) sc_order_rows.nd rfl (by first | exact Or.inl rfl | exact Or.inr rfl))) (fs_fz (i := 1) (fs_one (fs_setLc2 (i := 1) (own := [("choice", 3), ("order", 4)]) (vs1 := [4]) rfl sc_order_rows.nd rfl rfl (sw_true rfl rfl rfl (by decide +kernel)) (fi_any rfl (fe_var (pv 1))) (blkOk_by (own := [("choice", 3), ("order", 4)]) (N := ["counts", "choices", "count", "choice", "order"]) (sc := defScope st_order_rows) (by decide +kernel)) (by decide) (fun _ _ _ _ _ => (fg_name (pg_name (i := 3) sc_order_rows.nd rfl (by first | exact Or.inl rfl | exact Or.inr rfl)))) (fun _ _ _ _ _ => fts_nil) (fun _ _ _ _ _ => (fi_any rfl (fe_lb (fe_cal c_orders (hr.mono (by decide)) (by rfl) takes0N (fb_cons (fe_var (pv 2)) fb_nil))))) (fun _ _ _ _ _ => (fg_name (pg_name (i := 4) sc_order_rows.nd rfl (by first | exact Or.inl rfl | exact Or.inr rfl)))) (fun _ _ _ _ _ => fts_nil) (fun _ _ _ _ _ => (fe_op op_addA o_add (fe_var (pv 3)) (fe_lb (fe_tup (fa_cons (fe_dat (fe_var (pv 4))) fa_nil)))))))))
    (fs_one (fs_ret (fe_callTy call_tuple_ofN o_tupN (by rfl) z_tuple (by decide +kernel) (fb_cons (fe_var (pv 1)) fb_nil))))))
abbrev st_from_terms : Stmt := topS 23
theorem sc_from_terms : FnScope ["terms", "sums", "pairs", "number", "monomial"] ["terms"] (defScope st_from_terms) := ⟨rfl, rfl, rfl, by decide +kernel, rfl, by decide +kernel, by decide +kernel⟩
theorem ok_from_terms (F : DefAt K mg "from_terms" st_from_terms ["terms"]) (c_monomial_of : Cal P w K mg base "monomial_of" 1 ["pairs"] w_monomial_of) (z_sorted : mg "sorted" = none) (z_tuple : mg "tuple" = none) : Cal P w K mg base "from_terms" 2 ["terms"] w_from_terms := by
  refine cal_mk (r := r_from_terms) F sc_from_terms fun f cdv A outer s H E hr => ?_
  exact (fs_cons (fs_set (i := 1) sc_from_terms.nd rfl (by first | exact Or.inl rfl | exact Or.inr rfl) fe_dictT)
    (fs_cons (fs_for (vs := [2, 3]) (passes_of rfl) rfl (fi_any rfl (fe_var (pv 0))) (fg_tup rfl rfl (fgs_cons (fg_name (pg_name (i := 2) sc_from_terms.nd rfl (by first | exact Or.inl rfl | exact Or.inr rfl))) (fgs_cons (fg_name (pg_name (i := 3) sc_from_terms.nd rfl (by first | exact Or.inl rfl | exact Or.inr rfl))) fgs_nil))) (fs_cons (fs_set (i := 4) sc_from_terms.nd rfl (by first | exact Or.inl rfl | exact Or.inr rfl) (fe_cal c_monomial_of (hr.mono (by decide)) (by rfl) (L2N.takes_of rfl rfl rfl rfl) (fb_cons (fe_var (pv 2)) fb_nil)))
    (fs_one (fs_dset (i := 1) (hu10 hr) (fe_op op_addA o_add (fe_lb (fe_dget2 (hu10 hr) (fe_var (pv 1)) (fe_var (pv 4)) (fe_lb (fe_c pe_int fun _ _ => .int _)))) (fe_var (pv 3))) (pv 1) (fe_var (pv 4))))))
    (fs_one (fs_ret (fe_callTy call_tuple_of o_tupC (by rfl) z_tuple (by decide +kernel) (fb_cons (fe_lb (fe_lc (own := [("monomial", 4)]) rfl sc_from_terms.nd (fi_any rfl (fe_lb (fe_frz (fe_callB (cr_sortedDN rfl (hu65 hr)) o_sortDN (by rfl) z_sorted (by decide +kernel) (fb_cons (fe_var (pv 1)) fb_nil))))) (blkOk_by (own := [("monomial", 4)]) (N := ["terms", "sums", "pairs", "number", "monomial"]) (sc := defScope st_from_terms) (by decide +kernel)) (fun _ _ _ _ _ => (fg_name (pg_name (i := 4) sc_from_terms.nd rfl (by first | exact Or.inl rfl | exact Or.inr rfl)))) (fun _ _ _ _ _ => (fts_one (ft_cmp op_ne o_ne (fe_lb (fe_dix (hu10 hr) (fe_var (pv 1)) (fe_var (pv 4)) (fun _ _ => rfl))) (fe_lb (fe_c pe_int fun _ _ => .int _)) (nomark _)))) (fun _ _ _ _ _ => (fe_tup (fa_cons (fe_dat (fe_var (pv 4))) (fa_cons (fe_dix (hu10 hr) (fe_var (pv 1)) (fe_var (pv 4)) (fun _ _ => rfl)) fa_nil)))))) fb_nil))))))
abbrev st__law_squared : Stmt := topS 42
theorem sc__law_squared : FnScope ["terms", "found", "one", "two", "k"] ["terms"] (defScope st__law_squared) := ⟨rfl, rfl, rfl, by decide +kernel, rfl, by decide +kernel, by decide +kernel⟩
theorem ok__law_squared (F : DefAt K mg "_law_squared" st__law_squared ["terms"]) (c__law_collected : Cal P w K mg base "_law_collected" 1 ["terms"] w__law_collected) (z_len : mg "len" = none) (z_range : mg "range" = none) (z_tuple : mg "tuple" = none) : Cal P w K mg base "_law_squared" 2 ["terms"] w__law_squared := by
  refine cal_mk (r := r__law_squared) F sc__law_squared fun f cdv A outer s H E hr => ?_
  exact (fs_cons (fs_set (i := 1) sc__law_squared.nd rfl (by first | exact Or.inl rfl | exact Or.inr rfl) (fe_lst fa_nil))
    (fs_cons (fs_for (vs := [2]) (passes_of rfl) rfl (fi_any rfl (fe_var (pv 0))) (fg_name (pg_name (i := 2) sc__law_squared.nd rfl (by first | exact Or.inl rfl | exact Or.inr rfl))) (fs_one (fs_for (vs := [3]) (passes_of rfl) rfl (fi_any rfl (fe_var (pv 0))) (fg_name (pg_name (i := 3) sc__law_squared.nd rfl (by first | exact Or.inl rfl | exact Or.inr rfl))) (fs_one (fs_append (i := 1) rfl (pv 1) (fe_frz (fe_lst (fa_cons (fe_callTy call_tuple_of o_tupC (by rfl) z_tuple (by decide +kernel) (fb_cons (fe_lb (fe_lc (own := [("k", 4)]) rfl sc__law_squared.nd (fi_rng1 (by rfl) z_range (fb_cons (fe_lb (fe_callB call_len o_len (by rfl) z_len (by decide +kernel) (fb_cons (fb_ix ix_seq o_ix (fe_var (pv 2)) (fe_lb (fe_c pe_int fun _ _ => .int _)) (fun _ _ => rfl)) fb_nil))) fb_nil)) (blkOk_by (own := [("k", 4)]) (N := ["terms", "found", "one", "two", "k"]) (sc := defScope st__law_squared) (by decide +kernel)) (fun _ _ _ _ _ => (fg_name (pg_name (i := 4) sc__law_squared.nd rfl (by first | exact Or.inl rfl | exact Or.inr rfl)))) (fun _ _ _ _ _ => fts_nil) (fun _ _ _ _ _ => (fe_op op_addA o_add (fb_ix ix_seq o_ix (fb_ix ix_seq o_ix (fe_var (pv 2)) (fe_lb (fe_c pe_int fun _ _ => .int _)) (fun _ _ => rfl)) (fe_var (pv 4)) (fun _ _ => rfl)) (fb_ix ix_seq o_ix (fb_ix ix_seq o_ix (fe_var (pv 3)) (fe_lb (fe_c pe_int fun _ _ => .int _)) (fun _ _ => rfl)) (fe_var (pv 4)) (fun _ _ => rfl)))))) fb_nil)) (fa_cons (fe_op op_mulW o_mul (fb_ix ix_seq o_ix (fe_var (pv 2)) (fe_lb (fe_c pe_int fun _ _ => .int _)) (fun _ _ => rfl)) (fb_ix ix_seq o_ix (fe_var (pv 3)) (fe_lb (fe_c pe_int fun _ _ => .int _)) (fun _ _ => rfl))) fa_nil)))))))))
    (fs_fz (i := 1) (fs_one (fs_ret (fe_cal c__law_collected (hr.mono (by decide)) (by rfl) (L2N.takes_of rfl rfl rfl rfl) (fb_cons (fe_var (pv 1)) fb_nil)))))))
abbrev st__law_book : Stmt := topS 44
theorem sc__law_book : FnScope ["terms", "many", "rows", "at", "kept", "term", "k"] ["terms", "many"] (defScope st__law_book) := ⟨rfl, rfl, rfl, by decide +kernel, rfl, by decide +kernel, by decide +kernel⟩
theorem ok__law_book (F : DefAt K mg "_law_book" st__law_book ["terms", "many"]) (c__law_written : Cal P w K mg base "_law_written" 1 ["terms"] w__law_written) (z_range : mg "range" = none) (z_all : mg "all" = none) (z_tuple : mg "tuple" = none) : Cal P w K mg base "_law_book" 2 ["terms", "many"] w__law_book := by
  refine cal_mk (r := r__law_book) F sc__law_book fun f cdv A outer s H E hr => ?_
  exact (fs_cons (fs_set (i := 2) sc__law_book.nd rfl (by first | exact Or.inl rfl | exact Or.inr rfl) (fe_lst fa_nil))
    (fs_cons (fs_for (vs := [3]) (passes_of rfl) rfl (fi_rng1 (by rfl) z_range (fb_cons (fe_lb (fe_op op_shlW o_shl (fe_lb (fe_c pe_int fun _ _ => .int _)) (fe_var (pv 1)))) fb_nil)) (fg_name (pg_name (i := 3) sc__law_book.nd rfl (by first | exact Or.inl rfl | exact Or.inr rfl))) (fs_cons (fs_set (i := 4) sc__law_book.nd rfl (by first | exact Or.inl rfl | exact Or.inr rfl) (fe_lst fa_nil))
    (fs_cons (fs_for (vs := [5]) (passes_of rfl) rfl (fi_any rfl (fe_var (pv 0))) (fg_name (pg_name (i := 5) sc__law_book.nd rfl (by first | exact Or.inl rfl | exact Or.inr rfl))) (fs_one (fs_if (ft_val rfl (fe_lb (fe_callB (cr_all rfl) o_all (by rfl) z_all (by decide +kernel) (fb_cons (fe_lb (fe_lc (own := [("k", 6)]) rfl sc__law_book.nd (fi_rng1 (by rfl) z_range (fb_cons (fe_var (pv 1)) fb_nil)) (blkOk_by (own := [("k", 6)]) (N := ["terms", "many", "rows", "at", "kept", "term", "k"]) (sc := defScope st__law_book) (by decide +kernel)) (fun _ _ _ _ _ => (fg_name (pg_name (i := 6) sc__law_book.nd rfl (by first | exact Or.inl rfl | exact Or.inr rfl)))) (fun _ _ _ _ _ => fts_nil) (fun _ _ _ _ _ => (fe_or (op := .And) (fe_cmp op_eq o_eq (fb_ix ix_seq o_ix (fb_ix ix_seq o_ix (fe_var (pv 5)) (fe_lb (fe_c pe_int fun _ _ => .int _)) (fun _ _ => rfl)) (fe_var (pv 6)) (fun _ _ => rfl)) (fe_lb (fe_c pe_int fun _ _ => .int _)) (nomark _)) (fe_one (fe_cmp op_eq o_eq (fe_lb (fe_op op_and o_band (fe_lb (fe_op op_shr o_shr (fe_var (pv 3)) (fe_lb (fe_op op_sub o_sub (fe_lb (fe_op op_sub o_sub (fe_var (pv 1)) (fe_lb (fe_c pe_int fun _ _ => .int _)))) (fe_var (pv 6)))))) (fe_lb (fe_c pe_int fun _ _ => .int _)))) (fe_lb (fe_c pe_int fun _ _ => .int _)) (nomark _))))))) fb_nil)))) (fs_one (fs_append (i := 4) rfl (pv 4) (fe_dat (fe_var (pv 5))))) fs_nil)))
    (fs_fz (i := 4) (fs_one (fs_append (i := 2) rfl (pv 2) (fe_cal c__law_written (hr.mono (by decide)) (by rfl) (L2N.takes_of rfl rfl rfl rfl) (fb_cons (fe_var (pv 4)) fb_nil))))))))
    (fs_one (fs_ret (fe_tup (fa_cons (fe_callTy call_tuple_of o_tupC (by rfl) z_tuple (by decide +kernel) (fb_cons (fe_lb (fe_lc (own := [("k", 6)]) rfl sc__law_book.nd (fi_rng1 (by rfl) z_range (fb_cons (fe_var (pv 1)) fb_nil)) (blkOk_by (own := [("k", 6)]) (N := ["terms", "many", "rows", "at", "kept", "term", "k"]) (sc := defScope st__law_book) (by decide +kernel)) (fun _ _ _ _ _ => (fg_name (pg_name (i := 6) sc__law_book.nd rfl (by first | exact Or.inl rfl | exact Or.inr rfl)))) (fun _ _ _ _ _ => fts_nil) (fun _ _ _ _ _ => (fe_c pe_int fun _ _ => .int _)))) fb_nil)) (fa_cons (fe_callTy call_tuple_of o_tupC (by rfl) z_tuple (by decide +kernel) (fb_cons (fe_var (pv 2)) fb_nil)) fa_nil)))))))
abbrev st__law_equation : Stmt := topS 47
theorem sc__law_equation : FnScope ["script", "many", "size", "planted", "point", "terms", "at", "row", "number", "powers", "k"] ["script", "many", "size", "planted", "point"] (defScope st__law_equation) := ⟨rfl, rfl, rfl, by decide +kernel, rfl, by decide +kernel, by decide +kernel⟩
theorem ok__law_equation (F : DefAt K mg "_law_equation" st__law_equation ["script", "many", "size", "planted", "point"]) (c__law_cell : Cal P w K mg base "_law_cell" 1 ["script", "k"] w__law_cell) (c__law_digits : Cal P w K mg base "_law_digits" 1 ["cell", "sizes"] w__law_digits) (c__law_worth : Cal P w K mg base "_law_worth" 1 ["terms", "point"] w__law_worth) (c__law_collected : Cal P w K mg base "_law_collected" 1 ["terms"] w__law_collected) (z_range : mg "range" = none) (z_int : mg "int" = none) (z_tuple : mg "tuple" = none) : Cal P w K mg base "_law_equation" 2 ["script", "many", "size", "planted", "point"] w__law_equation := by
  refine cal_mk (r := r__law_equation) F sc__law_equation fun f cdv A outer s H E hr => ?_
  exact (fs_cons (fs_set (i := 5) sc__law_equation.nd rfl (by first | exact Or.inl rfl | exact Or.inr rfl) (fe_lst fa_nil))
    (fs_cons (fs_for (vs := [6]) (passes_of rfl) rfl (fi_rng1 (by rfl) z_range (fb_cons (fe_var (pv 2)) fb_nil)) (fg_name (pg_name (i := 6) sc__law_equation.nd rfl (by first | exact Or.inl rfl | exact Or.inr rfl))) (fs_cons (fs_set (i := 7) sc__law_equation.nd rfl (by first | exact Or.inl rfl | exact Or.inr rfl) (fe_frz (fe_cal c__law_digits (hr.mono (by decide)) (by rfl) (L2N.takes_of rfl rfl rfl rfl) (fb_cons (fe_lb (fe_cal c__law_cell (hr.mono (by decide)) (by rfl) (L2N.takes_of rfl rfl rfl rfl) (fb_cons (fe_var (pv 0)) (fb_cons (fe_lb (fe_op op_addA o_add (fe_lb (fe_c pe_int fun _ _ => .int _)) (fe_lb (fe_op op_mulW o_mul (fe_lb (fe_c pe_int fun _ _ => .int _)) (fe_var (pv 6)))))) fb_nil)))) (fb_cons (fe_lb (fe_frz (fe_lst (fa_cons (fe_c pe_int fun _ _ => .int _) (fa_cons (fe_c pe_int fun _ _ => .int _) (fa_cons (fe_c pe_int fun _ _ => .int _) (fa_cons (fe_c pe_int fun _ _ => .int _) (fa_cons (fe_c pe_int fun _ _ => .int _) (fa_cons (fe_c pe_int fun _ _ => .int _) (fa_cons (fe_c pe_int fun _ _ => .int _) (fa_cons (fe_c pe_int fun _ _ => .int _) fa_nil))))))))))) fb_nil)))))
    (fs_cons (fs_set (i := 8) sc__law_equation.nd rfl (by first | exact Or.inl rfl | exact Or.inr rfl) (fe_op op_sub o_sub (fb_ix ix_seq o_ix (fe_var (pv 7)) (fe_lb (fe_c pe_int fun _ _ => .int _)) (fun _ _ => rfl)) (fe_lb (fe_c pe_int fun _ _ => .int _))))
    (fs_cons (fs_setLc (i := 9) (own := [("k", 10)]) rfl sc__law_equation.nd rfl rfl (sw_true rfl rfl rfl (by decide +kernel)) (fi_rng1 (by rfl) z_range (fb_cons (fe_var (pv 1)) fb_nil)) (blkOk_by (own := [("k", 10)]) (N := ["script", "many", "size", "planted", "point", "terms", "at", "row", "number", "powers", "k"]) (sc := defScope st__law_equation) (by decide +kernel)) (fun _ _ _ _ _ => (fg_name (pg_name (i := 10) sc__law_equation.nd rfl (by first | exact Or.inl rfl | exact Or.inr rfl)))) (fun _ _ _ _ _ => fts_nil) (fun _ _ _ _ _ => (fe_dat (fb_ix ix_seq o_ix (fe_var (pv 7)) (fe_var (pv 10)) (fun _ _ => rfl)))))
    (fs_cons (fs_if (ft_cmp op_eq o_eq (fb_ix ix_seq o_ix (fe_var (pv 7)) (fe_lb (fe_c pe_int fun _ _ => .int _)) (fun _ _ => rfl)) (fe_lb (fe_c pe_int fun _ _ => .int _)) (nomark _)) (fs_one (fs_set (i := 8) sc__law_equation.nd rfl (by first | exact Or.inl rfl | exact Or.inr rfl) (fe_op op_sub o_sub (fe_lb (fe_op op_mod o_mod (fe_lb (fe_callTy call_int1 o_intC (by rfl) z_int (by decide +kernel) (fb_cons (fe_lb (fe_cal c__law_cell (hr.mono (by decide)) (by rfl) (L2N.takes_of rfl rfl rfl rfl) (fb_cons (fe_var (pv 0)) (fb_cons (fe_lb (fe_op op_addA o_add (fe_lb (fe_c pe_int fun _ _ => .int _)) (fe_lb (fe_op op_mulW o_mul (fe_lb (fe_c pe_int fun _ _ => .int _)) (fe_var (pv 6)))))) fb_nil)))) fb_nil))) (fe_lb (fe_op op_pow o_pow (fe_lb (fe_c pe_int fun _ _ => .int _)) (fe_lb (fe_c pe_int fun _ _ => .int _)))))) (fe_lb (fe_op op_mulW o_mul (fe_lb (fe_c pe_int fun _ _ => .int _)) (fe_lb (fe_op op_pow o_pow (fe_lb (fe_c pe_int fun _ _ => .int _)) (fe_lb (fe_c pe_int fun _ _ => .int _))))))))) fs_nil)
    (fs_cons (fs_if (PW.pt (fw_and (ft_cmp op_eq o_eq (fb_ix ix_seq o_ix (fe_var (pv 7)) (fe_lb (fe_c pe_int fun _ _ => .int _)) (fun _ _ => rfl)) (fe_lb (fe_c pe_int fun _ _ => .int _)) (nomark _)) (fw_one_and (ft_cmp op_gt o_gt (fe_var (pv 1)) (fe_lb (fe_c pe_int fun _ _ => .int _)) (nomark _))))) (fs_one (fs_set0 (i := 9) (fe_op op_addA o_add (fe_lb (fe_c pe_int fun _ _ => .int _)) (fb_ix ix_seq o_ix (fe_var (pv 7)) (fe_lb (fe_c pe_int fun _ _ => .int _)) (fun _ _ => rfl))) (pv 9) (fe_lb (fe_op op_mod o_mod (fb_ix ix_seq o_ix (fe_var (pv 7)) (fe_lb (fe_c pe_int fun _ _ => .int _)) (fun _ _ => rfl)) (fe_var (pv 1)))))) fs_nil)
    (fs_one (fs_append (i := 5) rfl (pv 5) (fe_frz (fe_lst (fa_cons (fe_callTy call_tuple_of o_tupC (by rfl) z_tuple (by decide +kernel) (fb_cons (fe_var (pv 9)) fb_nil)) (fa_cons (fe_dat (fe_var (pv 8))) fa_nil))))))))))))
    (fs_cons (fs_if (ft_val rfl (fe_var (pv 3))) (fs_one (fs_append (i := 5) rfl (pv 5) (fe_frz (fe_lst (fa_cons (fe_callTy call_tuple_of o_tupC (by rfl) z_tuple (by decide +kernel) (fb_cons (fe_lb (fe_lc (own := [("k", 10)]) rfl sc__law_equation.nd (fi_rng1 (by rfl) z_range (fb_cons (fe_var (pv 1)) fb_nil)) (blkOk_by (own := [("k", 10)]) (N := ["script", "many", "size", "planted", "point", "terms", "at", "row", "number", "powers", "k"]) (sc := defScope st__law_equation) (by decide +kernel)) (fun _ _ _ _ _ => (fg_name (pg_name (i := 10) sc__law_equation.nd rfl (by first | exact Or.inl rfl | exact Or.inr rfl)))) (fun _ _ _ _ _ => fts_nil) (fun _ _ _ _ _ => (fe_c pe_int fun _ _ => .int _)))) fb_nil)) (fa_cons (fe_neg (fe_lb (fe_calU c__law_worth (hr.mono (by decide)) (by rfl) (L2N.takes_of rfl rfl rfl rfl) (fb_cons (fe_var (pv 5)) (fb_cons (fe_var (pv 4)) fb_nil))))) fa_nil)))))) fs_nil)
    (fs_fz (i := 5) (fs_one (fs_ret (fe_cal c__law_collected (hr.mono (by decide)) (by rfl) (L2N.takes_of rfl rfl rfl rfl) (fb_cons (fe_var (pv 5)) fb_nil))))))))
abbrev st_behind : Stmt := topS 18
theorem sc_behind : FnScope ["text", "letter", "mark", "at"] ["text", "letter", "mark"] (defScope st_behind) := ⟨rfl, rfl, rfl, by decide +kernel, rfl, by decide +kernel, by decide +kernel⟩
theorem ok_behind {C_Malformed : Addr} (h_Malformed : mg "Malformed" = some (.ref C_Malformed)) (e_Malformed : ExcAt P w K mg base "Malformed" "what" 1 C_Malformed) (F : DefAtD K mg "behind" st_behind [.str ""] ["text", "letter", "mark"]) : Cal P w K mg base "behind" 3 ["text", "letter", "mark"] w_behind := by
  refine cal_mkD (r := r_behind) F sc_behind fun f cdv A outer s H E hr => ?_
  exact (fs_cons (fs_if (ft_cmp op_eq o_eq (fe_var (pv 2)) (fe_lb (fe_c pe_str fun _ _ => FD.str' (by decide +kernel))) (nomark _)) (fs_one (fs_ret (fe_strM PySem.F.slot_str_count PySem.F.type_str_count mt_count o_si (fe_var (pv 0)) (fb_cons (fe_var (pv 1)) fb_nil)))) fs_nil)
    (fs_cons (fs_set (i := 3) sc_behind.nd rfl (by first | exact Or.inl rfl | exact Or.inr rfl) (fe_strM PySem.F.slot_str_rfind PySem.F.type_str_rfind mt_rfind o_si (fe_var (pv 0)) (fb_cons (fe_var (pv 2)) fb_nil)))
    (fs_cons (fs_if (ft_cmp op_lt o_lt (fe_var (pv 3)) (fe_lb (fe_c pe_int fun _ _ => .int _)) (nomark _)) (fs_one (fs_raise1 e_Malformed rfl (hr.mono (by decide)) (L2N.takes_of rfl rfl rfl rfl) (by rfl) (fe_lb (fe_c pe_str fun _ _ => FD.str' (by decide +kernel))))) fs_nil)
    (fs_one (fs_ret (fe_strM PySem.F.slot_str_count PySem.F.type_str_count mt_count o_si (fe_lb (fe_slice rfl (fe_var (pv 0)) (fo_some (fe_lb (fe_op op_addA o_add (fe_var (pv 3)) (fe_lb (fe_c pe_int fun _ _ => .int _))))) fo_none)) (fb_cons (fe_var (pv 1)) fb_nil)))))))
abbrev st_constant : Stmt := topS 24
theorem sc_constant : FnScope ["number"] ["number"] (defScope st_constant) := ⟨rfl, rfl, rfl, by decide +kernel, rfl, by decide +kernel, by decide +kernel⟩
theorem ok_constant (F : DefAt K mg "constant" st_constant ["number"]) (c_from_terms : Cal P w K mg base "from_terms" 2 ["terms"] w_from_terms) : Cal P w K mg base "constant" 3 ["number"] w_constant := by
  refine cal_mk (r := r_constant) F sc_constant fun f cdv A outer s H E hr => ?_
  exact (fs_one (fs_ret (fe_cal c_from_terms (hr.mono (by decide)) (by rfl) (L2N.takes_of rfl rfl rfl rfl) (fb_cons (fe_lb (fe_tup (fa_cons (fe_tup (fa_cons (fe_tup fa_nil) (fa_cons (fe_dat (fe_var (pv 0))) fa_nil))) fa_nil))) fb_nil))))
abbrev st_added : Stmt := topS 25
theorem sc_added : FnScope ["one", "two"] ["one", "two"] (defScope st_added) := ⟨rfl, rfl, rfl, by decide +kernel, rfl, by decide +kernel, by decide +kernel⟩
theorem ok_added (F : DefAt K mg "added" st_added ["one", "two"]) (c_from_terms : Cal P w K mg base "from_terms" 2 ["terms"] w_from_terms) : Cal P w K mg base "added" 3 ["one", "two"] w_added := by
  refine cal_mk (r := r_added) F sc_added fun f cdv A outer s H E hr => ?_
  exact (fs_one (fs_ret (fe_cal c_from_terms (hr.mono (by decide)) (by rfl) (L2N.takes_of rfl rfl rfl rfl) (fb_cons (fe_lb (fe_op op_addA o_add (fe_var (pv 0)) (fe_var (pv 1)))) fb_nil))))
abbrev st_scaled : Stmt := topS 26
theorem sc_scaled : FnScope ["one", "number", "monomial", "old"] ["one", "number"] (defScope st_scaled) := ⟨rfl, rfl, rfl, by decide +kernel, rfl, by decide +kernel, by decide +kernel⟩
theorem ok_scaled (F : DefAt K mg "scaled" st_scaled ["one", "number"]) (c_from_terms : Cal P w K mg base "from_terms" 2 ["terms"] w_from_terms) (z_tuple : mg "tuple" = none) : Cal P w K mg base "scaled" 3 ["one", "number"] w_scaled := by
  refine cal_mk (r := r_scaled) F sc_scaled fun f cdv A outer s H E hr => ?_
  exact (fs_one (fs_ret (fe_cal c_from_terms (hr.mono (by decide)) (by rfl) (L2N.takes_of rfl rfl rfl rfl) (fb_cons (fe_lb (fe_callTy call_tuple_of o_tupC (by rfl) z_tuple (by decide +kernel) (fb_cons (fe_lb (fe_lc (own := [("monomial", 2), ("old", 3)]) rfl sc_scaled.nd (fi_any rfl (fe_var (pv 0))) (blkOk_by (own := [("monomial", 2), ("old", 3)]) (N := ["one", "number", "monomial", "old"]) (sc := defScope st_scaled) (by decide +kernel)) (fun _ _ _ _ _ => (fg_tup rfl rfl (fgs_cons (fg_name (pg_name (i := 2) sc_scaled.nd rfl (by first | exact Or.inl rfl | exact Or.inr rfl))) (fgs_cons (fg_name (pg_name (i := 3) sc_scaled.nd rfl (by first | exact Or.inl rfl | exact Or.inr rfl))) fgs_nil)))) (fun _ _ _ _ _ => fts_nil) (fun _ _ _ _ _ => (fe_tup (fa_cons (fe_dat (fe_var (pv 2))) (fa_cons (fe_op op_mulW o_mul (fe_var (pv 1)) (fe_var (pv 3))) fa_nil)))))) fb_nil))) fb_nil))))
abbrev st_multiplied : Stmt := topS 27
theorem sc_multiplied : FnScope ["one", "two", "left", "right", "first", "second"] ["one", "two"] (defScope st_multiplied) := ⟨rfl, rfl, rfl, by decide +kernel, rfl, by decide +kernel, by decide +kernel⟩
theorem ok_multiplied (F : DefAt K mg "multiplied" st_multiplied ["one", "two"]) (c_from_terms : Cal P w K mg base "from_terms" 2 ["terms"] w_from_terms) (z_tuple : mg "tuple" = none) : Cal P w K mg base "multiplied" 3 ["one", "two"] w_multiplied := by
  refine cal_mk (r := r_multiplied) F sc_multiplied fun f cdv A outer s H E hr => ?_
  exact (fs_one (fs_ret (fe_cal c_from_terms (hr.mono (by decide)) (by rfl) (L2N.takes_of rfl rfl rfl rfl) (fb_cons (fe_lb (fe_callTy call_tuple_of o_tupC (by rfl) z_tuple (by decide +kernel) (fb_cons (fe_lb (fe_lc2 (own := [("left", 2), ("first", 4), ("right", 3), ("second", 5)]) (vs1 := [3, 5]) rfl sc_multiplied.nd (fi_any rfl (fe_var (pv 0))) (blkOk_by (own := [("left", 2), ("first", 4), ("right", 3), ("second", 5)]) (N := ["one", "two", "left", "right", "first", "second"]) (sc := defScope st_multiplied) (by decide +kernel)) (by decide) (fun _ _ _ _ _ => (fg_tup rfl rfl (fgs_cons (fg_name (pg_name (i := 2) sc_multiplied.nd rfl (by first | exact Or.inl rfl | exact Or.inr rfl))) (fgs_cons (fg_name (pg_name (i := 4) sc_multiplied.nd rfl (by first | exact Or.inl rfl | exact Or.inr rfl))) fgs_nil)))) (fun _ _ _ _ _ => fts_nil) (fun _ _ _ _ _ => (fi_any rfl (fe_var (pv 1)))) (fun _ _ _ _ _ => (fg_tup rfl rfl (fgs_cons (fg_name (pg_name (i := 3) sc_multiplied.nd rfl (by first | exact Or.inl rfl | exact Or.inr rfl))) (fgs_cons (fg_name (pg_name (i := 5) sc_multiplied.nd rfl (by first | exact Or.inl rfl | exact Or.inr rfl))) fgs_nil)))) (fun _ _ _ _ _ => fts_nil) (fun _ _ _ _ _ => (fe_tup (fa_cons (fe_op op_addA o_add (fe_var (pv 2)) (fe_var (pv 3))) (fa_cons (fe_op op_mulW o_mul (fe_var (pv 4)) (fe_var (pv 5))) fa_nil)))))) fb_nil))) fb_nil))))
abbrev st_book_row : Stmt := topS 31
theorem sc_book_row : FnScope ["book", "choice"] ["book", "choice"] (defScope st_book_row) := ⟨rfl, rfl, rfl, by decide +kernel, rfl, by decide +kernel, by decide +kernel⟩
theorem ok_book_row (F : DefAt K mg "book_row" st_book_row ["book", "choice"]) (c_order_rows : Cal P w K mg base "order_rows" 2 ["counts"] w_order_rows) : Cal P w K mg base "book_row" 3 ["book", "choice"] w_book_row := by
  refine cal_mk (r := r_book_row) F sc_book_row fun f cdv A outer s H E hr => ?_
  exact (fs_one (fs_ret (fe_dat (fb_ix ix_seq o_ix (fb_ix ix_seq o_ix (fe_var (pv 0)) (fe_lb (fe_c pe_int fun _ _ => .int _)) (fun _ _ => rfl)) (fe_lb (fe_idxT rfl (hu65 hr) (fe_lb (fe_cal c_order_rows (hr.mono (by decide)) (by rfl) (L2N.takes_of rfl rfl rfl rfl) (fb_cons (fb_ix ix_seq o_ix (fe_var (pv 0)) (fe_lb (fe_c pe_int fun _ _ => .int _)) (fun _ _ => rfl)) fb_nil))) (fe_var (pv 1)))) (fun _ _ => rfl)))))
abbrev st_plain_book : Stmt := topS 33
theorem sc_plain_book : FnScope ["counts", "one", "rows", "choice", "terms", "monomial", "coefficient", "variable", "_"] ["counts", "one"] (defScope st_plain_book) := ⟨rfl, rfl, rfl, by decide +kernel, rfl, by decide +kernel, by decide +kernel⟩
theorem ok_plain_book (F : DefAt K mg "plain_book" st_plain_book ["counts", "one"]) (c_order_rows : Cal P w K mg base "order_rows" 2 ["counts"] w_order_rows) (c_from_terms : Cal P w K mg base "from_terms" 2 ["terms"] w_from_terms) (z_all : mg "all" = none) (z_tuple : mg "tuple" = none) : Cal P w K mg base "plain_book" 3 ["counts", "one"] w_plain_book := by
  refine cal_mk (r := r_plain_book) F sc_plain_book fun f cdv A outer s H E hr => ?_
  exact (fs_cons (fs_set (i := 2) sc_plain_book.nd rfl (by first | exact Or.inl rfl | exact Or.inr rfl) (fe_lst fa_nil))
    (fs_cons (fs_for (vs := [3]) (passes_of rfl) rfl (fi_any rfl (fe_lb (fe_cal c_order_rows (hr.mono (by decide)) (by rfl) (L2N.takes_of rfl rfl rfl rfl) (fb_cons (fe_var (pv 0)) fb_nil)))) (fg_name (pg_name (i := 3) sc_plain_book.nd rfl (by first | exact Or.inl rfl | exact Or.inr rfl))) (fs_cons (fs_set (i := 4) sc_plain_book.nd rfl (by first | exact Or.inl rfl | exact Or.inr rfl) (fe_lst fa_nil))
    (fs_cons (fs_for (vs := [5, 6]) (passes_of rfl) rfl (fi_any rfl (fe_var (pv 1))) (fg_tup rfl rfl (fgs_cons (fg_name (pg_name (i := 5) sc_plain_book.nd rfl (by first | exact Or.inl rfl | exact Or.inr rfl))) (fgs_cons (fg_name (pg_name (i := 6) sc_plain_book.nd rfl (by first | exact Or.inl rfl | exact Or.inr rfl))) fgs_nil))) (fs_one (fs_if (ft_val rfl (fe_lb (fe_callB (cr_all rfl) o_all (by rfl) z_all (by decide +kernel) (fb_cons (fe_lb (fe_lc (own := [("variable", 7), ("_", 8)]) rfl sc_plain_book.nd (fi_any rfl (fe_var (pv 5))) (blkOk_by (own := [("variable", 7), ("_", 8)]) (N := ["counts", "one", "rows", "choice", "terms", "monomial", "coefficient", "variable", "_"]) (sc := defScope st_plain_book) (by decide +kernel)) (fun _ _ _ _ _ => (fg_tup rfl rfl (fgs_cons (fg_name (pg_name (i := 7) sc_plain_book.nd rfl (by first | exact Or.inl rfl | exact Or.inr rfl))) (fgs_cons (fg_name (pg_name (i := 8) sc_plain_book.nd rfl (by first | exact Or.inl rfl | exact Or.inr rfl))) fgs_nil)))) (fun _ _ _ _ _ => fts_nil) (fun _ _ _ _ _ => (fe_cmp op_inA (o_in (neg := false)) (fb_ix ix_seq o_ix (fe_var (pv 7)) (fe_lb (fe_c pe_int fun _ _ => .int _)) (fun _ _ => rfl)) (fb_ix ix_seq o_ix (fe_var (pv 3)) (fb_ix ix_seq o_ix (fe_var (pv 7)) (fe_lb (fe_c pe_int fun _ _ => .int _)) (fun _ _ => rfl)) (fun _ _ => rfl)) (by rfl))))) fb_nil)))) (fs_one (fs_append (i := 4) rfl (pv 4) (fe_tup (fa_cons (fe_dat (fe_var (pv 5))) (fa_cons (fe_dat (fe_var (pv 6))) fa_nil))))) fs_nil)))
    (fs_one (fs_append (i := 2) rfl (pv 2) (fe_cal c_from_terms (hr.mono (by decide)) (by rfl) (L2N.takes_of rfl rfl rfl rfl) (fb_cons (fe_lb (fe_callTy call_tuple_of o_tupC (by rfl) z_tuple (by decide +kernel) (fb_cons (fe_var (pv 4)) fb_nil))) fb_nil)))))))
    (fs_one (fs_ret (fe_tup (fa_cons (fe_dat (fe_var (pv 0))) (fa_cons (fe_callTy call_tuple_of o_tupC (by rfl) z_tuple (by decide +kernel) (fb_cons (fe_var (pv 2)) fb_nil)) fa_nil)))))))
abbrev st__law_sides : Stmt := topS 45
theorem sc__law_sides : FnScope ["terms", "many", "square", "minus", "less", "term", "k"] ["terms", "many"] (defScope st__law_sides) := ⟨rfl, rfl, rfl, by decide +kernel, rfl, by decide +kernel, by decide +kernel⟩
theorem ok__law_sides (F : DefAt K mg "_law_sides" st__law_sides ["terms", "many"]) (c__law_squared : Cal P w K mg base "_law_squared" 2 ["terms"] w__law_squared) (c__law_collected : Cal P w K mg base "_law_collected" 1 ["terms"] w__law_collected) (z_range : mg "range" = none) (z_tuple : mg "tuple" = none) (hNL : NoLists K) : Cal P w K mg base "_law_sides" 3 ["terms", "many"] w__law_sides := by
  refine cal_mk (r := r__law_sides) F sc__law_sides fun f cdv A outer s H E hr => ?_
  exact (fs_cons (fs_set (i := 2) sc__law_sides.nd rfl (by first | exact Or.inl rfl | exact Or.inr rfl) (fe_frz (fe_cal c__law_squared (hr.mono (by decide)) (by rfl) (L2N.takes_of rfl rfl rfl rfl) (fb_cons (fe_var (pv 0)) fb_nil))))
    (fs_cons (fs_setLc (i := 3) (own := [("term", 5)]) rfl sc__law_sides.nd rfl rfl (sw_true rfl rfl rfl (by decide +kernel)) (fi_any rfl (fe_var (pv 2))) (blkOk_by (own := [("term", 5)]) (N := ["terms", "many", "square", "minus", "less", "term", "k"]) (sc := defScope st__law_sides) (by decide +kernel)) (fun _ _ _ _ _ => (fg_name (pg_name (i := 5) sc__law_sides.nd rfl (by first | exact Or.inl rfl | exact Or.inr rfl)))) (fun _ _ _ _ _ => (fts_one (ft_cmp op_lt o_lt (fb_ix ix_seq o_ix (fe_var (pv 5)) (fe_lb (fe_c pe_int fun _ _ => .int _)) (fun _ _ => rfl)) (fe_lb (fe_c pe_int fun _ _ => .int _)) (nomark _)))) (fun _ _ _ _ _ => (fe_lst (fa_cons (fe_dat (fb_ix ix_seq o_ix (fe_var (pv 5)) (fe_lb (fe_c pe_int fun _ _ => .int _)) (fun _ _ => rfl))) (fa_cons (fe_neg (fb_ix ix_seq o_ix (fe_var (pv 5)) (fe_lb (fe_c pe_int fun _ _ => .int _)) (fun _ _ => rfl))) fa_nil)))))
    (fs_fz (i := 3) (fs_cons (fs_set (i := 4) sc__law_sides.nd rfl (by first | exact Or.inl rfl | exact Or.inr rfl) (fe_frz (fe_cal c__law_collected (hr.mono (by decide)) (by rfl) (L2N.takes_of rfl rfl rfl rfl) (fb_cons (fe_lb (fe_frz (fe_op op_catR (o_cat hNL) (fe_lb (fe_frz (fe_lst (fa_cons (fe_lst (fa_cons (fe_callTy call_tuple_of o_tupC (by rfl) z_tuple (by decide +kernel) (fb_cons (fe_lb (fe_lc (own := [("k", 6)]) rfl sc__law_sides.nd (fi_rng1 (by rfl) z_range (fb_cons (fe_var (pv 1)) fb_nil)) (blkOk_by (own := [("k", 6)]) (N := ["terms", "many", "square", "minus", "less", "term", "k"]) (sc := defScope st__law_sides) (by decide +kernel)) (fun _ _ _ _ _ => (fg_name (pg_name (i := 6) sc__law_sides.nd rfl (by first | exact Or.inl rfl | exact Or.inr rfl)))) (fun _ _ _ _ _ => fts_nil) (fun _ _ _ _ _ => (fe_c pe_int fun _ _ => .int _)))) fb_nil)) (fa_cons (fe_c pe_int fun _ _ => .int _) fa_nil))) fa_nil)))) (fe_var (pv 3))))) fb_nil))))
    (fs_one (fs_ret (fe_lst (fa_cons (fe_dat (fe_var (pv 4))) (fa_cons (fe_lc (own := [("term", 5)]) rfl sc__law_sides.nd (fi_any rfl (fe_var (pv 2))) (blkOk_by (own := [("term", 5)]) (N := ["terms", "many", "square", "minus", "less", "term", "k"]) (sc := defScope st__law_sides) (by decide +kernel)) (fun _ _ _ _ _ => (fg_name (pg_name (i := 5) sc__law_sides.nd rfl (by first | exact Or.inl rfl | exact Or.inr rfl)))) (fun _ _ _ _ _ => (fts_one (ft_cmp op_gt o_gt (fb_ix ix_seq o_ix (fe_var (pv 5)) (fe_lb (fe_c pe_int fun _ _ => .int _)) (fun _ _ => rfl)) (fe_lb (fe_c pe_int fun _ _ => .int _)) (nomark _)))) (fun _ _ _ _ _ => (fe_dat (fe_var (pv 5))))) fa_nil)))))))))
abbrev st_behind_counts : Stmt := topS 20
theorem sc_behind_counts : FnScope ["argument", "text", "variables", "variable"] ["argument", "text"] (defScope st_behind_counts) := ⟨rfl, rfl, rfl, by decide +kernel, rfl, by decide +kernel, by decide +kernel⟩
theorem ok_behind_counts (F : DefAt K mg "behind_counts" st_behind_counts ["argument", "text"]) (c_order_of : Cal P w K mg base "order_of" 1 ["text"] w_order_of) (c_behind_variables : Cal P w K mg base "behind_variables" 1 ["argument", "order"] w_behind_variables) (c_behind : Cal P w K mg base "behind" 3 ["text", "letter", "mark"] w_behind) (z_tuple : mg "tuple" = none) : Cal P w K mg base "behind_counts" 4 ["argument", "text"] w_behind_counts := by
  refine cal_mk (r := r_behind_counts) F sc_behind_counts fun f cdv A outer s H E hr => ?_
  exact (fs_cons (fs_set (i := 2) sc_behind_counts.nd rfl (by first | exact Or.inl rfl | exact Or.inr rfl) (fe_cal c_behind_variables (hr.mono (by decide)) (by rfl) (L2N.takes_of rfl rfl rfl rfl) (fb_cons (fe_var (pv 0)) (fb_cons (fe_lb (fe_cal c_order_of (hr.mono (by decide)) (by rfl) (L2N.takes_of rfl rfl rfl rfl) (fb_cons (fe_var (pv 1)) fb_nil))) fb_nil))))
    (fs_one (fs_ret (fe_callTy call_tuple_of o_tupC (by rfl) z_tuple (by decide +kernel) (fb_cons (fe_lb (fe_lc (own := [("variable", 3)]) rfl sc_behind_counts.nd (fi_any rfl (fe_var (pv 2))) (blkOk_by (own := [("variable", 3)]) (N := ["argument", "text", "variables", "variable"]) (sc := defScope st_behind_counts) (by decide +kernel)) (fun _ _ _ _ _ => (fg_name (pg_name (i := 3) sc_behind_counts.nd rfl (by first | exact Or.inl rfl | exact Or.inr rfl)))) (fun _ _ _ _ _ => fts_nil) (fun _ _ _ _ _ => (fe_tup (fa_cons (fe_dat (fe_var (pv 3))) (fa_cons (fe_cal c_behind (hr.mono (by decide)) (by rfl) takes0N (fb_cons (fe_var (pv 1)) (fb_cons (fb_ix ix_seq o_ix (fe_var (pv 3)) (fe_lb (fe_c pe_int fun _ _ => .int _)) (fun _ _ => rfl)) (fb_cons (fb_ix ix_seq o_ix (fe_var (pv 3)) (fe_lb (fe_c pe_int fun _ _ => .int _)) (fun _ _ => rfl)) fb_nil)))) fa_nil)))))) fb_nil)))))
abbrev st_border_books : Stmt := topS 35
theorem sc_border_books : FnScope ["count", "one", "variable", "square", "plus", "minus", "counts", "term"] ["count", "one"] (defScope st_border_books) := ⟨rfl, rfl, rfl, by decide +kernel, rfl, by decide +kernel, by decide +kernel⟩
theorem okk_border_books {C_Malformed : Addr} (h_Malformed : mg "Malformed" = some (.ref C_Malformed)) (e_Malformed : ExcAt P w K mg base "Malformed" "what" 1 C_Malformed) (F : DefAtK K mg "border_books" st_border_books ["count", "one"]) (c_variables_in : Cal P w K mg base "variables_in" 1 ["one"] w_variables_in) (c_multiplied : Cal P w K mg base "multiplied" 3 ["one", "two"] w_multiplied) (c_scaled : Cal P w K mg base "scaled" 3 ["one", "number"] w_scaled) (c_plain_book : Cal P w K mg base "plain_book" 3 ["counts", "one"] w_plain_book) (c_constant : Cal P w K mg base "constant" 3 ["number"] w_constant) (c_added : Cal P w K mg base "added" 3 ["one", "two"] w_added) (z_tuple : mg "tuple" = none) : CalK P w K mg base "border_books" 4 ["count", "one"] w_border_books := by
  refine cal_mkK (r := r_border_books) F sc_border_books fun f cdv A outer s H E hr => ?_
  exact (fs_cons (fs_for (vs := [2]) (passes_of rfl) rfl (fi_any rfl (fe_lb (fe_cal c_variables_in (hr.mono (by decide)) (by rfl) (L2N.takes_of rfl rfl rfl rfl) (fb_cons (fe_var (pv 1)) fb_nil)))) (fg_name (pg_name (i := 2) sc_border_books.nd rfl (by first | exact Or.inl rfl | exact Or.inr rfl))) (fs_one (fs_if (PW.pt (fw_or (ft_not (ft_chain op_le o_le op_lt o_lt (fe_lb (fe_c pe_int fun _ _ => .int _)) (fb_ix ix_seq o_ix (fe_var (pv 2)) (fe_lb (fe_c pe_int fun _ _ => .int _)) (fun _ _ => rfl)) (fe_var (pv 0)))) (fw_one_or (ft_cmp (op_neT (hu65 hr)) o_neT (fe_lb (fe_slice rfl (fe_var (pv 2)) (fo_some (fe_lb (fe_c pe_int fun _ _ => .int _))) fo_none)) (fe_lb (fe_tup (fa_cons (fe_c pe_str fun _ _ => FD.str' (by decide +kernel)) (fa_cons (fe_c pe_str fun _ _ => FD.str' (by decide +kernel)) fa_nil)))) (nomark _))))) (fs_one (fs_raise1 e_Malformed rfl (hr.mono (by decide)) (L2N.takes_of rfl rfl rfl rfl) (by rfl) (fe_lb (fe_c pe_str fun _ _ => FD.str' (by decide +kernel))))) fs_nil)))
    (fs_cons (fs_set (i := 3) sc_border_books.nd rfl (by first | exact Or.inl rfl | exact Or.inr rfl) (fe_cal c_multiplied (hr.mono (by decide)) (by rfl) (L2N.takes_of rfl rfl rfl rfl) (fb_cons (fe_var (pv 1)) (fb_cons (fe_var (pv 1)) fb_nil))))
    (fs_cons (fs_set (i := 4) sc_border_books.nd rfl (by first | exact Or.inl rfl | exact Or.inr rfl) (fe_callTy call_tuple_of o_tupC (by rfl) z_tuple (by decide +kernel) (fb_cons (fe_lb (fe_lc (own := [("term", 7)]) rfl sc_border_books.nd (fi_any rfl (fe_var (pv 3))) (blkOk_by (own := [("term", 7)]) (N := ["count", "one", "variable", "square", "plus", "minus", "counts", "term"]) (sc := defScope st_border_books) (by decide +kernel)) (fun _ _ _ _ _ => (fg_name (pg_name (i := 7) sc_border_books.nd rfl (by first | exact Or.inl rfl | exact Or.inr rfl)))) (fun _ _ _ _ _ => (fts_one (ft_cmp op_gt o_gt (fb_ix ix_seq o_ix (fe_var (pv 7)) (fe_lb (fe_c pe_int fun _ _ => .int _)) (fun _ _ => rfl)) (fe_lb (fe_c pe_int fun _ _ => .int _)) (nomark _)))) (fun _ _ _ _ _ => (fe_dat (fe_var (pv 7)))))) fb_nil)))
    (fs_cons (fs_set (i := 5) sc_border_books.nd rfl (by first | exact Or.inl rfl | exact Or.inr rfl) (fe_cal c_scaled (hr.mono (by decide)) (by rfl) (L2N.takes_of rfl rfl rfl rfl) (fb_cons (fe_lb (fe_callTy call_tuple_of o_tupC (by rfl) z_tuple (by decide +kernel) (fb_cons (fe_lb (fe_lc (own := [("term", 7)]) rfl sc_border_books.nd (fi_any rfl (fe_var (pv 3))) (blkOk_by (own := [("term", 7)]) (N := ["count", "one", "variable", "square", "plus", "minus", "counts", "term"]) (sc := defScope st_border_books) (by decide +kernel)) (fun _ _ _ _ _ => (fg_name (pg_name (i := 7) sc_border_books.nd rfl (by first | exact Or.inl rfl | exact Or.inr rfl)))) (fun _ _ _ _ _ => (fts_one (ft_cmp op_lt o_lt (fb_ix ix_seq o_ix (fe_var (pv 7)) (fe_lb (fe_c pe_int fun _ _ => .int _)) (fun _ _ => rfl)) (fe_lb (fe_c pe_int fun _ _ => .int _)) (nomark _)))) (fun _ _ _ _ _ => (fe_dat (fe_var (pv 7)))))) fb_nil))) (fb_cons (fe_lb (fe_neg (fe_lb (fe_c pe_int fun _ _ => .int _)))) fb_nil))))
    (fs_cons (fs_set (i := 6) sc_border_books.nd rfl (by first | exact Or.inl rfl | exact Or.inr rfl) (fe_op op_repT0 o_repT (fe_lb (fe_tup (fa_cons (fe_c pe_int fun _ _ => .int _) fa_nil))) (fe_var (pv 0))))
    (fs_one (fs_ret (fe_tup (fa_cons (fe_cal c_plain_book (hr.mono (by decide)) (by rfl) (L2N.takes_of rfl rfl rfl rfl) (fb_cons (fe_var (pv 6)) (fb_cons (fe_lb (fe_cal c_added (hr.mono (by decide)) (by rfl) (L2N.takes_of rfl rfl rfl rfl) (fb_cons (fe_lb (fe_cal c_constant (hr.mono (by decide)) (by rfl) (L2N.takes_of rfl rfl rfl rfl) (fb_cons (fe_lb (fe_c pe_int fun _ _ => .int _)) fb_nil))) (fb_cons (fe_var (pv 5)) fb_nil)))) fb_nil))) (fa_cons (fe_cal c_plain_book (hr.mono (by decide)) (by rfl) (L2N.takes_of rfl rfl rfl rfl) (fb_cons (fe_var (pv 6)) (fb_cons (fe_var (pv 4)) fb_nil))) fa_nil))))))))))
theorem ok_border_books {C_Malformed : Addr} (h_Malformed : mg "Malformed" = some (.ref C_Malformed)) (e_Malformed : ExcAt P w K mg base "Malformed" "what" 1 C_Malformed) (F : DefAt K mg "border_books" st_border_books ["count", "one"]) (c_variables_in : Cal P w K mg base "variables_in" 1 ["one"] w_variables_in) (c_multiplied : Cal P w K mg base "multiplied" 3 ["one", "two"] w_multiplied) (c_scaled : Cal P w K mg base "scaled" 3 ["one", "number"] w_scaled) (c_plain_book : Cal P w K mg base "plain_book" 3 ["counts", "one"] w_plain_book) (c_constant : Cal P w K mg base "constant" 3 ["number"] w_constant) (c_added : Cal P w K mg base "added" 3 ["one", "two"] w_added) (z_tuple : mg "tuple" = none) : Cal P w K mg base "border_books" 4 ["count", "one"] w_border_books := by
  refine cal_mk (r := r_border_books) F sc_border_books fun f cdv A outer s H E hr => ?_
  exact (fs_cons (fs_for (vs := [2]) (passes_of rfl) rfl (fi_any rfl (fe_lb (fe_cal c_variables_in (hr.mono (by decide)) (by rfl) (L2N.takes_of rfl rfl rfl rfl) (fb_cons (fe_var (pv 1)) fb_nil)))) (fg_name (pg_name (i := 2) sc_border_books.nd rfl (by first | exact Or.inl rfl | exact Or.inr rfl))) (fs_one (fs_if (PW.pt (fw_or (ft_not (ft_chain op_le o_le op_lt o_lt (fe_lb (fe_c pe_int fun _ _ => .int _)) (fb_ix ix_seq o_ix (fe_var (pv 2)) (fe_lb (fe_c pe_int fun _ _ => .int _)) (fun _ _ => rfl)) (fe_var (pv 0)))) (fw_one_or (ft_cmp (op_neT (hu65 hr)) o_neT (fe_lb (fe_slice rfl (fe_var (pv 2)) (fo_some (fe_lb (fe_c pe_int fun _ _ => .int _))) fo_none)) (fe_lb (fe_tup (fa_cons (fe_c pe_str fun _ _ => FD.str' (by decide +kernel)) (fa_cons (fe_c pe_str fun _ _ => FD.str' (by decide +kernel)) fa_nil)))) (nomark _))))) (fs_one (fs_raise1 e_Malformed rfl (hr.mono (by decide)) (L2N.takes_of rfl rfl rfl rfl) (by rfl) (fe_lb (fe_c pe_str fun _ _ => FD.str' (by decide +kernel))))) fs_nil)))
    (fs_cons (fs_set (i := 3) sc_border_books.nd rfl (by first | exact Or.inl rfl | exact Or.inr rfl) (fe_cal c_multiplied (hr.mono (by decide)) (by rfl) (L2N.takes_of rfl rfl rfl rfl) (fb_cons (fe_var (pv 1)) (fb_cons (fe_var (pv 1)) fb_nil))))
    (fs_cons (fs_set (i := 4) sc_border_books.nd rfl (by first | exact Or.inl rfl | exact Or.inr rfl) (fe_callTy call_tuple_of o_tupC (by rfl) z_tuple (by decide +kernel) (fb_cons (fe_lb (fe_lc (own := [("term", 7)]) rfl sc_border_books.nd (fi_any rfl (fe_var (pv 3))) (blkOk_by (own := [("term", 7)]) (N := ["count", "one", "variable", "square", "plus", "minus", "counts", "term"]) (sc := defScope st_border_books) (by decide +kernel)) (fun _ _ _ _ _ => (fg_name (pg_name (i := 7) sc_border_books.nd rfl (by first | exact Or.inl rfl | exact Or.inr rfl)))) (fun _ _ _ _ _ => (fts_one (ft_cmp op_gt o_gt (fb_ix ix_seq o_ix (fe_var (pv 7)) (fe_lb (fe_c pe_int fun _ _ => .int _)) (fun _ _ => rfl)) (fe_lb (fe_c pe_int fun _ _ => .int _)) (nomark _)))) (fun _ _ _ _ _ => (fe_dat (fe_var (pv 7)))))) fb_nil)))
    (fs_cons (fs_set (i := 5) sc_border_books.nd rfl (by first | exact Or.inl rfl | exact Or.inr rfl) (fe_cal c_scaled (hr.mono (by decide)) (by rfl) (L2N.takes_of rfl rfl rfl rfl) (fb_cons (fe_lb (fe_callTy call_tuple_of o_tupC (by rfl) z_tuple (by decide +kernel) (fb_cons (fe_lb (fe_lc (own := [("term", 7)]) rfl sc_border_books.nd (fi_any rfl (fe_var (pv 3))) (blkOk_by (own := [("term", 7)]) (N := ["count", "one", "variable", "square", "plus", "minus", "counts", "term"]) (sc := defScope st_border_books) (by decide +kernel)) (fun _ _ _ _ _ => (fg_name (pg_name (i := 7) sc_border_books.nd rfl (by first | exact Or.inl rfl | exact Or.inr rfl)))) (fun _ _ _ _ _ => (fts_one (ft_cmp op_lt o_lt (fb_ix ix_seq o_ix (fe_var (pv 7)) (fe_lb (fe_c pe_int fun _ _ => .int _)) (fun _ _ => rfl)) (fe_lb (fe_c pe_int fun _ _ => .int _)) (nomark _)))) (fun _ _ _ _ _ => (fe_dat (fe_var (pv 7)))))) fb_nil))) (fb_cons (fe_lb (fe_neg (fe_lb (fe_c pe_int fun _ _ => .int _)))) fb_nil))))
    (fs_cons (fs_set (i := 6) sc_border_books.nd rfl (by first | exact Or.inl rfl | exact Or.inr rfl) (fe_op op_repT0 o_repT (fe_lb (fe_tup (fa_cons (fe_c pe_int fun _ _ => .int _) fa_nil))) (fe_var (pv 0))))
    (fs_one (fs_ret (fe_tup (fa_cons (fe_cal c_plain_book (hr.mono (by decide)) (by rfl) (L2N.takes_of rfl rfl rfl rfl) (fb_cons (fe_var (pv 6)) (fb_cons (fe_lb (fe_cal c_added (hr.mono (by decide)) (by rfl) (L2N.takes_of rfl rfl rfl rfl) (fb_cons (fe_lb (fe_cal c_constant (hr.mono (by decide)) (by rfl) (L2N.takes_of rfl rfl rfl rfl) (fb_cons (fe_lb (fe_c pe_int fun _ _ => .int _)) fb_nil))) (fb_cons (fe_var (pv 5)) fb_nil)))) fb_nil))) (fa_cons (fe_cal c_plain_book (hr.mono (by decide)) (by rfl) (L2N.takes_of rfl rfl rfl rfl) (fb_cons (fe_var (pv 6)) (fb_cons (fe_var (pv 4)) fb_nil))) fa_nil))))))))))
abbrev st__law_due : Stmt := topS 46
theorem sc__law_due : FnScope ["terms", "many", "sides"] ["terms", "many"] (defScope st__law_due) := ⟨rfl, rfl, rfl, by decide +kernel, rfl, by decide +kernel, by decide +kernel⟩
theorem ok__law_due (F : DefAt K mg "_law_due" st__law_due ["terms", "many"]) (c__law_sides : Cal P w K mg base "_law_sides" 3 ["terms", "many"] w__law_sides) (c__law_book : Cal P w K mg base "_law_book" 2 ["terms", "many"] w__law_book) : Cal P w K mg base "_law_due" 4 ["terms", "many"] w__law_due := by
  refine cal_mk (r := r__law_due) F sc__law_due fun f cdv A outer s H E hr => ?_
  exact (fs_cons (fs_set (i := 2) sc__law_due.nd rfl (by first | exact Or.inl rfl | exact Or.inr rfl) (fe_frz (fe_cal c__law_sides (hr.mono (by decide)) (by rfl) (L2N.takes_of rfl rfl rfl rfl) (fb_cons (fe_var (pv 0)) (fb_cons (fe_var (pv 1)) fb_nil)))))
    (fs_one (fs_ret (fe_tup (fa_cons (fe_cal c__law_book (hr.mono (by decide)) (by rfl) (L2N.takes_of rfl rfl rfl rfl) (fb_cons (fb_ix ix_seq o_ix (fe_var (pv 2)) (fe_lb (fe_c pe_int fun _ _ => .int _)) (fun _ _ => rfl)) (fb_cons (fe_var (pv 1)) fb_nil))) (fa_cons (fe_cal c__law_book (hr.mono (by decide)) (by rfl) (L2N.takes_of rfl rfl rfl rfl) (fb_cons (fb_ix ix_seq o_ix (fe_var (pv 2)) (fe_lb (fe_c pe_int fun _ _ => .int _)) (fun _ _ => rfl)) (fb_cons (fe_var (pv 1)) fb_nil))) fa_nil))))))
abbrev st_book_value : Stmt := topS 32
theorem sc_book_value : FnScope ["book", "texts", "choice", "point", "argument", "text"] ["book", "texts"] (defScope st_book_value) := ⟨rfl, rfl, rfl, by decide +kernel, rfl, by decide +kernel, by decide +kernel⟩
theorem ok_book_value (F : DefAt K mg "book_value" st_book_value ["book", "texts"]) (c_order_of : Cal P w K mg base "order_of" 1 ["text"] w_order_of) (c_behind_counts : Cal P w K mg base "behind_counts" 4 ["argument", "text"] w_behind_counts) (c_book_row : Cal P w K mg base "book_row" 3 ["book", "choice"] w_book_row) (c_value_at : Cal P w K mg base "value_at" 1 ["one", "point"] w_value_at) (z_tuple : mg "tuple" = none) (z_enumerate : mg "enumerate" = none) (hNL : NoLists K) : Cal P w K mg base "book_value" 5 ["book", "texts"] w_book_value := by
  refine cal_mk (r := r_book_value) F sc_book_value fun f cdv A outer s H E hr => ?_
  exact (fs_cons (fs_set (i := 2) sc_book_value.nd rfl (by first | exact Or.inl rfl | exact Or.inr rfl) (fe_callTy call_tuple_of o_tupC (by rfl) z_tuple (by decide +kernel) (fb_cons (fe_lb (fe_lc (own := [("text", 5)]) rfl sc_book_value.nd (fi_any rfl (fe_var (pv 1))) (blkOk_by (own := [("text", 5)]) (N := ["book", "texts", "choice", "point", "argument", "text"]) (sc := defScope st_book_value) (by decide +kernel)) (fun _ _ _ _ _ => (fg_name (pg_name (i := 5) sc_book_value.nd rfl (by first | exact Or.inl rfl | exact Or.inr rfl)))) (fun _ _ _ _ _ => fts_nil) (fun _ _ _ _ _ => (fe_cal c_order_of (hr.mono (by decide)) (by rfl) takes0N (fb_cons (fe_var (pv 5)) fb_nil))))) fb_nil)))
    (fs_cons (fs_set (i := 3) sc_book_value.nd rfl (by first | exact Or.inl rfl | exact Or.inr rfl) (fe_lst fa_nil))
    (fs_cons (fs_for (vs := [4, 5]) (passes_of rfl) rfl (fi_enum rfl (by rfl) z_enumerate (fb_cons (fe_var (pv 1)) fb_nil)) (fg_tup rfl rfl (fgs_cons (fg_name (pg_name (i := 4) sc_book_value.nd rfl (by first | exact Or.inl rfl | exact Or.inr rfl))) (fgs_cons (fg_name (pg_name (i := 5) sc_book_value.nd rfl (by first | exact Or.inl rfl | exact Or.inr rfl))) fgs_nil))) (fs_one (fs_extend (i := 3) hNL (pv 3) (fe_lb (fe_cal c_behind_counts (hr.mono (by decide)) (by rfl) (L2N.takes_of rfl rfl rfl rfl) (fb_cons (fe_var (pv 4)) (fb_cons (fe_var (pv 5)) fb_nil)))))))
    (fs_one (fs_ret (fe_cal c_value_at (hr.mono (by decide)) (by rfl) (L2N.takes_of rfl rfl rfl rfl) (fb_cons (fe_lb (fe_cal c_book_row (hr.mono (by decide)) (by rfl) (L2N.takes_of rfl rfl rfl rfl) (fb_cons (fe_var (pv 0)) (fb_cons (fe_var (pv 2)) fb_nil)))) (fb_cons (fe_lb (fe_callTy call_tuple_of o_tupC (by rfl) z_tuple (by decide +kernel) (fb_cons (fe_var (pv 3)) fb_nil))) fb_nil))))))))
abbrev st__law_refused : Stmt := topS 50
theorem sc__law_refused : FnScope ["many", "one", "others", "e"] ["many", "one"] (defScope st__law_refused) := ⟨rfl, rfl, rfl, by decide +kernel, rfl, by decide +kernel, by decide +kernel⟩
theorem ok__law_refused {C_Malformed : Addr} (h_Malformed : mg "Malformed" = some (.ref C_Malformed)) (x_Malformed : ExcL K C_Malformed "what") {C_PlainError : Addr} (h_PlainError : mg "PlainError" = some (.ref C_PlainError)) {C_Misfit : Addr} (h_Misfit : mg "Misfit" = some (.ref C_Misfit)) {C_Clash : Addr} (h_Clash : mg "Clash" = some (.ref C_Clash)) {C_Unbound : Addr} (h_Unbound : mg "Unbound" = some (.ref C_Unbound)) {C_BadText : Addr} (h_BadText : mg "BadText" = some (.ref C_BadText)) {C_Ring : Addr} (h_Ring : mg "Ring" = some (.ref C_Ring)) {C_NoSuch : Addr} (h_NoSuch : mg "NoSuch" = some (.ref C_NoSuch)) {C_TooMuch : Addr} (h_TooMuch : mg "TooMuch" = some (.ref C_TooMuch)) {C_NoStep : Addr} (h_NoStep : mg "NoStep" = some (.ref C_NoStep)) {C_NothingBack : Addr} (h_NothingBack : mg "NothingBack" = some (.ref C_NothingBack)) (i_Malformed_Misfit : PySem.W.kitOne K (.ref C_Malformed) (.ref C_Misfit) = some false) (i_Malformed_Clash : PySem.W.kitOne K (.ref C_Malformed) (.ref C_Clash) = some false) (i_Malformed_Unbound : PySem.W.kitOne K (.ref C_Malformed) (.ref C_Unbound) = some false) (i_Malformed_BadText : PySem.W.kitOne K (.ref C_Malformed) (.ref C_BadText) = some false) (i_Malformed_Ring : PySem.W.kitOne K (.ref C_Malformed) (.ref C_Ring) = some false) (i_Malformed_NoSuch : PySem.W.kitOne K (.ref C_Malformed) (.ref C_NoSuch) = some false) (i_Malformed_TooMuch : PySem.W.kitOne K (.ref C_Malformed) (.ref C_TooMuch) = some false) (i_Malformed_NoStep : PySem.W.kitOne K (.ref C_Malformed) (.ref C_NoStep) = some false) (i_Malformed_NothingBack : PySem.W.kitOne K (.ref C_Malformed) (.ref C_NothingBack) = some false) (i_Malformed_Malformed : PySem.W.kitOne K (.ref C_Malformed) (.ref C_Malformed) = some true) (i_Malformed_ValueError : PySem.W.kitOne K (.ref C_Malformed) (.type "ValueError") = some true) (m_Malformed_PlainError : PySem.W.exmOne K (.ref C_Malformed) (.ref C_PlainError) = some true) (F : DefAt K mg "_law_refused" st__law_refused ["many", "one"]) (c_border_books : Cal P w K mg base "border_books" 4 ["count", "one"] w_border_books) (z_isinstance : mg "isinstance" = none) (z_any : mg "any" = none) (z_str : mg "str" = none) (z_ValueError : mg "ValueError" = none) (hNL : NoLists K) : Cal P w K mg base "_law_refused" 5 ["many", "one"] w__law_refused := by
  refine cal_mk (r := r__law_refused) F sc__law_refused fun f cdv A outer s H E hr => ?_
  exact (fs_cons (fs_try (C := C_Malformed) (cv := .ref C_PlainError) h_Malformed rfl rfl sc__law_refused.nd rfl rfl ⟨by rfl, by decide, .inl h_PlainError⟩ m_Malformed_PlainError (fun _ _ _ tk ps => (fs_one (fs_expr (fe_lb (fe_cal c_border_books (hr.mono (by decide)) (by rfl) tk (fb_cons (fe_var (pv 0)) (fb_cons (fe_var (pv 1)) fb_nil))))))) (fun a oe dd pn d ct => (fs_cons (fs_set (i := 2) sc__law_refused.nd rfl (by first | exact Or.inl rfl | exact Or.inr rfl) (fe_frz (fe_lst (fa_cons (fe_isE1 (c := .ref C_BadText) ct x_Malformed.ec (fe_var (pv 3)) (pe_glob (v := .ref C_BadText) (by rfl) (h_BadText) rfl) (.own _) i_Malformed_BadText (by rfl) z_isinstance) (fa_cons (fe_isE1 (c := .ref C_Unbound) ct x_Malformed.ec (fe_var (pv 3)) (pe_glob (v := .ref C_Unbound) (by rfl) (h_Unbound) rfl) (.own _) i_Malformed_Unbound (by rfl) z_isinstance) (fa_cons (fe_isE1 (c := .ref C_Clash) ct x_Malformed.ec (fe_var (pv 3)) (pe_glob (v := .ref C_Clash) (by rfl) (h_Clash) rfl) (.own _) i_Malformed_Clash (by rfl) z_isinstance) (fa_cons (fe_isE1 (c := .ref C_Misfit) ct x_Malformed.ec (fe_var (pv 3)) (pe_glob (v := .ref C_Misfit) (by rfl) (h_Misfit) rfl) (.own _) i_Malformed_Misfit (by rfl) z_isinstance) fa_nil)))))))
    (fs_cons (fs_set (i := 2) sc__law_refused.nd rfl (by first | exact Or.inl rfl | exact Or.inr rfl) (fe_frz (fe_op op_catR (o_cat hNL) (fe_var (pv 2)) (fe_lb (fe_lst (fa_cons (fe_isE1 (c := .ref C_NoStep) ct x_Malformed.ec (fe_var (pv 3)) (pe_glob (v := .ref C_NoStep) (by rfl) (h_NoStep) rfl) (.own _) i_Malformed_NoStep (by rfl) z_isinstance) (fa_cons (fe_isE1 (c := .ref C_TooMuch) ct x_Malformed.ec (fe_var (pv 3)) (pe_glob (v := .ref C_TooMuch) (by rfl) (h_TooMuch) rfl) (.own _) i_Malformed_TooMuch (by rfl) z_isinstance) (fa_cons (fe_isE1 (c := .ref C_NoSuch) ct x_Malformed.ec (fe_var (pv 3)) (pe_glob (v := .ref C_NoSuch) (by rfl) (h_NoSuch) rfl) (.own _) i_Malformed_NoSuch (by rfl) z_isinstance) (fa_cons (fe_isE1 (c := .ref C_Ring) ct x_Malformed.ec (fe_var (pv 3)) (pe_glob (v := .ref C_Ring) (by rfl) (h_Ring) rfl) (.own _) i_Malformed_Ring (by rfl) z_isinstance) fa_nil)))))))))
    (fs_cons (fs_if (PW.pt (fw_or (ft_not (ft_val rfl (fe_lb (fe_isE1 (c := .ref C_Malformed) ct x_Malformed.ec (fe_var (pv 3)) (pe_glob (v := .ref C_Malformed) (by rfl) (h_Malformed) rfl) (.own _) i_Malformed_Malformed (by rfl) z_isinstance)))) (fw_or (ft_val rfl (fe_lb (fe_isE1 (c := .ref C_NothingBack) ct x_Malformed.ec (fe_var (pv 3)) (pe_glob (v := .ref C_NothingBack) (by rfl) (h_NothingBack) rfl) (.own _) i_Malformed_NothingBack (by rfl) z_isinstance))) (fw_one_or (ft_val rfl (fe_lb (fe_callB (cr_anyH ct.hot) o_any (by rfl) z_any (by decide +kernel) (fb_cons (fe_var (pv 2)) fb_nil)))))))) (fs_one (fs_ret (fe_c pe_bl fun _ _ => .bl _))) fs_nil)
    (fs_one (fs_ret (fe_and (op := .And) (fe_isE1 (c := .ty "ValueError") ct x_Malformed.ec (fe_var (pv 3)) (pe_bltn (by rfl) z_ValueError (by decide +kernel) rfl) (.ty _) i_Malformed_ValueError (by rfl) z_isinstance) (fe_and (op := .And) (fe_isi rfl (fe_lb (fe_xf ct x_Malformed.xf x_Malformed.own (fe_var (pv 3)))) (pe_bltn (by rfl) z_str (by decide +kernel) rfl) (by rfl) z_isinstance) (fe_one (fe_cmp op_eq o_eq (fe_lb (fe_xf ct x_Malformed.xf x_Malformed.own (fe_var (pv 3)))) (fe_lb (fe_c pe_str fun _ _ => FD.str' (by decide +kernel))) (nomark _))))))))))))
    (fs_one (fs_ret (fe_c pe_bl fun _ _ => .bl _))))
abbrev st__law_same : Stmt := topS 39
theorem sc__law_same : FnScope ["told", "due", "k"] ["told", "due"] (defScope st__law_same) := ⟨rfl, rfl, rfl, by decide +kernel, rfl, by decide +kernel, by decide +kernel⟩
theorem ok__law_same (F : DefAt K mg "_law_same" st__law_same ["told", "due"]) (z_tuple : mg "tuple" = none) (z_isinstance : mg "isinstance" = none) (z_len : mg "len" = none) (z_range : mg "range" = none) (z_all : mg "all" = none) (z_str : mg "str" = none) (z_bool : mg "bool" = none) (z_int : mg "int" = none) : ∀ k, Cal P w K mg base "_law_same" (0 + k + 1) ["told", "due"] (w__law_same k)
  | 0 => cal_zero F sc__law_same
  | k + 1 => by
    have c__law_same := ok__law_same F z_tuple z_isinstance z_len z_range z_all z_str z_bool z_int k
    refine cal_mk (r := r__law_same (w__law_same k)) (k := 0 + k + 1) F sc__law_same fun f cdv A outer s H E hr => ?_
    exact (fs_cons (fs_if (ft_val rfl (fe_lb (fe_isi rfl (fe_var (pv 1)) (pe_bltn (by rfl) z_tuple (by decide +kernel) rfl) (by rfl) z_isinstance))) (fs_cons (fs_if (PW.pt (fw_or (ft_not (ft_val rfl (fe_lb (fe_isi rfl (fe_var (pv 0)) (pe_bltn (by rfl) z_tuple (by decide +kernel) rfl) (by rfl) z_isinstance)))) (fw_one_or (ft_cmp op_ne o_ne (fe_lb (fe_callB call_len o_len (by rfl) z_len (by decide +kernel) (fb_cons (fe_var (pv 0)) fb_nil))) (fe_lb (fe_callB call_len o_len (by rfl) z_len (by decide +kernel) (fb_cons (fe_var (pv 1)) fb_nil))) (nomark _))))) (fs_one (fs_ret (fe_c pe_bl fun _ _ => .bl _))) fs_nil)
    (fs_one (fs_ret (fe_callB (cr_all rfl) o_all (by rfl) z_all (by decide +kernel) (fb_cons (fe_lb (fe_lc (own := [("k", 2)]) rfl sc__law_same.nd (fi_rng1 (by rfl) z_range (fb_cons (fe_lb (fe_callB call_len o_len (by rfl) z_len (by decide +kernel) (fb_cons (fe_var (pv 1)) fb_nil))) fb_nil)) (blkOk_by (own := [("k", 2)]) (N := ["told", "due", "k"]) (sc := defScope st__law_same) (by decide +kernel)) (fun _ _ _ _ _ => (fg_name (pg_name (i := 2) sc__law_same.nd rfl (by first | exact Or.inl rfl | exact Or.inr rfl)))) (fun _ _ _ _ _ => fts_nil) (fun _ _ _ _ _ => (fe_cal c__law_same (hr.mono (by omega)) (by rfl) takes0N (fb_cons (fb_ix ix_seq o_ix (fe_var (pv 0)) (fe_var (pv 2)) (fun _ _ => rfl)) (fb_cons (fb_ix ix_seq o_ix (fe_var (pv 1)) (fe_var (pv 2)) (fun _ _ => rfl)) fb_nil)))))) fb_nil))))) fs_nil)
    (fs_cons (fs_if (ft_val rfl (fe_lb (fe_isi rfl (fe_var (pv 1)) (pe_bltn (by rfl) z_str (by decide +kernel) rfl) (by rfl) z_isinstance))) (fs_one (fs_ret (fe_and (op := .And) (fe_isi rfl (fe_var (pv 0)) (pe_bltn (by rfl) z_str (by decide +kernel) rfl) (by rfl) z_isinstance) (fe_one (fe_cmp op_eq o_eq (fe_var (pv 0)) (fe_var (pv 1)) (nomark _)))))) fs_nil)
    (fs_one (fs_ret (fe_and (op := .And) (fe_isi rfl (fe_var (pv 0)) (pe_bltn (by rfl) z_int (by decide +kernel) rfl) (by rfl) z_isinstance) (fe_and (op := .And) (fe_not (fe_isi rfl (fe_var (pv 0)) (pe_bltn (by rfl) z_bool (by decide +kernel) rfl) (by rfl) z_isinstance)) (fe_one (fe_cmp op_eq o_eq (fe_var (pv 0)) (fe_var (pv 1)) (nomark _)))))))))
abbrev st__law_holds : Stmt := topS 51
theorem sc__law_holds : FnScope ["books", "terms", "sides", "point", "texts", "left", "right", "number"] ["books", "terms", "sides", "point"] (defScope st__law_holds) := ⟨rfl, rfl, rfl, by decide +kernel, rfl, by decide +kernel, by decide +kernel⟩
theorem ok__law_holds (F : DefAt K mg "_law_holds" st__law_holds ["books", "terms", "sides", "point"]) (c_book_value : Cal P w K mg base "book_value" 5 ["book", "texts"] w_book_value) (c__law_worth : Cal P w K mg base "_law_worth" 1 ["terms", "point"] w__law_worth) (c__law_same : Cal P w K mg base "_law_same" 10 ["told", "due"] (w__law_same 9)) (z_tuple : mg "tuple" = none) : Cal P w K mg base "_law_holds" 11 ["books", "terms", "sides", "point"] w__law_holds := by
  refine cal_mk (r := r__law_holds) F sc__law_holds fun f cdv A outer s H E hr => ?_
  exact (fs_cons (fs_set (i := 4) sc__law_holds.nd rfl (by first | exact Or.inl rfl | exact Or.inr rfl) (fe_callTy call_tuple_of o_tupC (by rfl) z_tuple (by decide +kernel) (fb_cons (fe_lb (fe_lc (own := [("number", 7)]) rfl sc__law_holds.nd (fi_any rfl (fe_var (pv 3))) (blkOk_by (own := [("number", 7)]) (N := ["books", "terms", "sides", "point", "texts", "left", "right", "number"]) (sc := defScope st__law_holds) (by decide +kernel)) (fun _ _ _ _ _ => (fg_name (pg_name (i := 7) sc__law_holds.nd rfl (by first | exact Or.inl rfl | exact Or.inr rfl)))) (fun _ _ _ _ _ => fts_nil) (fun _ _ _ _ _ => (fe_op op_mulS o_mulS (fe_lb (fe_c pe_str fun _ _ => FD.str' (by decide +kernel))) (fe_var (pv 7)))))) fb_nil)))
    (fs_cons (fs_set (i := 5) sc__law_holds.nd rfl (by first | exact Or.inl rfl | exact Or.inr rfl) (fe_cal c_book_value (hr.mono (by decide)) (by rfl) (L2N.takes_of rfl rfl rfl rfl) (fb_cons (fb_ix ix_seq o_ix (fe_var (pv 0)) (fe_lb (fe_c pe_int fun _ _ => .int _)) (fun _ _ => rfl)) (fb_cons (fe_var (pv 4)) fb_nil))))
    (fs_cons (fs_set (i := 6) sc__law_holds.nd rfl (by first | exact Or.inl rfl | exact Or.inr rfl) (fe_cal c_book_value (hr.mono (by decide)) (by rfl) (L2N.takes_of rfl rfl rfl rfl) (fb_cons (fb_ix ix_seq o_ix (fe_var (pv 0)) (fe_lb (fe_c pe_int fun _ _ => .int _)) (fun _ _ => rfl)) (fb_cons (fe_var (pv 4)) fb_nil))))
    (fs_cons (fs_if (PW.pt (fw_or (ft_not (ft_val rfl (fe_lb (fe_cal c__law_same (hr.mono (by decide)) (by rfl) (L2N.takes_of rfl rfl rfl rfl) (fb_cons (fe_var (pv 5)) (fb_cons (fe_lb (fe_cal c__law_worth (hr.mono (by decide)) (by rfl) (L2N.takes_of rfl rfl rfl rfl) (fb_cons (fb_ix ix_seq o_ix (fe_var (pv 2)) (fe_lb (fe_c pe_int fun _ _ => .int _)) (fun _ _ => rfl)) (fb_cons (fe_var (pv 3)) fb_nil)))) fb_nil)))))) (fw_one_or (ft_not (ft_val rfl (fe_lb (fe_cal c__law_same (hr.mono (by decide)) (by rfl) (L2N.takes_of rfl rfl rfl rfl) (fb_cons (fe_var (pv 6)) (fb_cons (fe_lb (fe_cal c__law_worth (hr.mono (by decide)) (by rfl) (L2N.takes_of rfl rfl rfl rfl) (fb_cons (fb_ix ix_seq o_ix (fe_var (pv 2)) (fe_lb (fe_c pe_int fun _ _ => .int _)) (fun _ _ => rfl)) (fb_cons (fe_var (pv 3)) fb_nil)))) fb_nil))))))))) (fs_one (fs_ret (fe_c pe_bl fun _ _ => .bl _))) fs_nil)
    (fs_one (fs_ret (fe_cmp op_eq o_eq (fe_lb (fe_cmp op_gt o_gt (fe_var (pv 5)) (fe_var (pv 6)) (nomark _))) (fe_lb (fe_cmp op_eq o_eq (fe_lb (fe_cal c__law_worth (hr.mono (by decide)) (by rfl) (L2N.takes_of rfl rfl rfl rfl) (fb_cons (fe_var (pv 1)) (fb_cons (fe_var (pv 3)) fb_nil)))) (fe_lb (fe_c pe_int fun _ _ => .int _)) (nomark _))) (nomark _))))))))
abbrev st_law : Stmt := topS 52
theorem sc_law : FnScope ["script", "head", "many", "size", "row", "point", "terms", "one", "due", "books", "sides", "beside", "drawn", "numbers", "bad", "number", "at", "more", "k", "term"] ["script"] (defScope st_law) := ⟨rfl, rfl, rfl, by decide +kernel, rfl, by decide +kernel, by decide +kernel⟩
theorem ok_law {f : Addr} {fd : FuncData} (F : Fun K "law" "law" st_law f fd) (c__law_cell : Cal P w K mg base "_law_cell" 1 ["script", "k"] w__law_cell) (c__law_digits : Cal P w K mg base "_law_digits" 1 ["cell", "sizes"] w__law_digits) (c__law_equation : Cal P w K mg base "_law_equation" 2 ["script", "many", "size", "planted", "point"] w__law_equation) (c__law_written : Cal P w K mg base "_law_written" 1 ["terms"] w__law_written) (c__law_due : Cal P w K mg base "_law_due" 4 ["terms", "many"] w__law_due) (c_border_books : Cal P w K mg base "border_books" 4 ["count", "one"] w_border_books) (c__law_same : Cal P w K mg base "_law_same" 10 ["told", "due"] (w__law_same 9)) (c__law_sides : Cal P w K mg base "_law_sides" 3 ["terms", "many"] w__law_sides) (c__law_holds : Cal P w K mg base "_law_holds" 11 ["books", "terms", "sides", "point"] w__law_holds) (c__law_bad : Cal P w K mg base "_law_bad" 1 ["many", "row"] w__law_bad) (c__law_with : Cal P w K mg base "_law_with" 1 ["one", "bad", "number"] w__law_with) (c__law_refused : Cal P w K mg base "_law_refused" 5 ["many", "one"] w__law_refused) (ck_border_books : CalK P w K mg base "border_books" 4 ["count", "one"] w_border_books) (z_range : mg "range" = none) (z_abs : mg "abs" = none) (hNL : NoLists K) : FnOk P w K mg base (L2N.CX P w) 12 f fd ["script"] (LF ⟨K, mg, w⟩ w_law) := by
  refine fn_ok (r := r_law) F sc_law fun cdv A outer s H E hr => ?_
  exact (fs_cons (fs_set (i := 1) sc_law.nd rfl (by first | exact Or.inl rfl | exact Or.inr rfl) (fe_frz (fe_cal c__law_digits (hr.mono (by decide)) (by rfl) (L2N.takes_of rfl rfl rfl rfl) (fb_cons (fe_lb (fe_cal c__law_cell (hr.mono (by decide)) (by rfl) (L2N.takes_of rfl rfl rfl rfl) (fb_cons (fe_var (pv 0)) (fb_cons (fe_lb (fe_c pe_int fun _ _ => .int _)) fb_nil)))) (fb_cons (fe_lb (fe_frz (fe_lst (fa_cons (fe_c pe_int fun _ _ => .int _) (fa_cons (fe_c pe_int fun _ _ => .int _) (fa_cons (fe_c pe_int fun _ _ => .int _) fa_nil)))))) fb_nil)))))
    (fs_cons (fs_set (i := 2) sc_law.nd rfl (by first | exact Or.inl rfl | exact Or.inr rfl) (fe_dat (fb_ix ix_seq o_ix (fe_lb (fe_lst (fa_cons (fe_c pe_int fun _ _ => .int _) (fa_cons (fe_c pe_int fun _ _ => .int _) (fa_cons (fe_c pe_int fun _ _ => .int _) (fa_cons (fe_c pe_int fun _ _ => .int _) (fa_cons (fe_c pe_int fun _ _ => .int _) (fa_cons (fe_c pe_int fun _ _ => .int _) (fa_cons (fe_c pe_int fun _ _ => .int _) (fa_cons (fe_c pe_int fun _ _ => .int _) fa_nil)))))))))) (fb_ix ix_seq o_ix (fe_var (pv 1)) (fe_lb (fe_c pe_int fun _ _ => .int _)) (fun _ _ => rfl)) (fun _ _ => rfl))))
    (fs_cons (fs_set (i := 3) sc_law.nd rfl (by first | exact Or.inl rfl | exact Or.inr rfl) (fe_dat (fb_ix ix_seq o_ix (fe_lb (fe_lst (fa_cons (fe_c pe_int fun _ _ => .int _) (fa_cons (fe_c pe_int fun _ _ => .int _) (fa_cons (fe_c pe_int fun _ _ => .int _) (fa_cons (fe_c pe_int fun _ _ => .int _) (fa_cons (fe_c pe_int fun _ _ => .int _) (fa_cons (fe_c pe_int fun _ _ => .int _) (fa_cons (fe_c pe_int fun _ _ => .int _) (fa_cons (fe_c pe_int fun _ _ => .int _) fa_nil)))))))))) (fb_ix ix_seq o_ix (fe_var (pv 1)) (fe_lb (fe_c pe_int fun _ _ => .int _)) (fun _ _ => rfl)) (fun _ _ => rfl))))
    (fs_cons (fs_set (i := 4) sc_law.nd rfl (by first | exact Or.inl rfl | exact Or.inr rfl) (fe_frz (fe_cal c__law_digits (hr.mono (by decide)) (by rfl) (L2N.takes_of rfl rfl rfl rfl) (fb_cons (fe_lb (fe_cal c__law_cell (hr.mono (by decide)) (by rfl) (L2N.takes_of rfl rfl rfl rfl) (fb_cons (fe_var (pv 0)) (fb_cons (fe_lb (fe_c pe_int fun _ _ => .int _)) fb_nil)))) (fb_cons (fe_lb (fe_frz (fe_lst (fa_cons (fe_c pe_int fun _ _ => .int _) (fa_cons (fe_c pe_int fun _ _ => .int _) (fa_cons (fe_c pe_int fun _ _ => .int _) (fa_cons (fe_c pe_int fun _ _ => .int _) (fa_cons (fe_c pe_int fun _ _ => .int _) (fa_cons (fe_c pe_int fun _ _ => .int _) fa_nil))))))))) fb_nil)))))
    (fs_cons (fs_set (i := 5) sc_law.nd rfl (by first | exact Or.inl rfl | exact Or.inr rfl) (fe_frz (fe_slice rfl (fe_var (pv 4)) fo_none (fo_some (fe_var (pv 2))))))
    (fs_cons (fs_set (i := 6) sc_law.nd rfl (by first | exact Or.inl rfl | exact Or.inr rfl) (fe_frz (fe_cal c__law_equation (hr.mono (by decide)) (by rfl) (L2N.takes_of rfl rfl rfl rfl) (fb_cons (fe_var (pv 0)) (fb_cons (fe_var (pv 2)) (fb_cons (fe_var (pv 3)) (fb_cons (fe_lb (fe_cmp op_gt o_gt (fb_ix ix_seq o_ix (fe_var (pv 1)) (fe_lb (fe_c pe_int fun _ _ => .int _)) (fun _ _ => rfl)) (fe_lb (fe_c pe_int fun _ _ => .int _)) (nomark _))) (fb_cons (fe_var (pv 5)) fb_nil))))))))
    (fs_cons (fs_set (i := 7) sc_law.nd rfl (by first | exact Or.inl rfl | exact Or.inr rfl) (fe_cal c__law_written (hr.mono (by decide)) (by rfl) (L2N.takes_of rfl rfl rfl rfl) (fb_cons (fe_var (pv 6)) fb_nil)))
    (fs_cons (fs_set (i := 8) sc_law.nd rfl (by first | exact Or.inl rfl | exact Or.inr rfl) (fe_cal c__law_due (hr.mono (by decide)) (by rfl) (L2N.takes_of rfl rfl rfl rfl) (fb_cons (fe_var (pv 6)) (fb_cons (fe_var (pv 2)) fb_nil))))
    (fs_cons (fs_set (i := 9) sc_law.nd rfl (by first | exact Or.inl rfl | exact Or.inr rfl) (fe_cal c_border_books (hr.mono (by decide)) (by rfl) (L2N.takes_of rfl rfl rfl rfl) (fb_cons (fe_var (pv 2)) (fb_cons (fe_var (pv 7)) fb_nil))))
    (fs_cons (fs_if (ft_not (ft_val rfl (fe_lb (fe_cal c__law_same (hr.mono (by decide)) (by rfl) (L2N.takes_of rfl rfl rfl rfl) (fb_cons (fe_var (pv 9)) (fb_cons (fe_var (pv 8)) fb_nil)))))) (fs_one (fs_ret (fe_c pe_bl fun _ _ => .bl _))) fs_nil)
    (fs_cons (fs_set (i := 10) sc_law.nd rfl (by first | exact Or.inl rfl | exact Or.inr rfl) (fe_frz (fe_cal c__law_sides (hr.mono (by decide)) (by rfl) (L2N.takes_of rfl rfl rfl rfl) (fb_cons (fe_var (pv 6)) (fb_cons (fe_var (pv 2)) fb_nil)))))
    (fs_cons (fs_setLc (i := 11) (own := [("k", 18)]) rfl sc_law.nd rfl rfl (sw_true rfl rfl rfl (by decide +kernel)) (fi_rng1 (by rfl) z_range (fb_cons (fe_var (pv 2)) fb_nil)) (blkOk_by (own := [("k", 18)]) (N := ["script", "head", "many", "size", "row", "point", "terms", "one", "due", "books", "sides", "beside", "drawn", "numbers", "bad", "number", "at", "more", "k", "term"]) (sc := defScope st_law) (by decide +kernel)) (fun _ _ _ _ _ => (fg_name (pg_name (i := 18) sc_law.nd rfl (by first | exact Or.inl rfl | exact Or.inr rfl)))) (fun _ _ _ _ _ => fts_nil) (fun _ _ _ _ _ => (fe_dat (fb_ix ix_seq o_ix (fe_var (pv 5)) (fe_var (pv 18)) (fun _ _ => rfl)))))
    (fs_cons (fs_if (ft_cmp op_gt o_gt (fe_var (pv 2)) (fe_lb (fe_c pe_int fun _ _ => .int _)) (nomark _)) (fs_cons (fs_set (i := 16) sc_law.nd rfl (by first | exact Or.inl rfl | exact Or.inr rfl) (fe_op op_mod o_mod (fb_ix ix_seq o_ix (fe_var (pv 4)) (fe_lb (fe_c pe_int fun _ _ => .int _)) (fun _ _ => rfl)) (fe_var (pv 2))))
    (fs_one (fs_set0 (i := 11) (fe_callB call_abs o_abs (by rfl) z_abs (by decide +kernel) (fb_cons (fe_lb (fe_op op_sub o_sub (fe_lb (fe_op op_addA o_add (fb_ix ix_seq o_ix (fe_var (pv 11)) (fe_var (pv 16)) (fun _ _ => rfl)) (fe_lb (fe_c pe_int fun _ _ => .int _)))) (fe_lb (fe_op op_mulW o_mul (fe_lb (fe_c pe_int fun _ _ => .int _)) (fb_ix ix_seq o_ix (fe_var (pv 4)) (fe_lb (fe_c pe_int fun _ _ => .int _)) (fun _ _ => rfl)))))) fb_nil)) (pv 11) (fe_var (pv 16))))) fs_nil)
    (fs_cons (fs_set (i := 12) sc_law.nd rfl (by first | exact Or.inl rfl | exact Or.inr rfl) (fe_frz (fe_cal c__law_digits (hr.mono (by decide)) (by rfl) (L2N.takes_of rfl rfl rfl rfl) (fb_cons (fe_lb (fe_cal c__law_cell (hr.mono (by decide)) (by rfl) (L2N.takes_of rfl rfl rfl rfl) (fb_cons (fe_var (pv 0)) (fb_cons (fe_lb (fe_c pe_int fun _ _ => .int _)) fb_nil)))) (fb_cons (fe_lb (fe_frz (fe_op op_rep o_rep (fe_lb (fe_lst (fa_cons (fe_c pe_int fun _ _ => .int _) fa_nil))) (fe_lb (fe_c pe_int fun _ _ => .int _))))) fb_nil)))))
    (fs_fz (i := 11) (fs_cons (fs_for (vs := [13]) (passes_of rfl) rfl (fi_any rfl (fe_lb (fe_frz (fe_lst (fa_cons (fe_dat (fe_var (pv 5))) (fa_cons (fe_dat (fe_var (pv 11))) (fa_cons (fe_lc (own := [("k", 18)]) rfl sc_law.nd (fi_rng1 (by rfl) z_range (fb_cons (fe_var (pv 2)) fb_nil)) (blkOk_by (own := [("k", 18)]) (N := ["script", "head", "many", "size", "row", "point", "terms", "one", "due", "books", "sides", "beside", "drawn", "numbers", "bad", "number", "at", "more", "k", "term"]) (sc := defScope st_law) (by decide +kernel)) (fun _ _ _ _ _ => (fg_name (pg_name (i := 18) sc_law.nd rfl (by first | exact Or.inl rfl | exact Or.inr rfl)))) (fun _ _ _ _ _ => fts_nil) (fun _ _ _ _ _ => (fe_c pe_int fun _ _ => .int _))) (fa_cons (fe_slice rfl (fe_var (pv 12)) fo_none (fo_some (fe_var (pv 2)))) (fa_cons (fe_slice rfl (fe_var (pv 12)) (fo_some (fe_lb (fe_c pe_int fun _ _ => .int _))) (fo_some (fe_lb (fe_op op_addA o_add (fe_lb (fe_c pe_int fun _ _ => .int _)) (fe_var (pv 2)))))) fa_nil))))))))) (fg_name (pg_name (i := 13) sc_law.nd rfl (by first | exact Or.inl rfl | exact Or.inr rfl))) (fs_one (fs_if (ft_not (ft_val rfl (fe_lb (fe_cal c__law_holds (hr.mono (by decide)) (by rfl) (L2N.takes_of rfl rfl rfl rfl) (fb_cons (fe_var (pv 9)) (fb_cons (fe_var (pv 6)) (fb_cons (fe_var (pv 10)) (fb_cons (fe_var (pv 13)) fb_nil)))))))) (fs_one (fs_ret (fe_c pe_bl fun _ _ => .bl _))) fs_nil)))
    (fs_cons (fs_set (i := 4) sc_law.nd rfl (by first | exact Or.inl rfl | exact Or.inr rfl) (fe_frz (fe_cal c__law_digits (hr.mono (by decide)) (by rfl) (L2N.takes_of rfl rfl rfl rfl) (fb_cons (fe_lb (fe_cal c__law_cell (hr.mono (by decide)) (by rfl) (L2N.takes_of rfl rfl rfl rfl) (fb_cons (fe_var (pv 0)) (fb_cons (fe_lb (fe_c pe_int fun _ _ => .int _)) fb_nil)))) (fb_cons (fe_lb (fe_frz (fe_lst (fa_cons (fe_c pe_int fun _ _ => .int _) (fa_cons (fe_c pe_int fun _ _ => .int _) (fa_cons (fe_c pe_int fun _ _ => .int _) (fa_cons (fe_c pe_int fun _ _ => .int _) (fa_cons (fe_c pe_int fun _ _ => .int _) (fa_cons (fe_c pe_int fun _ _ => .int _) (fa_cons (fe_c pe_int fun _ _ => .int _) (fa_cons (fe_c pe_int fun _ _ => .int _) fa_nil))))))))))) fb_nil)))))
    (fs_cons (fs_set (i := 14) sc_law.nd rfl (by first | exact Or.inl rfl | exact Or.inr rfl) (fe_frz (fe_cal c__law_bad (hr.mono (by decide)) (by rfl) (L2N.takes_of rfl rfl rfl rfl) (fb_cons (fe_var (pv 2)) (fb_cons (fe_var (pv 4)) fb_nil)))))
    (fs_cons (fs_set (i := 15) sc_law.nd rfl (by first | exact Or.inl rfl | exact Or.inr rfl) (fe_dat (fb_ix ix_seq o_ix (fe_lb (fe_lst (fa_cons (fe_c pe_int fun _ _ => .int _) (fa_cons (fe_neg (fe_lb (fe_c pe_int fun _ _ => .int _))) (fa_cons (fe_c pe_int fun _ _ => .int _) (fa_cons (fe_neg (fe_lb (fe_c pe_int fun _ _ => .int _))) fa_nil)))))) (fb_ix ix_seq o_ix (fe_var (pv 4)) (fe_lb (fe_c pe_int fun _ _ => .int _)) (fun _ _ => rfl)) (fun _ _ => rfl))))
    (fs_cons (fs_if (ft_not (ft_val rfl (fe_lb (fe_cal c__law_refused (hr.mono (by decide)) (by rfl) (L2N.takes_of rfl rfl rfl rfl) (fb_cons (fe_var (pv 2)) (fb_cons (fe_lb (fe_cal c__law_with (hr.mono (by decide)) (by rfl) (L2N.takes_of rfl rfl rfl rfl) (fb_cons (fe_var (pv 7)) (fb_cons (fe_var (pv 14)) (fb_cons (fe_var (pv 15)) fb_nil))))) fb_nil)))))) (fs_one (fs_ret (fe_c pe_bl fun _ _ => .bl _))) fs_nil)
    (fs_cons (fs_if (PW.pt (fw_and (ft_cmp op_eq o_eq (fb_ix ix_seq o_ix (fe_var (pv 14)) (fe_lb (fe_c pe_int fun _ _ => .int _)) (fun _ _ => rfl)) (fe_lb (fe_c pe_int fun _ _ => .int _)) (nomark _)) (fw_one_and (ft_cmp op_lt o_lt (fe_var (pv 2)) (fe_lb (fe_c pe_int fun _ _ => .int _)) (nomark _))))) (fs_cons (fs_set (i := 17) sc_law.nd rfl (by first | exact Or.inl rfl | exact Or.inr rfl) (fe_frz (fe_op op_catR (o_cat hNL) (fe_lb (fe_frz (fe_lc (own := [("term", 19)]) rfl sc_law.nd (fi_any rfl (fe_var (pv 6))) (blkOk_by (own := [("term", 19)]) (N := ["script", "head", "many", "size", "row", "point", "terms", "one", "due", "books", "sides", "beside", "drawn", "numbers", "bad", "number", "at", "more", "k", "term"]) (sc := defScope st_law) (by decide +kernel)) (fun _ _ _ _ _ => (fg_name (pg_name (i := 19) sc_law.nd rfl (by first | exact Or.inl rfl | exact Or.inr rfl)))) (fun _ _ _ _ _ => fts_nil) (fun _ _ _ _ _ => (fe_lst (fa_cons (fe_op op_addA o_add (fb_ix ix_seq o_ix (fe_var (pv 19)) (fe_lb (fe_c pe_int fun _ _ => .int _)) (fun _ _ => rfl)) (fe_lb (fe_tup (fa_cons (fe_c pe_int fun _ _ => .int _) fa_nil)))) (fa_cons (fe_dat (fb_ix ix_seq o_ix (fe_var (pv 19)) (fe_lb (fe_c pe_int fun _ _ => .int _)) (fun _ _ => rfl))) fa_nil))))))) (fe_lb (fe_frz (fe_lst (fa_cons (fe_lst (fa_cons (fe_op op_addA o_add (fb_ix ix_seq o_ix (fe_var (pv 14)) (fe_lb (fe_c pe_int fun _ _ => .int _)) (fun _ _ => rfl)) (fe_lb (fe_tup (fa_cons (fe_dat (fb_ix ix_seq o_ix (fe_var (pv 14)) (fe_lb (fe_c pe_int fun _ _ => .int _)) (fun _ _ => rfl))) fa_nil)))) (fa_cons (fe_dat (fe_var (pv 15))) fa_nil))) fa_nil)))))))
    (fs_one (fs_if (ft_not (ft_val rfl (fe_lb (fe_cal c__law_same (hr.mono (by decide)) (by rfl) (L2N.takes_of rfl rfl rfl rfl) (fb_cons (fe_lb (fe_cal c_border_books (hr.mono (by decide)) (by rfl) (L2N.takes_of rfl rfl rfl rfl) (fb_cons (fe_lb (fe_op op_addA o_add (fe_var (pv 2)) (fe_lb (fe_c pe_int fun _ _ => .int _)))) (fb_cons (fe_lb (fe_cal c__law_with (hr.mono (by decide)) (by rfl) (L2N.takes_of rfl rfl rfl rfl) (fb_cons (fe_var (pv 7)) (fb_cons (fe_var (pv 14)) (fb_cons (fe_var (pv 15)) fb_nil))))) fb_nil)))) (fb_cons (fe_lb (fe_cal c__law_due (hr.mono (by decide)) (by rfl) (L2N.takes_of rfl rfl rfl rfl) (fb_cons (fe_var (pv 17)) (fb_cons (fe_lb (fe_op op_addA o_add (fe_var (pv 2)) (fe_lb (fe_c pe_int fun _ _ => .int _)))) fb_nil)))) fb_nil)))))) (fs_one (fs_ret (fe_c pe_bl fun _ _ => .bl _))) fs_nil))) fs_nil)
    (fs_one (fs_ret (fe_cal c__law_same (hr.mono (by decide)) (by rfl) (L2N.takes_of rfl rfl rfl rfl) (fb_cons (fe_lb (fe_calK ck_border_books (hr.mono (by decide)) (by rfl) (L2N.takes_of rfl rfl rfl rfl) (fk_cons (fe_var (pv 2)) (fk_cons (fe_var (pv 7)) fk_nil)))) (fb_cons (fe_var (pv 8)) fb_nil))))))))))))))))))))))))))
end
end K64
/-! k64: polynomials, no program in sight. -/
namespace K64
open L2.Fn PyProof.Rows
theorem enc_inj {a b : NK} (c : Cm a b = true) (e : a.enc = b.enc) : a = b := by
  by_cases h : a = b
  · exact h
  · obtain ⟨p, u, v, ra, rb, h1, h2, h3⟩ := enc_diff a b c h
    rw [h1, h2] at e
    have := List.append_cancel_left e
    injection this with q
    exact absurd q h3
theorem nk_antisymm {a b : NK} (c : Cm a b = true) (h1 : NK.lt a b = false) (h2 : NK.lt b a = false) : a = b := enc_inj c (lex_total (O := itemOrd) _ _ h1 h2)
theorem nk_unique {l m : List NK} (h : l.Perm m) (s1 : l.Pairwise fun x y => NK.lt y x = false) (s2 : m.Pairwise fun x y => NK.lt y x = false) (c : ∀ a ∈ l, ∀ b ∈ m, Cm a b = true) : l = m :=
  List.Perm.eq_of_pairwise (le := fun x y : NK => NK.lt y x = false) (fun a b ha hb h1 h2 => nk_antisymm (c a ha b hb) h2 h1) s1 s2 h
theorem Cms_of {l m : List NK} : (∀ a ∈ l, ∀ b ∈ m, Cm a b = true) → Cms l m = true := by
  induction l generalizing m with
  | nil => intro _; cases m <;> rw [Cms]
  | cons x l ih =>
    intro h
    cases m with
    | nil => rw [Cms]
    | cons y m =>
      rw [Cms]
      split
      · exact ih fun a ha b hb => h a (List.mem_cons_of_mem _ ha) b (List.mem_cons_of_mem _ hb)
      · exact h x List.mem_cons_self y List.mem_cons_self
/-! ### sums by monomial -/
abbrev Ex := List Nat
abbrev Tm := Ex × Int
abbrev Pl := List Tm
def cf : Pl → Ex → Int
  | [], _ => 0
  | t :: ts, e => (if t.1 = e then t.2 else 0) + cf ts e
theorem cf_app (a b : Pl) (e : Ex) : cf (a ++ b) e = cf a e + cf b e := by
  induction a with
  | nil => simp [cf]
  | cons t a ih => rw [List.cons_append, cf, cf, ih]; omega
theorem cf_none {ts : Pl} {e : Ex} (h : ∀ t ∈ ts, t.1 ≠ e) : cf ts e = 0 := by
  induction ts with
  | nil => rfl
  | cons t ts ih => rw [cf, if_neg (h t List.mem_cons_self), ih fun q hq => h q (List.mem_cons_of_mem _ hq)]; rfl
theorem cf_mem {ts : Pl} (nd : (ts.map (·.1)).Nodup) {t : Tm} (h : t ∈ ts) : cf ts t.1 = t.2 := by
  induction ts with
  | nil => cases h
  | cons q ts ih =>
    rw [List.map_cons, List.nodup_cons] at nd
    rw [cf]
    rcases List.mem_cons.mp h with e | h
    · subst e
      rw [if_pos rfl, cf_none fun q hq e => nd.1 (List.mem_map.mpr ⟨q, hq, e⟩)]
      omega
    · rw [if_neg fun e => nd.1 (by rw [e]; exact List.mem_map.mpr ⟨t, h, rfl⟩), ih nd.2 h]
      omega
theorem cf_perm {a b : Pl} (h : a.Perm b) (e : Ex) : cf a e = cf b e := by
  induction h with
  | nil => rfl
  | cons x _ ih => rw [cf, cf, ih]
  | swap x y l => simp only [cf]; omega
  | trans _ _ h1 h2 => rw [h1, h2]
theorem cf_filter {ts : Pl} (p : Tm → Bool) (hp : ∀ t ∈ ts, p t = false → t.2 = 0) (e : Ex) : cf (ts.filter p) e = cf ts e := by
  induction ts with
  | nil => rfl
  | cons t ts ih =>
    have ih := ih fun q hq => hp q (List.mem_cons_of_mem _ hq)
    rw [List.filter_cons]
    split
    · rw [cf, cf, ih]
    · rename_i h
      rw [cf, ih, hp t List.mem_cons_self (by simpa using h)]
      split <;> omega
/-- a step of the dict of sums -/
def add1 (acc : Pl) (t : Tm) : Pl := if (acc.any fun q => decide (q.1 = t.1)) = true then acc.map (fun q => if q.1 = t.1 then (q.1, q.2 + t.2) else q) else acc ++ [t]
def gather (ts : Pl) : Pl := ts.foldl add1 []
def coll (ts : Pl) : Pl := (gather ts).filter fun t => decide (t.2 ≠ 0)
theorem any_iff {acc : Pl} {e : Ex} : (acc.any fun q => decide (q.1 = e)) = true ↔ e ∈ acc.map (·.1) := by
  rw [List.any_eq_true, List.mem_map]
  exact ⟨fun ⟨q, hq, h⟩ => ⟨q, hq, of_decide_eq_true h⟩, fun ⟨q, hq, h⟩ => ⟨q, hq, decide_eq_true h⟩⟩
theorem add1_keys (acc : Pl) (t : Tm) : (add1 acc t).map (·.1) = if t.1 ∈ acc.map (·.1) then acc.map (·.1) else acc.map (·.1) ++ [t.1] := by
  unfold add1
  by_cases h : (acc.any fun q => decide (q.1 = t.1)) = true
  · rw [if_pos h, if_pos (any_iff.mp h), List.map_map]
    refine List.map_congr_left fun q _ => ?_
    show (if q.1 = t.1 then (q.1, q.2 + t.2) else q).1 = q.1
    split <;> rfl
  · rw [if_neg h, if_neg fun z => h (any_iff.mpr z), List.map_append]
    rfl
theorem add1_nodup {acc : Pl} (t : Tm) (nd : (acc.map (·.1)).Nodup) : ((add1 acc t).map (·.1)).Nodup := by
  rw [add1_keys]
  split
  · exact nd
  · rename_i h
    refine List.nodup_append.mpr ⟨nd, by simp, fun a ha b hb e => ?_⟩
    rw [List.mem_singleton.mp hb] at e
    exact h (e ▸ ha)
theorem cf_map_add {t : Tm} {e : Ex} : ∀ {acc : Pl}, (acc.map (·.1)).Nodup → t.1 ∈ acc.map (·.1) → cf (acc.map (fun q => if q.1 = t.1 then (q.1, q.2 + t.2) else q)) e = cf acc e + if t.1 = e then t.2 else 0
  | [], _, h => by cases h
  | q :: acc, nd, h => by
    rw [List.map_cons, List.nodup_cons] at nd
    rw [List.map_cons, cf, cf]
    by_cases hq : q.1 = t.1
    · have no : acc.map (fun q => if q.1 = t.1 then (q.1, q.2 + t.2) else q) = acc := by
        refine (List.map_congr_left (g := id) fun r hr => ?_).trans (List.map_id acc)
        rw [if_neg fun z => nd.1 (by rw [hq, ← z]; exact List.mem_map.mpr ⟨r, hr, rfl⟩)]
        rfl
      rw [no, if_pos hq]
      show (if q.1 = e then q.2 + t.2 else 0) + cf acc e = _
      by_cases he : q.1 = e
      · rw [if_pos he, if_pos he, if_pos (hq ▸ he)]; omega
      · rw [if_neg he, if_neg he, if_neg fun z => he (hq.trans z)]; omega
    · have h' : t.1 ∈ acc.map (·.1) := by
        rw [List.map_cons] at h
        exact (List.mem_cons.mp h).resolve_left fun z => hq z.symm
      rw [if_neg hq, cf_map_add nd.2 h']
      omega
theorem cf_add1 {acc : Pl} (t : Tm) (nd : (acc.map (·.1)).Nodup) (e : Ex) : cf (add1 acc t) e = cf acc e + if t.1 = e then t.2 else 0 := by
  unfold add1
  by_cases h : (acc.any fun q => decide (q.1 = t.1)) = true
  · rw [if_pos h, cf_map_add nd (any_iff.mp h)]
  · rw [if_neg h, cf_app]
    show cf acc e + ((if t.1 = e then t.2 else 0) + 0) = _
    omega
theorem gather_from (ts : Pl) : ∀ {acc : Pl}, (acc.map (·.1)).Nodup → ((ts.foldl add1 acc).map (·.1)).Nodup ∧ ∀ e, cf (ts.foldl add1 acc) e = cf acc e + cf ts e := by
  induction ts with
  | nil => exact fun nd => ⟨nd, fun e => by show _ = _ + 0; rw [Int.add_zero]; rfl⟩
  | cons t ts ih =>
    intro acc nd
    obtain ⟨h1, h2⟩ := ih (add1_nodup t nd)
    refine ⟨h1, fun e => ?_⟩
    rw [List.foldl_cons, h2, cf_add1 t nd, cf]
    omega
theorem gather_nodup (ts : Pl) : ((gather ts).map (·.1)).Nodup := (gather_from ts (acc := []) List.nodup_nil).1
theorem cf_gather (ts : Pl) (e : Ex) : cf (gather ts) e = cf ts e := by
  have := (gather_from ts (acc := []) List.nodup_nil).2 e
  show cf (ts.foldl add1 []) e = _
  rw [this]
  exact Int.zero_add _
theorem coll_nodup (ts : Pl) : ((coll ts).map (·.1)).Nodup := (gather_nodup ts).sublist ((List.filter_sublist).map _)
theorem coll_nz (ts : Pl) : ∀ t ∈ coll ts, t.2 ≠ 0 := fun t h => by simpa using (List.mem_filter.mp h).2
theorem cf_coll (ts : Pl) (e : Ex) : cf (coll ts) e = cf ts e := by
  unfold coll
  rw [cf_filter _ (fun t _ h => by simpa using h), cf_gather]
theorem gather_sub : ∀ (ts : Pl) (acc : Pl), ∀ t ∈ ts.foldl add1 acc, t.1 ∈ acc.map (·.1) ∨ t.1 ∈ ts.map (·.1) := by
  intro ts
  induction ts with
  | nil => exact fun acc t h => .inl (List.mem_map.mpr ⟨t, h, rfl⟩)
  | cons q ts ih =>
    intro acc t h
    rcases ih (add1 acc q) t h with z | z
    · rw [add1_keys] at z
      split at z
      · exact .inl z
      · rcases List.mem_append.mp z with z | z
        · exact .inl z
        · exact .inr (by rw [List.mem_singleton.mp z]; exact List.mem_cons_self)
    · exact .inr (List.mem_cons_of_mem _ z)
theorem coll_keys (ts : Pl) {t : Tm} (h : t ∈ coll ts) : t.1 ∈ ts.map (·.1) := by
  rcases gather_sub ts [] t (List.mem_filter.mp h).1 with z | z
  · cases z
  · exact z
/-- distinct monomials, no zeros -/
structure Red (l : Pl) : Prop where
  nd : (l.map (·.1)).Nodup
  nz : ∀ t ∈ l, t.2 ≠ 0
theorem coll_red (ts : Pl) : Red (coll ts) := ⟨coll_nodup ts, coll_nz ts⟩
theorem Red.mem {l : Pl} (r : Red l) (t : Tm) : t ∈ l ↔ cf l t.1 = t.2 ∧ t.2 ≠ 0 := by
  refine ⟨fun h => ⟨cf_mem r.nd h, r.nz t h⟩, fun ⟨h1, h2⟩ => ?_⟩
  by_cases h : t.1 ∈ l.map (·.1)
  · obtain ⟨q, hq, e⟩ := List.mem_map.mp h
    have := cf_mem r.nd hq
    rw [e, h1] at this
    have : q = t := Prod.ext e this.symm
    exact this ▸ hq
  · rw [cf_none fun q hq e => h (List.mem_map.mpr ⟨q, hq, e⟩)] at h1
    exact absurd h1.symm h2
theorem nodup_of_fst {l : Pl} (h : (l.map (·.1)).Nodup) : l.Nodup := List.Pairwise.of_map (·.1) (fun a b hne e => hne (congrArg Prod.fst e)) h
theorem Red.perm {l m : Pl} (r : Red l) (q : Red m) (h : ∀ e, cf l e = cf m e) : l.Perm m := by
  refine (List.perm_ext_iff_of_nodup (nodup_of_fst r.nd) (nodup_of_fst q.nd)).mpr fun t => ?_
  rw [r.mem, q.mem, h]
theorem Red.filter {l : Pl} (r : Red l) (p : Tm → Bool) : Red (l.filter p) := ⟨r.nd.sublist ((List.filter_sublist).map _), fun t h => r.nz t (List.mem_filter.mp h).1⟩
/-! ### monomials as the program writes them -/
def vK (k : Nat) : NK := .t [.i k, .s [97], .s []]
def prs : Nat → Ex → List (Nat × Nat)
  | _, [] => []
  | k, p :: e => if p = 0 then prs (k + 1) e else (k, p) :: prs (k + 1) e
def pK (q : Nat × Nat) : NK := .t [vK q.1, .i q.2]
def moK (e : Ex) : NK := .t ((prs 0 e).map pK)
theorem prs_lb : ∀ (e : Ex) (k : Nat), ∀ q ∈ prs k e, k ≤ q.1
  | [], _, q, h => nomatch h
  | p :: e, k, q, h => by
    rw [prs] at h
    split at h
    · have := prs_lb e (k + 1) q h; omega
    · rcases List.mem_cons.mp h with z | z
      · rw [z]; exact Nat.le_refl _
      · have := prs_lb e (k + 1) q z; omega
theorem prs_inj : ∀ (e e' : Ex) (k : Nat), e.length = e'.length → prs k e = prs k e' → e = e'
  | [], [], _, _, _ => rfl
  | p :: e, p' :: e', k, hl, h => by
    have hl : e.length = e'.length := by simpa using hl
    rw [prs, prs] at h
    by_cases hp : p = 0
    · by_cases hp' : p' = 0
      · rw [if_pos hp, if_pos hp'] at h
        rw [hp, hp', prs_inj e e' (k + 1) hl h]
      · rw [if_pos hp, if_neg hp'] at h
        have := prs_lb e (k + 1) (k, p') (by rw [h]; exact List.mem_cons_self)
        simp at this
        omega
    · by_cases hp' : p' = 0
      · rw [if_neg hp, if_pos hp'] at h
        have := prs_lb e' (k + 1) (k, p) (by rw [← h]; exact List.mem_cons_self)
        simp at this
        omega
      · rw [if_neg hp, if_neg hp'] at h
        injection h with h1 h2
        injection h1 with _ h1
        rw [h1, prs_inj e e' (k + 1) hl h2]
theorem pK_inj {q r : Nat × Nat} (h : pK q = pK r) : q = r := by
  simp only [pK, vK, NK.t.injEq, List.cons.injEq, NK.i.injEq, and_true] at h
  exact Prod.ext (by omega) (by omega)
theorem moK_inj {e e' : Ex} (hl : e.length = e'.length) (h : moK e = moK e') : e = e' := by
  unfold moK at h
  injection h with h
  exact prs_inj e e' 0 hl (List.map_inj_right (fun _ _ => pK_inj) |>.mp h)
theorem Cm_v (k k' : Nat) : Cm (vK k) (vK k') = true := by
  simp only [vK, Cm, Cms, if_true]
  split <;> simp [Cms, Cm]
theorem Cm_p (q r : Nat × Nat) : Cm (pK q) (pK r) = true := by
  unfold pK
  rw [Cm, Cms]
  split
  · rw [Cms]; split <;> simp [Cms, Cm]
  · exact Cm_v _ _
theorem Cm_mo (e e' : Ex) : Cm (moK e) (moK e') = true := by
  unfold moK
  rw [Cm]
  refine Cms_of fun a ha b hb => ?_
  obtain ⟨q, _, rfl⟩ := List.mem_map.mp ha
  obtain ⟨r, _, rfl⟩ := List.mem_map.mp hb
  exact Cm_p q r
end K64
/-! k64: normal forms and values, no program in sight. -/
namespace K64
open L2.Fn PyProof.Rows
theorem perm_map {α β : Type} {f : α → β} : ∀ {es : List β} {l : List α}, es.Perm (l.map f) → ∃ L : List α, L.Perm l ∧ es = L.map f
  | [], l, h => by
    have : l = [] := by simpa using h.symm.eq_nil
    exact ⟨[], by rw [this], rfl⟩
  | x :: es, l, h => by
    obtain ⟨a, ha, e⟩ := List.mem_map.mp (h.subset List.mem_cons_self)
    obtain ⟨s, t, rfl⟩ := List.append_of_mem ha
    have p : (s ++ a :: t).Perm (a :: (s ++ t)) := List.perm_middle
    have h2 := h.trans (p.map f)
    rw [List.map_cons, e] at h2
    obtain ⟨L, h3, h4⟩ := perm_map h2.cons_inv
    exact ⟨a :: L, (h3.cons a).trans p.symm, by rw [List.map_cons, e, h4]⟩
/-! ### the normal form -/
def Srt (l : Pl) : Prop := l.Pairwise fun s t => NK.lt (moK t.1) (moK s.1) = false
def Len (n : Nat) (l : Pl) : Prop := ∀ t ∈ l, t.1.length = n
theorem srt_unique {n : Nat} {l m : Pl} (r : Red l) (q : Red m) (ll : Len n l) (lm : Len n m) (h : ∀ e, cf l e = cf m e) (s1 : Srt l) (s2 : Srt m) : l = m :=
  List.Perm.eq_of_pairwise (le := fun s t : Tm => NK.lt (moK t.1) (moK s.1) = false) (fun a b ha hb h1 h2 => by
    have e := moK_inj ((ll a ha).trans (lm b hb).symm) (nk_antisymm (Cm_mo _ _) h2 h1)
    refine Prod.ext e ?_
    rw [← ((r.mem a).mp ha).1, ← ((q.mem b).mp hb).1, e, h]) s1 s2 (r.perm q h)
def moLe (s t : Tm) : Bool := !NK.lt (moK t.1) (moK s.1)
def nfl (ts : Pl) : Pl := (coll ts).mergeSort moLe
theorem nfl_perm (ts : Pl) : (nfl ts).Perm (coll ts) := List.mergeSort_perm _ _
theorem nfl_srt (ts : Pl) : Srt (nfl ts) := by
  have := List.pairwise_mergeSort (le := moLe) (fun a b c h1 h2 => ?_) (fun a b => ?_) (coll ts)
  · exact this.imp fun {a b} h => by simpa [moLe] using h
  · unfold moLe at *
    cases q : NK.lt (moK c.1) (moK a.1) with
    | false => rfl
    | true =>
      have h3 := (pk_swo (fun t : Tm => (moK t.1).enc)).2 a b c (by simpa [NK.lt] using h1) (by simpa [NK.lt] using h2)
      have q : pkLt (moK c.1).enc (moK a.1).enc = true := q
      rw [q] at h3
      cases h3
  · unfold moLe
    cases q : NK.lt (moK b.1) (moK a.1) with
    | false => rfl
    | true =>
      have h3 := (pk_swo (fun t : Tm => (moK t.1).enc)).1 b a q
      have : NK.lt (moK a.1) (moK b.1) = false := h3
      rw [this] <;> rfl
theorem nfl_red (ts : Pl) : Red (nfl ts) :=
  ⟨((nfl_perm ts).map (·.1)).nodup_iff.mpr (coll_nodup ts), fun t h => coll_nz ts t ((nfl_perm ts).mem_iff.mp h)⟩
theorem cf_nfl (ts : Pl) (e : Ex) : cf (nfl ts) e = cf ts e := (cf_perm (nfl_perm ts) e).trans (cf_coll ts e)
theorem coll_len {n : Nat} {ts : Pl} (h : Len n ts) : Len n (coll ts) := fun t ht => by
  obtain ⟨q, hq, e⟩ := List.mem_map.mp (coll_keys ts ht)
  rw [← e]; exact h q hq
theorem nfl_len {n : Nat} {ts : Pl} (h : Len n ts) : Len n (nfl ts) := fun t ht => coll_len h t ((nfl_perm ts).mem_iff.mp ht)
theorem nfl_of {n : Nat} {l ts : Pl} (r : Red l) (s : Srt l) (ll : Len n l) (lt : Len n ts) (h : ∀ e, cf l e = cf ts e) : l = nfl ts :=
  srt_unique r (nfl_red ts) ll (nfl_len lt) (fun e => (h e).trans (cf_nfl ts e).symm) s (nfl_srt ts)
theorem nfl_congr {n : Nat} {ts us : Pl} (lt : Len n ts) (lu : Len n us) (h : ∀ e, cf ts e = cf us e) : nfl ts = nfl us :=
  nfl_of (nfl_red ts) (nfl_srt ts) (nfl_len lt) lu fun e => (cf_nfl ts e).trans (h e)
/-! ### values -/
def mev : List Int → Ex → Int
  | x :: xs, p :: e => x ^ p * mev xs e
  | _, _ => 1
def ev (x : List Int) : Pl → Int
  | [] => 0
  | t :: ts => t.2 * mev x t.1 + ev x ts
section
variable {x : List Int}
theorem ev_app (a b : Pl) : ev x (a ++ b) = ev x a + ev x b := by
  induction a with
  | nil => simp [ev]
  | cons t a ih => rw [List.cons_append, ev, ev, ih]; omega
theorem ev_perm {a b : Pl} (h : a.Perm b) : ev x a = ev x b := by
  induction h with
  | nil => rfl
  | cons y _ ih => rw [ev, ev, ih]
  | swap y z l => simp only [ev]; omega
  | trans _ _ h1 h2 => rw [h1, h2]
theorem ev_add1 {acc : Pl} (t : Tm) (nd : (acc.map (·.1)).Nodup) : ev x (add1 acc t) = ev x acc + t.2 * mev x t.1 := by
  unfold add1
  by_cases h : (acc.any fun q => decide (q.1 = t.1)) = true
  · rw [if_pos h]
    have hm := any_iff.mp h
    clear h
    induction acc with
    | nil => cases hm
    | cons q acc ih =>
      rw [List.map_cons, List.nodup_cons] at nd
      rw [List.map_cons, ev, ev]
      by_cases hq : q.1 = t.1
      · have no : acc.map (fun q => if q.1 = t.1 then (q.1, q.2 + t.2) else q) = acc := by
          refine (List.map_congr_left (g := id) fun r hr => ?_).trans (List.map_id acc)
          rw [if_neg fun z => nd.1 (by rw [hq, ← z]; exact List.mem_map.mpr ⟨r, hr, rfl⟩)]
          rfl
        rw [no, if_pos hq]
        show (q.2 + t.2) * mev x q.1 + ev x acc = _
        rw [hq, Int.add_mul]
        omega
      · have h' : t.1 ∈ acc.map (·.1) := by
          rw [List.map_cons] at hm
          exact (List.mem_cons.mp hm).resolve_left fun z => hq z.symm
        rw [if_neg hq, ih nd.2 h']
        omega
  · rw [if_neg h, ev_app]
    show ev x acc + (t.2 * mev x t.1 + 0) = _
    omega
theorem ev_gather (ts : Pl) : ev x (gather ts) = ev x ts := by
  have : ∀ (ts acc : Pl), (acc.map (·.1)).Nodup → ev x (ts.foldl add1 acc) = ev x acc + ev x ts := by
    intro ts
    induction ts with
    | nil => exact fun acc _ => by show _ = _ + 0; rw [Int.add_zero]; rfl
    | cons t ts ih =>
      intro acc nd
      rw [List.foldl_cons, ih _ (add1_nodup t nd), ev_add1 t nd, ev]
      omega
  have := this ts [] List.nodup_nil
  show ev x (ts.foldl add1 []) = _
  rw [this]
  exact Int.zero_add _
theorem ev_filter0 (ts : Pl) : ev x (ts.filter fun t => decide (t.2 ≠ 0)) = ev x ts := by
  induction ts with
  | nil => rfl
  | cons t ts ih =>
    rw [List.filter_cons]
    split
    · rw [ev, ev, ih]
    · rename_i h
      rw [ev, ih, show t.2 = 0 by simpa using h, Int.zero_mul, Int.zero_add]
theorem ev_coll (ts : Pl) : ev x (coll ts) = ev x ts := by
  unfold coll
  rw [ev_filter0, ev_gather]
theorem ev_nfl (ts : Pl) : ev x (nfl ts) = ev x ts := (ev_perm (nfl_perm ts)).trans (ev_coll ts)
def ngT (t : Tm) : Tm := (t.1, -t.2)
theorem ev_ng (ts : Pl) : ev x (ts.map ngT) = - ev x ts := by
  induction ts with
  | nil => rfl
  | cons t ts ih =>
    rw [List.map_cons, ev, ev, ih]
    show -t.2 * mev x t.1 + _ = _
    rw [Int.neg_mul]
    omega
theorem ev_split (ts : Pl) : ev x ts = ev x (ts.filter fun t => decide (0 < t.2)) + ev x (ts.filter fun t => decide (t.2 < 0)) := by
  induction ts with
  | nil => rfl
  | cons t ts ih =>
    rw [List.filter_cons, List.filter_cons]
    by_cases h1 : 0 < t.2
    · rw [if_pos (decide_eq_true h1), if_neg (by simp; omega), ev, ev, ih]; omega
    · by_cases h2 : t.2 < 0
      · rw [if_neg (by simp; omega), if_pos (decide_eq_true h2), ev, ev, ih]; omega
      · rw [if_neg (by simp; omega), if_neg (by simp; omega), ev, ih, show t.2 = 0 by omega, Int.zero_mul, Int.zero_add]
def pl2 (e e' : Ex) : Ex := List.zipWith (· + ·) e e'
theorem mev_pl2 : ∀ (x : List Int) (e e' : Ex), e.length = x.length → e'.length = x.length → mev x (pl2 e e') = mev x e * mev x e'
  | [], [], [], _, _ => rfl
  | x :: xs, p :: e, q :: e', h1, h2 => by
    have h1 : e.length = xs.length := by simpa using h1
    have h2 : e'.length = xs.length := by simpa using h2
    show x ^ (p + q) * mev xs (pl2 e e') = x ^ p * mev xs e * (x ^ q * mev xs e')
    rw [mev_pl2 xs e e' h1 h2, Int.pow_add, Int.mul_assoc, Int.mul_assoc, Int.mul_left_comm (x ^ q)]
def prods (ts us : Pl) : Pl := ts.flatMap fun a => us.map fun b => (pl2 a.1 b.1, a.2 * b.2)
theorem ev_prods (ts us : Pl) (h1 : Len x.length ts) (h2 : Len x.length us) : ev x (prods ts us) = ev x ts * ev x us := by
  induction ts with
  | nil => show (0 : Int) = 0 * _; rw [Int.zero_mul]
  | cons a ts ih =>
    have ih := ih fun t ht => h1 t (List.mem_cons_of_mem _ ht)
    have one : ∀ us : Pl, Len x.length us → ev x (us.map fun b => (pl2 a.1 b.1, a.2 * b.2)) = a.2 * mev x a.1 * ev x us := by
      intro us
      induction us with
      | nil => intro _; show (0 : Int) = _ * 0; rw [Int.mul_zero]
      | cons b us ihu =>
        intro hl
        rw [List.map_cons, ev, ihu fun t ht => hl t (List.mem_cons_of_mem _ ht), ev, Int.mul_add]
        congr 1
        show a.2 * b.2 * mev x (pl2 a.1 b.1) = a.2 * mev x a.1 * (b.2 * mev x b.1)
        rw [mev_pl2 x a.1 b.1 (h1 a List.mem_cons_self) (hl b List.mem_cons_self), Int.mul_assoc, Int.mul_assoc, Int.mul_left_comm b.2]
    show ev x ((us.map fun b => (pl2 a.1 b.1, a.2 * b.2)) ++ prods ts us) = (a.2 * mev x a.1 + ev x ts) * ev x us
    rw [ev_app, one us h2, ih, Int.add_mul]
end
theorem prods_perm {a a' b b' : Pl} (h : a.Perm a') (h2 : b.Perm b') : (prods a b).Perm (prods a' b') := by
  refine (h.flatMap_right _).trans ?_
  clear h
  induction a' with
  | nil => exact .refl _
  | cons t a' ih => exact (h2.map _).append ih
end K64
namespace K64
open PySem L2 L2.Fn
local macro_rules | `(tactic| walk_at "fx") => `(tactic| try simp only [mkW, fSeq, fAsg, gN, fC, fVar, fBin, fDat, fFrz, oAdd, oInt0, oInt, oIx, fIfS, fTru, oTru, fBl, fNot, fAnd, fOr, fNext, fRet, fRetV, fRetN, fLst, fTup, fNil, fCons, fCB, oLen, oIntC, oStrI, oTupC, oLstC, fApp, fSl, fPart, fNoP, oSl, fIf, fAndV, fOrV, fNotV, fIsi, M.ty, fM1, oIn, oEq, oNe, oLt, oLe, oGt, oGe, oSub, oMul, oFDiv, oMod, oPow, eqF, fDrop, fFor, fWalk, oWalk, fRng, oR1, oR2, fCall, fComp, fYes, wipeE, oCat, oRep,
  fComp2, oMulS, fNeg, oSum, fExt, M.sqD, fIdx, oIdx, keysD, Int.zero_add, oMin2, oMax2, oAbs, oI2, gTupP, gConsP, gNilP, fDict, fDSet, oDIx, oDIn, fDGet2, M.asD, oEnum, oZip, fFz, fSet0, fRevS, oRevS, fChain, oAll, oAny, oShl, oShr, oBand, oLstDN, oSortDN, oSortN, oRepT, fDComp, fCallU,
  List.length_cons, List.length_nil, List.map_cons, List.map_nil, List.cons_append, List.nil_append, List.append_nil, blanks, List.getElem?_cons_zero, List.getElem?_cons_succ, List.set_cons_zero, List.set_cons_succ, Option.some.injEq, exists_eq_left', true_and, and_true, Nat.reduceSub, Nat.reduceAdd, Nat.reduceLT, Nat.lt_add_one, M.dat.injEq, D.bl.injEq, D.int.injEq, Nat.zero_lt_succ, Nat.succ_lt_succ_iff, Nat.zero_lt_one, exists_eq_left, List.getElem?_nil, Bool.false_bne, Bool.false_xor, decide_eq_true_eq,
  ex_nil, ex_cons, ex_map, toD_lst, toD_dat, dats_nil, dats_cons, ld_l, ld_dat, ld_lst, Option.map_some, ex_some, kitI isi_int_int, kitI isi_int_bool, kitI isi_str_str, kitI isi_tup_tup, kitI isi_str_tup, M.lst.injEq, List.length_map, Bool.not_true, Bool.not_false, Bool.false_eq_true, if_true, if_false, reduceIte, endOf_nx, endOf_rt, endOf_ex, ex_pair, ex_dct, ex_cons2, Option.bind_some, Option.getD_some, Option.getD_none, flat_one, Int.toNat_natCast, gv_LETTERS])
theorem cell_ok (ns : List Int) (k : Int) (S : Sto) (Q : WP) (E : XP) (h0 : 0 ≤ k) (h1 : k < 1000000) (h : ∀ c : Int, Q (.dat (.int c)) S) : w__law_cell [.lst (ns.map D.int), .int k] S Q E := by
  unfold w__law_cell r__law_cell
  walk_at "fx"
  by_cases hk : k < (ns.length : Int)
  · rw [if_pos (by simpa using hk)]
    have hlt : k.toNat < ns.length := by omega
    exact ⟨_, atI_i h0 (by rw [List.getElem?_map, List.getElem?_eq_getElem hlt]; rfl), h _⟩
  · rw [if_neg (by simpa using hk)]
    unfold r__law_cell_3
    walk_at "fx"
    unfold r__law_cell_2
    walk_at "fx"
    refine forV (fun _ ρ => ∃ (seed : Int) (x : Option M), 0 ≤ seed ∧ seed < 1000003 ∧ ρ = [some (.dat (.lst (ns.map D.int))), some (.dat (.int k)), some (.dat (.int seed)), x]) ⟨17, none, by decide, by decide, rfl⟩ ?_ ?_
    · rintro ρ ⟨seed, x, h2, h3, rfl⟩
      unfold r__law_cell_1
      walk_at "fx"
      exact ⟨cmulS (by omega) (by omega) (by omega) (by omega), cmulS (by
        have : 0 ≤ (seed + 7) * (k + 3) := Int.mul_nonneg (by omega) (by omega)
        omega) (by
        have : (seed + 7) * (k + 3) ≤ 2000000 * 2000000 := Int.mul_le_mul (by omega) (by omega) (by omega) (by decide)
        omega) (by decide) (by decide), by decide, h _⟩
    · rintro l z r ρ W e ⟨seed, x, h2, h3, rfl⟩ ih
      walk_at "fx"
      exact ⟨cmulS (by omega) (by omega) (by decide) (by decide), by decide, by decide, ih _ ⟨_, some (.dat (.int z)), Int.emod_nonneg _ (by decide), Int.emod_lt_of_pos _ (by decide), rfl⟩⟩
/-- so many digits, each below its size -/
def Digs (ds sizes : List Int) : Prop := ds.length = sizes.length ∧ ∀ (i : Nat) (d z : Int), ds[i]? = some d → sizes[i]? = some z → 0 ≤ d ∧ d < z
theorem digs_snoc {ds zs : List Int} {d z : Int} (h : Digs ds zs) (h0 : 0 ≤ d) (h1 : d < z) : Digs (ds ++ [d]) (zs ++ [z]) := by
  refine ⟨by simp [h.1], fun i a b ha hb => ?_⟩
  by_cases hi : i < ds.length
  · rw [List.getElem?_append_left hi] at ha
    rw [List.getElem?_append_left (by rw [← h.1]; exact hi)] at hb
    exact h.2 i a b ha hb
  · have e : i = ds.length := by
      have := (List.getElem?_eq_some_iff.mp ha).1
      simp at this
      omega
    subst e
    rw [List.getElem?_append_right (Nat.le_refl _)] at ha
    rw [List.getElem?_append_right (by rw [h.1]; exact Nat.le_refl _)] at hb
    simp at ha
    rw [h.1] at hb
    simp at hb
    subst ha hb
    exact ⟨h0, h1⟩
theorem digs_cons {ds zs : List Int} {z : Int} (h : Digs ds (z :: zs)) : ∃ d r, ds = d :: r ∧ 0 ≤ d ∧ d < z ∧ Digs r zs := by
  cases ds with
  | nil => have := h.1; simp at this
  | cons d r =>
    have h0 := h.2 0 d z rfl rfl
    exact ⟨d, r, rfl, h0.1, h0.2, by have := h.1; simp at this; exact this, fun i a b ha hb => h.2 (i + 1) a b (by simpa using ha) (by simpa using hb)⟩
theorem digits_ok (c : Int) (sizes : List Int) (S : Sto) (Q : WP) (E : XP) (hz : ∀ z ∈ sizes, 0 < z ∧ z.natAbs.log2 < 9000) (hl : sizes.length ≤ 1000)
    (h : ∀ ds, Digs ds sizes → Q (.lst ((ds.map D.int).map M.dat)) S) : w__law_digits [.int c, .lst (sizes.map D.int)] S Q E := by
  unfold w__law_digits r__law_digits
  walk_at "fx"
  refine ⟨small_line (by decide), ?_⟩
  unfold r__law_digits_10
  walk_at "fx"
  unfold r__law_digits_9
  walk_at "fx"
  refine ⟨⟨by decide, by decide, by decide⟩, ?_⟩
  have hdz : ∀ (k : Nat) (hk : k < sizes.length), 0 < sizes[k] ∧ sizes[k].natAbs.log2 < 9000 := fun k hk => hz _ (List.getElem_mem hk)
  split
  · refine ⟨⟨by decide, by decide, by decide⟩, ?_⟩
    unfold r__law_digits_3
    walk_at "fx"
    refine forV (fun l ρ => ∃ (ds : List Int) (rest : Int) (x : Option M), Digs ds l ∧ ρ = [some (.dat (.int c)), some (.dat (.lst (sizes.map D.int))), some (.lst ((ds.map D.int).map M.dat)), some (.dat (.int rest)), none, none, x, none])
      ⟨[], _, none, ⟨rfl, fun i a b ha _ => by simp at ha⟩, rfl⟩ ?_ ?_
    · rintro ρ ⟨ds, rest, x, hd, rfl⟩
      unfold r__law_digits_2
      walk_at "fx"
      exact h ds hd
    · rintro l z r ρ W e ⟨ds, rest, x, hd, rfl⟩ ih
      have hz' := hz z (by rw [e]; simp)
      walk_at "fx"
      refine ⟨small_line' ?_, hz'.1, ?_⟩
      · have := hd.1
        rw [e] at hl
        simp at hl
        omega
      unfold r__law_digits_1
      walk_at "fx"
      refine ⟨⟨hz'.1, hz'.2⟩, ih _ ⟨ds ++ [rest % z], rest / z, some (.dat (.int z)), digs_snoc hd (Int.emod_nonneg _ (by omega)) (Int.emod_lt_of_pos _ hz'.1), ?_⟩⟩
      simp
  · unfold r__law_digits_8
    walk_at "fx"
    refine ⟨by decide, ?_⟩
    unfold r__law_digits_7
    walk_at "fx"
    refine ⟨by omega, by omega, ?_⟩
    refine forR (fun k ρ => ∃ (ds : List Int) (seed : Int) (x y : Option M), Digs ds (sizes.take k) ∧ 0 ≤ seed ∧ seed < 2147483647 ∧ ρ = [some (.dat (.int c)), some (.dat (.lst (sizes.map D.int))), some (.lst ((ds.map D.int).map M.dat)), some (.dat (.int c)), some (.dat (.int seed)), x, none, y])
      ⟨[], _, none, none, ⟨rfl, fun i a b ha _ => by simp at ha⟩, Int.emod_nonneg _ (by decide), Int.lt_trans (Int.emod_lt_of_pos _ (by decide)) (by decide), rfl⟩ ?_ ?_
    · rintro ρ ⟨ds, seed, x, y, hd, _, _, rfl⟩
      rw [List.take_length] at hd
      unfold r__law_digits_6
      walk_at "fx"
      exact h ds hd
    · rintro k ρ W hk ⟨ds, seed, x, y, hd, h0, h1, rfl⟩ ih
      have hz' := hdz k hk
      have hat : atI (sizes.map D.int) (k : Int) = some (.int sizes[k]) := atI_n (by rw [List.getElem?_map, List.getElem?_eq_getElem hk]; rfl)
      walk_at "fx"
      refine ⟨cmulS (by omega) (by omega) (by decide) (by decide), cmulS (by decide) (by decide) (by omega) (by omega), by decide, ?_⟩
      have hs : ∀ t : Int, 0 ≤ t % 2147483647 ∧ t % 2147483647 < 2147483647 := fun t => ⟨Int.emod_nonneg _ (by decide), Int.emod_lt_of_pos _ (by decide)⟩
      obtain ⟨g0, g1⟩ := hs (seed * 48271 + 974711 * (k : Int) + 12345)
      generalize (seed * 48271 + 974711 * (k : Int) + 12345) % 2147483647 = sd at g0 g1 ⊢
      unfold r__law_digits_5
      walk_at "fx"
      have x3 : sd / 65537 < 40000 := Int.ediv_lt_of_lt_mul (by decide) (by omega)
      have x4 : 0 ≤ sd / 65537 := Int.ediv_nonneg g0 (by decide)
      refine ⟨⟨by decide, by decide⟩, cmulS (by omega) (by omega) (by omega) (by omega), by decide, ?_⟩
      unfold r__law_digits_4
      walk_at "fx"
      refine ⟨small_line' ?_, ⟨by decide, by decide⟩, _, hat, hz'.1, ih _ ⟨ds ++ [sd * (sd / 65537 + 3) % 2147483629 / 19 % sizes[k]], sd, some (.dat (.int (k : Int))), some (.dat (.int (sd * (sd / 65537 + 3) % 2147483629))), ?_, g0, g1, ?_⟩⟩
      · have := hd.1; simp at this; omega
      · rw [List.take_succ, List.getElem?_eq_getElem hk]
        exact digs_snoc hd (Int.emod_nonneg _ (by omega)) (Int.emod_lt_of_pos _ hz'.1)
      · simp
end K64
namespace K64
open PySem L2 L2.Fn
local macro_rules | `(tactic| walk_at "fx") => `(tactic| try simp only [mkW, fSeq, fAsg, gN, fC, fVar, fBin, fDat, fFrz, oAdd, oInt0, oInt, oIx, fIfS, fTru, oTru, fBl, fNot, fAnd, fOr, fNext, fRet, fRetV, fRetN, fLst, fTup, fNil, fCons, fCB, oLen, oIntC, oStrI, oTupC, oLstC, fApp, fSl, fPart, fNoP, oSl, fIf, fAndV, fOrV, fNotV, fIsi, M.ty, fM1, oIn, oEq, oNe, oLt, oLe, oGt, oGe, oSub, oMul, oFDiv, oMod, oPow, eqF, fDrop, fFor, fWalk, oWalk, fRng, oR1, oR2, fCall, fComp, fYes, wipeE, oCat, oRep,
  fComp2, oMulS, fNeg, oSum, fExt, M.sqD, fIdx, oIdx, keysD, Int.zero_add, oMin2, oMax2, oAbs, oI2, gTupP, gConsP, gNilP, fDict, fDSet, oDIx, oDIn, fDGet2, M.asD, oEnum, oZip, fFz, fSet0, fRevS, oRevS, fChain, oAll, oAny, oShl, oShr, oBand, oLstDN, oSortDN, oSortN, oRepT, fDComp, fCallU,
  List.length_cons, List.length_nil, List.map_cons, List.map_nil, List.cons_append, List.nil_append, List.append_nil, blanks, List.getElem?_cons_zero, List.getElem?_cons_succ, List.set_cons_zero, List.set_cons_succ, Option.some.injEq, exists_eq_left', true_and, and_true, Nat.reduceSub, Nat.reduceAdd, Nat.reduceLT, Nat.lt_add_one, M.dat.injEq, D.bl.injEq, D.int.injEq, Nat.zero_lt_succ, Nat.succ_lt_succ_iff, Nat.zero_lt_one, exists_eq_left, List.getElem?_nil, Bool.false_bne, Bool.false_xor, decide_eq_true_eq,
  ex_nil, ex_cons, ex_map, toD_lst, toD_dat, dats_nil, dats_cons, ld_l, ld_dat, ld_lst, Option.map_some, ex_some, kitI isi_int_int, kitI isi_int_bool, kitI isi_str_str, kitI isi_tup_tup, kitI isi_str_tup, M.lst.injEq, List.length_map, Bool.not_true, Bool.not_false, Bool.false_eq_true, if_true, if_false, reduceIte, endOf_nx, endOf_rt, endOf_ex, ex_pair, ex_dct, ex_cons2, Option.bind_some, Option.getD_some, Option.getD_none, flat_one, Int.toNat_natCast, gv_LETTERS])
/-! ### a dict of sums -/
def kvs (f : Ex → NK) (acc : Pl) : List (NK × D) := acc.map fun t => (f t.1, .int t.2)
theorem kvs_any (f : Ex → NK) (e : Ex) : ∀ (acc : Pl), (∀ t ∈ acc, f t.1 = f e → t.1 = e) → ((kvs f acc).any fun kv => decide (kv.1 = f e)) = acc.any fun q => decide (q.1 = e)
  | [], _ => rfl
  | t :: acc, h => by
    show (decide (f t.1 = f e) || _) = (decide (t.1 = e) || _)
    have ih := kvs_any f e acc fun q hq => h q (List.mem_cons_of_mem _ hq)
    unfold kvs at ih
    rw [ih]
    congr 1
    exact decide_eq_decide.mpr ⟨h t List.mem_cons_self, fun z => by rw [z]⟩
theorem kvs_find (f : Ex → NK) (e : Ex) : ∀ (acc : Pl), (∀ t ∈ acc, f t.1 = f e → t.1 = e) → (acc.map (·.1)).Nodup → (dlook (kvs f acc) (f e)).getD (.int 0) = .int (cf acc e)
  | [], _, _ => rfl
  | t :: acc, h, nd => by
    rw [List.map_cons, List.nodup_cons] at nd
    have ih := kvs_find f e acc (fun q hq => h q (List.mem_cons_of_mem _ hq)) nd.2
    unfold dlook kvs at ih ⊢
    rw [List.map_cons, List.find?_cons, cf]
    by_cases he : t.1 = e
    · rw [show decide ((f t.1, D.int t.2).1 = f e) = true from decide_eq_true (by rw [he]), if_pos he, cf_none fun q hq z => nd.1 (by rw [he, ← z]; exact List.mem_map.mpr ⟨q, hq, rfl⟩), Int.add_zero]
      rfl
    · rw [show decide ((f t.1, D.int t.2).1 = f e) = false from decide_eq_false fun z => he (h t List.mem_cons_self z), if_neg he, Int.zero_add]
      exact ih
theorem kvs_put (f : Ex → NK) (acc : Pl) (t : Tm) (h : ∀ q ∈ acc, f q.1 = f t.1 → q.1 = t.1) (nd : (acc.map (·.1)).Nodup) : dput (kvs f acc) (f t.1) (.int (cf acc t.1 + t.2)) = kvs f (add1 acc t) := by
  unfold dput add1
  rw [kvs_any f t.1 acc h]
  by_cases hm : (acc.any fun q => decide (q.1 = t.1)) = true
  · rw [if_pos hm, if_pos hm]
    unfold kvs
    rw [List.map_map, List.map_map]
    refine List.map_congr_left fun q hq => ?_
    show (if f q.1 = f t.1 then (f q.1, D.int (cf acc t.1 + t.2)) else (f q.1, D.int q.2)) = _
    by_cases e : q.1 = t.1
    · rw [if_pos (by rw [e])]
      show _ = (f (if q.1 = t.1 then (q.1, q.2 + t.2) else q).1, D.int (if q.1 = t.1 then (q.1, q.2 + t.2) else q).2)
      rw [if_pos e, ← e, cf_mem nd hq]
    · rw [if_neg fun z => e (h q hq z)]
      show _ = (f (if q.1 = t.1 then (q.1, q.2 + t.2) else q).1, D.int (if q.1 = t.1 then (q.1, q.2 + t.2) else q).2)
      rw [if_neg e]
  · rw [if_neg hm, if_neg hm]
    have hn : t.1 ∉ acc.map (·.1) := fun z => hm (any_iff.mpr z)
    rw [cf_none fun q hq z => hn (List.mem_map.mpr ⟨q, hq, z⟩), Int.zero_add]
    unfold kvs
    rw [List.map_append]
    rfl
theorem kvs_look (f : Ex → NK) (acc : Pl) (inj : ∀ q ∈ acc, ∀ r ∈ acc, f q.1 = f r.1 → q.1 = r.1) (nd : (acc.map (·.1)).Nodup) {t : Tm} (ht : t ∈ acc) : dlook (kvs f acc) (f t.1) = some (.int t.2) := by
  induction acc with
  | nil => cases ht
  | cons q acc ih =>
    rw [List.map_cons, List.nodup_cons] at nd
    unfold dlook kvs
    rw [List.map_cons, List.find?_cons]
    rcases List.mem_cons.mp ht with e | h
    · rw [← e, show decide ((f t.1, D.int t.2).1 = f t.1) = true from decide_eq_true rfl]
      rfl
    · rw [show decide ((f q.1, D.int q.2).1 = f t.1) = false from decide_eq_false fun z => nd.1 (by rw [inj q List.mem_cons_self t ht z]; exact List.mem_map.mpr ⟨t, h, rfl⟩)]
      exact ih (fun a ha b hb => inj a (List.mem_cons_of_mem _ ha) b (List.mem_cons_of_mem _ hb)) nd.2 h
/-! ### the law's own sums -/
def exK (e : Ex) : NK := .t (e.map fun p : Nat => NK.i (p : Int))
def exD (e : Ex) : D := .tup (e.map fun p : Nat => D.int (p : Int))
theorem nks_ints (e : Ex) : D.nks (e.map fun p : Nat => D.int (p : Int)) = some (e.map fun p : Nat => NK.i (p : Int)) := by
  induction e with
  | nil => rw [List.map_nil, D.nks]; rfl
  | cons p e ih => rw [List.map_cons, D.nks, D.nk, ih]; rfl
theorem exD_nk (e : Ex) : (exD e).nk = some (exK e) := by rw [exD, D.nk, nks_ints]; rfl
theorem exK_toD (e : Ex) : (exK e).toD = exD e := nk_toD (exD_nk e)
theorem deps_ints (e : Ex) : NK.deps (e.map fun p : Nat => NK.i (p : Int)) = 0 := by
  induction e with
  | nil => rw [List.map_nil, NK.deps]
  | cons p e ih => rw [List.map_cons, NK.deps, NK.dep, ih]; rfl
theorem exK_ok (e : Ex) : okK true (exK e) := by
  show (NK.t _).dep ≤ 8
  rw [NK.dep, deps_ints]
  decide
theorem exK_inj {e e' : Ex} (h : exK e = exK e') : e = e' := by
  unfold exK at h
  injection h with h
  exact List.map_inj_right (fun a b z => by injection z with z; omega) |>.mp h
def tD (t : Tm) : D := .lst [exD t.1, .int t.2]
def tM (t : Tm) : M := .lst [.dat (exD t.1), .dat (.int t.2)]
theorem add1_inj (f : Ex → NK) (hf : ∀ e e', f e = f e' → e = e') (acc : Pl) (e : Ex) : ∀ t ∈ acc, f t.1 = f e → t.1 = e := fun _ _ z => hf _ _ z
theorem gather_len (ts : Pl) : (gather ts).length ≤ ts.length := by
  have : ∀ (ts acc : Pl), (ts.foldl add1 acc).length ≤ acc.length + ts.length := by
    intro ts
    induction ts with
    | nil => exact fun acc => Nat.le_refl _
    | cons t ts ih =>
      intro acc
      have h1 : (add1 acc t).length ≤ acc.length + 1 := by
        unfold add1
        split
        · rw [List.length_map]; omega
        · simp
      have := ih (add1 acc t)
      rw [List.foldl_cons, List.length_cons]
      omega
  simpa [gather] using this ts []
theorem small0 {a b : Nat} (h : a ≤ b) (h2 : b ≤ 1000) : a ≤ 16000000 := by omega
theorem collected_ok (ts : Pl) (S : Sto) (Q : WP) (E : XP) (hl : ts.length ≤ 1000) (h : Q (.lst ((coll ts).map tM)) S) : w__law_collected [.lst (ts.map tD)] S Q E := by
  unfold w__law_collected r__law_collected
  walk_at "fx"
  unfold r__law_collected_2
  walk_at "fx"
  refine forV (fun l ρ => ∃ x : Option M, ρ = [some (.dat (.lst (ts.map tD))), some (.dct true (kvs exK (gather l))), x, none]) ⟨none, rfl⟩ ?_ ?_
  · rintro ρ ⟨x, rfl⟩
    unfold r__law_collected_1
    walk_at "fx"
    refine ⟨_, rfl, ?_⟩
    have e1 : (M.lst ((kvs exK (gather ts)).map fun p => M.dat p.1.toD)).toD = .lst ((gather ts).map fun t => exD t.1) := by
      unfold kvs
      rw [List.map_map, show (fun p : NK × D => M.dat p.1.toD) ∘ (fun t : Tm => (exK t.1, D.int t.2)) = M.dat ∘ fun t : Tm => exD t.1 from funext fun t => by show M.dat (exK t.1).toD = _; rw [exK_toD]; rfl, ← List.map_map, toD_lst]
    rw [e1]
    show compW _ _ _ _ _ _ _ [] S
    have nd := gather_nodup ts
    have gl := gather_len ts
    refine compM (fun t : Tm => decide (t.2 ≠ 0)) (fun t => tM t) (small0 gl hl) h fun l t r K1 K2 e k1 k2 => ?_
    have hm : t ∈ gather ts := by rw [e]; simp
    have hk := kvs_look exK (gather ts) (fun q _ r _ z => exK_inj z) nd hm
    walk_at "fx"
    refine ⟨_, exD_nk t.1, exK_ok _, _, hk, ?_⟩
    walk_at "fx"
    by_cases hz : t.2 = 0
    · rw [if_neg (by simp [hz])]
      exact k2 (by simp [hz])
    · rw [if_pos (by simp [hz])]
      exact ⟨_, exD_nk t.1, exK_ok _, _, hk, by decide, k1 (by simp [hz])⟩
  · rintro l t r ρ W e ⟨x, rfl⟩ ih
    have nd := gather_nodup l
    have a0 : atI [exD t.1, D.int t.2] 0 = some (exD t.1) := rfl
    have a1 : atI [exD t.1, D.int t.2] 1 = some (.int t.2) := rfl
    rw [show tD t = .lst [exD t.1, .int t.2] from rfl]
    walk_at "fx"
    refine ⟨_, a0, _, exD_nk _, exK_ok _, _, a1, ?_⟩
    rw [kvs_find exK t.1 (gather l) (fun q _ z => exK_inj z) nd]
    walk_at "fx"
    refine ⟨small_line' ?_, _, a0, _, exD_nk _, exK_ok _, ih _ ⟨some (.dat (.lst [exD t.1, .int t.2])), ?_⟩⟩
    · have := gather_len l
      unfold kvs
      rw [List.length_map]
      rw [e] at hl
      simp at hl
      omega
    · rw [kvs_put exK (gather l) t (fun q _ z => exK_inj z) nd]
      show _ = [_, some (M.dct true (kvs exK ((l ++ [t]).foldl add1 []))), _, _]
      rw [List.foldl_append]
      rfl
end K64
namespace K64
open PySem L2 L2.Fn
local macro_rules | `(tactic| walk_at "fx") => `(tactic| try simp only [mkW, fSeq, fAsg, gN, fC, fVar, fBin, fDat, fFrz, oAdd, oInt0, oInt, oIx, fIfS, fTru, oTru, fBl, fNot, fAnd, fOr, fNext, fRet, fRetV, fRetN, fLst, fTup, fNil, fCons, fCB, oLen, oIntC, oStrI, oTupC, oLstC, fApp, fSl, fPart, fNoP, oSl, fIf, fAndV, fOrV, fNotV, fIsi, M.ty, fM1, oIn, oEq, oNe, oLt, oLe, oGt, oGe, oSub, oMul, oFDiv, oMod, oPow, eqF, fDrop, fFor, fWalk, oWalk, fRng, oR1, oR2, fCall, fComp, fYes, wipeE, oCat, oRep,
  fComp2, oMulS, fNeg, oSum, fExt, M.sqD, fIdx, oIdx, keysD, Int.zero_add, oMin2, oMax2, oAbs, oI2, gTupP, gConsP, gNilP, fDict, fDSet, oDIx, oDIn, fDGet2, M.asD, oEnum, oZip, fFz, fSet0, fRevS, oRevS, fChain, oAll, oAny, oShl, oShr, oBand, oLstDN, oSortDN, oSortN, oRepT, fDComp, fCallU,
  List.length_cons, List.length_nil, List.map_cons, List.map_nil, List.cons_append, List.nil_append, List.append_nil, blanks, List.getElem?_cons_zero, List.getElem?_cons_succ, List.set_cons_zero, List.set_cons_succ, Option.some.injEq, exists_eq_left', true_and, and_true, Nat.reduceSub, Nat.reduceAdd, Nat.reduceLT, Nat.lt_add_one, M.dat.injEq, D.bl.injEq, D.int.injEq, Nat.zero_lt_succ, Nat.succ_lt_succ_iff, Nat.zero_lt_one, exists_eq_left, List.getElem?_nil, Bool.false_bne, Bool.false_xor, decide_eq_true_eq,
  ex_nil, ex_cons, ex_map, toD_lst, toD_dat, dats_nil, dats_cons, ld_l, ld_dat, ld_lst, Option.map_some, ex_some, kitI isi_int_int, kitI isi_int_bool, kitI isi_str_str, kitI isi_tup_tup, kitI isi_str_tup, M.lst.injEq, List.length_map, Bool.not_true, Bool.not_false, Bool.false_eq_true, if_true, if_false, reduceIte, endOf_nx, endOf_rt, endOf_ex, ex_pair, ex_dct, ex_cons2, Option.bind_some, Option.getD_some, Option.getD_none, flat_one, Int.toNat_natCast, gv_LETTERS])
/-! ### monomials -/
def vD (k : Nat) : D := .tup [.int (k : Int), .str [97], .str []]
def pD (q : Nat × Nat) : D := .tup [vD q.1, .int (q.2 : Int)]
def moD (e : Ex) : D := .tup ((prs 0 e).map pD)
theorem vD_nk (k : Nat) : (vD k).nk = some (vK k) := by simp [vD, vK, D.nk, D.nks]
theorem pD_nk (q : Nat × Nat) : (pD q).nk = some (pK q) := by simp [pD, pK, D.nk, D.nks, vD_nk]
theorem nks_map {α : Type} {f : α → D} {g : α → NK} (h : ∀ x, (f x).nk = some (g x)) : ∀ l : List α, D.nks (l.map f) = some (l.map g)
  | [] => by rw [List.map_nil, D.nks]; rfl
  | x :: l => by rw [List.map_cons, D.nks, h, nks_map h l]; rfl
theorem moD_nk (e : Ex) : (moD e).nk = some (moK e) := by rw [moD, D.nk, nks_map pD_nk]; rfl
theorem moK_toD (e : Ex) : (moK e).toD = moD e := nk_toD (moD_nk e)
theorem vK_toD (k : Nat) : (vK k).toD = vD k := nk_toD (vD_nk k)
theorem vK_dep (k : Nat) : (vK k).dep = 1 := by simp [vK, NK.dep, NK.deps]
theorem pK_dep (q : Nat × Nat) : (pK q).dep = 2 := by simp [pK, NK.dep, NK.deps, vK_dep]
theorem deps_le {α : Type} {f : α → NK} {n : Nat} (h : ∀ x, (f x).dep ≤ n) : ∀ l : List α, NK.deps (l.map f) ≤ n
  | [] => by rw [List.map_nil, NK.deps]; exact Nat.zero_le _
  | x :: l => by rw [List.map_cons, NK.deps]; have := deps_le h l; have := h x; omega
theorem moK_dep (e : Ex) : (moK e).dep ≤ 3 := by
  unfold moK
  rw [NK.dep]
  have := deps_le (fun q => Nat.le_of_eq (pK_dep q)) (prs 0 e)
  omega
theorem vK_ok (k : Nat) : okK true (vK k) := by show (NK.t _).dep ≤ 8; rw [show (NK.t [.i k, .s [97], .s []]) = vK k from rfl, vK_dep]; decide
theorem moK_ok (e : Ex) : okK true (moK e) := by show (NK.t _).dep ≤ 8; have := moK_dep e; unfold moK at this; omega
theorem lt_v (a b : Nat) : NK.lt (vK a) (vK b) = decide (a < b) := by
  unfold vK
  rw [lt_t]
  by_cases h : a = b
  · subst h
    rw [lts_same, lts_same, lts_same, lts_nil]
    simp
  · rw [lts_other _ _ (by rfl) (fun z => h (by injection z with z; omega)), lt_i]
    exact decide_eq_decide.mpr (by omega)
/-- the sums of powers: an index as a word of one -/
def fV (e : Ex) : NK := vK (e.headD 0)
def sg (q : Nat × Nat) : Tm := ([q.1], (q.2 : Int))
theorem mem_prs : ∀ (e : Ex) (j : Nat) (q : Nat × Nat), q ∈ prs j e ↔ j ≤ q.1 ∧ e.getD (q.1 - j) 0 = q.2 ∧ q.2 ≠ 0
  | [], j, q => by simp [prs]; omega
  | p :: e, j, q => by
    rw [prs]
    have ih := mem_prs e (j + 1) q
    by_cases hp : p = 0
    · rw [if_pos hp, ih]
      constructor
      · rintro ⟨h1, h2, h3⟩
        refine ⟨by omega, ?_, h3⟩
        rw [show q.1 - j = (q.1 - (j + 1)) + 1 by omega]
        exact h2
      · rintro ⟨h1, h2, h3⟩
        by_cases he : q.1 = j
        · rw [he, Nat.sub_self] at h2
          exact absurd (h2.symm.trans hp) h3
        · refine ⟨by omega, ?_, h3⟩
          rw [show q.1 - j = (q.1 - (j + 1)) + 1 by omega] at h2
          exact h2
    · rw [if_neg hp, List.mem_cons, ih]
      constructor
      · rintro (z | ⟨h1, h2, h3⟩)
        · subst z
          exact ⟨Nat.le_refl _, by simp, hp⟩
        · refine ⟨by omega, ?_, h3⟩
          rw [show q.1 - j = (q.1 - (j + 1)) + 1 by omega]
          exact h2
      · rintro ⟨h1, h2, h3⟩
        by_cases he : q.1 = j
        · rw [he, Nat.sub_self] at h2
          exact .inl (Prod.ext he h2.symm)
        · refine .inr ⟨by omega, ?_, h3⟩
          rw [show q.1 - j = (q.1 - (j + 1)) + 1 by omega] at h2
          exact h2
theorem prs_sorted : ∀ (e : Ex) (j : Nat), (prs j e).Pairwise fun a b => a.1 < b.1
  | [], _ => List.Pairwise.nil
  | p :: e, j => by
    rw [prs]
    split
    · exact prs_sorted e (j + 1)
    · exact List.pairwise_cons.mpr ⟨fun q hq => by have := prs_lb e (j + 1) q hq; show j < q.1; omega, prs_sorted e (j + 1)⟩
theorem prs_eq {e : Ex} {l : List (Nat × Nat)} (s : l.Pairwise fun a b => a.1 < b.1) (h : ∀ q, q ∈ l ↔ q ∈ prs 0 e) : l = prs 0 e := by
  have nd : ∀ {m : List (Nat × Nat)}, m.Pairwise (fun a b => a.1 < b.1) → m.Nodup := fun h => h.imp fun {a b} z e => by rw [e] at z; omega
  refine List.Perm.eq_of_pairwise (le := fun a b : Nat × Nat => a.1 < b.1) (fun a b _ _ h1 h2 => by omega) s (prs_sorted e 0) ?_
  exact (List.perm_ext_iff_of_nodup (nd s) (nd (prs_sorted e 0))).mpr h
theorem keys_sorted (f : Ex → NK) {acc : Pl} {es : List NK} (pm : es.Perm ((kvs f acc).map (·.1))) : ∃ L : Pl, L.Perm acc ∧ es = L.map fun t => f t.1 := by
  have : (kvs f acc).map (·.1) = acc.map fun t => f t.1 := by unfold kvs; rw [List.map_map]; rfl
  rw [this] at pm
  exact perm_map pm
theorem keys_toD (f : Ex → NK) (L : Pl) : (M.lst ((L.map fun t => f t.1).map fun k => M.dat k.toD)).toD = .lst (L.map fun t => (f t.1).toD) := by
  rw [List.map_map, show (fun k : NK => M.dat k.toD) ∘ (fun t : Tm => f t.1) = M.dat ∘ fun t : Tm => (f t.1).toD from rfl, ← List.map_map, toD_lst]
theorem kvs_mem {f : Ex → NK} {acc : Pl} {p : NK × D} (h : p ∈ kvs f acc) : ∃ t ∈ acc, p = (f t.1, .int t.2) := by
  obtain ⟨t, ht, e⟩ := List.mem_map.mp h
  exact ⟨t, ht, e.symm⟩
theorem monomial_ok (q : List (Nat × Nat)) (e : Ex) (S : Sto) (Q : WP) (E : XP) (hl : q.length ≤ 1000) (he : ∀ k, (e.getD k 0 : Int) = cf (q.map sg) [k]) (h : Q (.dat (moD e)) S) : w_monomial_of [.tup (q.map pD)] S Q E := by
  unfold w_monomial_of r_monomial_of
  walk_at "fx"
  unfold r_monomial_of_2
  walk_at "fx"
  have one : ∀ l : List (Nat × Nat), ∀ t ∈ gather (l.map sg), ∃ k, t.1 = [k] := fun l t ht => by
    rcases gather_sub (l.map sg) [] t ht with z | z
    · cases z
    · rw [List.map_map] at z
      obtain ⟨r, _, e⟩ := List.mem_map.mp z
      exact ⟨r.1, e.symm⟩
  have inj : ∀ (l : List (Nat × Nat)) (k : Nat), ∀ t ∈ gather (l.map sg), fV t.1 = fV [k] → t.1 = [k] := fun l k t ht z => by
    obtain ⟨j, hj⟩ := one l t ht
    rw [hj] at z ⊢
    simp [fV, vK] at z
    rw [show j = k by omega]
  refine forV (fun l ρ => ∃ x y : Option M, ρ = [some (.dat (.tup (q.map pD))), some (.dct true (kvs fV (gather (l.map sg)))), x, y]) ⟨none, none, rfl⟩ ?_ ?_
  · rintro ρ ⟨x, y, rfl⟩
    unfold r_monomial_of_1
    walk_at "fx"
    have nd := gather_nodup (q.map sg)
    refine ⟨_, rfl, fun p hp => ?_, fun p hp p2 hp2 => ?_, fun es pm pw => ?_⟩
    · obtain ⟨t, _, rfl⟩ := kvs_mem hp
      exact ⟨_, rfl, vK_ok (t.1.headD 0)⟩
    · obtain ⟨t, _, rfl⟩ := kvs_mem hp
      obtain ⟨t2, _, rfl⟩ := kvs_mem hp2
      exact Cm_v _ _
    · obtain ⟨L, pL, rfl⟩ := keys_sorted fV pm
      rw [keys_toD]
      show compW _ _ _ _ _ _ _ [] S
      have hL : L.length ≤ q.length := by rw [pL.length_eq]; have := gather_len (q.map sg); rw [List.length_map] at this; exact this
      refine compM (fun t : Tm => decide (0 < t.2)) (fun t => .dat (.tup [vD (t.1.headD 0), .int t.2])) (small0 hL hl) ?_ fun l t r K1 K2 e k1 k2 => ?_
      · have len1 : ∀ t ∈ L, ∃ k, t.1 = [k] ∧ t.2 = cf (q.map sg) [k] := fun t ht => by
          have ht := pL.mem_iff.mp ht
          obtain ⟨k, hk⟩ := one q t ht
          have := cf_mem nd ht
          rw [hk, cf_gather] at this
          exact ⟨k, hk, this.symm⟩
        have e2 : (L.filter fun t : Tm => decide (0 < t.2)).map (fun t => (t.1.headD 0, t.2.toNat)) = prs 0 e := by
          refine prs_eq ?_ fun r => ?_
          · rw [List.pairwise_map]
            rw [List.pairwise_map] at pw
            have nL : (L.map (·.1)).Nodup := (pL.map (·.1)).nodup_iff.mpr nd
            have := (List.pairwise_map.mp nL).and pw
            refine (this.filter _).imp_of_mem fun {a b} ha hb h => ?_
            obtain ⟨k, hk, _⟩ := len1 a (List.mem_filter.mp ha).1
            obtain ⟨j, hj, _⟩ := len1 b (List.mem_filter.mp hb).1
            obtain ⟨h1, h2⟩ := h
            rw [hk, hj] at h1 h2 ⊢
            have h2 : NK.lt (vK j) (vK k) = false := h2
            rw [lt_v, decide_eq_false_iff_not] at h2
            show k < j
            have : k ≠ j := fun z => h1 (by rw [z])
            omega
          · rw [mem_prs, List.mem_map]
            constructor
            · rintro ⟨t, ht, rfl⟩
              obtain ⟨h1, h2⟩ := List.mem_filter.mp ht
              obtain ⟨k, hk, hc⟩ := len1 t h1
              have h2 : 0 < t.2 := of_decide_eq_true h2
              have := he k
              rw [hk]
              show 0 ≤ k ∧ e.getD (k - 0) 0 = t.2.toNat ∧ t.2.toNat ≠ 0
              rw [Nat.sub_zero]
              omega
            · rintro ⟨_, h2, h3⟩
              rw [Nat.sub_zero] at h2
              have hc := he r.1
              rw [h2] at hc
              have : [r.1] ∈ (gather (q.map sg)).map (·.1) := by
                apply Classical.byContradiction
                intro hn
                have z := cf_none (ts := gather (q.map sg)) (e := [r.1]) fun t ht e => hn (List.mem_map.mpr ⟨t, ht, e⟩)
                rw [cf_gather] at z
                omega
              obtain ⟨t, ht, e⟩ := List.mem_map.mp this
              have ht := pL.mem_iff.mpr ht
              obtain ⟨k, hk, hv⟩ := len1 t ht
              rw [e] at hk
              injection hk with hk
              refine ⟨t, List.mem_filter.mpr ⟨ht, decide_eq_true (by rw [hv, ← hk]; omega)⟩, ?_⟩
              rw [e, hv, ← hk]
              exact Prod.ext rfl (by show Int.toNat _ = r.2; omega)
        have e3 : (L.filter fun t : Tm => decide (0 < t.2)).map (fun t => M.dat (D.tup [vD (t.1.headD 0), D.int t.2])) = ((prs 0 e).map pD).map M.dat := by
          rw [← e2, List.map_map, List.map_map]
          refine List.map_congr_left fun t ht => ?_
          have h2 : 0 < t.2 := of_decide_eq_true (List.mem_filter.mp ht).2
          show _ = M.dat (D.tup [vD (t.1.headD 0), D.int (t.2.toNat : Int)])
          rw [Int.toNat_of_nonneg (by omega)]
        rw [e3]
        exact ⟨_, ld_lst _, h⟩
      · have hm : t ∈ gather (q.map sg) := pL.mem_iff.mp (by rw [e]; simp)
        have hk := kvs_look fV (gather (q.map sg)) (fun a ha b hb z => by
          obtain ⟨k, hk⟩ := one q b hb
          rw [hk] at z ⊢
          exact inj q k a ha z) nd hm
        have hv : (fV t.1).toD = vD (t.1.headD 0) := vK_toD _
        rw [hv]
        walk_at "fx"
        refine ⟨_, vD_nk _, vK_ok _, _, hk, ?_⟩
        walk_at "fx"
        by_cases hz : 0 < t.2
        · rw [if_pos hz]
          exact ⟨_, vD_nk _, vK_ok _, _, hk, by decide, k1 (by simp [hz])⟩
        · rw [if_neg hz]
          exact k2 (by simp [hz])
  · rintro l t r ρ W e' ⟨x, y, rfl⟩ ih
    have nd := gather_nodup (l.map sg)
    rw [show pD t = .tup [vD t.1, .int (t.2 : Int)] from rfl]
    walk_at "fx"
    refine ⟨_, vD_nk _, vK_ok _, ?_⟩
    have hf := kvs_find fV [t.1] (gather (l.map sg)) (inj l t.1) nd
    rw [show fV [t.1] = vK t.1 from rfl] at hf
    rw [hf]
    show _ ∧ _
    refine ⟨small_line' ?_, _, vD_nk _, vK_ok _, ih _ ⟨some (.dat (vD t.1)), some (.dat (.int (t.2 : Int))), ?_⟩⟩
    · have := gather_len (l.map sg)
      rw [List.length_map] at this
      unfold kvs
      rw [List.length_map]
      rw [e'] at hl
      simp at hl
      omega
    · have := kvs_put fV (gather (l.map sg)) (sg t) (inj l t.1) nd
      rw [show fV (sg t).1 = vK t.1 from rfl, show (sg t).1 = [t.1] from rfl, show (sg t).2 = (t.2 : Int) from rfl] at this
      rw [this, List.map_append]
      show _ = [_, some (M.dct true (kvs fV ((l.map sg ++ [sg t]).foldl add1 []))), _, _]
      rw [List.foldl_append]
      rfl
end K64
namespace K64
open PySem L2 L2.Fn
local macro_rules | `(tactic| walk_at "fx") => `(tactic| try simp only [mkW, fSeq, fAsg, gN, fC, fVar, fBin, fDat, fFrz, oAdd, oInt0, oInt, oIx, fIfS, fTru, oTru, fBl, fNot, fAnd, fOr, fNext, fRet, fRetV, fRetN, fLst, fTup, fNil, fCons, fCB, oLen, oIntC, oStrI, oTupC, oLstC, fApp, fSl, fPart, fNoP, oSl, fIf, fAndV, fOrV, fNotV, fIsi, M.ty, fM1, oIn, oEq, oNe, oLt, oLe, oGt, oGe, oSub, oMul, oFDiv, oMod, oPow, eqF, fDrop, fFor, fWalk, oWalk, fRng, oR1, oR2, fCall, fComp, fYes, wipeE, oCat, oRep,
  fComp2, oMulS, fNeg, oSum, fExt, M.sqD, fIdx, oIdx, keysD, Int.zero_add, oMin2, oMax2, oAbs, oI2, gTupP, gConsP, gNilP, fDict, fDSet, oDIx, oDIn, fDGet2, M.asD, oEnum, oZip, fFz, fSet0, fRevS, oRevS, fChain, oAll, oAny, oShl, oShr, oBand, oLstDN, oSortDN, oSortN, oRepT, fDComp, fCallU,
  List.length_cons, List.length_nil, List.map_cons, List.map_nil, List.cons_append, List.nil_append, List.append_nil, blanks, List.getElem?_cons_zero, List.getElem?_cons_succ, List.set_cons_zero, List.set_cons_succ, Option.some.injEq, exists_eq_left', true_and, and_true, Nat.reduceSub, Nat.reduceAdd, Nat.reduceLT, Nat.lt_add_one, M.dat.injEq, D.bl.injEq, D.int.injEq, Nat.zero_lt_succ, Nat.succ_lt_succ_iff, Nat.zero_lt_one, exists_eq_left, List.getElem?_nil, Bool.false_bne, Bool.false_xor, decide_eq_true_eq,
  ex_nil, ex_cons, ex_map, toD_lst, toD_dat, dats_nil, dats_cons, ld_l, ld_dat, ld_lst, Option.map_some, ex_some, kitI isi_int_int, kitI isi_int_bool, kitI isi_str_str, kitI isi_tup_tup, kitI isi_str_tup, M.lst.injEq, List.length_map, Bool.not_true, Bool.not_false, Bool.false_eq_true, if_true, if_false, reduceIte, endOf_nx, endOf_rt, endOf_ex, ex_pair, ex_dct, ex_cons2, Option.bind_some, Option.getD_some, Option.getD_none, flat_one, Int.toNat_natCast, gv_LETTERS])
def tmD (t : Tm) : D := .tup [moD t.1, .int t.2]
def polyD (l : Pl) : D := .tup (l.map tmD)
/-- a term as it is handed in: its pairs, what monomial they make, its number -/
abbrev In := List (Nat × Nat) × Tm
def inD (x : In) : D := .tup [.tup (x.1.map pD), .int x.2.2]
def InOk (n : Nat) (x : In) : Prop := x.1.length ≤ 1000 ∧ x.2.1.length = n ∧ ∀ k, (x.2.1.getD k 0 : Int) = cf (x.1.map sg) [k]
theorem gather_lenN {n : Nat} {ts : Pl} (h : Len n ts) : Len n (gather ts) := fun t ht => by
  rcases gather_sub ts [] t ht with z | z
  · cases z
  · obtain ⟨q, hq, e⟩ := List.mem_map.mp z
    rw [← e]; exact h q hq
theorem from_terms_ok (n : Nat) (tl : List In) (S : Sto) (Q : WP) (E : XP) (hl : tl.length ≤ 1000) (hi : ∀ x ∈ tl, InOk n x) (h : Q (.dat (polyD (nfl (tl.map (·.2))))) S) : w_from_terms [.tup (tl.map inD)] S Q E := by
  unfold w_from_terms r_from_terms
  walk_at "fx"
  unfold r_from_terms_3
  walk_at "fx"
  have hln : ∀ l : List In, (∀ x ∈ l, InOk n x) → Len n (l.map (·.2)) := fun l hl t ht => by
    obtain ⟨x, hx, rfl⟩ := List.mem_map.mp ht
    exact (hl x hx).2.1
  refine forV (fun l ρ => ∃ x y z : Option M, ρ = [some (.dat (.tup (tl.map inD))), some (.dct true (kvs moK (gather (l.map (·.2))))), x, y, z]) ⟨none, none, none, rfl⟩ ?_ ?_
  · rintro ρ ⟨x, y, z, rfl⟩
    have hn := hln tl hi
    have nd := gather_nodup (tl.map (·.2))
    have gl := gather_lenN hn
    unfold r_from_terms_2
    walk_at "fx"
    refine ⟨_, rfl, fun p hp => ?_, fun p hp p2 hp2 => ?_, fun es pm pw => ?_⟩
    · obtain ⟨t, _, rfl⟩ := kvs_mem hp
      exact ⟨_, rfl, moK_ok t.1⟩
    · obtain ⟨t, _, rfl⟩ := kvs_mem hp
      obtain ⟨t2, _, rfl⟩ := kvs_mem hp2
      exact Cm_mo _ _
    · obtain ⟨L, pL, rfl⟩ := keys_sorted moK pm
      rw [keys_toD]
      show compW _ _ _ _ _ _ _ [] S
      have hL : L.length ≤ tl.length := by rw [pL.length_eq]; have := gather_len (tl.map (·.2)); rw [List.length_map] at this; exact this
      refine compM (fun t : Tm => decide (t.2 ≠ 0)) (fun t => .dat (tmD t)) (small0 hL hl) ?_ fun l t r K1 K2 e k1 k2 => ?_
      · have e1 : L.filter (fun t : Tm => decide (t.2 ≠ 0)) = nfl (tl.map (·.2)) := by
          have pc : (L.filter fun t : Tm => decide (t.2 ≠ 0)).Perm (coll (tl.map (·.2))) := pL.filter _
          rw [List.pairwise_map] at pw
          refine nfl_of ⟨(pc.map (·.1)).nodup_iff.mpr (coll_nodup _), fun t ht => coll_nz _ t (pc.mem_iff.mp ht)⟩ (pw.filter _) (fun t ht => coll_len hn t (pc.mem_iff.mp ht)) hn fun e => (cf_perm pc e).trans (cf_coll _ e)
        rw [e1, show (nfl (tl.map (·.2))).map (fun t => M.dat (tmD t)) = ((nfl (tl.map (·.2))).map tmD).map M.dat by rw [List.map_map]; rfl]
        exact ⟨_, ld_lst _, h⟩
      · have hm : t ∈ gather (tl.map (·.2)) := pL.mem_iff.mp (by rw [e]; simp)
        have hk := kvs_look moK (gather (tl.map (·.2))) (fun a ha b hb z => moK_inj ((gl a ha).trans (gl b hb).symm) z) nd hm
        rw [moK_toD]
        walk_at "fx"
        refine ⟨_, moD_nk _, moK_ok _, _, hk, ?_⟩
        walk_at "fx"
        by_cases hz : t.2 = 0
        · rw [if_neg (by simp [hz])]
          exact k2 (by simp [hz])
        · rw [if_pos (by simp [hz])]
          exact ⟨_, moD_nk _, moK_ok _, _, hk, by decide, k1 (by simp [hz])⟩
  · rintro l t r ρ W e' ⟨x, y, z, rfl⟩ ih
    have hl' : ∀ x ∈ l, InOk n x := fun x hx => hi x (by rw [e']; exact List.mem_append_left _ hx)
    have ht : InOk n t := hi t (by rw [e']; simp)
    have nd := gather_nodup (l.map (·.2))
    have gl := gather_lenN (hln l hl')
    have inj : ∀ a ∈ gather (l.map (·.2)), moK a.1 = moK t.2.1 → a.1 = t.2.1 := fun a ha z => moK_inj ((gl a ha).trans ht.2.1.symm) z
    rw [show inD t = .tup [.tup (t.1.map pD), .int t.2.2] from rfl]
    walk_at "fx"
    refine monomial_ok t.1 t.2.1 S _ _ ht.1 ht.2.2 ?_
    unfold r_from_terms_1
    walk_at "fx"
    refine ⟨_, moD_nk _, moK_ok _, ?_⟩
    rw [kvs_find moK t.2.1 (gather (l.map (·.2))) inj nd]
    show _ ∧ _
    refine ⟨small_line' ?_, _, moD_nk _, moK_ok _, ih _ ⟨some (.dat (.tup (t.1.map pD))), some (.dat (.int t.2.2)), some (.dat (moD t.2.1)), ?_⟩⟩
    · have := gather_len (l.map (·.2))
      rw [List.length_map] at this
      unfold kvs
      rw [List.length_map]
      rw [e'] at hl
      simp at hl
      omega
    · rw [kvs_put moK (gather (l.map (·.2))) t.2 inj nd, List.map_append]
      show _ = [_, some (M.dct true (kvs moK ((l.map (·.2) ++ [t.2]).foldl add1 []))), _, _, _]
      rw [List.foldl_append]
      rfl
end K64
namespace K64
open PySem L2 L2.Fn
local macro_rules | `(tactic| walk_at "fx") => `(tactic| try simp only [mkW, fSeq, fAsg, gN, fC, fVar, fBin, fDat, fFrz, oAdd, oInt0, oInt, oIx, fIfS, fTru, oTru, fBl, fNot, fAnd, fOr, fNext, fRet, fRetV, fRetN, fLst, fTup, fNil, fCons, fCB, oLen, oIntC, oStrI, oTupC, oLstC, fApp, fSl, fPart, fNoP, oSl, fIf, fAndV, fOrV, fNotV, fIsi, M.ty, fM1, oIn, oEq, oNe, oLt, oLe, oGt, oGe, oSub, oMul, oFDiv, oMod, oPow, eqF, fDrop, fFor, fWalk, oWalk, fRng, oR1, oR2, fCall, fComp, fYes, wipeE, oCat, oRep,
  fComp2, oMulS, fNeg, oSum, fExt, M.sqD, fIdx, oIdx, keysD, Int.zero_add, oMin2, oMax2, oAbs, oI2, gTupP, gConsP, gNilP, fDict, fDSet, oDIx, oDIn, fDGet2, M.asD, oEnum, oZip, fFz, fSet0, fRevS, oRevS, fChain, oAll, oAny, oShl, oShr, oBand, oLstDN, oSortDN, oSortN, oRepT, fDComp, fCallU,
  List.length_cons, List.length_nil, List.map_cons, List.map_nil, List.cons_append, List.nil_append, List.append_nil, blanks, List.getElem?_cons_zero, List.getElem?_cons_succ, List.set_cons_zero, List.set_cons_succ, Option.some.injEq, exists_eq_left', true_and, and_true, Nat.reduceSub, Nat.reduceAdd, Nat.reduceLT, Nat.lt_add_one, M.dat.injEq, D.bl.injEq, D.int.injEq, Nat.zero_lt_succ, Nat.succ_lt_succ_iff, Nat.zero_lt_one, exists_eq_left, List.getElem?_nil, Bool.false_bne, Bool.false_xor, decide_eq_true_eq,
  ex_nil, ex_cons, ex_map, toD_lst, toD_dat, dats_nil, dats_cons, ld_l, ld_dat, ld_lst, Option.map_some, ex_some, kitI isi_int_int, kitI isi_int_bool, kitI isi_str_str, kitI isi_tup_tup, kitI isi_str_tup, M.lst.injEq, List.length_map, Bool.not_true, Bool.not_false, Bool.false_eq_true, if_true, if_false, reduceIte, endOf_nx, endOf_rt, endOf_ex, ex_pair, ex_dct, ex_cons2, Option.bind_some, Option.getD_some, Option.getD_none, flat_one, Int.toNat_natCast, gv_LETTERS])
/-! ### what the program makes of polynomials -/
theorem cf_prs : ∀ (e : Ex) (j k : Nat), cf ((prs j e).map sg) [k] = if j ≤ k then (e.getD (k - j) 0 : Int) else 0
  | [], j, k => by simp [prs, cf]
  | p :: e, j, k => by
    have ih := cf_prs e (j + 1) k
    have step : (if j + 1 ≤ k then (e.getD (k - (j + 1)) 0 : Int) else 0) + (if j = k then (p : Int) else 0) = if j ≤ k then ((p :: e).getD (k - j) 0 : Int) else 0 := by
      by_cases h : j = k
      · subst h
        rw [if_neg (by omega), if_pos rfl, if_pos (Nat.le_refl _), Nat.sub_self]
        simp
      · by_cases h2 : j ≤ k
        · rw [if_pos (by omega), if_neg h, if_pos h2, show k - j = (k - (j + 1)) + 1 by omega]
          simp
        · rw [if_neg (by omega), if_neg h, if_neg h2]
          rfl
    rw [prs]
    by_cases hp : p = 0
    · rw [if_pos hp, ih, ← step, hp]
      split <;> simp
    · rw [if_neg hp, List.map_cons, cf, ih, ← step]
      have : ((sg (j, p)).1 = [k]) ↔ j = k := by simp [sg]
      by_cases h : j = k
      · rw [if_pos (this.mpr h), if_pos h]
        show (p : Int) + _ = _
        omega
      · rw [if_neg fun z => h (this.mp z), if_neg h]
        omega
theorem prs_len : ∀ (e : Ex) (j : Nat), (prs j e).length ≤ e.length
  | [], _ => Nat.le_refl _
  | p :: e, j => by
    rw [prs]
    have := prs_len e (j + 1)
    split
    · rw [List.length_cons]; omega
    · rw [List.length_cons, List.length_cons]; omega
def toIn (t : Tm) : In := (prs 0 t.1, t)
theorem toIn_ok {n : Nat} (hn : n ≤ 1000) {t : Tm} (h : t.1.length = n) : InOk n (toIn t) := by
  refine ⟨?_, h, fun k => ?_⟩
  · have := prs_len t.1 0
    show (prs 0 t.1).length ≤ 1000
    omega
  · show (t.1.getD k 0 : Int) = cf ((prs 0 t.1).map sg) [k]
    rw [cf_prs, if_pos (Nat.zero_le _), Nat.sub_zero]
theorem polyD_in (l : Pl) : polyD l = .tup ((l.map toIn).map inD) := by
  unfold polyD
  rw [List.map_map]
  rfl
theorem map_snd_toIn (l : Pl) : (l.map toIn).map (·.2) = l := by
  rw [List.map_map]
  exact List.map_id l
theorem from_poly_ok {n : Nat} (hn : n ≤ 1000) (l : Pl) (S : Sto) (Q : WP) (E : XP) (hl : l.length ≤ 1000) (hL : Len n l) (h : Q (.dat (polyD (nfl l))) S) : w_from_terms [polyD l] S Q E := by
  rw [polyD_in]
  refine from_terms_ok n (l.map toIn) S Q E (by rw [List.length_map]; exact hl) (fun x hx => ?_) (by rw [map_snd_toIn]; exact h)
  obtain ⟨t, ht, rfl⟩ := List.mem_map.mp hx
  exact toIn_ok hn (hL t ht)
theorem added_ok {n : Nat} (hn : n ≤ 1000) (l m : Pl) (S : Sto) (Q : WP) (E : XP) (hl : l.length + m.length ≤ 1000) (hL : Len n l) (hM : Len n m) (h : Q (.dat (polyD (nfl (l ++ m)))) S) : w_added [polyD l, polyD m] S Q E := by
  unfold w_added r_added
  rw [show polyD l = .tup (l.map tmD) from rfl, show polyD m = .tup (m.map tmD) from rfl]
  walk_at "fx"
  refine ⟨small_line (by omega), ?_⟩
  rw [show [D.tup (l.map tmD ++ m.map tmD)] = [polyD (l ++ m)] by unfold polyD; rw [List.map_append]]
  exact from_poly_ok hn (l ++ m) S _ _ (by rw [List.length_append]; exact hl) (fun t ht => (List.mem_append.mp ht).elim (hL t) (hM t)) h
def zeros (n : Nat) : Ex := List.replicate n 0
theorem zeros_get (n k : Nat) : (zeros n).getD k 0 = 0 := by
  unfold zeros
  rw [List.getD_eq_getElem?_getD, List.getElem?_replicate]
  split <;> rfl
theorem constant_ok {n : Nat} (c : Int) (S : Sto) (Q : WP) (E : XP) (h : Q (.dat (polyD (nfl [(zeros n, c)]))) S) : w_constant [.int c] S Q E := by
  unfold w_constant r_constant
  walk_at "fx"
  refine ⟨by decide, by decide, by decide, ?_⟩
  refine from_terms_ok n [([], (zeros n, c))] S Q _ (by simp) (fun x hx => ?_) h
  rw [List.mem_singleton.mp hx]
  exact ⟨by simp, by simp [zeros], fun k => by show ((zeros n).getD k 0 : Int) = 0; rw [zeros_get]; rfl⟩
/-- all numbers small -/
def Bd (l : Pl) : Prop := ∀ t ∈ l, t.2.natAbs.log2 < 400000
theorem scaled_ok {n : Nat} (hn : n ≤ 1000) (l : Pl) (S : Sto) (Q : WP) (E : XP) (hl : l.length ≤ 1000) (hL : Len n l) (hB : Bd l) (h : Q (.dat (polyD (nfl (l.map ngT)))) S) : w_scaled [polyD l, .int (-1)] S Q E := by
  unfold w_scaled r_scaled
  rw [show polyD l = .tup (l.map tmD) from rfl]
  walk_at "fx"
  refine compA (fun t => .dat (tmD (ngT t))) (by omega) ?_ fun l1 t r K1 e k1 => ?_
  · rw [show l.map (fun t => M.dat (tmD (ngT t))) = ((l.map ngT).map tmD).map M.dat by rw [List.map_map, List.map_map]; rfl]
    refine ⟨_, ld_lst _, ?_⟩
    refine from_poly_ok hn (l.map ngT) S _ _ (by rw [List.length_map]; exact hl) (fun t ht => ?_) h
    obtain ⟨u, hu, rfl⟩ := List.mem_map.mp ht
    exact hL u hu
  · rw [show tmD t = .tup [moD t.1, .int t.2] from rfl]
    walk_at "fx"
    have hb := hB t (by rw [e]; simp)
    refine ⟨?_, by decide, ?_⟩
    · unfold CMulW
      rw [show (-1 : Int).natAbs.log2 = 0 by decide]
      omega
    · rw [show (-1 : Int) * t.2 = -t.2 by omega]
      exact k1
theorem pl2_get : ∀ (e e' : Ex) (k : Nat), e.length = e'.length → (pl2 e e').getD k 0 = e.getD k 0 + e'.getD k 0
  | [], [], k, _ => by simp [pl2]
  | p :: e, q :: e', 0, _ => by simp [pl2]
  | p :: e, q :: e', k + 1, h => by
    have := pl2_get e e' k (by simpa using h)
    simpa [pl2] using this
theorem multiplied_ok {n : Nat} (hn : n ≤ 500) (l m : Pl) (S : Sto) (Q : WP) (E : XP) (hl : l.length ≤ 30) (hm : m.length ≤ 30) (hL : Len n l) (hM : Len n m) (hB : Bd l) (hC : Bd m) (h : Q (.dat (polyD (nfl (prods l m)))) S) : w_multiplied [polyD l, polyD m] S Q E := by
  unfold w_multiplied r_multiplied
  rw [show polyD l = .tup (l.map tmD) from rfl, show polyD m = .tup (m.map tmD) from rfl]
  walk_at "fx"
  have pin : ∀ (a b : Tm), D.tup [.tup ((prs 0 a.1).map pD ++ (prs 0 b.1).map pD), .int (a.2 * b.2)] = inD (prs 0 a.1 ++ prs 0 b.1, (pl2 a.1 b.1, a.2 * b.2)) := fun a b => by
    unfold inD
    rw [List.map_append]
  let ins : List In := l.flatMap fun a => m.map fun b => (prs 0 a.1 ++ prs 0 b.1, (pl2 a.1 b.1, a.2 * b.2))
  have snd : ins.map (·.2) = prods l m := by
    show (l.flatMap fun a => m.map fun b => (prs 0 a.1 ++ prs 0 b.1, (pl2 a.1 b.1, a.2 * b.2))).map (·.2) = _
    rw [List.map_flatMap]
    unfold prods
    refine congrArg (fun f => List.flatMap f l) (funext fun a => ?_)
    rw [List.map_map]
    rfl
  have ilen : ∀ k : Pl, (k.flatMap fun a => m.map fun b => (M.dat (inD (prs 0 a.1 ++ prs 0 b.1, (pl2 a.1 b.1, a.2 * b.2))))).length ≤ k.length * 30 := fun k => by
    induction k with
    | nil => exact Nat.zero_le _
    | cons a k ih => rw [List.flatMap_cons, List.length_append, List.length_map, List.length_cons]; omega
  refine comp2V (fun a => m.map fun b => M.dat (inD (prs 0 a.1 ++ prs 0 b.1, (pl2 a.1 b.1, a.2 * b.2)))) ?_ fun l1 a r acc W e ea w => ?_
  · rw [show (l.flatMap fun a => m.map fun b => M.dat (inD (prs 0 a.1 ++ prs 0 b.1, (pl2 a.1 b.1, a.2 * b.2)))) = (ins.map inD).map M.dat by
      show _ = ((l.flatMap fun a => m.map fun b => (prs 0 a.1 ++ prs 0 b.1, (pl2 a.1 b.1, a.2 * b.2))).map inD).map M.dat
      rw [List.map_flatMap, List.map_flatMap]
      refine congrArg (fun f => List.flatMap f l) (funext fun a => ?_)
      rw [List.map_map, List.map_map]
      rfl]
    refine ⟨_, ld_lst _, ?_⟩
    refine from_terms_ok n ins S _ _ ?_ (fun x hx => ?_) (by rw [snd]; exact h)
    · have h1 := ilen l
      have h2 : ins.length = (l.flatMap fun a => m.map fun b => (M.dat (inD (prs 0 a.1 ++ prs 0 b.1, (pl2 a.1 b.1, a.2 * b.2))))).length := by
        show (l.flatMap fun a => m.map fun b => (prs 0 a.1 ++ prs 0 b.1, (pl2 a.1 b.1, a.2 * b.2))).length = _
        simp [List.length_flatMap]
      omega
    · obtain ⟨a, ha, hx⟩ := List.mem_flatMap.mp hx
      obtain ⟨b, hb, rfl⟩ := List.mem_map.mp hx
      have la := hL a ha
      have lb := hM b hb
      refine ⟨?_, ?_, fun k => ?_⟩
      · have := prs_len a.1 0
        have := prs_len b.1 0
        show (prs 0 a.1 ++ prs 0 b.1).length ≤ 1000
        rw [List.length_append]
        omega
      · show (pl2 a.1 b.1).length = n
        unfold pl2
        rw [List.length_zipWith]
        omega
      · show ((pl2 a.1 b.1).getD k 0 : Int) = cf ((prs 0 a.1 ++ prs 0 b.1).map sg) [k]
        rw [pl2_get _ _ _ (la.trans lb.symm), List.map_append, cf_app, cf_prs, cf_prs, if_pos (Nat.zero_le _), if_pos (Nat.zero_le _), Nat.sub_zero]
        omega
  · rw [show tmD a = .tup [moD a.1, .int a.2] from rfl]
    walk_at "fx"
    have hla : acc.length ≤ 900 := by
      rw [ea]
      have := ilen l1
      rw [e] at hl
      simp at hl
      omega
    refine innerA (fun b => M.dat (inD (prs 0 a.1 ++ prs 0 b.1, (pl2 a.1 b.1, a.2 * b.2)))) (by omega) w fun m1 b r1 K1 e1 k1 => ?_
    rw [show tmD b = .tup [moD b.1, .int b.2] from rfl, show moD a.1 = .tup ((prs 0 a.1).map pD) from rfl, show moD b.1 = .tup ((prs 0 b.1).map pD) from rfl]
    walk_at "fx"
    have h1 := hB a (by rw [e]; simp)
    have h2 := hC b (by rw [e1]; simp)
    have l1 := prs_len a.1 0
    have l2 := prs_len b.1 0
    have l3 := hL a (by rw [e]; simp)
    have l4 := hM b (by rw [e1]; simp)
    refine ⟨small_line (by omega), ?_, by decide, ?_⟩
    · unfold CMulW
      omega
    · rw [pin]
      exact k1
end K64
namespace K64
open PySem L2 L2.Fn
local macro_rules | `(tactic| walk_at "fx") => `(tactic| try simp only [mkW, fSeq, fAsg, gN, fC, fVar, fBin, fDat, fFrz, oAdd, oInt0, oInt, oIx, fIfS, fTru, oTru, fBl, fNot, fAnd, fOr, fNext, fRet, fRetV, fRetN, fLst, fTup, fNil, fCons, fCB, oLen, oIntC, oStrI, oTupC, oLstC, fApp, fSl, fPart, fNoP, oSl, fIf, fAndV, fOrV, fNotV, fIsi, M.ty, fM1, oIn, oEq, oNe, oLt, oLe, oGt, oGe, oSub, oMul, oFDiv, oMod, oPow, eqF, fDrop, fFor, fWalk, oWalk, fRng, oR1, oR2, fCall, fComp, fYes, wipeE, oCat, oRep,
  fComp2, oMulS, fNeg, oSum, fExt, M.sqD, fIdx, oIdx, keysD, Int.zero_add, oMin2, oMax2, oAbs, oI2, gTupP, gConsP, gNilP, fDict, fDSet, oDIx, oDIn, fDGet2, M.asD, oEnum, oZip, fFz, fSet0, fRevS, oRevS, fChain, oAll, oAny, oShl, oShr, oBand, oLstDN, oSortDN, oSortN, oRepT, fDComp, fCallU,
  List.length_cons, List.length_nil, List.map_cons, List.map_nil, List.cons_append, List.nil_append, List.append_nil, blanks, List.getElem?_cons_zero, List.getElem?_cons_succ, List.set_cons_zero, List.set_cons_succ, Option.some.injEq, exists_eq_left', true_and, and_true, Nat.reduceSub, Nat.reduceAdd, Nat.reduceLT, Nat.lt_add_one, M.dat.injEq, D.bl.injEq, D.int.injEq, Nat.zero_lt_succ, Nat.succ_lt_succ_iff, Nat.zero_lt_one, exists_eq_left, List.getElem?_nil, Bool.false_bne, Bool.false_xor, decide_eq_true_eq,
  ex_nil, ex_cons, ex_map, toD_lst, toD_dat, dats_nil, dats_cons, ld_l, ld_dat, ld_lst, Option.map_some, ex_some, kitI isi_int_int, kitI isi_int_bool, kitI isi_str_str, kitI isi_tup_tup, kitI isi_str_tup, M.lst.injEq, List.length_map, Bool.not_true, Bool.not_false, Bool.false_eq_true, if_true, if_false, reduceIte, endOf_nx, endOf_rt, endOf_ex, ex_pair, ex_dct, ex_cons2, Option.bind_some, Option.getD_some, Option.getD_none, flat_one, Int.toNat_natCast, gv_LETTERS])
/-! ### what the law makes -/
def tmK (t : Tm) : NK := .t [moK t.1, .i t.2]
theorem tmD_nk (t : Tm) : (tmD t).nk = some (tmK t) := by simp [tmD, tmK, D.nk, D.nks, moD_nk]
theorem tmD_key (t : Tm) : (tmD t).nkey = tmK t := by unfold D.nkey; rw [tmD_nk]; rfl
theorem tmK_dep (t : Tm) : (tmK t).dep ≤ 8 := by
  have := moK_dep t.1
  unfold tmK
  rw [NK.dep, NK.deps, NK.deps, NK.deps, NK.dep]
  omega
theorem Cm_tm (s t : Tm) : Cm (tmK s) (tmK t) = true := by
  unfold tmK
  rw [Cm, Cms]
  split
  · rw [Cms]
    split
    · rw [Cms]
    · rfl
  · exact Cm_mo _ _
theorem lt_irr (k : NK) : NK.lt k k = false := PyProof.Rows.lex_irrefl _
theorem tm_mo {s t : Tm} (h : NK.lt (tmK s) (tmK t) = false) : NK.lt (moK s.1) (moK t.1) = false := by
  by_cases e : moK s.1 = moK t.1
  · rw [e]; exact lt_irr _
  · unfold tmK at h
    rw [lt_t, lts_other _ _ (Cm_mo _ _) e] at h
    exact h
theorem prs_range (e : Ex) : ((List.range e.length).filter fun k => decide (0 < e.getD k 0)).map (fun k => (k, e.getD k 0)) = prs 0 e := by
  refine prs_eq ?_ fun q => ?_
  · rw [List.pairwise_map]
    exact List.pairwise_lt_range.filter _
  · rw [mem_prs, List.mem_map, Nat.sub_zero]
    constructor
    · rintro ⟨k, hk, rfl⟩
      have h2 : 0 < e.getD k 0 := of_decide_eq_true (List.mem_filter.mp hk).2
      exact ⟨Nat.zero_le _, rfl, by omega⟩
    · rintro ⟨_, h2, h3⟩
      refine ⟨q.1, List.mem_filter.mpr ⟨List.mem_range.mpr ?_, decide_eq_true (by omega)⟩, Prod.ext rfl h2⟩
      apply Classical.byContradiction
      intro hn
      rw [List.getD_eq_getElem?_getD, List.getElem?_eq_none (by omega)] at h2
      simp at h2
      omega
theorem exD_at {e : Ex} {k : Nat} (h : k < e.length) : atI (e.map fun p : Nat => D.int (p : Int)) (k : Int) = some (.int (e.getD k 0 : Int)) :=
  atI_n (by rw [List.getElem?_map, List.getD_eq_getElem?_getD, List.getElem?_eq_getElem h]; rfl)
theorem written_ok {n : Nat} (hn : n ≤ 1000) (ts : Pl) (S : Sto) (Q : WP) (E : XP) (hl : ts.length ≤ 1000) (hL : Len n ts) (hR : Red ts) (h : Q (.dat (polyD (nfl ts))) S) : w__law_written [.lst (ts.map tD)] S Q E := by
  unfold w__law_written r__law_written
  walk_at "fx"
  refine ⟨by decide, ?_⟩
  unfold r__law_written_4
  walk_at "fx"
  refine forV (fun l ρ => ∃ x y z w : Option M, ρ = [some (.dat (.lst (ts.map tD))), some (.lst ((l.map tmD).map .dat)), x, y, z, w]) ⟨none, none, none, none, rfl⟩ ?_ ?_
  · rintro ρ ⟨x, y, z, w, rfl⟩
    unfold r__law_written_3
    walk_at "fx"
    refine ⟨_, ld_lst _, fun d hd => ?_, fun d hd d2 hd2 => ?_, fun es pm pw => ?_⟩
    · obtain ⟨t, _, rfl⟩ := List.mem_map.mp hd
      exact ⟨_, tmD_nk t, tmK_dep t⟩
    · obtain ⟨t, _, rfl⟩ := List.mem_map.mp hd
      obtain ⟨t2, _, rfl⟩ := List.mem_map.mp hd2
      rw [tmD_key, tmD_key]
      exact Cm_tm _ _
    · obtain ⟨L, pL, rfl⟩ := perm_map pm
      have e1 : L = nfl ts := by
        refine nfl_of ⟨(pL.map (·.1)).nodup_iff.mpr hR.nd, fun t ht => hR.nz t (pL.mem_iff.mp ht)⟩ ?_ (fun t ht => hL t (pL.mem_iff.mp ht)) hL fun e => cf_perm pL e
        rw [List.pairwise_map] at pw
        exact pw.imp fun {a b} z => by
          rw [tmD_key, tmD_key] at z
          exact tm_mo z
      subst e1
      exact ⟨_, ld_lst _, h⟩
  · rintro l t r ρ W e ⟨x, y, z, w, rfl⟩ ih
    have a0 : atI [exD t.1, D.int t.2] 0 = some (exD t.1) := rfl
    have a1 : atI [exD t.1, D.int t.2] 1 = some (.int t.2) := rfl
    have hlt := hL t (by rw [e]; simp)
    rw [show tD t = .lst [exD t.1, .int t.2] from rfl]
    walk_at "fx"
    refine ⟨_, a0, ?_⟩
    unfold r__law_written_2
    rw [show exD t.1 = .tup (t.1.map fun p : Nat => D.int (p : Int)) from rfl]
    walk_at "fx"
    refine ⟨by omega, by omega, ?_⟩
    rw [rng_map]
    refine compM (fun k : Nat => decide (0 < t.1.getD k 0)) (fun k => .dat (pD (k, t.1.getD k 0))) (by simp; omega) ?_ fun l1 k r1 K1 K2 e1 k1 k2 => ?_
    · unfold r__law_written_1
      walk_at "fx"
      have e2 : ((List.range t.1.length).filter fun k => decide (0 < t.1.getD k 0)).map (fun k => M.dat (pD (k, t.1.getD k 0))) = ((prs 0 t.1).map pD).map M.dat := by
        rw [← prs_range t.1, List.map_map, List.map_map]
        rfl
      rw [e2, toD_lst]
      refine ⟨small_line' ?_, _, ld_dat _, _, a1, by decide, ih _ ⟨some (.dat (.lst [exD t.1, .int t.2])), some (.dat (exD t.1)), some (.dat (.lst ((prs 0 t.1).map pD))), w, ?_⟩⟩
      · rw [e] at hl
        simp at hl
        omega
      · rw [List.map_append, List.map_append]
        rfl
    · have hk : k < t.1.length := by
        have : k ∈ List.range t.1.length := by rw [e1]; simp
        exact List.mem_range.mp this
      rw [Int.zero_add]
      walk_at "fx"
      refine ⟨_, exD_at hk, ?_⟩
      walk_at "fx"
      by_cases hz : 0 < t.1.getD k 0
      · rw [if_pos (by omega)]
        refine ⟨by decide, _, exD_at hk, by decide, k1 (decide_eq_true hz)⟩
      · rw [if_neg (by omega)]
        exact k2 (decide_eq_false hz)
end K64
namespace K64
open PySem L2 L2.Fn
local macro_rules | `(tactic| walk_at "fx") => `(tactic| try simp only [mkW, fSeq, fAsg, gN, fC, fVar, fBin, fDat, fFrz, oAdd, oInt0, oInt, oIx, fIfS, fTru, oTru, fBl, fNot, fAnd, fOr, fNext, fRet, fRetV, fRetN, fLst, fTup, fNil, fCons, fCB, oLen, oIntC, oStrI, oTupC, oLstC, fApp, fSl, fPart, fNoP, oSl, fIf, fAndV, fOrV, fNotV, fIsi, M.ty, fM1, oIn, oEq, oNe, oLt, oLe, oGt, oGe, oSub, oMul, oFDiv, oMod, oPow, eqF, fDrop, fFor, fWalk, oWalk, fRng, oR1, oR2, fCall, fComp, fYes, wipeE, oCat, oRep,
  fComp2, oMulS, fNeg, oSum, fExt, M.sqD, fIdx, oIdx, keysD, Int.zero_add, oMin2, oMax2, oAbs, oI2, gTupP, gConsP, gNilP, fDict, fDSet, oDIx, oDIn, fDGet2, M.asD, oEnum, oZip, fFz, fSet0, fRevS, oRevS, fChain, oAll, oAny, oShl, oShr, oBand, oLstDN, oSortDN, oSortN, oRepT, fDComp, fCallU,
  List.length_cons, List.length_nil, List.map_cons, List.map_nil, List.cons_append, List.nil_append, List.append_nil, blanks, List.getElem?_cons_zero, List.getElem?_cons_succ, List.set_cons_zero, List.set_cons_succ, Option.some.injEq, exists_eq_left', true_and, and_true, Nat.reduceSub, Nat.reduceAdd, Nat.reduceLT, Nat.lt_add_one, M.dat.injEq, D.bl.injEq, D.int.injEq, Nat.zero_lt_succ, Nat.succ_lt_succ_iff, Nat.zero_lt_one, exists_eq_left, List.getElem?_nil, Bool.false_bne, Bool.false_xor, decide_eq_true_eq,
  ex_nil, ex_cons, ex_map, toD_lst, toD_dat, dats_nil, dats_cons, ld_l, ld_dat, ld_lst, Option.map_some, ex_some, kitI isi_int_int, kitI isi_int_bool, kitI isi_str_str, kitI isi_tup_tup, kitI isi_str_tup, M.lst.injEq, List.length_map, Bool.not_true, Bool.not_false, Bool.false_eq_true, if_true, if_false, reduceIte, endOf_nx, endOf_rt, endOf_ex, ex_pair, ex_dct, ex_cons2, Option.bind_some, Option.getD_some, Option.getD_none, flat_one, Int.toNat_natCast, gv_LETTERS])
theorem pl2_ints {n : Nat} {e e' : Ex} (h : e.length = n) (h' : e'.length = n) : (List.range n).map (fun k => M.dat (D.int ((e.getD k 0 : Int) + (e'.getD k 0 : Int)))) = ((pl2 e e').map fun p : Nat => D.int (p : Int)).map M.dat := by
  have hl : (pl2 e e').length = n := by unfold pl2; rw [List.length_zipWith]; omega
  rw [List.map_map]
  refine List.ext_getElem (by simp [hl]) fun k h1 h2 => ?_
  have hk : k < n := by simpa using h1
  have := pl2_get e e' k (h.trans h'.symm)
  simp only [List.getElem_map, List.getElem_range, Function.comp]
  rw [List.getD_eq_getElem?_getD (l := pl2 e e'), List.getElem?_eq_getElem (by omega)] at this
  simp only [Option.getD_some] at this
  rw [this]
  simp
theorem prods_snoc (l m : Pl) (t : Tm) : prods (l ++ [t]) m = prods l m ++ m.map fun b => (pl2 t.1 b.1, t.2 * b.2) := by
  unfold prods
  rw [List.flatMap_append]
  simp
theorem prods_len (l m : Pl) : (prods l m).length = l.length * m.length := by
  unfold prods
  induction l with
  | nil => simp
  | cons a l ih => rw [List.flatMap_cons, List.length_append, List.length_map, ih, List.length_cons, Nat.add_mul]; omega
theorem squared_ok {n : Nat} (hn : n ≤ 1000) (ts : Pl) (S : Sto) (Q : WP) (E : XP) (hl : ts.length ≤ 30) (hL : Len n ts) (hB : Bd ts) (h : Q (.lst ((coll (prods ts ts)).map tM)) S) : w__law_squared [.lst (ts.map tD)] S Q E := by
  unfold w__law_squared r__law_squared
  walk_at "fx"
  refine ⟨by decide, ?_⟩
  unfold r__law_squared_2
  walk_at "fx"
  have hpl : ∀ l m : Pl, l.length ≤ 30 → m.length ≤ 30 → (prods l m).length ≤ 900 := fun l m h1 h2 => by
    rw [prods_len]
    exact Nat.mul_le_mul h1 h2
  refine forV (fun l ρ => ∃ x y z : Option M, ρ = [some (.dat (.lst (ts.map tD))), some (.lst (((prods l ts).map tD).map .dat)), x, y, z]) ⟨none, none, none, rfl⟩ ?_ ?_
  · rintro ρ ⟨x, y, z, rfl⟩
    unfold r__law_squared_1
    walk_at "fx"
    exact collected_ok (prods ts ts) S _ _ (by have := hpl ts ts hl hl; omega) h
  · rintro l a r ρ W e ⟨x, y, z, rfl⟩ ih
    have la := hL a (by rw [e]; simp)
    have ll : l.length ≤ 30 := by rw [e] at hl; simp at hl; omega
    walk_at "fx"
    refine forV (fun m ρ => ∃ y z : Option M, ρ = [some (.dat (.lst (ts.map tD))), some (.lst (((prods l ts ++ m.map fun b => (pl2 a.1 b.1, a.2 * b.2)).map tD).map .dat)), some (.dat (tD a)), y, z]) ⟨y, z, by simp⟩ ?_ ?_
    · rintro ρ ⟨y, z, rfl⟩
      exact ih _ ⟨some (.dat (tD a)), y, z, by rw [prods_snoc]⟩
    · rintro m b r1 ρ W1 e1 ⟨y, z, rfl⟩ ih1
      have lb := hL b (by rw [e1]; simp)
      have a0 : atI [exD a.1, D.int a.2] 0 = some (exD a.1) := rfl
      have a1 : atI [exD a.1, D.int a.2] 1 = some (.int a.2) := rfl
      have b0 : atI [exD b.1, D.int b.2] 0 = some (exD b.1) := rfl
      have b1 : atI [exD b.1, D.int b.2] 1 = some (.int b.2) := rfl
      rw [show tD a = .lst [exD a.1, .int a.2] from rfl, show tD b = .lst [exD b.1, .int b.2] from rfl]
      walk_at "fx"
      have lm : m.length ≤ 30 := by rw [e1] at hl; simp at hl; omega
      have hlen : (prods l ts ++ m.map fun b => (pl2 a.1 b.1, a.2 * b.2)).length ≤ 1000 := by
        rw [List.length_append, List.length_map]
        have := hpl l ts ll hl
        omega
      refine ⟨small_line' (Nat.le_trans hlen (by decide)), _, a0, ?_⟩
      rw [show exD a.1 = .tup (a.1.map fun p : Nat => D.int (p : Int)) from rfl, show exD b.1 = .tup (b.1.map fun p : Nat => D.int (p : Int)) from rfl] at *
      walk_at "fx"
      refine ⟨by omega, by omega, ?_⟩
      rw [rng_map]
      refine compA (fun k : Nat => .dat (.int ((a.1.getD k 0 : Int) + (b.1.getD k 0 : Int)))) (by simp; omega) ?_ fun l1 k r2 K1 e2 k1 => ?_
      · rw [la, pl2_ints la lb]
        walk_at "fx"
        refine ⟨_, ld_lst _, _, a1, _, b1, ?_⟩
        have ba := hB a (by rw [e]; simp)
        have bb := hB b (by rw [e1]; simp)
        refine ⟨by unfold CMulW; omega, by decide, ?_⟩
        exact ih1 _ ⟨some (.dat (tD b)), z, by simp only [List.map_append, List.append_assoc]; rfl⟩
      · have hk : k < a.1.length := by
          have : k ∈ List.range a.1.length := by rw [e2]; simp
          exact List.mem_range.mp this
        rw [Int.zero_add]
        walk_at "fx"
        refine ⟨_, a0, ?_⟩
        walk_at "fx"
        refine ⟨_, exD_at hk, _, b0, ?_⟩
        walk_at "fx"
        refine ⟨_, exD_at (by rw [lb, ← la]; exact hk), ?_⟩
        exact k1
end K64
namespace K64
open PySem L2 L2.Fn
local macro_rules | `(tactic| walk_at "fx") => `(tactic| try simp only [mkW, fSeq, fAsg, gN, fC, fVar, fBin, fDat, fFrz, oAdd, oInt0, oInt, oIx, fIfS, fTru, oTru, fBl, fNot, fAnd, fOr, fNext, fRet, fRetV, fRetN, fLst, fTup, fNil, fCons, fCB, oLen, oIntC, oStrI, oTupC, oLstC, fApp, fSl, fPart, fNoP, oSl, fIf, fAndV, fOrV, fNotV, fIsi, M.ty, fM1, oIn, oEq, oNe, oLt, oLe, oGt, oGe, oSub, oMul, oFDiv, oMod, oPow, eqF, fDrop, fFor, fWalk, oWalk, fRng, oR1, oR2, fCall, fComp, fYes, wipeE, oCat, oRep,
  fComp2, oMulS, fNeg, oSum, fExt, M.sqD, fIdx, oIdx, keysD, Int.zero_add, oMin2, oMax2, oAbs, oI2, gTupP, gConsP, gNilP, fDict, fDSet, oDIx, oDIn, fDGet2, M.asD, oEnum, oZip, fFz, fSet0, fRevS, oRevS, fChain, oAll, oAny, oShl, oShr, oBand, oLstDN, oSortDN, oSortN, oRepT, fDComp, fCallU,
  List.length_cons, List.length_nil, List.map_cons, List.map_nil, List.cons_append, List.nil_append, List.append_nil, blanks, List.getElem?_cons_zero, List.getElem?_cons_succ, List.set_cons_zero, List.set_cons_succ, Option.some.injEq, exists_eq_left', true_and, and_true, Nat.reduceSub, Nat.reduceAdd, Nat.reduceLT, Nat.lt_add_one, M.dat.injEq, D.bl.injEq, D.int.injEq, Nat.zero_lt_succ, Nat.succ_lt_succ_iff, Nat.zero_lt_one, exists_eq_left, List.getElem?_nil, Bool.false_bne, Bool.false_xor, decide_eq_true_eq,
  ex_nil, ex_cons, ex_map, toD_lst, toD_dat, dats_nil, dats_cons, ld_l, ld_dat, ld_lst, Option.map_some, ex_some, kitI isi_int_int, kitI isi_int_bool, kitI isi_str_str, kitI isi_tup_tup, kitI isi_str_tup, M.lst.injEq, List.length_map, Bool.not_true, Bool.not_false, Bool.false_eq_true, if_true, if_false, reduceIte, endOf_nx, endOf_rt, endOf_ex, ex_pair, ex_dct, ex_cons2, Option.bind_some, Option.getD_some, Option.getD_none, flat_one, Int.toNat_natCast, gv_LETTERS])
/-! ### worth -/
theorem log2_mul_le (a b : Nat) : (a * b).log2 ≤ a.log2 + b.log2 + 1 := by
  by_cases ha : a = 0
  · subst ha; simp
  by_cases hb : b = 0
  · subst hb; simp
  have h1 : a < 2 ^ (a.log2 + 1) := Nat.lt_log2_self
  have h2 : b < 2 ^ (b.log2 + 1) := Nat.lt_log2_self
  have h3 : a * b < 2 ^ (a.log2 + 1 + (b.log2 + 1)) := by
    rw [Nat.pow_add]
    exact Nat.mul_lt_mul'' h1 h2
  have := (Nat.log2_lt (Nat.mul_ne_zero ha hb)).mpr h3
  omega
theorem ilog_mul (a b : Int) : (a * b).natAbs.log2 ≤ a.natAbs.log2 + b.natAbs.log2 + 1 := by
  rw [Int.natAbs_mul]
  exact log2_mul_le _ _
theorem range_at {n k : Nat} {l r : List Nat} (h : List.range n = l ++ k :: r) : k = l.length ∧ k < n := by
  have h1 : (List.range n)[l.length]? = some k := by rw [h]; simp
  rw [List.getElem?_range (by
    have := congrArg List.length h
    simp at this
    omega)] at h1
  injection h1 with h1
  refine ⟨h1.symm, ?_⟩
  have := congrArg List.length h
  simp at this
  omega
theorem mev_take : ∀ (x : List Int) (e : Ex) (k : Nat), k < x.length → k < e.length → mev (x.take (k + 1)) (e.take (k + 1)) = mev (x.take k) (e.take k) * x.getD k 0 ^ e.getD k 0
  | x :: xs, p :: e, 0, _, _ => by simp [mev]
  | x :: xs, p :: e, k + 1, h1, h2 => by
    have := mev_take xs e k (by simpa using h1) (by simpa using h2)
    rw [List.take_succ_cons, List.take_succ_cons, mev, this, List.take_succ_cons, List.take_succ_cons, mev, Int.mul_assoc]
    simp
def esum : Ex → Nat
  | [] => 0
  | p :: e => p + esum e
theorem esum_take : ∀ (e : Ex) (k : Nat), k < e.length → esum (e.take (k + 1)) = esum (e.take k) + e.getD k 0
  | p :: e, 0, _ => by simp [esum]
  | p :: e, k + 1, h => by
    have := esum_take e k (by simpa using h)
    rw [List.take_succ_cons, List.take_succ_cons, esum, esum, this]
    simp
    omega
theorem esum_le : ∀ (e : Ex) (k : Nat), esum (e.take k) ≤ esum e
  | [], k => by simp [esum]
  | p :: e, 0 => by simp [esum]
  | p :: e, k + 1 => by
    have := esum_le e k
    rw [List.take_succ_cons, esum, esum]
    omega
/-- powers in sum small -/
def Ps (l : Pl) : Prop := ∀ t ∈ l, esum t.1 ≤ 1000
def ptD (x : List Int) : D := .lst (x.map .int)
theorem worth_ok {n : Nat} (hn : n ≤ 1000) (ts : Pl) (x : List Int) (S : Sto) (Q : WP) (E : XP) (hx : x.length = n) (hs : ∀ k, (x.getD k 0).natAbs.log2 ≤ 3) (hl : ts.length ≤ 1000) (hL : Len n ts) (hB : Bd ts) (hP : Ps ts) (h : Q (.dat (.int (ev x ts))) S) : w__law_worth [.lst (ts.map tD), ptD x] S Q E := by
  unfold w__law_worth r__law_worth
  walk_at "fx"
  unfold r__law_worth_4 ptD
  walk_at "fx"
  refine forV (fun l ρ => ∃ y z u v : Option M, ρ = [some (.dat (.lst (ts.map tD))), some (.dat (ptD x)), some (.dat (.int (ev x l))), y, z, u, v]) ⟨none, none, none, none, rfl⟩ ?_ ?_
  · rintro ρ ⟨y, z, u, v, rfl⟩
    unfold r__law_worth_3
    walk_at "fx"
    exact h
  · rintro l t r ρ W e ⟨y, z, u, v, rfl⟩ ih
    have lt := hL t (by rw [e]; simp)
    have bt := hB t (by rw [e]; simp)
    have pt := hP t (by rw [e]; simp)
    have a0 : atI [exD t.1, D.int t.2] 0 = some (exD t.1) := rfl
    have a1 : atI [exD t.1, D.int t.2] 1 = some (.int t.2) := rfl
    rw [show tD t = .lst [exD t.1, .int t.2] from rfl]
    walk_at "fx"
    refine ⟨_, a1, ?_⟩
    unfold r__law_worth_2 ptD
    walk_at "fx"
    have hxn : x.length ≤ 1000 := by omega
    refine ⟨by omega, by omega, ?_⟩
    have b0 : (t.2 * mev (x.take 0) (t.1.take 0)).natAbs.log2 ≤ t.2.natAbs.log2 + 4 * esum (t.1.take 0) := by simp [mev, esum]
    refine forR (fun k ρ => ∃ p : Int, p = t.2 * mev (x.take k) (t.1.take k) ∧ p.natAbs.log2 ≤ t.2.natAbs.log2 + 4 * esum (t.1.take k) ∧ ∃ u v : Option M, ρ = [some (.dat (.lst (ts.map tD))), some (.dat (.lst (x.map .int))), some (.dat (.int (ev x l))), some (.dat (.lst [exD t.1, .int t.2])), some (.dat (.int p)), u, v]) ⟨_, rfl, b0, u, v, by simp [mev]⟩ ?_ ?_
    · rintro ρ ⟨p, hp, bp, u, v, rfl⟩
      unfold r__law_worth_1
      walk_at "fx"
      refine ih _ ⟨some (.dat (.lst [exD t.1, .int t.2])), some (.dat (.int p)), u, v, ?_⟩
      rw [List.take_of_length_le (Nat.le_refl _), List.take_of_length_le (by omega)] at hp
      rw [ev_app, ev, ev, ← hp, Int.add_zero]
      rfl
    · rintro k ρ W1 hk ⟨p, hp, bp, u, v, rfl⟩ ih1
      have hkt : k < t.1.length := by omega
      have hxk : atI (x.map D.int) (k : Int) = some (.int (x.getD k 0)) := atI_n (by rw [List.getElem?_map, List.getD_eq_getElem?_getD, List.getElem?_eq_getElem hk]; rfl)
      have pk := esum_take t.1 k hkt
      have pk2 := esum_le t.1 (k + 1)
      rw [Int.zero_add]
      walk_at "fx"
      refine ⟨_, a0, ?_⟩
      rw [show exD t.1 = .tup (t.1.map fun p : Nat => D.int (p : Int)) from rfl]
      walk_at "fx"
      refine ⟨_, exD_at hkt, ?_⟩
      walk_at "fx"
      refine ⟨by omega, by omega, ?_⟩
      refine forR (fun j ρ => ∃ q : Int, q = p * x.getD k 0 ^ j ∧ q.natAbs.log2 ≤ t.2.natAbs.log2 + 4 * (esum (t.1.take k) + j) ∧ ∃ v : Option M, ρ = [some (.dat (.lst (ts.map tD))), some (.dat (.lst (x.map .int))), some (.dat (.int (ev x l))), some (.dat (.lst [exD t.1, .int t.2])), some (.dat (.int q)), some (.dat (.int (k : Int))), v]) ⟨p, by simp, by simpa using bp, v, rfl⟩ ?_ ?_
      · rintro ρ ⟨q, hq, bq, v, rfl⟩
        refine ih1 _ ⟨q, ?_, by rw [pk]; exact bq, some (.dat (.int (k : Int))), v, rfl⟩
        rw [mev_take x t.1 k hk hkt, hq, hp, Int.mul_assoc]
      · rintro j ρ W2 hj ⟨q, hq, bq, v, rfl⟩ ih2
        walk_at "fx"
        refine ⟨_, hxk, ?_⟩
        have h3 := hs k
        have h4 := ilog_mul q (x.getD k 0)
        refine ⟨by unfold CMulW; omega, ih2 _ ⟨_, ?_, by omega, _, rfl⟩⟩
        rw [hq, Int.pow_succ, Int.mul_assoc]
end K64
namespace K64
open PySem L2 L2.Fn
local macro_rules | `(tactic| walk_at "fx") => `(tactic| try simp only [mkW, fSeq, fAsg, gN, fC, fVar, fBin, fDat, fFrz, oAdd, oInt0, oInt, oIx, fIfS, fTru, oTru, fBl, fNot, fAnd, fOr, fNext, fRet, fRetV, fRetN, fLst, fTup, fNil, fCons, fCB, oLen, oIntC, oStrI, oTupC, oLstC, fApp, fSl, fPart, fNoP, oSl, fIf, fAndV, fOrV, fNotV, fIsi, M.ty, fM1, oIn, oEq, oNe, oLt, oLe, oGt, oGe, oSub, oMul, oFDiv, oMod, oPow, eqF, fDrop, fFor, fWalk, oWalk, fRng, oR1, oR2, fCall, fComp, fYes, wipeE, oCat, oRep,
  fComp2, oMulS, fNeg, oSum, fExt, M.sqD, fIdx, oIdx, keysD, Int.zero_add, oMin2, oMax2, oAbs, oI2, gTupP, gConsP, gNilP, fDict, fDSet, oDIx, oDIn, fDGet2, M.asD, oEnum, oZip, fFz, fSet0, fRevS, oRevS, fChain, oAll, oAny, oShl, oShr, oBand, oLstDN, oSortDN, oSortN, oRepT, fDComp, fCallU,
  List.length_cons, List.length_nil, List.map_cons, List.map_nil, List.cons_append, List.nil_append, List.append_nil, blanks, List.getElem?_cons_zero, List.getElem?_cons_succ, List.set_cons_zero, List.set_cons_succ, Option.some.injEq, exists_eq_left', true_and, and_true, Nat.reduceSub, Nat.reduceAdd, Nat.reduceLT, Nat.lt_add_one, M.dat.injEq, D.bl.injEq, D.int.injEq, Nat.zero_lt_succ, Nat.succ_lt_succ_iff, Nat.zero_lt_one, exists_eq_left, List.getElem?_nil, Bool.false_bne, Bool.false_xor, decide_eq_true_eq,
  ex_nil, ex_cons, ex_map, toD_lst, toD_dat, dats_nil, dats_cons, ld_l, ld_dat, ld_lst, Option.map_some, ex_some, kitI isi_int_int, kitI isi_int_bool, kitI isi_str_str, kitI isi_tup_tup, kitI isi_str_tup, M.lst.injEq, List.length_map, Bool.not_true, Bool.not_false, Bool.false_eq_true, if_true, if_false, reduceIte, endOf_nx, endOf_rt, endOf_ex, ex_pair, ex_dct, ex_cons2, Option.bind_some, Option.getD_some, Option.getD_none, flat_one, Int.toNat_natCast, gv_LETTERS])
/-! ### sides and books of the law -/
def sqr (ts : Pl) : Pl := coll (prods ts ts)
def neg (l : Pl) : Pl := (l.filter fun t => decide (t.2 < 0)).map ngT
def pos (l : Pl) : Pl := l.filter fun t => decide (0 < t.2)
def one1 (n : Nat) (l : Pl) : Pl := (zeros n, 1) :: neg l
theorem toD_tM (l : Pl) : (M.lst (l.map tM)).toD = .lst (l.map tD) := by
  rw [M.toD, M.toDs_eq, List.map_map]
  rfl
theorem zeros_ints (n : Nat) : (List.range n).map (fun _ => M.dat (D.int 0)) = ((zeros n).map fun p : Nat => D.int (p : Int)).map M.dat := by
  unfold zeros
  rw [List.map_replicate, List.map_replicate, List.map_const', List.length_range]
  rfl
theorem sides_ok {n : Nat} (hn : n ≤ 1000) (ts : Pl) (S : Sto) (Q : WP) (E : XP) (hl : ts.length ≤ 20) (hL : Len n ts) (hB : Bd ts) (hs : (sqr ts).length ≤ 900) (h : Q (.lst [.dat (.lst ((coll (one1 n (sqr ts))).map tD)), .lst ((pos (sqr ts)).map fun t => .dat (tD t))]) S) : w__law_sides [.lst (ts.map tD), .int n] S Q E := by
  unfold w__law_sides r__law_sides
  walk_at "fx"
  refine squared_ok hn ts S _ _ (by omega) hL hB ?_
  rw [show (coll (prods ts ts)).map tM = (sqr ts).map tM from rfl, toD_tM]
  unfold r__law_sides_3
  walk_at "fx"
  refine compM (fun t => decide (t.2 < 0)) (fun t => M.lst [.dat (exD t.1), .dat (.int (-t.2))]) (by omega) ?_ fun l1 t r1 K1 K2 e1 k1 k2 => ?_
  · unfold r__law_sides_2
    rw [show ((sqr ts).filter fun t => decide (t.2 < 0)).map (fun t : Tm => M.lst [.dat (exD t.1), .dat (.int (-t.2))]) = (neg (sqr ts)).map tM by unfold neg; rw [List.map_map]; rfl]
    have hneg : (neg (sqr ts)).length ≤ 900 := by
      unfold neg
      rw [List.length_map]
      exact Nat.le_trans (List.length_filter_le _ _) hs
    walk_at "fx"
    rw [toD_tM]
    walk_at "fx"
    refine ⟨by omega, by omega, ?_⟩
    rw [rng_map]
    refine compA (fun k : Nat => .dat (.int 0)) (by simp; omega) ?_ fun l1 k r2 K1 e2 k1 => ?_
    · rw [zeros_ints]
      walk_at "fx"
      refine ⟨_, dats_map _, by decide, by decide, _, rfl, small_line (by simp; omega), ?_⟩
      refine collected_ok (one1 n (sqr ts)) S _ _ (by unfold one1; simp; omega) ?_
      rw [toD_tM]
      unfold r__law_sides_1
      walk_at "fx"
      refine compM (fun t => decide (0 < t.2)) (fun t => M.dat (tD t)) (by omega) ⟨by decide, h⟩ fun l1 t r1 K1 K2 e1 k1 k2 => ?_
      have a1 : atI [exD t.1, D.int t.2] 1 = some (.int t.2) := rfl
      rw [show tD t = .lst [exD t.1, .int t.2] from rfl] at *
      walk_at "fx"
      refine ⟨_, a1, ?_⟩
      walk_at "fx"
      by_cases hz : 0 < t.2
      · rw [if_pos hz]
        exact k1 (decide_eq_true hz)
      · rw [if_neg hz]
        exact k2 (decide_eq_false hz)
    · walk_at "fx"
      exact k1
  · have a0 : atI [exD t.1, D.int t.2] 0 = some (exD t.1) := rfl
    have a1 : atI [exD t.1, D.int t.2] 1 = some (.int t.2) := rfl
    rw [show tD t = .lst [exD t.1, .int t.2] from rfl]
    walk_at "fx"
    refine ⟨_, a1, ?_⟩
    walk_at "fx"
    by_cases hz : t.2 < 0
    · rw [if_pos hz]
      exact ⟨_, a0, _, a1, _, rfl, by decide, k1 (decide_eq_true hz)⟩
    · rw [if_neg hz]
      exact k2 (decide_eq_false hz)
theorem ld_bools (l : List Nat) (f : Nat → Bool) : (M.lst (l.map fun k => M.dat (.bl (f k)))).ld = some (l.map fun k => D.bl (f k)) := by
  rw [show (l.map fun k => M.dat (.bl (f k))) = (l.map fun k => D.bl (f k)).map M.dat by rw [List.map_map]; rfl]
  exact ld_lst _
theorem bools_map (l : List Nat) (f : Nat → Bool) : boolsOf (l.map fun k => D.bl (f k)) = some (l.map f) := by
  induction l with
  | nil => rfl
  | cons k l ih => rw [List.map_cons, boolsOf, ih]; rfl
theorem band1 (x : Nat) : Builtin.bitAnd (x : Int) 1 = ((x % 2 : Nat) : Int) := by
  rw [← Nat.and_one_is_mod]
  unfold Builtin.bitAnd
  simp
/-- in the row of a choice -/
def keep (n at' : Nat) (t : Tm) : Bool := (List.range n).all fun k => decide (t.1.getD k 0 = 0) || at'.testBit (n - 1 - k)
def rows (n : Nat) (l : Pl) : List Pl := (List.range (2 ^ n)).map fun a => nfl (l.filter (keep n a))
def bookD (n : Nat) (l : Pl) : D := .tup [.tup (List.replicate n (.int 1)), .tup ((rows n l).map polyD)]
theorem law_book_ok {n : Nat} (hn : n ≤ 10) (ts : Pl) (S : Sto) (Q : WP) (E : XP) (hl : ts.length ≤ 1000) (hL : Len n ts) (hR : Red ts) (h : Q (.dat (bookD n ts)) S) : w__law_book [.lst (ts.map tD), .int n] S Q E := by
  unfold w__law_book r__law_book
  walk_at "fx"
  refine ⟨by decide, ?_⟩
  unfold r__law_book_4
  walk_at "fx"
  have p2 : 2 ^ n ≤ 1024 := Nat.pow_le_pow_right (by decide) hn
  have e2 : ((1 : Int) * 2 ^ n).toNat = 2 ^ n := by
    rw [Int.one_mul]
    exact Int.toNat_pow_of_nonneg (by decide) n
  have p3 : ((2 : Int) ^ n) = ((2 ^ n : Nat) : Int) := by simp
  rw [e2]
  refine ⟨shl_ok (n := 2) (by decide) (by omega), by omega, by omega, ?_⟩
  refine forR (fun k ρ => ∃ x y z w : Option M, ρ = [some (.dat (.lst (ts.map tD))), some (.dat (.int n)), some (.lst ((((List.range k).map fun a => nfl (ts.filter (keep n a))).map polyD).map .dat)), x, y, z, w]) ⟨none, none, none, none, rfl⟩ ?_ ?_
  · rintro ρ ⟨x, y, z, w, rfl⟩
    unfold r__law_book_3
    walk_at "fx"
    refine ⟨by omega, by omega, ?_⟩
    rw [rng_map]
    refine compA (fun k : Nat => .dat (.int 1)) (by simp; omega) ?_ fun l1 k r2 K1 e2 k1 => ?_
    · walk_at "fx"
      rw [show (List.range n).map (fun _ => M.dat (.int 1)) = (List.replicate n (D.int 1)).map M.dat by rw [List.map_replicate, List.map_const', List.length_range]]
      exact ⟨_, dats_map _, _, dats_map _, by decide, h⟩
    · walk_at "fx"
      exact k1
  · rintro a ρ W ha ⟨x, y, z, w, rfl⟩ ih
    rw [Int.zero_add]
    walk_at "fx"
    refine ⟨by decide, ?_⟩
    unfold r__law_book_2
    walk_at "fx"
    refine forV (fun l ρ => ∃ z w : Option M, ρ = [some (.dat (.lst (ts.map tD))), some (.dat (.int n)), some (.lst ((((List.range a).map fun a => nfl (ts.filter (keep n a))).map polyD).map .dat)), some (.dat (.int a)), some (.lst (((l.filter (keep n a)).map tD).map .dat)), z, w]) ⟨z, w, rfl⟩ ?_ ?_
    · rintro ρ ⟨z, w, rfl⟩
      unfold r__law_book_1
      walk_at "fx"
      have hlen := List.length_filter_le (keep n a) ts
      refine ⟨small_line' (by simp; omega), written_ok (by omega) _ S _ _ (by omega) (fun t ht => hL t (List.mem_filter.mp ht).1) (hR.filter _) ?_⟩
      exact ih _ ⟨some (.dat (.int a)), some (.dat (.lst ((ts.filter (keep n a)).map tD))), z, w, by rw [List.range_succ, List.map_append, List.map_append, List.map_append]; rfl⟩
    · rintro l t r ρ W1 e ⟨z, w, rfl⟩ ih1
      rw [show tD t = .lst [exD t.1, .int t.2] from rfl]
      walk_at "fx"
      refine ⟨by omega, by omega, ?_⟩
      rw [rng_map]
      refine compA (fun k : Nat => .dat (.bl (decide (t.1.getD k 0 = 0) || a.testBit (n - 1 - k)))) (by simp; omega) ?_ fun l1 k r2 K1 e2 k1 => ?_
      · refine ⟨_, ld_bools _ _, _, bools_map _ _, ?_⟩
        rw [show ((List.range n).map fun k => decide (t.1.getD k 0 = 0) || a.testBit (n - 1 - k)).all id = keep n a t by rw [List.all_map]; rfl]
        by_cases hk : keep n a t = true
        · rw [if_pos hk]
          have := List.length_filter_le (keep n a) l
          rw [e] at hl
          simp at hl
          refine ⟨small_line' (by omega), ih1 _ ⟨some (.dat (tD t)), w, ?_⟩⟩
          rw [List.filter_append, List.filter_cons, if_pos hk, List.map_append, List.map_append]
          rfl
        · rw [if_neg hk]
          refine ih1 _ ⟨some (.dat (tD t)), w, ?_⟩
          rw [List.filter_append, List.filter_cons, if_neg hk, List.filter_nil, List.append_nil]
          rfl
      · have hk : k < n := (range_at e2).2
        have ht := hL t (by rw [e]; simp)
        have a0 : atI [exD t.1, D.int t.2] 0 = some (exD t.1) := rfl
        rw [Int.zero_add]
        walk_at "fx"
        refine ⟨_, a0, ?_⟩
        rw [show exD t.1 = .tup (t.1.map fun p : Nat => D.int (p : Int)) from rfl]
        walk_at "fx"
        refine ⟨_, exD_at (by omega), _, rfl, ?_⟩
        have hb : Builtin.bitAnd ((a : Int) / 2 ^ ((n : Int) - 1 - (k : Int)).toNat) 1 = ((a / 2 ^ (n - 1 - k) % 2 : Nat) : Int) := by
          rw [show ((n : Int) - 1 - (k : Int)).toNat = n - 1 - k by omega, show (a : Int) / 2 ^ (n - 1 - k) = ((a / 2 ^ (n - 1 - k) : Nat) : Int) by simp, band1]
        have hd : decide (Builtin.bitAnd ((a : Int) / 2 ^ ((n : Int) - 1 - (k : Int)).toNat) 1 = 1) = a.testBit (n - 1 - k) := by
          rw [Nat.testBit_eq_decide_div_mod_eq]
          exact decide_eq_decide.mpr (by rw [hb]; omega)
        by_cases hz : t.1.getD k 0 = 0
        · rw [hz] at k1 ⊢
          exact k1
        · rw [show decide (t.1.getD k 0 = 0) = false from decide_eq_false hz] at k1
          rw [if_neg (by simpa using hz)]
          refine ⟨by omega, ?_⟩
          rw [show decide (Builtin.bitAnd _ 1 = 1) = _ from hd]
          exact k1
end K64
namespace K64
open PySem L2 L2.Fn
local macro_rules | `(tactic| walk_at "fx") => `(tactic| try simp only [mkW, fSeq, fAsg, gN, fC, fVar, fBin, fDat, fFrz, oAdd, oInt0, oInt, oIx, fIfS, fTru, oTru, fBl, fNot, fAnd, fOr, fNext, fRet, fRetV, fRetN, fLst, fTup, fNil, fCons, fCB, oLen, oIntC, oStrI, oTupC, oLstC, fApp, fSl, fPart, fNoP, oSl, fIf, fAndV, fOrV, fNotV, fIsi, M.ty, fM1, oIn, oEq, oNe, oLt, oLe, oGt, oGe, oSub, oMul, oFDiv, oMod, oPow, eqF, fDrop, fFor, fWalk, oWalk, fRng, oR1, oR2, fCall, fComp, fYes, wipeE, oCat, oRep,
  fComp2, oMulS, fNeg, oSum, fExt, M.sqD, fIdx, oIdx, keysD, Int.zero_add, oMin2, oMax2, oAbs, oI2, gTupP, gConsP, gNilP, fDict, fDSet, oDIx, oDIn, fDGet2, M.asD, oEnum, oZip, fFz, fSet0, fRevS, oRevS, fChain, oAll, oAny, oShl, oShr, oBand, oLstDN, oSortDN, oSortN, oRepT, fDComp, fCallU,
  List.length_cons, List.length_nil, List.map_cons, List.map_nil, List.cons_append, List.nil_append, List.append_nil, blanks, List.getElem?_cons_zero, List.getElem?_cons_succ, List.set_cons_zero, List.set_cons_succ, Option.some.injEq, exists_eq_left', true_and, and_true, Nat.reduceSub, Nat.reduceAdd, Nat.reduceLT, Nat.lt_add_one, M.dat.injEq, D.bl.injEq, D.int.injEq, Nat.zero_lt_succ, Nat.succ_lt_succ_iff, Nat.zero_lt_one, exists_eq_left, List.getElem?_nil, Bool.false_bne, Bool.false_xor, decide_eq_true_eq,
  ex_nil, ex_cons, ex_map, toD_lst, toD_dat, dats_nil, dats_cons, ld_l, ld_dat, ld_lst, Option.map_some, ex_some, kitI isi_int_int, kitI isi_int_bool, kitI isi_str_str, kitI isi_tup_tup, kitI isi_str_tup, M.lst.injEq, List.length_map, Bool.not_true, Bool.not_false, Bool.false_eq_true, if_true, if_false, reduceIte, endOf_nx, endOf_rt, endOf_ex, ex_pair, ex_dct, ex_cons2, Option.bind_some, Option.getD_some, Option.getD_none, flat_one, Int.toNat_natCast, gv_LETTERS])
/-! ### the law's due; orders -/
def less (n : Nat) (ts : Pl) : Pl := coll (one1 n (sqr ts))
def plus (ts : Pl) : Pl := pos (sqr ts)
def dueD (n : Nat) (ts : Pl) : D := .tup [bookD n (less n ts), bookD n (plus ts)]
theorem prods_lens {n : Nat} {l m : Pl} (hL : Len n l) (hM : Len n m) : Len n (prods l m) := fun t ht => by
  obtain ⟨a, ha, ht⟩ := List.mem_flatMap.mp ht
  obtain ⟨b, hb, rfl⟩ := List.mem_map.mp ht
  have h1 := hL a ha
  have h2 := hM b hb
  show (pl2 a.1 b.1).length = n
  unfold pl2
  rw [List.length_zipWith]
  omega
theorem sqr_lens {n : Nat} {ts : Pl} (hL : Len n ts) : Len n (sqr ts) := coll_len (prods_lens hL hL)
theorem zeros_len (n : Nat) : (zeros n).length = n := List.length_replicate
theorem one1_lens {n : Nat} {l : Pl} (hL : Len n l) : Len n (one1 n l) := fun t ht => by
  rcases List.mem_cons.mp ht with z | z
  · rw [z]; exact zeros_len n
  · obtain ⟨u, hu, rfl⟩ := List.mem_map.mp z
    exact hL u (List.mem_filter.mp hu).1
theorem less_lens {n : Nat} {ts : Pl} (hL : Len n ts) : Len n (less n ts) := coll_len (one1_lens (sqr_lens hL))
theorem plus_lens {n : Nat} {ts : Pl} (hL : Len n ts) : Len n (plus ts) := fun t ht => sqr_lens hL t (List.mem_filter.mp ht).1
theorem coll_le (ts : Pl) : (coll ts).length ≤ ts.length := Nat.le_trans (List.length_filter_le _ _) (gather_len ts)
theorem sqr_le {ts : Pl} (h : ts.length ≤ 20) : (sqr ts).length ≤ 400 := by
  refine Nat.le_trans (coll_le _) ?_
  rw [prods_len]
  exact Nat.mul_le_mul h h
theorem less_le {n : Nat} {ts : Pl} (h : ts.length ≤ 20) : (less n ts).length ≤ 401 := by
  refine Nat.le_trans (coll_le _) ?_
  have := sqr_le h
  have h2 := List.length_filter_le (fun t : Tm => decide (t.2 < 0)) (sqr ts)
  unfold one1 neg
  rw [List.length_cons, List.length_map]
  omega
theorem plus_le {ts : Pl} (h : ts.length ≤ 20) : (plus ts).length ≤ 400 := Nat.le_trans (List.length_filter_le _ _) (sqr_le h)
theorem less_red (n : Nat) (ts : Pl) : Red (less n ts) := coll_red _
theorem plus_red (ts : Pl) : Red (plus ts) := (coll_red _).filter _
theorem due_ok {n : Nat} (hn : n ≤ 10) (ts : Pl) (S : Sto) (Q : WP) (E : XP) (hl : ts.length ≤ 20) (hL : Len n ts) (hB : Bd ts) (h : Q (.dat (dueD n ts)) S) : w__law_due [.lst (ts.map tD), .int n] S Q E := by
  unfold w__law_due r__law_due
  walk_at "fx"
  refine sides_ok (by omega) ts S _ _ hl hL hB (by have := sqr_le hl; omega) ?_
  unfold r__law_due_1
  rw [show (M.lst [M.dat (D.lst ((coll (one1 n (sqr ts))).map tD)), M.lst ((pos (sqr ts)).map fun t => M.dat (tD t))]).toD = .lst [.lst ((less n ts).map tD), .lst ((plus ts).map tD)] by
    rw [M.toD, M.toDs, M.toDs, M.toDs, show ((pos (sqr ts)).map fun t => M.dat (tD t)) = ((pos (sqr ts)).map tD).map M.dat by rw [List.map_map]; rfl, M.toD, M.toD, M.toDs_dat]
    rfl]
  walk_at "fx"
  have l1 := less_le (n := n) hl
  have l2 := plus_le hl
  refine ⟨_, rfl, law_book_ok hn (less n ts) S _ _ (by omega) (less_lens hL) (less_red n ts) ?_⟩
  refine ⟨_, rfl, law_book_ok hn (plus ts) S _ _ (by omega) (plus_lens hL) (plus_red ts) ?_⟩
  exact ⟨by decide, [_, _], rfl, h⟩
theorem orders_ok (S : Sto) (Q : WP) (E : XP) (h : Q (.dat (.tup [.str [], .str [97]])) S) : w_orders [.int 1] S Q E := by
  unfold w_orders r_orders
  walk_at "fx"
  refine ⟨by decide, ?_⟩
  unfold r_orders_4
  walk_at "fx"
  refine ⟨by decide, ?_⟩
  unfold r_orders_3
  walk_at "fx"
  rw [show (M.lst [M.dat (D.str [])]).toD = .lst [.str []] from rfl]
  refine ⟨by decide, by decide, ?_⟩
  refine forR (fun k ρ => (k = 0 ∧ ρ = [some (.dat (.int 1)), some (.dat (.lst [.str []])), some (.dat (.lst [.str []])), none, none, none]) ∨ (k = 1 ∧ ∃ x y z w : Option M, ρ = [some (.dat (.int 1)), some (.dat (.lst [.str [], .str [97]])), x, y, z, w])) (.inl ⟨rfl, rfl⟩) ?_ ?_
  · rintro ρ (⟨q, _⟩ | ⟨_, x, y, z, w, rfl⟩)
    · exact absurd q (by decide)
    · unfold r_orders_2
      walk_at "fx"
      exact h
  · rintro k ρ W hk (⟨rfl, rfl⟩ | ⟨rfl, _⟩) ih
    · walk_at "fx"
      refine comp2V (f := fun _ : Unit => .str []) (xs := [()]) (fun _ => [.dat (.str [97])]) ?_ fun l1 x r acc W1 e ea w => ?_
      · unfold r_orders_1
        walk_at "fx"
        exact ⟨[.str [97]], rfl, by decide, ih _ (.inr ⟨rfl, _, _, _, _, rfl⟩)⟩
      · walk_at "fx"
        refine ⟨by decide, ?_⟩
        rw [show (cutN [97, 98, 99, 100, 101] none (some 1)).map (fun c => D.str [c]) = [97].map (fun c => D.str [c]) from rfl]
        have l0 : l1 = [] := by
          cases l1 with
          | nil => rfl
          | cons y l => simp at e
        rw [l0] at ea
        subst ea
        refine innerM (xs := [97]) (fun _ => true) (fun c : Nat => M.dat (.str [c])) (by decide) ?_ fun m1 b r1 K1 K2 e1 k1 k2 => ?_
        · rw [List.filter_eq_self.mpr (by simp)]
          exact w
        · walk_at "fx"
          rw [if_pos (by simp)]
          exact ⟨by decide, k1 rfl⟩
    · exact absurd hk (by decide)
/-! ### choices -/
def ch (n a : Nat) : List D := (List.range n).map fun k => .str (if a.testBit (n - 1 - k) = true then [97] else [])
theorem range_double : ∀ N : Nat, List.range (2 * N) = (List.range N).flatMap fun a => [2 * a, 2 * a + 1]
  | 0 => rfl
  | N + 1 => by
    rw [List.range_succ, List.flatMap_append, ← range_double N, show 2 * (N + 1) = 2 * N + 1 + 1 by omega, List.range_succ, List.range_succ]
    simp
theorem ch_step (m a : Nat) (b : Bool) : ch (m + 1) (2 * a + b.toNat) = ch m a ++ [.str (if b = true then [97] else [])] := by
  unfold ch
  rw [List.range_succ, List.map_append]
  congr 1
  · refine List.map_congr_left fun k hk => ?_
    have hk := List.mem_range.mp hk
    rw [show m + 1 - 1 - k = (m - 1 - k) + 1 by omega, Nat.testBit_succ, show (2 * a + b.toNat) / 2 = a by cases b <;> simp <;> omega]
  · rw [List.map_cons, List.map_nil, show m + 1 - 1 - m = 0 by omega, Nat.testBit_zero]
    cases b <;> simp <;> omega
def chs (n : Nat) : List D := (List.range (2 ^ n)).map fun a => .tup (ch n a)
theorem chs_step (m : Nat) : chs (m + 1) = (List.range (2 ^ m)).flatMap fun a => [.tup (ch m a ++ [.str []]), .tup (ch m a ++ [.str [97]])] := by
  unfold chs
  rw [Nat.pow_succ, Nat.mul_comm, range_double, List.map_flatMap]
  refine congrArg (fun f => List.flatMap f _) (funext fun a => ?_)
  have h0 := ch_step m a false
  have h1 := ch_step m a true
  rw [List.map_cons, List.map_cons, List.map_nil]
  rw [show 2 * a + 1 = 2 * a + true.toNat from rfl, h1]
  rw [show ch (m + 1) (2 * a) = ch (m + 1) (2 * a + false.toNat) from rfl, h0]
  rfl
theorem order_rows_ok {n : Nat} (hn : n ≤ 10) (S : Sto) (Q : WP) (E : XP) (h : Q (.dat (.ktup (chs n))) S) : w_order_rows [.tup (List.replicate n (.int 1))] S Q E := by
  unfold w_order_rows r_order_rows
  walk_at "fx"
  refine ⟨by decide, by decide, ?_⟩
  rw [show (M.lst [M.dat (D.tup [])]).toD = .lst (chs 0) from rfl]
  unfold r_order_rows_2
  rw [show List.replicate n (D.int 1) = (List.range n).map fun _ => D.int 1 by rw [List.map_const', List.length_range]]
  walk_at "fx"
  refine forV (fun l ρ => ∃ (m : M) (x y z : Option M), (m = .dat (.lst (chs l.length)) ∨ m = .lst ((chs l.length).map .dat)) ∧ ρ = [some (.dat (.tup ((List.range n).map fun _ => D.int 1))), some m, x, y, z]) ⟨_, none, none, none, .inl rfl, rfl⟩ ?_ ?_
  · rintro ρ ⟨m, x, y, z, h1, rfl⟩
    unfold r_order_rows_1
    rw [List.length_range] at h1
    rcases h1 with rfl | rfl
    · walk_at "fx"
      exact ⟨_, ld_dat _, h⟩
    · walk_at "fx"
      exact ⟨_, ld_lst _, h⟩
  · rintro l k r ρ W e ⟨m, x, y, z, h1, rfl⟩ ih
    have hln : l.length < n := by
      have := congrArg List.length e
      simp at this
      omega
    have step : ∀ (l0 : List D), l0 = chs l.length → compW2 (gN 3) fYes (fWalk (fCall w_orders (fCons (fVar 2) fNil))) (gN 4) fYes (fBin oAdd (fVar 3) (fTup (fCons (fDat (fVar 4)) fNil))) [3, 4] [4] [some (M.dat (D.tup ((List.range n).map fun _ => D.int 1))), some (M.dat (.lst (chs l.length))), some (M.dat (D.int 1)), y, z] (fun m S' => W [some (M.dat (D.tup ((List.range n).map fun _ => D.int 1))), some m, some (M.dat (D.int 1)), y, z] S') l0 [] S := by
      rintro _ rfl
      refine comp2V (f := fun a : Nat => .tup (ch l.length a)) (xs := List.range (2 ^ l.length)) (fun a => [.dat (.tup (ch l.length a ++ [.str []])), .dat (.tup (ch l.length a ++ [.str [97]]))]) ?_ fun l1 a r acc W1 e ea w => ?_
      · refine ih _ ⟨_, _, _, _, .inr ?_, rfl⟩
        rw [List.length_append, show [k].length = 1 from rfl, chs_step, List.map_flatMap]
        rfl
      · walk_at "fx"
        refine orders_ok S _ _ ?_
        have hp : 2 ^ l.length ≤ 1024 := Nat.le_trans (Nat.pow_le_pow_right (by decide) (by omega : l.length ≤ 10)) (by decide)
        have hacc : acc.length ≤ 2048 := by
          rw [ea]
          have h1 : (l1.flatMap fun a => [M.dat (.tup (ch l.length a ++ [.str []])), M.dat (.tup (ch l.length a ++ [.str [97]]))]).length = l1.length * 2 := by
            clear ea e w W1
            induction l1 with
            | nil => rfl
            | cons q l1 ih1 =>
              rw [List.flatMap_cons, List.length_append, ih1, List.length_cons]
              simp
              omega
          have h2 := congrArg List.length e
          simp at h2
          rw [h1]
          omega
        have hch : (ch l.length a).length = l.length := by unfold ch; simp
        show innerW _ _ _ _ _ W1 ([[], [97]].map D.str) acc S
        refine innerA (fun s : List Nat => M.dat (D.tup (ch l.length a ++ [D.str s]))) (by simp; omega) (by simpa using w) fun m1 b r1 K1 e1 k1 => ?_
        walk_at "fx"
        exact ⟨by decide, small_line (by omega), k1⟩
    rcases h1 with rfl | rfl
    · walk_at "fx"
      exact step _ rfl
    · walk_at "fx"
      exact step _ rfl
end K64
namespace K64
open PySem L2 L2.Fn
local macro_rules | `(tactic| walk_at "fx") => `(tactic| try simp only [mkW, fSeq, fAsg, gN, fC, fVar, fBin, fDat, fFrz, oAdd, oInt0, oInt, oIx, fIfS, fTru, oTru, fBl, fNot, fAnd, fOr, fNext, fRet, fRetV, fRetN, fLst, fTup, fNil, fCons, fCB, oLen, oIntC, oStrI, oTupC, oLstC, fApp, fSl, fPart, fNoP, oSl, fIf, fAndV, fOrV, fNotV, fIsi, M.ty, fM1, oIn, oEq, oNe, oLt, oLe, oGt, oGe, oSub, oMul, oFDiv, oMod, oPow, eqF, fDrop, fFor, fWalk, oWalk, fRng, oR1, oR2, fCall, fComp, fYes, wipeE, oCat, oRep,
  fComp2, oMulS, fNeg, oSum, fExt, M.sqD, fIdx, oIdx, keysD, Int.zero_add, oMin2, oMax2, oAbs, oI2, gTupP, gConsP, gNilP, fDict, fDSet, oDIx, oDIn, fDGet2, M.asD, oEnum, oZip, fFz, fSet0, fRevS, oRevS, fChain, oAll, oAny, oShl, oShr, oBand, oLstDN, oSortDN, oSortN, oRepT, fDComp, fCallU,
  List.length_cons, List.length_nil, List.map_cons, List.map_nil, List.cons_append, List.nil_append, List.append_nil, blanks, List.getElem?_cons_zero, List.getElem?_cons_succ, List.set_cons_zero, List.set_cons_succ, Option.some.injEq, exists_eq_left', true_and, and_true, Nat.reduceSub, Nat.reduceAdd, Nat.reduceLT, Nat.lt_add_one, M.dat.injEq, D.bl.injEq, D.int.injEq, Nat.zero_lt_succ, Nat.succ_lt_succ_iff, Nat.zero_lt_one, exists_eq_left, List.getElem?_nil, Bool.false_bne, Bool.false_xor, decide_eq_true_eq,
  ex_nil, ex_cons, ex_map, toD_lst, toD_dat, dats_nil, dats_cons, ld_l, ld_dat, ld_lst, Option.map_some, ex_some, kitI isi_int_int, kitI isi_int_bool, kitI isi_str_str, kitI isi_tup_tup, kitI isi_str_tup, M.lst.injEq, List.length_map, Bool.not_true, Bool.not_false, Bool.false_eq_true, if_true, if_false, reduceIte, endOf_nx, endOf_rt, endOf_ex, ex_pair, ex_dct, ex_cons2, Option.bind_some, Option.getD_some, Option.getD_none, flat_one, Int.toNat_natCast, gv_LETTERS])
/-! ### the program's books -/
theorem keep_prs {n a : Nat} {t : Tm} (h : t.1.length = n) : keep n a t = (prs 0 t.1).all fun q => a.testBit (n - 1 - q.1) := by
  unfold keep
  rw [← prs_range t.1, h, List.all_map, List.all_filter]
  congr 1
  funext k
  by_cases hz : t.1.getD k 0 = 0
  · rw [show decide (t.1.getD k 0 = 0) = true from decide_eq_true hz, show decide (0 < t.1.getD k 0) = false from decide_eq_false (by omega)]
    simp
  · rw [show decide (t.1.getD k 0 = 0) = false from decide_eq_false hz, show decide (0 < t.1.getD k 0) = true from decide_eq_true (by omega)]
    simp
theorem prs_lt {e : Ex} {q : Nat × Nat} (h : q ∈ prs 0 e) : q.1 < e.length ∧ 0 < q.2 := by
  rw [← prs_range e] at h
  obtain ⟨k, hk, rfl⟩ := List.mem_map.mp h
  exact ⟨List.mem_range.mp (List.mem_filter.mp hk).1, of_decide_eq_true (List.mem_filter.mp hk).2⟩
theorem ld_boolsP {α : Type} (l : List α) (f : α → Bool) : (M.lst (l.map fun k => M.dat (.bl (f k)))).ld = some (l.map fun k => D.bl (f k)) := by
  rw [show (l.map fun k => M.dat (.bl (f k))) = (l.map fun k => D.bl (f k)).map M.dat by rw [List.map_map]; rfl]
  exact ld_lst _
theorem boolsP_map {α : Type} (l : List α) (f : α → Bool) : boolsOf (l.map fun k => D.bl (f k)) = some (l.map f) := by
  induction l with
  | nil => rfl
  | cons k l ih => rw [List.map_cons, boolsOf, ih]; rfl
theorem plain_book_ok {n : Nat} (hn : n ≤ 10) (l : Pl) (S : Sto) (Q : WP) (E : XP) (hl : l.length ≤ 1000) (hL : Len n l) (h : Q (.dat (bookD n l)) S) : w_plain_book [.tup (List.replicate n (.int 1)), polyD l] S Q E := by
  unfold w_plain_book r_plain_book
  walk_at "fx"
  refine ⟨by decide, ?_⟩
  unfold r_plain_book_4
  walk_at "fx"
  refine order_rows_ok hn S _ _ ?_
  unfold chs
  walk_at "fx"
  have p2 : 2 ^ n ≤ 1024 := Nat.pow_le_pow_right (by decide) hn
  refine forV (fun l0 ρ => ∃ x y z u v w : Option M, ρ = [some (.dat (.tup (List.replicate n (.int 1)))), some (.dat (polyD l)), some (.lst (((l0.map fun a => nfl (l.filter (keep n a))).map polyD).map .dat)), x, y, z, u, v, w]) ⟨none, none, none, none, none, none, rfl⟩ ?_ ?_
  · rintro ρ ⟨x, y, z, u, v, w, rfl⟩
    unfold r_plain_book_3
    walk_at "fx"
    exact ⟨_, dats_map _, by decide, h⟩
  · rintro l0 a r ρ W e ⟨x, y, z, u, v, w, rfl⟩ ih
    have hl0 : l0.length ≤ 1024 := by
      have := congrArg List.length e
      simp at this
      omega
    walk_at "fx"
    refine ⟨by decide, ?_⟩
    unfold r_plain_book_2
    rw [show polyD l = .tup (l.map tmD) from rfl]
    walk_at "fx"
    refine forV (fun m ρ => ∃ z u v w : Option M, ρ = [some (.dat (.tup (List.replicate n (.int 1)))), some (.dat (polyD l)), some (.lst (((l0.map fun a => nfl (l.filter (keep n a))).map polyD).map .dat)), some (.dat (.tup (ch n a))), some (.lst (((m.filter (keep n a)).map tmD).map .dat)), z, u, v, w]) ⟨z, u, v, w, rfl⟩ ?_ ?_
    · rintro ρ ⟨z, u, v, w, rfl⟩
      unfold r_plain_book_1
      walk_at "fx"
      have hf := List.length_filter_le (keep n a) l
      refine ⟨small_line' (by omega), _, dats_map _, ?_⟩
      refine from_poly_ok (n := n) (by omega) (l.filter (keep n a)) S _ _ (by omega) (fun t ht => hL t (List.mem_filter.mp ht).1) ?_
      exact ih _ ⟨some (.dat (.tup (ch n a))), some (.lst (((l.filter (keep n a)).map tmD).map .dat)), z, u, v, w, by rw [List.map_append, List.map_append, List.map_append]; rfl⟩
    · rintro m t r1 ρ W1 e1 ⟨z, u, v, w, rfl⟩ ih1
      have hlt := hL t (by rw [e1]; simp)
      rw [show tmD t = .tup [moD t.1, .int t.2] from rfl, show moD t.1 = .tup ((prs 0 t.1).map pD) from rfl]
      walk_at "fx"
      refine compA (fun q : Nat × Nat => .dat (.bl (a.testBit (n - 1 - q.1)))) (by have := prs_len t.1 0; omega) ?_ fun l1 q r2 K1 e2 k1 => ?_
      · refine ⟨_, ld_boolsP _ _, _, boolsP_map _ _, ?_⟩
        rw [show ((prs 0 t.1).map fun q => a.testBit (n - 1 - q.1)).all id = keep n a t by rw [List.all_map, keep_prs hlt]; rfl]
        by_cases hk : keep n a t = true
        · rw [if_pos hk]
          have := List.length_filter_le (keep n a) m
          rw [e1] at hl
          simp at hl
          refine ⟨small_line' (by omega), by decide, ih1 _ ⟨some (.dat (moD t.1)), some (.dat (.int t.2)), v, w, ?_⟩⟩
          rw [List.filter_append, List.filter_cons, if_pos hk, List.map_append, List.map_append]
          rfl
        · rw [if_neg hk]
          refine ih1 _ ⟨some (.dat (moD t.1)), some (.dat (.int t.2)), v, w, ?_⟩
          rw [List.filter_append, List.filter_cons, if_neg hk, List.filter_nil, List.append_nil]
          rfl
      · have hq : q ∈ prs 0 t.1 := by rw [e2]; simp
        have hql := (prs_lt hq).1
        have hca : atI (ch n a) (q.1 : Int) = some (.str (if a.testBit (n - 1 - q.1) = true then [97] else [])) := atI_n (by unfold ch; rw [List.getElem?_map, List.getElem?_range (by omega)]; rfl)
        rw [show pD q = .tup [.tup [.int (q.1 : Int), .str [97], .str []], .int (q.2 : Int)] from rfl]
        walk_at "fx"
        refine ⟨_, rfl, _, rfl, ?_⟩
        walk_at "fx"
        refine ⟨_, hca, ?_⟩
        cases hb : a.testBit (n - 1 - q.1)
        · rw [hb] at k1
          simpa using k1
        · rw [hb] at k1
          simpa using k1
end K64
namespace K64
open PySem L2 L2.Fn
local macro_rules | `(tactic| walk_at "fx") => `(tactic| try simp only [mkW, fSeq, fAsg, gN, fC, fVar, fBin, fDat, fFrz, oAdd, oInt0, oInt, oIx, fIfS, fTru, oTru, fBl, fNot, fAnd, fOr, fNext, fRet, fRetV, fRetN, fLst, fTup, fNil, fCons, fCB, oLen, oIntC, oStrI, oTupC, oLstC, fApp, fSl, fPart, fNoP, oSl, fIf, fAndV, fOrV, fNotV, fIsi, M.ty, fM1, oIn, oEq, oNe, oLt, oLe, oGt, oGe, oSub, oMul, oFDiv, oMod, oPow, eqF, fDrop, fFor, fWalk, oWalk, fRng, oR1, oR2, fCall, fComp, fYes, wipeE, oCat, oRep,
  fComp2, oMulS, fNeg, oSum, fExt, M.sqD, fIdx, oIdx, keysD, Int.zero_add, oMin2, oMax2, oAbs, oI2, gTupP, gConsP, gNilP, fDict, fDSet, oDIx, oDIn, fDGet2, M.asD, oEnum, oZip, fFz, fSet0, fRevS, oRevS, fChain, oAll, oAny, oShl, oShr, oBand, oLstDN, oSortDN, oSortN, oRepT, fDComp, fCallU,
  List.length_cons, List.length_nil, List.map_cons, List.map_nil, List.cons_append, List.nil_append, List.append_nil, blanks, List.getElem?_cons_zero, List.getElem?_cons_succ, List.set_cons_zero, List.set_cons_succ, Option.some.injEq, exists_eq_left', true_and, and_true, Nat.reduceSub, Nat.reduceAdd, Nat.reduceLT, Nat.lt_add_one, M.dat.injEq, D.bl.injEq, D.int.injEq, Nat.zero_lt_succ, Nat.succ_lt_succ_iff, Nat.zero_lt_one, exists_eq_left, List.getElem?_nil, Bool.false_bne, Bool.false_xor, decide_eq_true_eq,
  ex_nil, ex_cons, ex_map, toD_lst, toD_dat, dats_nil, dats_cons, ld_l, ld_dat, ld_lst, Option.map_some, ex_some, kitI isi_int_int, kitI isi_int_bool, kitI isi_str_str, kitI isi_tup_tup, kitI isi_str_tup, M.lst.injEq, List.length_map, Bool.not_true, Bool.not_false, Bool.false_eq_true, if_true, if_false, reduceIte, endOf_nx, endOf_rt, endOf_ex, ex_pair, ex_dct, ex_cons2, Option.bind_some, Option.getD_some, Option.getD_none, flat_one, Int.toNat_natCast, gv_LETTERS])
/-! ### what a sorted set walks -/
theorem innerSA {α : Type} {f : α → D} {g1 : FG} {t : FE} {vs1 : List Nat} {ρ : Ev} {K : List D → Sto → Prop} {xs : List α} {acc : List D} {S : Sto} (v : α → D) (hf : ∀ x ∈ xs, flatD (v x)) (hl : acc.length + xs.length ≤ 62) (hd : K (acc ++ xs.map v) S)
    (hs : ∀ (l : List α) (x : α) (r : List α) (K1 : M → Sto → Prop), xs = l ++ x :: r → K1 (.dat (v x)) S → g1 (.dat (f x)) (wipeE ρ vs1) fun ρ1 => t ρ1 S K1 noX) :
    innerS g1 fYes t vs1 ρ K (xs.map f) acc S := by
  have : ∀ (r l : List α), xs = l ++ r → innerS g1 fYes t vs1 ρ K (r.map f) (acc ++ l.map v) S := by
    intro r
    induction r with
    | nil => intro l e; rw [List.append_nil] at e; subst e; exact hd
    | cons x r ih =>
      intro l e
      have h1 := ih (l ++ [x]) (by rw [e]; simp)
      refine hs l x r (fun m S3 => (acc ++ l.map v).length < 62 ∧ ∃ d, m = .dat d ∧ flatD d ∧ innerS g1 fYes t vs1 ρ K (r.map f) (acc ++ l.map v ++ [d]) S3) e ⟨?_, _, rfl, hf x (by rw [e]; simp), ?_⟩
      · have := congrArg List.length e
        simp at this
        rw [List.length_append, List.length_map]
        omega
      · simpa using h1
  have := this xs [] rfl
  simpa using this
theorem compSV {α : Type} {f : α → D} {g : FG} {c : FT} {ti1 : FI} {g1 : FG} {c1 : FT} {t : FE} {vs vs1 : List Nat} {ρ : Ev} {Q : List D → Sto → Prop} {xs : List α} {S : Sto} (vals : α → List D) (hd : Q (xs.flatMap vals) S)
    (hs : ∀ (l : List α) (x : α) (r : List α) (acc : List D) (W : List D → Sto → Prop), xs = l ++ x :: r → acc = l.flatMap vals → W (acc ++ vals x) S →
      g (.dat (f x)) (wipeE ρ vs) fun ρ1 => c ρ1 S (fun b S2 => if b = true then ti1 ρ1 S2 (fun es S3 => innerS g1 c1 t vs1 ρ1 W es acc S3) noX else W acc S2) noX) :
    compS g c ti1 g1 c1 t vs vs1 ρ Q (xs.map f) [] S := by
  have : ∀ (r l : List α), xs = l ++ r → compS g c ti1 g1 c1 t vs vs1 ρ Q (r.map f) (l.flatMap vals) S := by
    intro r
    induction r with
    | nil => intro l e; rw [List.append_nil] at e; subst e; exact hd
    | cons x r ih =>
      intro l e
      refine hs l x r _ (fun a S' => compS g c ti1 g1 c1 t vs vs1 ρ Q (r.map f) a S') e rfl ?_
      have := ih (l ++ [x]) (by rw [e]; simp)
      simpa using this
  exact this xs [] rfl
/-- names of variables as the program has them -/
abbrev Nm := Nat × List Nat × List Nat
abbrev Gt := List (Nm × Nat) × Int
def nD (d : Nm) : D := .tup [.int (d.1 : Int), .str d.2.1, .str d.2.2]
def nK (d : Nm) : NK := .t [.i d.1, .s d.2.1, .s d.2.2]
def qD (p : Nm × Nat) : D := .tup [nD p.1, .int (p.2 : Int)]
def gtD (t : Gt) : D := .tup [.tup (t.1.map qD), .int t.2]
def gD (g : List Gt) : D := .tup (g.map gtD)
def names (g : List Gt) : List Nm := g.flatMap fun t => t.1.map (·.1)
theorem nD_nk (d : Nm) : (nD d).nk = some (nK d) := by simp [nD, nK, D.nk, D.nks]
theorem nD_key (d : Nm) : (nD d).nkey = nK d := by unfold D.nkey; rw [nD_nk]; rfl
theorem nD_flat (d : Nm) : flatD (nD d) := ⟨_, nD_nk d, by simp [NK.dep, NK.deps]⟩
theorem nD_inj {a b : Nm} (h : nD a = nD b) : a = b := by
  unfold nD at h
  simp only [D.tup.injEq, List.cons.injEq, D.int.injEq, D.str.injEq, and_true] at h
  exact Prod.ext (by omega) (Prod.ext h.2.1 h.2.2)
theorem mem_nD {d : Nm} {l : List Nm} : nD d ∈ l.map nD ↔ d ∈ l := by
  rw [List.mem_map]
  exact ⟨fun ⟨a, h, e⟩ => nD_inj e ▸ h, fun h => ⟨d, h, rfl⟩⟩
theorem Cm_n (a b : Nm) : Cm (nK a) (nK b) = true := by
  unfold nK
  rw [Cm, Cms]
  split
  · rw [Cms]
    split
    · rw [Cms]
      split
      · rw [Cms]
      · simp [Cm]
    · simp [Cm]
  · simp [Cm]
theorem variables_ok (g : List Gt) (S : Sto) (Q : WP) (E : XP) (hl : (names g).length ≤ 60) (h : ∀ ys : List Nm, (∀ d, d ∈ ys ↔ d ∈ names g) → Q (.dat (.tup (ys.map nD))) S) : w_variables_in [gD g] S Q E := by
  unfold w_variables_in r_variables_in gD
  walk_at "fx"
  unfold fSortS
  walk_at "fx"
  have hlen : ∀ a b : List Gt, g = a ++ b → (names a).length + (names b).length ≤ 60 := fun a b e => by
    rw [e] at hl
    unfold names at hl ⊢
    rw [List.flatMap_append, List.length_append] at hl
    exact hl
  refine compSV (fun t : Gt => (t.1.map (·.1)).map nD) ?_ fun l t r acc W e ea w => ?_
  · rw [show (g.flatMap fun t => (t.1.map (·.1)).map nD) = (names g).map nD by unfold names; rw [List.map_flatMap]]
    refine ⟨fun d hd e he => ?_, fun ys nd my sy => ?_⟩
    · obtain ⟨a, _, rfl⟩ := List.mem_map.mp hd
      obtain ⟨b, _, rfl⟩ := List.mem_map.mp he
      rw [nD_key, nD_key]
      exact Cm_n a b
    · obtain ⟨zs, rfl⟩ : ∃ zs : List Nm, ys = zs.map nD := by
        clear nd sy
        have : ∀ d ∈ ys, ∃ a, nD a = d := fun d hd => by
          obtain ⟨a, _, e⟩ := List.mem_map.mp ((my d).mp hd)
          exact ⟨a, e⟩
        clear my
        induction ys with
        | nil => exact ⟨[], rfl⟩
        | cons y ys ih =>
          obtain ⟨a, e⟩ := this y List.mem_cons_self
          obtain ⟨zs, e2⟩ := ih fun d hd => this d (List.mem_cons_of_mem _ hd)
          exact ⟨a :: zs, by rw [e2, ← e]; rfl⟩
      refine ⟨_, ld_lst _, h zs fun d => ?_⟩
      have := my (nD d)
      rw [mem_nD, mem_nD] at this
      exact this
  · rw [show gtD t = .tup [.tup (t.1.map qD), .int t.2] from rfl]
    walk_at "fx"
    have h1 := hlen l (t :: r) e
    have h2 : acc.length = (names l).length := by
      rw [ea]
      unfold names
      rw [List.length_flatMap, List.length_flatMap]
      simp
    refine innerSA (fun p : Nm × Nat => nD p.1) (fun p _ => nD_flat p.1) ?_ ?_ fun m p r1 K1 e1 k1 => ?_
    · unfold names at h1 h2
      rw [List.flatMap_cons, List.length_append, List.length_map] at h1
      omega
    · rw [List.map_map] at w
      exact w
    · rw [show qD p = .tup [nD p.1, .int (p.2 : Int)] from rfl]
      walk_at "fx"
      exact k1
def toG (t : Tm) : Gt := ((prs 0 t.1).map fun q => ((q.1, [97], []), q.2), t.2)
theorem polyD_g (l : Pl) : polyD l = gD (l.map toG) := by
  unfold polyD gD
  rw [List.map_map]
  congr 1
  refine List.map_congr_left fun t _ => ?_
  show tmD t = gtD (toG t)
  unfold gtD toG
  rw [List.map_map]
  rfl
def goodN (n : Nat) (d : Nm) : Bool := decide (d.1 < n) && decide (d.2 = ([97], []))
theorem names_toG {n : Nat} {l : Pl} (hL : Len n l) : ∀ d ∈ names (l.map toG), goodN n d = true := fun d hd => by
  unfold names at hd
  rw [List.flatMap_map] at hd
  obtain ⟨t, ht, hd⟩ := List.mem_flatMap.mp hd
  unfold toG at hd
  rw [List.map_map] at hd
  obtain ⟨q, hq, rfl⟩ := List.mem_map.mp hd
  have := (prs_lt hq).1
  rw [hL t ht] at this
  simp [goodN, this]
theorem eq2 (a b c d : List Nat) : PyData.eqv (.tuple [.str ⟨a.toArray⟩, .str ⟨b.toArray⟩]) (.tuple [.str ⟨c.toArray⟩, .str ⟨d.toArray⟩]) = decide ((a, b) = (c, d)) := by
  rw [PyData.eqv, PyData.eqvAll, PyData.eqvAll, PyData.eqvAll, PyData.eqv, PyData.eqv]
  have h : ∀ x y : List Nat, ((⟨x.toArray⟩ : Str) == ⟨y.toArray⟩) = decide (x = y) := fun x y => by
    by_cases e : x = y
    · subst e; simp
    · rw [decide_eq_false e]
      rw [beq_eq_false_iff_ne]
      intro z
      apply e
      simpa using z
  rw [h, h]
  by_cases h1 : a = c <;> by_cases h2 : b = d <;> simp [h1, h2]
def okN (d : Nm) : Prop := SeqAt.shaped (.tuple [.str ⟨d.2.1.toArray⟩, .str ⟨d.2.2.toArray⟩]) = true
theorem okN_good {n : Nat} {d : Nm} (h : goodN n d = true) : okN d := by
  have h2 : d.2 = ([97], []) := of_decide_eq_true (Bool.and_eq_true_iff.mp h).2
  unfold okN
  rw [h2]
  decide +kernel
/-- the walk over the variables: all are good, or the first bad one is refused -/
theorem border_ok {n : Nat} (g : List Gt) (S : Sto) (Q : WP) (E : XP) (hn : n ≤ 10) (hl : (names g).length ≤ 60) (hok : ∀ d ∈ names g, okN d)
    (h : (∀ d ∈ names g, goodN n d = true) → ∀ x : Option M, r_border_books_5 (endOf Q E) [some (.dat (.int n)), some (.dat (gD g)), x, none, none, none, none, none] S)
    (hE : ∀ d ∈ names g, goodN n d = false → E ⟨Str.ofString "Malformed", [(Str.ofString "what", .str [101, 113, 117, 97, 116, 105, 111, 110])]⟩ S) : w_border_books [.int n, gD g] S Q E := by
  unfold w_border_books r_border_books
  walk_at "fx"
  refine variables_ok g S _ _ hl fun ys hy => ?_
  walk_at "fx"
  refine forV (fun l ρ => (∀ d ∈ l, goodN n d = true) ∧ ∃ x : Option M, ρ = [some (.dat (.int n)), some (.dat (gD g)), x, none, none, none, none, none]) ⟨by simp, none, rfl⟩ ?_ ?_
  · rintro ρ ⟨h1, x, rfl⟩
    exact h (fun d hd => h1 d ((hy d).mpr hd)) x
  · rintro l d r ρ W e ⟨h1, x, rfl⟩ ih
    have hd : d ∈ names g := (hy d).mp (by rw [e]; simp)
    rw [show nD d = .tup [.int (d.1 : Int), .str d.2.1, .str d.2.2] from rfl]
    walk_at "fx"
    refine ⟨_, rfl, ?_⟩
    have bad : goodN n d = false → ∀ (ρ : Ev) (P : EndP), P.ex = (endOf Q E).ex → fRaise1 (Str.ofString "Malformed") (Str.ofString "what") (fC (D.str [101, 113, 117, 97, 116, 105, 111, 110])) P ρ S := fun hb ρ P hP => by
      refine ⟨_, rfl, ?_⟩
      rw [hP]
      exact hE d hd hb
    walk_at "fx"
    rw [if_pos (by omega)]
    by_cases h2 : d.1 < n
    · rw [if_neg (by simp; omega)]
      refine ⟨by decide, _, _, rfl, rfl, hok d hd, by decide +kernel, _, rfl, ?_⟩
      rw [eq2]
      by_cases h3 : (d.2.1, d.2.2) = ([97], [])
      · rw [decide_eq_true h3, if_neg (by simp)]
        exact ih _ ⟨fun x hx => by
          rcases List.mem_append.mp hx with z | z
          · exact h1 x z
          · rw [List.mem_singleton.mp z]
            unfold goodN
            rw [decide_eq_true h2, decide_eq_true h3]
            rfl, _, rfl⟩
      · rw [decide_eq_false h3, if_pos (by simp)]
        exact bad (by unfold goodN; rw [decide_eq_true h2, decide_eq_false h3]; rfl) _ _ rfl
    · rw [if_pos (by simp; omega)]
      exact bad (by unfold goodN; rw [decide_eq_false h2]; rfl) _ _ rfl
end K64
namespace K64
open PySem L2 L2.Fn
local macro_rules | `(tactic| walk_at "fx") => `(tactic| try simp only [mkW, fSeq, fAsg, gN, fC, fVar, fBin, fDat, fFrz, oAdd, oInt0, oInt, oIx, fIfS, fTru, oTru, fBl, fNot, fAnd, fOr, fNext, fRet, fRetV, fRetN, fLst, fTup, fNil, fCons, fCB, oLen, oIntC, oStrI, oTupC, oLstC, fApp, fSl, fPart, fNoP, oSl, fIf, fAndV, fOrV, fNotV, fIsi, M.ty, fM1, oIn, oEq, oNe, oLt, oLe, oGt, oGe, oSub, oMul, oFDiv, oMod, oPow, eqF, fDrop, fFor, fWalk, oWalk, fRng, oR1, oR2, fCall, fComp, fYes, wipeE, oCat, oRep,
  fComp2, oMulS, fNeg, oSum, fExt, M.sqD, fIdx, oIdx, keysD, Int.zero_add, oMin2, oMax2, oAbs, oI2, gTupP, gConsP, gNilP, fDict, fDSet, oDIx, oDIn, fDGet2, M.asD, oEnum, oZip, fFz, fSet0, fRevS, oRevS, fChain, oAll, oAny, oShl, oShr, oBand, oLstDN, oSortDN, oSortN, oRepT, fDComp, fCallU,
  List.length_cons, List.length_nil, List.map_cons, List.map_nil, List.cons_append, List.nil_append, List.append_nil, blanks, List.getElem?_cons_zero, List.getElem?_cons_succ, List.set_cons_zero, List.set_cons_succ, Option.some.injEq, exists_eq_left', true_and, and_true, Nat.reduceSub, Nat.reduceAdd, Nat.reduceLT, Nat.lt_add_one, M.dat.injEq, D.bl.injEq, D.int.injEq, Nat.zero_lt_succ, Nat.succ_lt_succ_iff, Nat.zero_lt_one, exists_eq_left, List.getElem?_nil, Bool.false_bne, Bool.false_xor, decide_eq_true_eq,
  ex_nil, ex_cons, ex_map, toD_lst, toD_dat, dats_nil, dats_cons, ld_l, ld_dat, ld_lst, Option.map_some, ex_some, kitI isi_int_int, kitI isi_int_bool, kitI isi_str_str, kitI isi_tup_tup, kitI isi_str_tup, M.lst.injEq, List.length_map, Bool.not_true, Bool.not_false, Bool.false_eq_true, if_true, if_false, reduceIte, endOf_nx, endOf_rt, endOf_ex, ex_pair, ex_dct, ex_cons2, Option.bind_some, Option.getD_some, Option.getD_none, flat_one, Int.toNat_natCast, gv_LETTERS])
/-! ### how great the numbers are -/
def N : Pl → Nat
  | [] => 0
  | t :: ts => t.2.natAbs + N ts
theorem N_app (a b : Pl) : N (a ++ b) = N a + N b := by
  induction a with
  | nil => simp [N]
  | cons t a ih => rw [List.cons_append, N, N, ih]; omega
theorem N_perm {a b : Pl} (h : a.Perm b) : N a = N b := by
  induction h with
  | nil => rfl
  | cons y _ ih => rw [N, N, ih]
  | swap y z l => simp only [N]; omega
  | trans _ _ h1 h2 => rw [h1, h2]
theorem N_filter (p : Tm → Bool) (a : Pl) : N (a.filter p) ≤ N a := by
  induction a with
  | nil => exact Nat.le_refl _
  | cons t a ih =>
    rw [List.filter_cons]
    split
    · rw [N, N]; omega
    · rw [N]; omega
theorem N_ng (a : Pl) : N (a.map ngT) = N a := by
  induction a with
  | nil => rfl
  | cons t a ih =>
    rw [List.map_cons, N, N, ih]
    show (-t.2).natAbs + _ = _
    omega
theorem N_upd (acc : Pl) (t : Tm) : acc.length = acc.length ∧ ((acc.map (·.1)).Nodup → N (acc.map fun q => if q.1 = t.1 then (q.1, q.2 + t.2) else q) ≤ N acc + t.2.natAbs) := by
  refine ⟨rfl, ?_⟩
  induction acc with
  | nil => intro _; exact Nat.zero_le _
  | cons q acc ih =>
    intro nd
    rw [List.map_cons, List.nodup_cons] at nd
    rw [List.map_cons, N, N]
    by_cases hq : q.1 = t.1
    · have no : acc.map (fun q => if q.1 = t.1 then (q.1, q.2 + t.2) else q) = acc := by
        refine (List.map_congr_left (g := id) fun r hr => ?_).trans (List.map_id acc)
        rw [if_neg fun z => nd.1 (by rw [hq, ← z]; exact List.mem_map.mpr ⟨r, hr, rfl⟩)]
        rfl
      rw [no, if_pos hq]
      show (q.2 + t.2).natAbs + _ ≤ _
      omega
    · have := ih nd.2
      rw [if_neg hq]
      omega
theorem N_add1 {acc : Pl} (t : Tm) (nd : (acc.map (·.1)).Nodup) : N (add1 acc t) ≤ N acc + t.2.natAbs := by
  unfold add1
  split
  · exact (N_upd acc t).2 nd
  · rw [N_app]; exact Nat.le_refl _
theorem N_gather (ts : Pl) : N (gather ts) ≤ N ts := by
  have : ∀ (ts acc : Pl), (acc.map (·.1)).Nodup → N (ts.foldl add1 acc) ≤ N acc + N ts := by
    intro ts
    induction ts with
    | nil => exact fun acc _ => Nat.le_refl _
    | cons t ts ih =>
      intro acc nd
      have h1 := ih _ (add1_nodup t nd)
      have h2 := N_add1 t nd
      rw [List.foldl_cons, N]
      omega
  have := this ts [] List.nodup_nil
  rw [show N [] = 0 from rfl, Nat.zero_add] at this
  exact this
theorem N_coll (ts : Pl) : N (coll ts) ≤ N ts := Nat.le_trans (N_filter _ _) (N_gather ts)
theorem N_nfl (ts : Pl) : N (nfl ts) ≤ N ts := by rw [N_perm (nfl_perm ts)]; exact N_coll ts
theorem N_prods (ts us : Pl) : N (prods ts us) = N ts * N us := by
  induction ts with
  | nil => show 0 = 0 * _; rw [Nat.zero_mul]
  | cons a ts ih =>
    have one : ∀ us : Pl, N (us.map fun b => (pl2 a.1 b.1, a.2 * b.2)) = a.2.natAbs * N us := by
      intro us
      induction us with
      | nil => rfl
      | cons b us ihu =>
        rw [List.map_cons, N, N, ihu, Nat.mul_add]
        show (a.2 * b.2).natAbs + _ = _
        rw [Int.natAbs_mul]
    show N ((us.map fun b => (pl2 a.1 b.1, a.2 * b.2)) ++ prods ts us) = (a.2.natAbs + N ts) * N us
    rw [N_app, one us, ih, Nat.add_mul]
theorem N_mem {l : Pl} {t : Tm} (h : t ∈ l) : t.2.natAbs ≤ N l := by
  induction l with
  | nil => cases h
  | cons q l ih =>
    rw [N]
    rcases List.mem_cons.mp h with z | z
    · rw [z]; omega
    · have := ih z; omega
theorem Bd_of {l : Pl} {k : Nat} (h : N l < 2 ^ k) (hk : k < 400000) : Bd l := fun t ht => by
  have h1 := N_mem ht
  by_cases z : t.2.natAbs = 0
  · rw [z]; decide
  · have := (Nat.log2_lt z).mpr (Nat.lt_of_le_of_lt h1 h)
    omega
/-! ### congruence of books -/
theorem cf_keep (p : Ex → Bool) (l : Pl) (e : Ex) : cf (l.filter fun t => p t.1) e = if p e = true then cf l e else 0 := by
  induction l with
  | nil => simp [cf]
  | cons t l ih =>
    rw [List.filter_cons]
    by_cases ht : t.1 = e
    · by_cases hp : p e = true
      · rw [if_pos (by rw [ht]; exact hp), cf, cf, ih, if_pos hp, if_pos hp]
      · rw [if_neg (by rw [ht]; exact hp), ih, if_neg hp, if_neg hp]
    · rw [cf, if_neg ht, Int.zero_add]
      split
      · rw [cf, if_neg ht, ih, Int.zero_add]
      · exact ih
theorem bookD_congr {n : Nat} {a b : Pl} (ha : Len n a) (hb : Len n b) (h : ∀ e, cf a e = cf b e) : bookD n a = bookD n b := by
  unfold bookD rows
  congr 4
  rw [List.map_map, List.map_map]
  refine List.map_congr_left fun k _ => ?_
  show polyD _ = polyD _
  congr 1
  refine nfl_congr (n := n) (fun t ht => ha t (List.mem_filter.mp ht).1) (fun t ht => hb t (List.mem_filter.mp ht).1) fun e => ?_
  have := fun l => cf_keep (fun x => keep n k (x, 0)) l e
  rw [show a.filter (keep n k) = a.filter fun t => keep n k (t.1, 0) from rfl, show b.filter (keep n k) = b.filter fun t => keep n k (t.1, 0) from rfl, this, this, h]
end K64
namespace K64
open PySem L2 L2.Fn
local macro_rules | `(tactic| walk_at "fx") => `(tactic| try simp only [mkW, fSeq, fAsg, gN, fC, fVar, fBin, fDat, fFrz, oAdd, oInt0, oInt, oIx, fIfS, fTru, oTru, fBl, fNot, fAnd, fOr, fNext, fRet, fRetV, fRetN, fLst, fTup, fNil, fCons, fCB, oLen, oIntC, oStrI, oTupC, oLstC, fApp, fSl, fPart, fNoP, oSl, fIf, fAndV, fOrV, fNotV, fIsi, M.ty, fM1, oIn, oEq, oNe, oLt, oLe, oGt, oGe, oSub, oMul, oFDiv, oMod, oPow, eqF, fDrop, fFor, fWalk, oWalk, fRng, oR1, oR2, fCall, fComp, fYes, wipeE, oCat, oRep,
  fComp2, oMulS, fNeg, oSum, fExt, M.sqD, fIdx, oIdx, keysD, Int.zero_add, oMin2, oMax2, oAbs, oI2, gTupP, gConsP, gNilP, fDict, fDSet, oDIx, oDIn, fDGet2, M.asD, oEnum, oZip, fFz, fSet0, fRevS, oRevS, fChain, oAll, oAny, oShl, oShr, oBand, oLstDN, oSortDN, oSortN, oRepT, fDComp, fCallU,
  List.length_cons, List.length_nil, List.map_cons, List.map_nil, List.cons_append, List.nil_append, List.append_nil, blanks, List.getElem?_cons_zero, List.getElem?_cons_succ, List.set_cons_zero, List.set_cons_succ, Option.some.injEq, exists_eq_left', true_and, and_true, Nat.reduceSub, Nat.reduceAdd, Nat.reduceLT, Nat.lt_add_one, M.dat.injEq, D.bl.injEq, D.int.injEq, Nat.zero_lt_succ, Nat.succ_lt_succ_iff, Nat.zero_lt_one, exists_eq_left, List.getElem?_nil, Bool.false_bne, Bool.false_xor, decide_eq_true_eq,
  ex_nil, ex_cons, ex_map, toD_lst, toD_dat, dats_nil, dats_cons, ld_l, ld_dat, ld_lst, Option.map_some, ex_some, kitI isi_int_int, kitI isi_int_bool, kitI isi_str_str, kitI isi_tup_tup, kitI isi_str_tup, M.lst.injEq, List.length_map, Bool.not_true, Bool.not_false, Bool.false_eq_true, if_true, if_false, reduceIte, endOf_nx, endOf_rt, endOf_ex, ex_pair, ex_dct, ex_cons2, Option.bind_some, Option.getD_some, Option.getD_none, flat_one, Int.toNat_natCast, gv_LETTERS])
theorem nfl_of_red {ts : Pl} (hR : Red ts) : (nfl ts).Perm ts := (nfl_red ts).perm hR (cf_nfl ts)
theorem sq_cf {ts : Pl} (hR : Red ts) (e : Ex) : cf (nfl (prods (nfl ts) (nfl ts))) e = cf (sqr ts) e := by
  rw [cf_nfl]
  unfold sqr
  rw [cf_coll]
  exact cf_perm (prods_perm (nfl_of_red hR) (nfl_of_red hR)) e
theorem sq_perm {ts : Pl} (hR : Red ts) : (nfl (prods (nfl ts) (nfl ts))).Perm (sqr ts) := (nfl_red _).perm (coll_red _) (sq_cf hR)
theorem border_good {n : Nat} (hn : n ≤ 10) (ts : Pl) (S : Sto) (Q : WP) (E : XP) (hl : ts.length ≤ 20) (hL : Len n ts) (hR : Red ts) (hN : N ts < 2 ^ 1000) (hp : (names ((nfl ts).map toG)).length ≤ 60) (h : Q (.dat (dueD n ts)) S) : w_border_books [.int n, polyD (nfl ts)] S Q E := by
  have hg := names_toG (nfl_len hL)
  rw [polyD_g]
  refine border_ok _ S Q E hn hp (fun d hd => okN_good (hg d hd)) (fun _ x => ?_) fun d hd hb => ?_
  · rw [← polyD_g]
    have l1 : (nfl ts).length ≤ 20 := by rw [(nfl_of_red hR).length_eq]; exact hl
    have n1 : N (nfl ts) < 2 ^ 1000 := Nat.lt_of_le_of_lt (N_nfl ts) hN
    have sl : (nfl (prods (nfl ts) (nfl ts))).length ≤ 400 := by rw [(sq_perm hR).length_eq]; exact sqr_le hl
    have sL : Len n (nfl (prods (nfl ts) (nfl ts))) := nfl_len (prods_lens (nfl_len hL) (nfl_len hL))
    have sN : N (nfl (prods (nfl ts) (nfl ts))) < 2 ^ 2000 := by
      refine Nat.lt_of_le_of_lt (N_nfl _) ?_
      rw [N_prods, show 2000 = 1000 + 1000 from rfl, Nat.pow_add]
      exact Nat.mul_lt_mul'' n1 n1
    unfold r_border_books_5
    walk_at "fx"
    refine multiplied_ok (n := n) (by omega) (nfl ts) (nfl ts) S _ _ (by omega) (by omega) (nfl_len hL) (nfl_len hL) (Bd_of n1 (by decide)) (Bd_of n1 (by decide)) ?_
    unfold r_border_books_4
    rw [show polyD (nfl (prods (nfl ts) (nfl ts))) = .tup ((nfl (prods (nfl ts) (nfl ts))).map tmD) from rfl]
    generalize hsq : nfl (prods (nfl ts) (nfl ts)) = sq at *
    walk_at "fx"
    refine compM (fun t => decide (0 < t.2)) (fun t => M.dat (tmD t)) (by omega) ?_ fun l1 t r1 K1 K2 e1 k1 k2 => ?_
    · rw [show (fun t : Tm => M.dat (tmD t)) = M.dat ∘ tmD from rfl, ← List.map_map, show sq.filter (fun t => decide (0 < t.2)) = pos sq from rfl]
      walk_at "fx"
      refine ⟨_, ld_lst _, ?_⟩
      unfold r_border_books_3
      walk_at "fx"
      refine compM (fun t => decide (t.2 < 0)) (fun t => M.dat (tmD t)) (by omega) ?_ fun l1 t r1 K1 K2 e1 k1 k2 => ?_
      · rw [show (fun t : Tm => M.dat (tmD t)) = M.dat ∘ tmD from rfl, ← List.map_map]
        walk_at "fx"
        refine ⟨_, ld_lst _, ?_⟩
        have fl := List.length_filter_le (fun t : Tm => decide (t.2 < 0)) sq
        have fN := N_filter (fun t : Tm => decide (t.2 < 0)) sq
        have fL : Len n (sq.filter fun t => decide (t.2 < 0)) := fun t ht => sL t (List.mem_filter.mp ht).1
        refine scaled_ok (n := n) (by omega) (sq.filter fun t => decide (t.2 < 0)) S _ _ (by omega) fL (Bd_of (Nat.lt_of_le_of_lt fN sN) (by decide)) ?_
        unfold r_border_books_2
        walk_at "fx"
        refine ⟨by decide, by simp, by omega, by omega, by decide, ?_⟩
        unfold r_border_books_1
        walk_at "fx"
        have hpm : sq.Perm (sqr ts) := by rw [← hsq]; exact sq_perm hR
        have c1 : (nfl [(zeros n, (1 : Int))]).length ≤ 1 := Nat.le_trans (by rw [(nfl_perm _).length_eq]; exact coll_le _) (Nat.le_refl _)
        have zl : Len n [(zeros n, (1 : Int))] := fun t ht => by rw [List.mem_singleton.mp ht]; exact zeros_len n
        have nl : Len n ((sq.filter fun t => decide (t.2 < 0)).map ngT) := fun t ht => by
          obtain ⟨u, hu, rfl⟩ := List.mem_map.mp ht
          exact fL u hu
        have c2 : (nfl ((sq.filter fun t => decide (t.2 < 0)).map ngT)).length ≤ 400 := by
          refine Nat.le_trans (by rw [(nfl_perm _).length_eq]; exact coll_le _) ?_
          rw [List.length_map]
          omega
        refine constant_ok (n := n) 1 S _ _ ?_
        walk_at "fx"
        refine added_ok (n := n) (by omega) _ _ S _ _ (by omega) (nfl_len zl) (nfl_len nl) ?_
        walk_at "fx"
        have al : Len n (nfl [(zeros n, (1 : Int))] ++ nfl ((sq.filter fun t => decide (t.2 < 0)).map ngT)) := fun t ht => (List.mem_append.mp ht).elim (nfl_len zl t) (nfl_len nl t)
        refine plain_book_ok hn _ S _ _ ?_ (nfl_len al) ?_
        · rw [(nfl_perm _).length_eq]
          refine Nat.le_trans (coll_le _) ?_
          rw [List.length_append]
          omega
        walk_at "fx"
        have pl : (pos sq).length ≤ 400 := Nat.le_trans (List.length_filter_le _ _) sl
        have pL : Len n (pos sq) := fun t ht => sL t (List.mem_filter.mp ht).1
        rw [show D.tup ((pos sq).map tmD) = polyD (pos sq) from rfl]
        refine plain_book_ok hn (pos sq) S _ _ (by omega) pL ?_
        walk_at "fx"
        rw [bookD_congr (nfl_len al) (less_lens hL) (fun e => by
          rw [cf_nfl, cf_app, cf_nfl, cf_nfl]
          unfold less
          rw [cf_coll]
          unfold one1 neg
          rw [show ((zeros n, (1 : Int)) :: ((sqr ts).filter fun t => decide (t.2 < 0)).map ngT) = [(zeros n, (1 : Int))] ++ ((sqr ts).filter fun t => decide (t.2 < 0)).map ngT from rfl, cf_app, cf_perm ((hpm.filter _).map ngT)]), bookD_congr pL (plus_lens hL) fun e => cf_perm (hpm.filter _) e]
        exact ⟨by decide, h⟩
      · rw [show tmD t = .tup [moD t.1, .int t.2] from rfl] at *
        walk_at "fx"
        refine ⟨_, rfl, ?_⟩
        walk_at "fx"
        by_cases hz : t.2 < 0
        · rw [if_pos hz]
          exact k1 (decide_eq_true hz)
        · rw [if_neg hz]
          exact k2 (decide_eq_false hz)
    · rw [show tmD t = .tup [moD t.1, .int t.2] from rfl] at *
      walk_at "fx"
      refine ⟨_, rfl, ?_⟩
      walk_at "fx"
      by_cases hz : 0 < t.2
      · rw [if_pos hz]
        exact k1 (decide_eq_true hz)
      · rw [if_neg hz]
        exact k2 (decide_eq_false hz)
  · rw [hg d hd] at hb
    cases hb
end K64
namespace K64
open PySem L2 L2.Fn
local macro_rules | `(tactic| walk_at "fx") => `(tactic| try simp only [mkW, fSeq, fAsg, gN, fC, fVar, fBin, fDat, fFrz, oAdd, oInt0, oInt, oIx, fIfS, fTru, oTru, fBl, fNot, fAnd, fOr, fNext, fRet, fRetV, fRetN, fLst, fTup, fNil, fCons, fCB, oLen, oIntC, oStrI, oTupC, oLstC, fApp, fSl, fPart, fNoP, oSl, fIf, fAndV, fOrV, fNotV, fIsi, M.ty, fM1, oIn, oEq, oNe, oLt, oLe, oGt, oGe, oSub, oMul, oFDiv, oMod, oPow, eqF, fDrop, fFor, fWalk, oWalk, fRng, oR1, oR2, fCall, fComp, fYes, wipeE, oCat, oRep,
  fComp2, oMulS, fNeg, oSum, fExt, M.sqD, fIdx, oIdx, keysD, Int.zero_add, oMin2, oMax2, oAbs, oI2, gTupP, gConsP, gNilP, fDict, fDSet, oDIx, oDIn, fDGet2, M.asD, oEnum, oZip, fFz, fSet0, fRevS, oRevS, fChain, oAll, oAny, oShl, oShr, oBand, oLstDN, oSortDN, oSortN, oRepT, fDComp, fCallU,
  List.length_cons, List.length_nil, List.map_cons, List.map_nil, List.cons_append, List.nil_append, List.append_nil, blanks, List.getElem?_cons_zero, List.getElem?_cons_succ, List.set_cons_zero, List.set_cons_succ, Option.some.injEq, exists_eq_left', true_and, and_true, Nat.reduceSub, Nat.reduceAdd, Nat.reduceLT, Nat.lt_add_one, M.dat.injEq, D.bl.injEq, D.int.injEq, Nat.zero_lt_succ, Nat.succ_lt_succ_iff, Nat.zero_lt_one, exists_eq_left, List.getElem?_nil, Bool.false_bne, Bool.false_xor, decide_eq_true_eq,
  ex_nil, ex_cons, ex_map, toD_lst, toD_dat, dats_nil, dats_cons, ld_l, ld_dat, ld_lst, Option.map_some, ex_some, kitI isi_int_int, kitI isi_int_bool, kitI isi_str_str, kitI isi_tup_tup, kitI isi_str_tup, M.lst.injEq, List.length_map, Bool.not_true, Bool.not_false, Bool.false_eq_true, if_true, if_false, reduceIte, endOf_nx, endOf_rt, endOf_ex, ex_pair, ex_dct, ex_cons2, Option.bind_some, Option.getD_some, Option.getD_none, flat_one, Int.toNat_natCast, gv_LETTERS])
/-! ### the law's likeness -/
inductive TT : Nat → D → Prop where
  | str (n : Nat) (s : List Nat) : TT (n + 1) (.str s)
  | int (n : Nat) (i : Int) : TT (n + 1) (.int i)
  | tup (n : Nat) (ds : List D) : ds.length ≤ 1000000 → (∀ d ∈ ds, TT n d) → TT (n + 1) (.tup ds)
theorem same_ok (S : Sto) (E : XP) : ∀ (n : Nat) (d : D) (Q : WP), TT n d → Q (.dat (.bl true)) S → w__law_same n [d, d] S Q E
  | 0, d, Q, t, h => by cases t
  | n + 1, d, Q, t, h => by
    unfold w__law_same r__law_same
    cases t with
    | str _ s =>
      walk_at "fx"
      unfold r__law_same_3
      walk_at "fx"
      rw [decide_eq_true trivial]
      exact h
    | int _ s =>
      walk_at "fx"
      refine ⟨_, isi_int_tup, ?_⟩
      rw [if_neg (by decide)]
      unfold r__law_same_3
      walk_at "fx"
      refine ⟨_, isi_int_str, ?_⟩
      rw [if_neg (by decide)]
      unfold r__law_same_2
      walk_at "fx"
      rw [decide_eq_true trivial]
      exact h
    | tup _ ds hl hd =>
      walk_at "fx"
      rw [decide_eq_true trivial, if_neg (by decide)]
      unfold r__law_same_1
      walk_at "fx"
      refine ⟨by omega, by omega, ?_⟩
      rw [rng_map]
      refine compA (fun k : Nat => M.dat (.bl true)) (by simp; omega) ?_ fun l1 k r1 K1 e1 k1 => ?_
      · refine ⟨_, ld_boolsP _ _, _, boolsP_map _ _, ?_⟩
        rw [show ((List.range ds.length).map fun _ => true).all id = true by simp]
        exact h
      · have hk := (range_at e1).2
        have hat : atI ds (k : Int) = some ds[k] := atI_n (List.getElem?_eq_getElem hk)
        rw [Int.zero_add]
        walk_at "fx"
        refine ⟨_, hat, _, hat, ?_⟩
        exact same_ok _ _ n ds[k] _ (hd _ (List.getElem_mem hk)) k1
theorem TT_tup {n : Nat} {ds : List D} (hl : ds.length ≤ 1000000) (h : ∀ d ∈ ds, TT n d) : TT (n + 1) (.tup ds) := .tup n ds hl h
theorem TT_map {α : Type} {n : Nat} {l : List α} {f : α → D} (hl : l.length ≤ 1000000) (h : ∀ a ∈ l, TT n (f a)) : TT (n + 1) (.tup (l.map f)) := .tup n _ (by rw [List.length_map]; exact hl) fun d hd => by
  obtain ⟨a, ha, rfl⟩ := List.mem_map.mp hd
  exact h a ha
theorem TT_poly {n k : Nat} (hn : n ≤ 10) {l : Pl} (hl : l.length ≤ 1000) (hL : Len n l) : TT (k + 6) (polyD l) := by
  unfold polyD
  refine TT_map (by omega) fun t ht => ?_
  unfold tmD moD
  refine TT_tup (by simp) fun d hd => ?_
  rcases List.mem_cons.mp hd with rfl | hd
  · refine TT_map (by have := prs_len t.1 0; have := hL t ht; omega) fun q _ => ?_
    unfold pD vD
    refine TT_tup (by simp) fun d hd => ?_
    rcases List.mem_cons.mp hd with rfl | hd
    · refine TT_tup (by simp) fun d hd => ?_
      rcases List.mem_cons.mp hd with rfl | hd
      · exact .int _ _
      rcases List.mem_cons.mp hd with rfl | hd
      · exact .str _ _
      rw [List.mem_singleton.mp hd]
      exact .str _ _
    · rw [List.mem_singleton.mp hd]
      exact .int _ _
  · rw [List.mem_singleton.mp hd]
    exact .int _ _
theorem TT_book {n k : Nat} (hn : n ≤ 10) {l : Pl} (hl : l.length ≤ 1000) (hL : Len n l) : TT (k + 8) (bookD n l) := by
  unfold bookD rows
  have p2 : 2 ^ n ≤ 1024 := Nat.pow_le_pow_right (by decide) hn
  refine TT_tup (by simp) fun d hd => ?_
  rcases List.mem_cons.mp hd with rfl | hd
  · refine TT_tup (by simp; omega) fun d hd => ?_
    rw [List.eq_of_mem_replicate hd]
    exact .int _ _
  · rw [List.mem_singleton.mp hd, List.map_map]
    refine TT_map (by simp; omega) fun a _ => ?_
    refine TT_poly (n := n) (k := k) hn ?_ (nfl_len fun t ht => hL t (List.mem_filter.mp ht).1)
    rw [(nfl_perm _).length_eq]
    exact Nat.le_trans (coll_le _) (Nat.le_trans (List.length_filter_le _ _) hl)
theorem TT_due {n : Nat} (hn : n ≤ 10) {ts : Pl} (hl : ts.length ≤ 20) (hL : Len n ts) : TT 9 (dueD n ts) := by
  unfold dueD
  have l1 := less_le (n := n) hl
  have l2 := plus_le hl
  refine TT_tup (by simp) fun d hd => ?_
  rcases List.mem_cons.mp hd with rfl | hd
  · exact TT_book (k := 0) hn (by omega) (less_lens hL)
  · rw [List.mem_singleton.mp hd]
    exact TT_book (k := 0) hn (by omega) (plus_lens hL)
end K64
namespace K64
open PySem L2 L2.Fn
local macro_rules | `(tactic| walk_at "fx") => `(tactic| try simp only [mkW, fSeq, fAsg, gN, fC, fVar, fBin, fDat, fFrz, oAdd, oInt0, oInt, oIx, fIfS, fTru, oTru, fBl, fNot, fAnd, fOr, fNext, fRet, fRetV, fRetN, fLst, fTup, fNil, fCons, fCB, oLen, oIntC, oStrI, oTupC, oLstC, fApp, fSl, fPart, fNoP, oSl, fIf, fAndV, fOrV, fNotV, fIsi, M.ty, fM1, oIn, oEq, oNe, oLt, oLe, oGt, oGe, oSub, oMul, oFDiv, oMod, oPow, eqF, fDrop, fFor, fWalk, oWalk, fRng, oR1, oR2, fCall, fComp, fYes, wipeE, oCat, oRep,
  fComp2, oMulS, fNeg, oSum, fExt, M.sqD, fIdx, oIdx, keysD, Int.zero_add, oMin2, oMax2, oAbs, oI2, gTupP, gConsP, gNilP, fDict, fDSet, oDIx, oDIn, fDGet2, M.asD, oEnum, oZip, fFz, fSet0, fRevS, oRevS, fChain, oAll, oAny, oShl, oShr, oBand, oLstDN, oSortDN, oSortN, oRepT, fDComp, fCallU,
  List.length_cons, List.length_nil, List.map_cons, List.map_nil, List.cons_append, List.nil_append, List.append_nil, blanks, List.getElem?_cons_zero, List.getElem?_cons_succ, List.set_cons_zero, List.set_cons_succ, Option.some.injEq, exists_eq_left', true_and, and_true, Nat.reduceSub, Nat.reduceAdd, Nat.reduceLT, Nat.lt_add_one, M.dat.injEq, D.bl.injEq, D.int.injEq, Nat.zero_lt_succ, Nat.succ_lt_succ_iff, Nat.zero_lt_one, exists_eq_left, List.getElem?_nil, Bool.false_bne, Bool.false_xor, decide_eq_true_eq,
  ex_nil, ex_cons, ex_map, toD_lst, toD_dat, dats_nil, dats_cons, ld_l, ld_dat, ld_lst, Option.map_some, ex_some, kitI isi_int_int, kitI isi_int_bool, kitI isi_str_str, kitI isi_tup_tup, kitI isi_str_tup, M.lst.injEq, List.length_map, Bool.not_true, Bool.not_false, Bool.false_eq_true, if_true, if_false, reduceIte, endOf_nx, endOf_rt, endOf_ex, ex_pair, ex_dct, ex_cons2, Option.bind_some, Option.getD_some, Option.getD_none, flat_one, Int.toNat_natCast, gv_LETTERS])
/-! ### texts of numbers -/
def tx (k : Nat) : D := .str (List.replicate k 97)
def od (k : Nat) : List Nat := if k = 0 then [] else [97]
theorem order_of_ok (k : Nat) (S : Sto) (Q : WP) (E : XP) (hk : k < 15) (h : Q (.dat (.str (od k))) S) : w_order_of [tx k] S Q E := by
  unfold w_order_of r_order_of tx
  walk_at "fx"
  unfold r_order_of_2
  walk_at "fx"
  refine ⟨small_line (by simp; omega), ?_⟩
  rw [List.reverse_replicate, show (List.replicate k 97).map (fun c => D.str [c]) = (List.range k).map fun _ => D.str [97] by rw [List.map_replicate, List.map_const', List.length_range]]
  refine forV (fun l ρ => ∃ x : Option M, ρ = [some (.dat (.str (List.replicate k 97))), some (.dat (.str (od l.length))), x]) ⟨none, rfl⟩ ?_ ?_
  · rintro ρ ⟨x, rfl⟩
    unfold r_order_of_1
    walk_at "fx"
    rw [List.length_range]
    exact h
  · rintro l c r ρ W e ⟨x, rfl⟩ ih
    walk_at "fx"
    have o1 : od (l ++ [c]).length = [97] := if_neg (by simp)
    by_cases hl : l.length = 0
    · rw [show od l.length = [] from if_pos hl]
      rw [if_pos (by simp)]
      exact ⟨by decide, ih _ ⟨_, by rw [o1]⟩⟩
    · rw [show od l.length = [97] from if_neg hl]
      rw [if_neg (by simp)]
      exact ih _ ⟨_, by rw [o1]⟩
theorem behind_variables_ok (a k : Nat) (S : Sto) (Q : WP) (E : XP) (h : Q (.dat (.tup (if k = 0 then [] else [vD a]))) S) : w_behind_variables [.int a, .str (od k)] S Q E := by
  unfold w_behind_variables r_behind_variables
  walk_at "fx"
  refine ⟨by decide, ?_⟩
  unfold r_behind_variables_3
  by_cases hk : k = 0
  · subst hk
    rw [show od 0 = [] from rfl]
    walk_at "fx"
    rw [show enumD [] = ([] : List Unit).map (fun _ => D.non) from rfl]
    refine forV (fun _ ρ => ρ = [some (.dat (.int a)), some (.dat (.str [])), some (.lst []), none, none, none]) rfl (fun ρ hρ => ?_) fun l x r ρ W e => by simp at e
    subst hρ
    unfold r_behind_variables_2
    walk_at "fx"
    refine ⟨by simp, by simp, fun es pm _ => ?_⟩
    have : es = [] := by simpa using pm
    subst this
    exact ⟨[], rfl, by rw [if_pos rfl] at h; exact h⟩
  · rw [show od k = [97] from if_neg hk]
    walk_at "fx"
    rw [show enumD [D.str [97]] = [()].map (fun _ => D.tup [.int 0, .str [97]]) from rfl]
    refine forV (fun l ρ => (l = [] ∧ ρ = [some (.dat (.int a)), some (.dat (.str [97])), some (.lst []), none, none, none]) ∨ (l = [()] ∧ ∃ x y z : Option M, ρ = [some (.dat (.int a)), some (.dat (.str [97])), some (.lst ([vD a].map .dat)), x, y, z])) (.inl ⟨rfl, rfl⟩) ?_ ?_
    · rintro ρ (⟨q, _⟩ | ⟨_, x, y, z, rfl⟩)
      · cases q
      · unfold r_behind_variables_2
        walk_at "fx"
        refine ⟨fun d hd => ?_, fun d hd e he => ?_, fun es pm _ => ?_⟩
        · rw [List.mem_singleton.mp hd]
          exact ⟨_, nD_nk (a, [97], []), by simp [NK.dep, NK.deps]⟩
        · rw [List.mem_singleton.mp hd, List.mem_singleton.mp he, show vD a = nD (a, [97], []) from rfl, nD_key]
          exact Cm_n _ _
        · rw [List.perm_singleton.mp pm]
          exact ⟨[vD a], rfl, by rw [if_neg hk] at h; exact h⟩
    · rintro l x r ρ W e hI ih
      have l0 : l = [] := by
        cases l with
        | nil => rfl
        | cons y l => simp at e
      subst l0
      rcases hI with ⟨_, rfl⟩ | ⟨q, _⟩
      · walk_at "fx"
        refine ⟨by decide, by decide, ?_⟩
        unfold r_behind_variables_1
        walk_at "fx"
        exact ⟨by decide, ih _ (.inr ⟨rfl, some (.dat (.int 0)), some (.dat (.str [97])), none, rfl⟩)⟩
      · cases q
theorem count_all : ∀ k : Nat, k < 15 → Txt.count (⟨(List.replicate k 97).toArray⟩ : Str) ⟨[97].toArray⟩ = k := by decide +kernel
theorem behind_ok (k : Nat) (S : Sto) (Q : WP) (E : XP) (hk : k < 15) (h : Q (.dat (.int k)) S) : w_behind [tx k, .str [97], .str []] S Q E := by
  unfold w_behind r_behind tx
  walk_at "fx"
  unfold oCount
  show Q (.dat (.int (Txt.count _ _))) S
  rw [count_all k hk]
  exact h
/-- a variable's place and number -/
def vnD (a k : Nat) : D := .tup [vD a, .int (k : Int)]
def pts (a k : Nat) : List D := if k = 0 then [] else [vnD a k]
theorem behind_counts_ok (a k : Nat) (S : Sto) (Q : WP) (E : XP) (hk : k < 15) (h : Q (.dat (.tup (pts a k))) S) : w_behind_counts [.int a, tx k] S Q E := by
  unfold w_behind_counts r_behind_counts
  walk_at "fx"
  refine order_of_ok k S _ _ hk ?_
  walk_at "fx"
  refine behind_variables_ok a k S _ _ ?_
  unfold r_behind_counts_1
  walk_at "fx"
  rw [show (if k = 0 then [] else [vD a]) = (if k = 0 then [] else [()]).map (fun _ => vD a) by split <;> rfl]
  refine compA (fun _ => M.dat (vnD a k)) (by split <;> decide) ?_ fun l1 x r1 K1 e1 k1 => ?_
  · rw [show (if k = 0 then [] else [()]).map (fun _ => M.dat (vnD a k)) = (pts a k).map M.dat by unfold pts; split <;> rfl]
    exact ⟨_, ld_lst _, h⟩
  · rw [show vD a = .tup [.int (a : Int), .str [97], .str []] from rfl]
    walk_at "fx"
    exact ⟨_, rfl, _, rfl, behind_ok k S _ _ hk ⟨by decide, [.int k], rfl, k1⟩⟩
theorem dput_new {acc : List (NK × D)} {p : NK} {d : D} (h : p ∉ acc.map (·.1)) : dput acc p d = acc ++ [(p, d)] := by
  unfold dput
  rw [if_neg]
  rw [List.any_eq_true]
  rintro ⟨q, hq, e⟩
  exact h (List.mem_map.mpr ⟨q, hq, of_decide_eq_true e⟩)
theorem dcompA {α : Type} {f : α → D} {g : FG} {tk tv : FE} {vs : List Nat} {ρ : Ev} {b : Bool} {Q : WP} {xs : List α} {S : Sto} (key : α → NK) (kd val : α → D) (hk : ∀ x ∈ xs, (kd x).nk = some (key x) ∧ okK b (key x)) (nd : (xs.map key).Nodup) (hl : xs.length ≤ 1000000) (hd : Q (.dct b (xs.map fun x => (key x, val x))) S)
    (hs : ∀ (l : List α) (x : α) (r : List α) (K : M → M → Sto → Prop), xs = l ++ x :: r → K (.dat (kd x)) (.dat (val x)) S → g (.dat (f x)) (wipeE ρ vs) fun ρ1 => tk ρ1 S (fun mk S3 => tv ρ1 S3 (fun mv S4 => K mk mv S4) noX) noX) :
    dcompW g fYes tk tv vs ρ b Q (xs.map f) [] S := by
  have : ∀ (r l : List α), xs = l ++ r → dcompW g fYes tk tv vs ρ b Q (r.map f) (l.map fun x => (key x, val x)) S := by
    intro r
    induction r with
    | nil => intro l e; rw [List.append_nil] at e; subst e; exact hd
    | cons x r ih =>
      intro l e
      have hx : x ∈ xs := by rw [e]; simp
      have h1 := ih (l ++ [x]) (by rw [e]; simp)
      refine hs l x r (fun mk mv S4 => (l.map fun x => (key x, val x)).length < sizeLine ∧ ∃ kd p z, mk = .dat kd ∧ kd.nk = some p ∧ okK b p ∧ mv = .dat z ∧ dcompW g fYes tk tv vs ρ b Q (r.map f) (dput (l.map fun x => (key x, val x)) p z) S4) e ⟨small_line' ?_, _, _, _, rfl, (hk x hx).1, (hk x hx).2, rfl, ?_⟩
      · have := congrArg List.length e
        simp at this
        rw [List.length_map]
        omega
      · rw [dput_new]
        · simpa using h1
        · rw [List.map_map]
          intro hm
          rw [e, List.map_append, List.nodup_append] at nd
          exact nd.2.2 _ hm _ List.mem_cons_self rfl
  exact this xs [] rfl
theorem pts_map (x : List Nat) (ns : List Nat) : (ns.flatMap fun a => pts a (x.getD a 0)) = (ns.filter fun a => decide (0 < x.getD a 0)).map fun a => vnD a (x.getD a 0) := by
  induction ns with
  | nil => rfl
  | cons a ns ih =>
    rw [List.flatMap_cons, ih, List.filter_cons]
    unfold pts
    by_cases h : x.getD a 0 = 0
    · rw [if_pos h, if_neg (by rw [h]; decide)]; rfl
    · rw [if_neg h, if_pos (decide_eq_true (by omega))]; rfl
theorem vK_inj {a b : Nat} (h : vK a = vK b) : a = b := by
  simp only [vK, NK.t.injEq, List.cons.injEq, NK.i.injEq, and_true] at h
  omega
def numsD (x : List Nat) (ns : List Nat) : List (NK × D) := (ns.filter fun a => decide (0 < x.getD a 0)).map fun a => (vK a, .int (x.getD a 0 : Int))
theorem nums_get (x ns : List Nat) {k : Nat} (h : k ∈ ns) : (dlook (numsD x ns) (vK k)).getD (.int 0) = .int (x.getD k 0 : Int) := by
  unfold numsD
  induction ns with
  | nil => cases h
  | cons a ns ih =>
    by_cases hk : k ∈ ns
    · rw [List.filter_cons]
      by_cases ha : a = k
      · subst ha
        split
        · unfold dlook
          rw [List.map_cons, List.find?_cons_of_pos (by simp)]
          rfl
        · exact ih hk
      · split
        · have := ih hk
          unfold dlook at this ⊢
          rw [List.map_cons, List.find?_cons_of_neg (by simpa using fun z => ha (vK_inj z))]
          exact this
        · exact ih hk
    · have ha : k = a := (List.mem_cons.mp h).resolve_right hk
      subst ha
      rw [List.filter_cons]
      split
      · unfold dlook
        rw [List.map_cons, List.find?_cons_of_pos (by simp)]
        rfl
      · rename_i hz
        have no : dlook ((ns.filter fun a => decide (0 < x.getD a 0)).map fun a => (vK a, D.int (x.getD a 0 : Int))) (vK k) = none := by
          unfold dlook
          rw [List.find?_eq_none.mpr]
          · rfl
          · intro q hq
            obtain ⟨b, hb, rfl⟩ := List.mem_map.mp hq
            simp only [decide_eq_true_eq]
            intro z
            exact hk (vK_inj z ▸ (List.mem_filter.mp hb).1)
        rw [no, show x.getD k 0 = 0 by simpa using hz]
        rfl
def pev (x : List Int) : List (Nat × Nat) → Int
  | [] => 1
  | q :: m => x.getD q.1 0 ^ q.2 * pev x m
def psum : List (Nat × Nat) → Nat
  | [] => 0
  | q :: m => q.2 + psum m
theorem pev_app (x : List Int) (a b : List (Nat × Nat)) : pev x (a ++ b) = pev x a * pev x b := by
  induction a with
  | nil => simp [pev]
  | cons q a ih => rw [List.cons_append, pev, pev, ih, Int.mul_assoc]
theorem psum_app (a b : List (Nat × Nat)) : psum (a ++ b) = psum a + psum b := by
  induction a with
  | nil => simp [psum]
  | cons q a ih => rw [List.cons_append, psum, psum, ih]; omega
theorem pev_prs (x : List Int) : ∀ (e : Ex) (j : Nat), j + e.length = x.length → pev x (prs j e) = mev (x.drop j) e
  | [], j, h => by
    rw [prs, pev]
    cases x.drop j <;> rfl
  | p :: e, j, h => by
    have hj : j < x.length := by simp at h; omega
    have ih := pev_prs x e (j + 1) (by simp at h; omega)
    rw [List.drop_eq_getElem_cons hj, prs, mev]
    split
    · rename_i h0
      rw [ih, h0, Int.pow_zero, Int.one_mul]
    · rw [pev, ih, List.getD_eq_getElem?_getD, List.getElem?_eq_getElem hj]
      rfl
theorem psum_prs : ∀ (e : Ex) (j : Nat), psum (prs j e) = esum e
  | [], _ => rfl
  | p :: e, j => by
    have ih := psum_prs e (j + 1)
    rw [prs, esum]
    split
    · rw [ih]; omega
    · rw [psum, ih]
theorem value_at_ok (x : List Nat) (hx : x.length ≤ 10) (hs : ∀ k, x.getD k 0 < 15) (l : Pl) (S : Sto) (Q : WP) (E : XP) (hl : l.length ≤ 1000) (hL : Len x.length l) (hB : Bd l) (hP : Ps l) (h : Q (.dat (.int (ev (x.map fun i : Nat => (i : Int)) l))) S) :
    w_value_at [polyD l, .tup ((List.range x.length).flatMap fun a => pts a (x.getD a 0))] S Q E := by
  unfold w_value_at r_value_at
  rw [pts_map]
  walk_at "fx"
  refine dcompA (fun a : Nat => vK a) (fun a => vD a) (fun a => .int (x.getD a 0 : Int)) (fun a _ => ⟨vD_nk a, vK_ok a⟩) ?_ ?_ ?_ fun l1 a r K e k1 => ?_
  · refine List.Pairwise.map _ (fun a b hab z => hab (vK_inj z)) (List.nodup_range.filter _)
  · exact Nat.le_trans (List.length_filter_le _ _) (by simp; omega)
  · rw [show ((List.range x.length).filter fun a => decide (0 < x.getD a 0)).map (fun a => (vK a, D.int (x.getD a 0 : Int))) = numsD x (List.range x.length) from rfl]
    unfold r_value_at_5
    walk_at "fx"
    unfold r_value_at_4
    rw [show polyD l = .tup (l.map tmD) from rfl]
    walk_at "fx"
    generalize hxs : (x.map fun i : Nat => (i : Int)) = xs at h
    have xg : ∀ k, xs.getD k 0 = (x.getD k 0 : Int) := fun k => by
      rw [← hxs]
      simp only [List.getD_eq_getElem?_getD, List.getElem?_map]
      cases x[k]? <;> rfl
    have xl : xs.length = x.length := by rw [← hxs, List.length_map]
    generalize hA : D.tup (((List.range x.length).filter fun a => decide (0 < x.getD a 0)).map fun a => vnD a (x.getD a 0)) = A
    refine forV (fun m ρ => ∃ a b c d e f : Option M, ρ = [some (.dat (.tup (l.map tmD))), some (.dat A), some (.dct true (numsD x (List.range x.length))), some (.dat (.int (ev xs m))), a, b, c, d, e, f]) ⟨none, none, none, none, none, none, rfl⟩ ?_ ?_
    · rintro ρ ⟨a, b, c, d, e, f, rfl⟩
      unfold r_value_at_3
      walk_at "fx"
      exact h
    · rintro m t r ρ W e1 ⟨a, b, c, d, e, f, rfl⟩ ih
      have lt := hL t (by rw [e1]; simp)
      have bt := hB t (by rw [e1]; simp)
      have pt := hP t (by rw [e1]; simp)
      rw [show tmD t = .tup [moD t.1, .int t.2] from rfl]
      walk_at "fx"
      unfold r_value_at_2
      rw [show moD t.1 = .tup ((prs 0 t.1).map pD) from rfl]
      walk_at "fx"
      have ps0 := psum_prs t.1 0
      refine forV (fun q ρ => ∃ p : Int, p = t.2 * pev xs q ∧ p.natAbs.log2 ≤ t.2.natAbs.log2 + 4 * psum q ∧ ∃ a b c d : Option M, ρ = [some (.dat (.tup (l.map tmD))), some (.dat A), some (.dct true (numsD x (List.range x.length))), some (.dat (.int (ev xs m))), a, some (.dat (.int t.2)), b, some (.dat (.int p)), c, d]) ⟨t.2, by simp [pev], by omega, _, _, _, _, rfl⟩ ?_ ?_
      · rintro ρ ⟨p, hp, bp, a, b, c, d, rfl⟩
        unfold r_value_at_1
        walk_at "fx"
        refine ih _ ⟨a, some (.dat (.int t.2)), b, some (.dat (.int p)), c, d, ?_⟩
        have hpe : pev xs (prs 0 t.1) = mev xs t.1 := pev_prs xs t.1 0 (by omega)
        rw [ev_app, ev, ev, ← hpe, ← hp, Int.add_zero]
      · rintro q v r2 ρ W1 e2 ⟨p, hp, bp, a, b, c, d, rfl⟩ ih1
        rw [show pD v = .tup [vD v.1, .int (v.2 : Int)] from rfl]
        walk_at "fx"
        have hv := prs_lt (show v ∈ prs 0 t.1 by rw [e2]; simp)
        have psq : psum q + v.2 ≤ esum t.1 := by
          rw [← ps0, e2, psum_app, psum]
          omega
        have hpk := nums_get x (List.range x.length) (k := v.1) (List.mem_range.mpr (by omega))
        have h15 : (x.getD v.1 0 : Int).natAbs.log2 ≤ 3 := by
          have h1 := hs v.1
          generalize x.getD v.1 0 = y at h1
          revert y
          decide
        refine ⟨by omega, by omega, ?_⟩
        refine forR (fun j ρ => ∃ z : Int, z = p * xs.getD v.1 0 ^ j ∧ z.natAbs.log2 ≤ t.2.natAbs.log2 + 4 * (psum q + j) ∧ ∃ d : Option M, ρ = [some (.dat (.tup (l.map tmD))), some (.dat A), some (.dct true (numsD x (List.range x.length))), some (.dat (.int (ev xs m))), some (.dat (vD v.1)), some (.dat (.int t.2)), b, some (.dat (.int z)), some (.dat (.int (v.2 : Int))), d]) ⟨p, by simp, by simpa using bp, d, rfl⟩ ?_ ?_
        · rintro ρ ⟨z, hz, bz, d, rfl⟩
          refine ih1 _ ⟨z, ?_, ?_, some (.dat (vD v.1)), b, some (.dat (.int (v.2 : Int))), d, rfl⟩
          · rw [pev_app, pev, pev, hz, hp, Int.mul_one, Int.mul_assoc]
          · rw [psum_app, psum, psum]
            omega
        · rintro j ρ W2 hj ⟨z, hz, bz, d, rfl⟩ ih2
          walk_at "fx"
          refine ⟨_, vD_nk v.1, vK_ok v.1, ?_⟩
          rw [hpk]
          walk_at "fx"
          have h4 := ilog_mul z (x.getD v.1 0 : Int)
          refine ⟨by unfold CMulW; omega, ih2 _ ⟨_, ?_, by omega, _, rfl⟩⟩
          rw [hz, Int.pow_succ, Int.mul_assoc, xg]
  · rw [show vnD a (x.getD a 0) = .tup [vD a, .int (x.getD a 0 : Int)] from rfl]
    walk_at "fx"
    exact k1
end K64
namespace K64
open PySem L2 L2.Fn
local macro_rules | `(tactic| walk_at "fx") => `(tactic| try simp only [mkW, fSeq, fAsg, gN, fC, fVar, fBin, fDat, fFrz, oAdd, oInt0, oInt, oIx, fIfS, fTru, oTru, fBl, fNot, fAnd, fOr, fNext, fRet, fRetV, fRetN, fLst, fTup, fNil, fCons, fCB, oLen, oIntC, oStrI, oTupC, oLstC, fApp, fSl, fPart, fNoP, oSl, fIf, fAndV, fOrV, fNotV, fIsi, M.ty, fM1, oIn, oEq, oNe, oLt, oLe, oGt, oGe, oSub, oMul, oFDiv, oMod, oPow, eqF, fDrop, fFor, fWalk, oWalk, fRng, oR1, oR2, fCall, fComp, fYes, wipeE, oCat, oRep,
  fComp2, oMulS, fNeg, oSum, fExt, M.sqD, fIdx, oIdx, keysD, Int.zero_add, oMin2, oMax2, oAbs, oI2, gTupP, gConsP, gNilP, fDict, fDSet, oDIx, oDIn, fDGet2, M.asD, oEnum, oZip, fFz, fSet0, fRevS, oRevS, fChain, oAll, oAny, oShl, oShr, oBand, oLstDN, oSortDN, oSortN, oRepT, fDComp, fCallU,
  List.length_cons, List.length_nil, List.map_cons, List.map_nil, List.cons_append, List.nil_append, List.append_nil, blanks, List.getElem?_cons_zero, List.getElem?_cons_succ, List.set_cons_zero, List.set_cons_succ, Option.some.injEq, exists_eq_left', true_and, and_true, Nat.reduceSub, Nat.reduceAdd, Nat.reduceLT, Nat.lt_add_one, M.dat.injEq, D.bl.injEq, D.int.injEq, Nat.zero_lt_succ, Nat.succ_lt_succ_iff, Nat.zero_lt_one, exists_eq_left, List.getElem?_nil, Bool.false_bne, Bool.false_xor, decide_eq_true_eq,
  ex_nil, ex_cons, ex_map, toD_lst, toD_dat, dats_nil, dats_cons, ld_l, ld_dat, ld_lst, Option.map_some, ex_some, kitI isi_int_int, kitI isi_int_bool, kitI isi_str_str, kitI isi_tup_tup, kitI isi_str_tup, M.lst.injEq, List.length_map, Bool.not_true, Bool.not_false, Bool.false_eq_true, if_true, if_false, reduceIte, endOf_nx, endOf_rt, endOf_ex, ex_pair, ex_dct, ex_cons2, Option.bind_some, Option.getD_some, Option.getD_none, flat_one, Int.toNat_natCast, gv_LETTERS])
/-! ### rows and values of a book -/
theorem bits_ex : ∀ (n : Nat) (f : Nat → Bool), ∃ a, a < 2 ^ n ∧ ∀ k, k < n → a.testBit (n - 1 - k) = f k
  | 0, f => ⟨0, by decide, fun k h => absurd h (Nat.not_lt_zero k)⟩
  | n + 1, f => by
    obtain ⟨a, h1, h2⟩ := bits_ex n f
    refine ⟨2 * a + (f n).toNat, ?_, fun k hk => ?_⟩
    · rw [Nat.pow_succ]
      cases f n <;> simp <;> omega
    · by_cases h : k = n
      · subst h
        rw [show k + 1 - 1 - k = 0 by omega, Nat.testBit_zero]
        cases f k <;> simp <;> omega
      · rw [show n + 1 - 1 - k = (n - 1 - k) + 1 by omega, Nat.testBit_succ, show (2 * a + (f n).toNat) / 2 = a by cases f n <;> simp <;> omega]
        exact h2 k (by omega)
theorem ch_inj {n a b : Nat} (ha : a < 2 ^ n) (hb : b < 2 ^ n) (h : ch n a = ch n b) : a = b := by
  refine Nat.eq_of_testBit_eq fun i => ?_
  by_cases hi : i < n
  · have := congrArg (fun l => l[n - 1 - i]?) h
    unfold ch at this
    simp only [List.getElem?_map, List.getElem?_range (show n - 1 - i < n by omega), Option.map_some, show n - 1 - (n - 1 - i) = i by omega] at this
    cases h1 : a.testBit i <;> cases h2 : b.testBit i <;> simp_all
  · rw [Nat.testBit_lt_two_pow (Nat.lt_of_lt_of_le ha (Nat.pow_le_pow_right (by decide) (by omega))), Nat.testBit_lt_two_pow (Nat.lt_of_lt_of_le hb (Nat.pow_le_pow_right (by decide) (by omega)))]
def chK (n a : Nat) : PK := (List.range n).map fun k => .inr (if a.testBit (n - 1 - k) = true then [97] else [])
theorem atoms_map {α : Type} (l : List α) (f : α → List Nat) : atomsD (l.map fun k => D.str (f k)) = some (l.map fun k => Sum.inr (f k)) := by
  induction l with
  | nil => rfl
  | cons k l ih => rw [List.map_cons, atomsD, ih]; rfl
theorem ch_pk (n a : Nat) : D.pk true (.tup (ch n a)) = some (chK n a) := atoms_map _ _
theorem chs_keys (n : Nat) (l : List Nat) : keysD (l.map fun a => D.tup (ch n a)) = some (l.map (chK n)) := by
  induction l with
  | nil => rfl
  | cons a l ih => rw [List.map_cons, keysD, ch_pk, ih]; rfl
theorem chK_small (n a : Nat) : smallK (chK n a) := fun s hs c hc => by
  obtain ⟨k, _, e⟩ := List.mem_map.mp hs
  injection e with e
  rw [← e] at hc
  split at hc
  · rw [List.mem_singleton.mp hc]; decide
  · cases hc
theorem chK_inj {n a b : Nat} (ha : a < 2 ^ n) (hb : b < 2 ^ n) (h : chK n a = chK n b) : a = b := by
  refine ch_inj ha hb ?_
  have := ch_pk n a
  rw [h, ← ch_pk n b] at this
  unfold chK at h
  unfold ch
  have h2 := congrArg (List.map fun z : Int ⊕ List Nat => match z with | .inl _ => D.non | .inr s => D.str s) h
  rw [List.map_map, List.map_map] at h2
  exact h2
theorem book_row_ok {n a : Nat} (hn : n ≤ 10) (ha : a < 2 ^ n) (l : Pl) (S : Sto) (Q : WP) (E : XP) (h : Q (.dat (polyD (nfl (l.filter (keep n a))))) S) : w_book_row [bookD n l, .tup (ch n a)] S Q E := by
  unfold w_book_row r_book_row bookD
  walk_at "fx"
  refine ⟨_, rfl, ?_⟩
  unfold fIdxT
  walk_at "fx"
  refine ⟨_, rfl, order_rows_ok hn S _ _ ⟨⟨_, rfl⟩, ?_⟩⟩
  refine ⟨_, rfl, _, chs_keys n _, fun p hp => ?_, _, ch_pk n a, chK_small n a, a, ?_, ?_⟩
  · obtain ⟨b, _, rfl⟩ := List.mem_map.mp hp
    exact chK_small n b
  · rw [List.findIdx?_eq_some_iff_getElem]
    refine ⟨by simpa using ha, by simp, fun j hj => ?_⟩
    simp only [List.getElem_map, List.getElem_range]
    rw [decide_eq_true_eq]
    intro z
    have := chK_inj (by omega) ha z
    omega
  · refine ⟨_, atI_n (by unfold rows; rw [List.getElem?_map, List.getElem?_map, List.getElem?_range ha]; rfl), h⟩
end K64
namespace K64
open PySem L2 L2.Fn
local macro_rules | `(tactic| walk_at "fx") => `(tactic| try simp only [mkW, fSeq, fAsg, gN, fC, fVar, fBin, fDat, fFrz, oAdd, oInt0, oInt, oIx, fIfS, fTru, oTru, fBl, fNot, fAnd, fOr, fNext, fRet, fRetV, fRetN, fLst, fTup, fNil, fCons, fCB, oLen, oIntC, oStrI, oTupC, oLstC, fApp, fSl, fPart, fNoP, oSl, fIf, fAndV, fOrV, fNotV, fIsi, M.ty, fM1, oIn, oEq, oNe, oLt, oLe, oGt, oGe, oSub, oMul, oFDiv, oMod, oPow, eqF, fDrop, fFor, fWalk, oWalk, fRng, oR1, oR2, fCall, fComp, fYes, wipeE, oCat, oRep,
  fComp2, oMulS, fNeg, oSum, fExt, M.sqD, fIdx, oIdx, keysD, Int.zero_add, oMin2, oMax2, oAbs, oI2, gTupP, gConsP, gNilP, fDict, fDSet, oDIx, oDIn, fDGet2, M.asD, oEnum, oZip, fFz, fSet0, fRevS, oRevS, fChain, oAll, oAny, oShl, oShr, oBand, oLstDN, oSortDN, oSortN, oRepT, fDComp, fCallU,
  List.length_cons, List.length_nil, List.map_cons, List.map_nil, List.cons_append, List.nil_append, List.append_nil, blanks, List.getElem?_cons_zero, List.getElem?_cons_succ, List.set_cons_zero, List.set_cons_succ, Option.some.injEq, exists_eq_left', true_and, and_true, Nat.reduceSub, Nat.reduceAdd, Nat.reduceLT, Nat.lt_add_one, M.dat.injEq, D.bl.injEq, D.int.injEq, Nat.zero_lt_succ, Nat.succ_lt_succ_iff, Nat.zero_lt_one, exists_eq_left, List.getElem?_nil, Bool.false_bne, Bool.false_xor, decide_eq_true_eq,
  ex_nil, ex_cons, ex_map, toD_lst, toD_dat, dats_nil, dats_cons, ld_l, ld_dat, ld_lst, Option.map_some, ex_some, kitI isi_int_int, kitI isi_int_bool, kitI isi_str_str, kitI isi_tup_tup, kitI isi_str_tup, M.lst.injEq, List.length_map, Bool.not_true, Bool.not_false, Bool.false_eq_true, if_true, if_false, reduceIte, endOf_nx, endOf_rt, endOf_ex, ex_pair, ex_dct, ex_cons2, Option.bind_some, Option.getD_some, Option.getD_none, flat_one, Int.toNat_natCast, gv_LETTERS])
/-! ### the value of a book -/
def txs (x : List Nat) : D := .tup (x.map tx)
theorem mev_zero : ∀ (x : List Int) (e : Ex) (k : Nat), x.getD k 0 = 0 → k < x.length → 0 < e.getD k 0 → mev x e = 0
  | [], e, k, h, hk, he => by simp at hk
  | y :: x, [], k, h, hk, he => by simp at he
  | y :: x, p :: e, 0, h, hk, he => by
    have h0 : y = 0 := by simpa using h
    have hp : 0 < p := by simpa using he
    rw [mev, h0, Int.zero_pow (by omega), Int.zero_mul]
  | y :: x, p :: e, k + 1, h, hk, he => by
    rw [mev, mev_zero x e k (by simpa using h) (by simpa using hk) (by simpa using he), Int.mul_zero]
theorem ev_filter_zero (x : List Int) (p : Tm → Bool) : ∀ l : Pl, (∀ t ∈ l, p t = false → mev x t.1 = 0) → ev x (l.filter p) = ev x l
  | [], _ => rfl
  | t :: l, h => by
    have ih := ev_filter_zero x p l fun u hu => h u (List.mem_cons_of_mem _ hu)
    rw [List.filter_cons]
    cases hp : p t with
    | true => rw [if_pos rfl, ev, ev, ih]
    | false => rw [if_neg Bool.false_ne_true, ih, ev, h t List.mem_cons_self hp, Int.mul_zero, Int.zero_add]
theorem flatMap_snoc {α β : Type} (l : List α) (x : α) (f : α → List β) : (l ++ [x]).flatMap f = l.flatMap f ++ f x := by simp
theorem od_ch (x : List Nat) {n a : Nat} (hx : x.length = n) (hb : ∀ k, k < n → a.testBit (n - 1 - k) = decide (0 < x.getD k 0)) : x.map (fun k => D.str (od k)) = ch n a := by
  unfold ch
  apply List.ext_getElem?
  intro k
  rw [List.getElem?_map, List.getElem?_map]
  by_cases hk : k < n
  · have hkx : k < x.length := by omega
    rw [List.getElem?_eq_getElem hkx, List.getElem?_range hk, Option.map_some, Option.map_some, hb k hk, List.getD_eq_getElem?_getD, List.getElem?_eq_getElem hkx]
    unfold od
    simp only [Option.getD_some]
    by_cases h0 : x[k] = 0
    · rw [if_pos h0, h0]; rfl
    · rw [if_neg h0, if_pos (decide_eq_true (by omega))]
  · rw [List.getElem?_eq_none (by omega), List.getElem?_eq_none (by simp; omega)]
    rfl
theorem book_value_ok {n : Nat} (hn : n ≤ 10) (x : List Nat) (hx : x.length = n) (hs : ∀ k, x.getD k 0 < 15) (l : Pl) (S : Sto) (Q : WP) (E : XP) (hl : l.length ≤ 1000) (hL : Len n l) (hB : N l < 2 ^ 3000) (hP : Ps l) (h : Q (.dat (.int (ev (x.map fun i : Nat => (i : Int)) l))) S) : w_book_value [bookD n l, txs x] S Q E := by
  obtain ⟨a, ha, hb⟩ := bits_ex n fun k => decide (0 < x.getD k 0)
  have hch := od_ch x hx hb
  have xk : ∀ (k : Nat) (l1 r : List Nat), x = l1 ++ k :: r → x.getD l1.length 0 = k := fun k l1 r e => by
    rw [e, List.getD_eq_getElem?_getD, List.getElem?_append_right (Nat.le_refl _), Nat.sub_self]; rfl
  unfold w_book_value r_book_value txs
  walk_at "fx"
  refine compA (fun k : Nat => M.dat (.str (od k))) (by omega) ?_ fun l1 k r K1 e k1 => ?_
  · refine ⟨x.map fun k => D.str (od k), ?_, ?_⟩
    · rw [show (x.map fun k : Nat => M.dat (.str (od k))) = (x.map fun k => D.str (od k)).map M.dat by rw [List.map_map]; rfl]
      exact ld_lst _
    rw [hch]
    unfold r_book_value_3
    walk_at "fx"
    unfold r_book_value_2
    walk_at "fx"
    refine ⟨by decide, ?_⟩
    refine forE (fun l1 ρ => ∃ b c : Option M, ρ = [some (.dat (bookD n l)), some (.dat (.tup (x.map tx))), some (.dat (.tup (ch n a))), some (.lst (((List.range l1.length).flatMap fun k => pts k (x.getD k 0)).map .dat)), b, c]) ⟨none, none, rfl⟩ ?_ ?_
    · rintro ρ ⟨b, c, rfl⟩
      unfold r_book_value_1
      walk_at "fx"
      refine book_row_ok hn ha l S _ _ ?_
      walk_at "fx"
      rw [hx, ← hx]
      subst hx
      refine ⟨_, ld_lst _, ?_⟩
      refine value_at_ok x hn hs _ S _ _ ?_ (nfl_len fun t ht => hL t (List.mem_filter.mp ht).1) ?_ ?_ ?_
      · rw [(nfl_perm _).length_eq]
        exact Nat.le_trans (coll_le _) (Nat.le_trans (List.length_filter_le _ _) hl)
      · exact Bd_of (Nat.lt_of_le_of_lt (Nat.le_trans (N_nfl _) (N_filter _ _)) hB) (by decide)
      · intro t ht
        have h1 := coll_keys _ ((nfl_perm _).mem_iff.mp ht)
        obtain ⟨u, hu, e1⟩ := List.mem_map.mp h1
        rw [← e1]
        exact hP u (List.mem_filter.mp hu).1
      · rw [ev_nfl, ev_filter_zero]
        · exact h
        · intro t ht hk
          unfold keep at hk
          rw [List.all_eq_false] at hk
          obtain ⟨k, hk1, hk2⟩ := hk
          have hk1 := List.mem_range.mp hk1
          simp only [Bool.or_eq_true, decide_eq_true_eq, not_or, Bool.not_eq_true] at hk2
          rw [hb k hk1] at hk2
          refine mev_zero _ _ k ?_ (by simpa using hk1) (by omega)
          have h0 : x.getD k 0 = 0 := by
            have := hk2.2
            simp at this
            simpa using this
          rw [List.getD_eq_getElem?_getD] at h0 ⊢
          rw [List.getElem?_map]
          cases hq : x[k]? with
          | none => rfl
          | some v => rw [hq] at h0; simp at h0; subst h0; rfl
    · rintro l1 k r ρ W e ⟨b, c, rfl⟩ ih
      walk_at "fx"
      have hk : k < 15 := by rw [← xk k l1 r e]; exact hs _
      have hlen : l1.length < n := by rw [← hx, e]; simp
      refine behind_counts_ok l1.length k S _ _ hk ?_
      refine ⟨pts l1.length k, rfl, ?_, ?_⟩
      · refine small_line ?_
        have h2 : ∀ m, ((List.range m).flatMap fun k => pts k (x.getD k 0)).length ≤ m := fun m => by
          induction m with
          | zero => simp
          | succ m ih =>
            rw [List.range_succ, flatMap_snoc, List.length_append]
            have : (pts m (x.getD m 0)).length ≤ 1 := by unfold pts; split <;> simp
            omega
        have h3 : (pts l1.length k).length ≤ 1 := by unfold pts; split <;> simp
        have := h2 l1.length
        omega
      · refine ih _ ⟨some (.dat (.int (l1.length : Nat))), some (.dat (tx k)), ?_⟩
        rw [List.length_append, List.length_singleton, List.range_succ, flatMap_snoc, xk k l1 r e, List.map_append]
  · walk_at "fx"
    have hk : k < 15 := by rw [← xk k l1 r e]; exact hs _
    exact order_of_ok k S _ _ hk k1
end K64
namespace K64
open PySem L2 L2.Fn
local macro_rules | `(tactic| walk_at "fx") => `(tactic| try simp only [mkW, fSeq, fAsg, gN, fC, fVar, fBin, fDat, fFrz, oAdd, oInt0, oInt, oIx, fIfS, fTru, oTru, fBl, fNot, fAnd, fOr, fNext, fRet, fRetV, fRetN, fLst, fTup, fNil, fCons, fCB, oLen, oIntC, oStrI, oTupC, oLstC, fApp, fSl, fPart, fNoP, oSl, fIf, fAndV, fOrV, fNotV, fIsi, M.ty, fM1, oIn, oEq, oNe, oLt, oLe, oGt, oGe, oSub, oMul, oFDiv, oMod, oPow, eqF, fDrop, fFor, fWalk, oWalk, fRng, oR1, oR2, fCall, fComp, fYes, wipeE, oCat, oRep,
  fComp2, oMulS, fNeg, oSum, fExt, M.sqD, fIdx, oIdx, keysD, Int.zero_add, oMin2, oMax2, oAbs, oI2, gTupP, gConsP, gNilP, fDict, fDSet, oDIx, oDIn, fDGet2, M.asD, oEnum, oZip, fFz, fSet0, fRevS, oRevS, fChain, oAll, oAny, oShl, oShr, oBand, oLstDN, oSortDN, oSortN, oRepT, fDComp, fCallU,
  List.length_cons, List.length_nil, List.map_cons, List.map_nil, List.cons_append, List.nil_append, List.append_nil, blanks, List.getElem?_cons_zero, List.getElem?_cons_succ, List.set_cons_zero, List.set_cons_succ, Option.some.injEq, exists_eq_left', true_and, and_true, Nat.reduceSub, Nat.reduceAdd, Nat.reduceLT, Nat.lt_add_one, M.dat.injEq, D.bl.injEq, D.int.injEq, Nat.zero_lt_succ, Nat.succ_lt_succ_iff, Nat.zero_lt_one, exists_eq_left, List.getElem?_nil, Bool.false_bne, Bool.false_xor, decide_eq_true_eq,
  ex_nil, ex_cons, ex_map, toD_lst, toD_dat, dats_nil, dats_cons, ld_l, ld_dat, ld_lst, Option.map_some, ex_some, kitI isi_int_int, kitI isi_int_bool, kitI isi_str_str, kitI isi_tup_tup, kitI isi_str_tup, M.lst.injEq, List.length_map, Bool.not_true, Bool.not_false, Bool.false_eq_true, if_true, if_false, reduceIte, endOf_nx, endOf_rt, endOf_ex, ex_pair, ex_dct, ex_cons2, Option.bind_some, Option.getD_some, Option.getD_none, flat_one, Int.toNat_natCast, gv_LETTERS])
/-! ### the monomial of no unknown number -/
structure BadOk (n w : Nat) (pw : Ex) (b : Nm) (p : Nat) : Prop where
  wl : w < 5
  len : pw.length = n
  sm : ∀ k, pw.getD k 0 < 4
  p0 : 0 < p
  p3 : p ≤ 3
  no : goodN n b = false
  ok : okN b
  w0 : w = 0 → b = (n, [97], [])
def badD (w : Nat) (pw : Ex) (b : Nm) (p : Nat) : D := .lst [.int (w : Int), exD pw, nD b, .int (p : Int)]
theorem shaped2 (a b : List Nat) (h : SeqAt.shaped (.tuple [.str ⟨a.toArray⟩, .str ⟨b.toArray⟩]) = true) {k : Nat} : okN (k, a, b) := h
theorem okN_a (k : Nat) : okN (k, [97], []) := shaped2 [97] [] (by decide +kernel)
theorem okN_b (k : Nat) : okN (k, [98], []) := shaped2 [98] [] (by decide +kernel)
theorem okN_aa (k : Nat) : okN (k, [97], [97]) := shaped2 [97] [97] (by decide +kernel)
theorem okN_ab (k : Nat) : okN (k, [97], [98]) := shaped2 [97] [98] (by decide +kernel)
theorem int_at' {ds : List Int} {i : Nat} {z : Int} (h : ds[i]? = some z) : atI (ds.map D.int) (i : Int) = some (.int z) := atI_n (by rw [List.getElem?_map, h]; rfl)
theorem nat_of {z : Int} (h : 0 ≤ z) : ∃ k : Nat, z = (k : Int) := ⟨z.toNat, (Int.toNat_of_nonneg h).symm⟩
theorem bad_ok {n : Nat} (hn : n ≤ 4) (ds : List Int) (hd : Digs ds [4, 3, 5, 4, 4, 4, 4, 4]) (S : Sto) (Q : WP) (E : XP)
    (h : ∀ w pw b p, BadOk n w pw b p → Q (.lst [.dat (.int (w : Int)), .dat (exD pw), .dat (nD b), .dat (.int (p : Int))]) S) : w__law_bad [.int n, .lst (ds.map D.int)] S Q E := by
  have hat : ∀ i : Nat, i < 8 → atI (ds.map D.int) (i : Int) = some (.int ((ds.getD i 0).toNat : Nat)) ∧ (∀ z : Int, [4, 3, 5, 4, 4, 4, 4, (4 : Int)][i]? = some z → ((ds.getD i 0).toNat : Int) < z) := fun i hi => by
    have h1 : i < ds.length := by rw [hd.1]; exact hi
    have h2 : i < [4, 3, 5, 4, 4, 4, 4, (4 : Int)].length := hi
    have h3 := hd.2 i ds[i] _ (List.getElem?_eq_getElem h1) (List.getElem?_eq_getElem h2)
    have h4 : ds.getD i 0 = ds[i] := by rw [List.getD_eq_getElem?_getD, List.getElem?_eq_getElem h1]; rfl
    rw [h4, Int.toNat_of_nonneg h3.1]
    refine ⟨int_at' (List.getElem?_eq_getElem h1), fun z hz => ?_⟩
    rw [List.getElem?_eq_getElem h2] at hz
    cases hz
    exact h3.2
  have a0 := (hat 0 (by decide)).1
  have a1 := (hat 1 (by decide)).1
  have a2 := (hat 2 (by decide)).1
  have b1 := (hat 1 (by decide)).2 3 rfl
  have b2 := (hat 2 (by decide)).2 5 rfl
  have a3 : ∀ k : Nat, k < n → atI (ds.map D.int) (3 + k : Int) = some (.int ((ds.getD (3 + k) 0).toNat : Nat)) ∧ (ds.getD (3 + k) 0).toNat < 4 := fun k hk => by
    have := hat (3 + k) (by omega)
    refine ⟨by have h5 := this.1; rwa [Int.natCast_add] at h5, ?_⟩
    have h6 := this.2 4 (by
      have : k = 0 ∨ k = 1 ∨ k = 2 ∨ k = 3 := by omega
      rcases this with rfl | rfl | rfl | rfl <;> rfl)
    omega
  generalize hpw : (fun k : Nat => (ds.getD (3 + k) 0).toNat) = pf at a3
  have a3 : ∀ k : Nat, k < n → atI (ds.map D.int) (3 + k : Int) = some (.int (pf k : Nat)) ∧ pf k < 4 := fun k hk => by rw [← hpw]; exact a3 k hk
  generalize (ds.getD 0 0).toNat = d0 at a0
  generalize (ds.getD 1 0).toNat = d1 at a1 b1
  generalize (ds.getD 2 0).toNat = d2 at a2 b2
  clear hat
  unfold w__law_bad r__law_bad
  generalize hrow : ds.map D.int = row at *
  walk_at "fx"
  refine ⟨_, a0, ?_⟩
  have hmx : (if (n : Int) > 1 then (n : Int) else 1) = ((max 1 n : Nat) : Int) := by split <;> omega
  rw [hmx]
  show 0 < _ ∧ _
  refine ⟨by omega, ?_⟩
  rw [← Int.natCast_emod]
  generalize d0 % max 1 n = g
  have fin : ∀ (b : Nm), goodN n b = false → okN b → (d2 = 0 → b = (n, [97], [])) → r__law_bad_1 (endOf Q E) [some (.dat (.int (n : Int))), some (.dat (.lst row)), some (.dat (.int (g : Int))), some (.dat (nD b)), none] S := fun b hb hk h0 => by
    unfold r__law_bad_1
    walk_at "fx"
    refine ⟨_, a2, by omega, by omega, ?_⟩
    rw [rng_map]
    refine compA (fun k : Nat => M.dat (.int (pf k : Nat))) (by simp; omega) ?_ fun l1 k r1 K1 e1 k1 => ?_
    · refine ⟨((List.range n).map pf).map fun p : Nat => D.int (p : Int), ?_, _, a1, ?_⟩
      · rw [List.map_map, show (fun k : Nat => M.dat (.int (pf k : Nat))) = M.dat ∘ fun k => .int (pf k : Nat) from rfl, ← List.map_map]
        exact ld_lst _
      · refine ⟨by decide, ?_⟩
        have := h d2 ((List.range n).map pf) b (1 + d1) ⟨by omega, by simp, fun k => ?_, by omega, by omega, hb, hk, h0⟩
        · rw [Int.natCast_add] at this
          exact this
        · rw [List.getD_eq_getElem?_getD, List.getElem?_map]
          by_cases hkn : k < n
          · rw [List.getElem?_range hkn]; exact (a3 k hkn).2
          · rw [List.getElem?_eq_none (by simp; omega)]; exact (by decide : 0 < 4)
    · have hk := (range_at e1).2
      rw [Int.zero_add]
      walk_at "fx"
      exact ⟨_, (a3 k hk).1, k1⟩
  unfold r__law_bad_2
  walk_at "fx"
  refine ⟨by decide, _, a1, by decide, by decide, by decide, by decide, by decide, _, a2, ?_⟩
  have hc : d2 = 0 ∨ d2 = 1 ∨ d2 = 2 ∨ d2 = 3 ∨ d2 = 4 := by omega
  rcases hc with rfl | rfl | rfl | rfl | rfl
  · exact ⟨_, rfl, fin (n, [97], []) (by simp [goodN]) (okN_a _) fun _ => rfl⟩
  · refine ⟨_, rfl, ?_⟩
    have := fin (n + 1 + d1, [97], []) (by simp [goodN]; omega) (okN_a _) fun z => by omega
    simpa [nD] using this
  · exact ⟨_, rfl, fin (g, [98], []) (by simp [goodN]) (okN_b _) fun z => by omega⟩
  · exact ⟨_, rfl, fin (g, [97], [97]) (by simp [goodN]) (okN_aa _) fun z => by omega⟩
  · exact ⟨_, rfl, fin (g, [97], [98]) (by simp [goodN]) (okN_ab _) fun z => by omega⟩
/-! ### keys of monomials in any variables -/
def qK (p : Nm × Nat) : NK := .t [nK p.1, .i (p.2 : Int)]
def gmK (m : List (Nm × Nat)) : NK := .t (m.map qK)
def gtK (t : Gt) : NK := .t [gmK t.1, .i t.2]
theorem qD_nk (p : Nm × Nat) : (qD p).nk = some (qK p) := by simp [qD, qK, D.nk, D.nks, nD_nk]
theorem gtD_nk (t : Gt) : (gtD t).nk = some (gtK t) := by
  have := nks_map qD_nk t.1
  simp [gtD, gtK, gmK, D.nk, D.nks, this]
theorem qD_key (p : Nm × Nat) : (qD p).nkey = qK p := by unfold D.nkey; rw [qD_nk]; rfl
theorem gtD_key (t : Gt) : (gtD t).nkey = gtK t := by unfold D.nkey; rw [gtD_nk]; rfl
theorem nK_dep (d : Nm) : (nK d).dep = 1 := by simp [nK, NK.dep, NK.deps]
theorem qK_dep (p : Nm × Nat) : (qK p).dep = 2 := by simp [qK, NK.dep, NK.deps, nK_dep]
theorem gmK_dep (m : List (Nm × Nat)) : (gmK m).dep ≤ 3 := by
  have := deps_le (f := qK) (n := 2) (fun x => by rw [qK_dep]; exact Nat.le_refl _) m
  unfold gmK
  rw [NK.dep]
  omega
theorem gtK_dep (t : Gt) : (gtK t).dep ≤ 8 := by
  have := gmK_dep t.1
  unfold gtK
  rw [NK.dep, NK.deps, NK.deps, NK.deps, NK.dep]
  omega
theorem Cm_q (p q : Nm × Nat) : Cm (qK p) (qK q) = true := by
  unfold qK
  rw [Cm, Cms]
  split
  · rw [Cms]; split <;> simp [Cms, Cm]
  · exact Cm_n _ _
theorem Cm_gm (m m' : List (Nm × Nat)) : Cm (gmK m) (gmK m') = true := by
  unfold gmK
  rw [Cm]
  refine Cms_of fun a ha b hb => ?_
  obtain ⟨q, _, rfl⟩ := List.mem_map.mp ha
  obtain ⟨r, _, rfl⟩ := List.mem_map.mp hb
  exact Cm_q q r
theorem Cm_gt (s t : Gt) : Cm (gtK s) (gtK t) = true := by
  unfold gtK
  rw [Cm, Cms]
  split
  · rw [Cms]; split <;> simp [Cms, Cm]
  · exact Cm_gm _ _
/-- the polynomial with one monomial more -/
theorem with_ok {n : Nat} (hn : n ≤ 10) (g : List Gt) (w : Nat) (pw : Ex) (b : Nm) (p : Nat) (c : Int) (hp : pw.length = n) (hg : g.length ≤ 1000) (S : Sto) (Q : WP) (E : XP)
    (h : ∀ (m : List (Nm × Nat)) (g' : List Gt), m.Perm ((prs 0 pw).map (fun q => ((q.1, [97], []), q.2)) ++ [(b, p)]) → m.Pairwise (fun x y => NK.lt (qK y) (qK x) = false) → g'.Perm (g ++ [(m, c)]) → g'.Pairwise (fun x y => NK.lt (gtK y) (gtK x) = false) → Q (.dat (gD g')) S) :
    w__law_with [gD g, badD w pw b p, .int c] S Q E := by
  unfold w__law_with r__law_with
  rw [show gD g = .tup (g.map gtD) from rfl, show badD w pw b p = .lst [.int (w : Int), exD pw, nD b, .int (p : Int)] from rfl]
  have a1 : atI [.int (w : Int), exD pw, nD b, .int (p : Int)] 1 = some (exD pw) := rfl
  have a2 : atI [.int (w : Int), exD pw, nD b, .int (p : Int)] 2 = some (nD b) := rfl
  have a3 : atI [.int (w : Int), exD pw, nD b, .int (p : Int)] 3 = some (.int (p : Int)) := rfl
  walk_at "fx"
  refine ⟨_, a1, ?_⟩
  rw [show exD pw = .tup (pw.map fun p : Nat => D.int (p : Int)) from rfl] at a1 ⊢
  walk_at "fx"
  refine ⟨by omega, by omega, ?_⟩
  rw [rng_map]
  refine compM (fun k : Nat => decide (0 < pw.getD k 0)) (fun k => .dat (pD (k, pw.getD k 0))) (by simp; omega) ?_ fun l1 k r1 K1 K2 e1 k1 k2 => ?_
  · have e2 : ((List.range pw.length).filter fun k => decide (0 < pw.getD k 0)).map (fun k => M.dat (pD (k, pw.getD k 0))) = ((prs 0 pw).map pD).map M.dat := by
      rw [← prs_range pw, List.map_map, List.map_map]
      rfl
    rw [e2]
    unfold r__law_with_1
    walk_at "fx"
    have hpl := prs_len pw 0
    refine ⟨_, a2, _, a3, by decide, by decide, small_line (by omega), (prs 0 pw).map pD ++ [qD (b, p)], ld_lst _, ?_⟩
    have e3 : (prs 0 pw).map pD ++ [qD (b, p)] = ((prs 0 pw).map (fun q => (((q.1, [97], []) : Nm), q.2)) ++ [(b, p)]).map qD := by
      rw [List.map_append, List.map_map]; rfl
    rw [e3]
    generalize hM : (prs 0 pw).map (fun q => (((q.1, [97], []) : Nm), q.2)) ++ [(b, p)] = ms at h
    refine ⟨fun d hd => ?_, fun d hd e he => ?_, fun es pm pr => ?_⟩
    · obtain ⟨x, _, rfl⟩ := List.mem_map.mp hd
      exact ⟨_, qD_nk x, by have := qK_dep x; unfold qK at this; omega⟩
    · obtain ⟨x, _, rfl⟩ := List.mem_map.mp hd
      obtain ⟨y, _, rfl⟩ := List.mem_map.mp he
      rw [qD_key, qD_key]
      exact Cm_q x y
    obtain ⟨m, pL, rfl⟩ := perm_map pm
    refine ⟨_, ld_lst _, by decide, by decide, _, ld_lst _, small_line (by simp; omega), g.map gtD ++ [gtD (m, c)], ld_lst _, ?_⟩
    have e4 : g.map gtD ++ [gtD (m, c)] = (g ++ [(m, c)]).map gtD := by simp
    rw [e4]
    refine ⟨fun d hd => ?_, fun d hd e he => ?_, fun es pm2 pr2 => ?_⟩
    · obtain ⟨x, _, rfl⟩ := List.mem_map.mp hd
      exact ⟨_, gtD_nk x, gtK_dep x⟩
    · obtain ⟨x, _, rfl⟩ := List.mem_map.mp hd
      obtain ⟨y, _, rfl⟩ := List.mem_map.mp he
      rw [gtD_key, gtD_key]
      exact Cm_gt x y
    obtain ⟨g', pG, rfl⟩ := perm_map pm2
    refine ⟨_, ld_lst _, h m g' pL ?_ pG ?_⟩
    · rw [List.pairwise_map] at pr
      exact pr.imp fun {a b} z => by rwa [qD_key, qD_key] at z
    · rw [List.pairwise_map] at pr2
      exact pr2.imp fun {a b} z => by rwa [gtD_key, gtD_key] at z
  · have hk : k < pw.length := by
      have : k ∈ List.range pw.length := by rw [e1]; simp
      exact List.mem_range.mp this
    rw [Int.zero_add]
    walk_at "fx"
    refine ⟨_, a1, ?_⟩
    walk_at "fx"
    refine ⟨_, exD_at hk, ?_⟩
    walk_at "fx"
    by_cases hz : 0 < pw.getD k 0
    · rw [if_pos (by omega)]
      refine ⟨by decide, _, a1, ?_⟩
      walk_at "fx"
      refine ⟨_, exD_at hk, by decide, k1 (decide_eq_true hz)⟩
    · rw [if_neg (by omega)]
      exact k2 (decide_eq_false hz)
end K64
namespace K64
open PySem L2 L2.Fn
local macro_rules | `(tactic| walk_at "fx") => `(tactic| try simp only [mkW, fSeq, fAsg, gN, fC, fVar, fBin, fDat, fFrz, oAdd, oInt0, oInt, oIx, fIfS, fTru, oTru, fBl, fNot, fAnd, fOr, fNext, fRet, fRetV, fRetN, fLst, fTup, fNil, fCons, fCB, oLen, oIntC, oStrI, oTupC, oLstC, fApp, fSl, fPart, fNoP, oSl, fIf, fAndV, fOrV, fNotV, fIsi, M.ty, fM1, oIn, oEq, oNe, oLt, oLe, oGt, oGe, oSub, oMul, oFDiv, oMod, oPow, eqF, fDrop, fFor, fWalk, oWalk, fRng, oR1, oR2, fCall, fComp, fYes, wipeE, oCat, oRep,
  fComp2, oMulS, fNeg, oSum, fExt, M.sqD, fIdx, oIdx, keysD, Int.zero_add, oMin2, oMax2, oAbs, oI2, gTupP, gConsP, gNilP, fDict, fDSet, oDIx, oDIn, fDGet2, M.asD, oEnum, oZip, fFz, fSet0, fRevS, oRevS, fChain, oAll, oAny, oShl, oShr, oBand, oLstDN, oSortDN, oSortN, oRepT, fDComp, fCallU,
  List.length_cons, List.length_nil, List.map_cons, List.map_nil, List.cons_append, List.nil_append, List.append_nil, blanks, List.getElem?_cons_zero, List.getElem?_cons_succ, List.set_cons_zero, List.set_cons_succ, Option.some.injEq, exists_eq_left', true_and, and_true, Nat.reduceSub, Nat.reduceAdd, Nat.reduceLT, Nat.lt_add_one, M.dat.injEq, D.bl.injEq, D.int.injEq, Nat.zero_lt_succ, Nat.succ_lt_succ_iff, Nat.zero_lt_one, exists_eq_left, List.getElem?_nil, Bool.false_bne, Bool.false_xor, decide_eq_true_eq,
  ex_nil, ex_cons, ex_map, toD_lst, toD_dat, dats_nil, dats_cons, ld_l, ld_dat, ld_lst, Option.map_some, ex_some, kitI isi_int_int, kitI isi_int_bool, kitI isi_str_str, kitI isi_tup_tup, kitI isi_str_tup, M.lst.injEq, List.length_map, Bool.not_true, Bool.not_false, Bool.false_eq_true, if_true, if_false, reduceIte, endOf_nx, endOf_rt, endOf_ex, ex_pair, ex_dct, ex_cons2, Option.bind_some, Option.getD_some, Option.getD_none, flat_one, Int.toNat_natCast, gv_LETTERS, fTry, fRaise1, fIsE, fXf, P0])
theorem refused_ok {n : Nat} (g : List Gt) (S : Sto) (Q : WP) (E : XP) (hn : n ≤ 10) (hl : (names g).length ≤ 60) (hok : ∀ d ∈ names g, okN d) {b : Nm} (hb : b ∈ names g) (hg : goodN n b = false) (h : Q (.dat (.bl true)) S) : w__law_refused [.int n, gD g] S Q E := by
  unfold w__law_refused r__law_refused
  walk_at "fx"
  refine border_ok g S _ _ hn hl hok (fun hall => ?_) fun d hd hbad => ?_
  · rw [hall b hb] at hg; cases hg
  · refine ⟨_, rfl, fun a dd => ⟨by decide, by decide, [.bl false, .bl false, .bl false, .bl false], rfl, by decide, [false, false, false, false, false, false, false, false], rfl, ?_⟩⟩
    rw [if_neg (by decide)]
    refine ⟨_, rfl, _, isi_str_str, ?_⟩
    rw [if_pos rfl]
    exact ⟨_, rfl, h⟩
/-! ### the books hold at a point -/
def intsL (x : List Nat) : List Int := x.map fun i : Nat => (i : Int)
theorem N_sqr {ts : Pl} : N (sqr ts) ≤ N ts * N ts := by
  unfold sqr
  rw [← N_prods]
  exact N_coll _
theorem N_neg (l : Pl) : N (neg l) ≤ N l := by
  unfold neg
  rw [N_ng]
  exact N_filter _ _
theorem mev_zeros : ∀ (x : List Int) (n : Nat), mev x (zeros n) = 1
  | [], n => by cases n <;> simp [zeros, mev, List.replicate]
  | y :: x, 0 => by simp [zeros, mev]
  | y :: x, n + 1 => by
    have := mev_zeros x n
    unfold zeros at this ⊢
    rw [List.replicate_succ, mev, this]; simp
theorem ev_sides {x : List Int} {n : Nat} {ts : Pl} (hx : x.length = n) (hL : Len n ts) : ev x (less n ts) = 1 + ev x (plus ts) - ev x ts * ev x ts := by
  unfold less one1
  rw [ev_coll, ev, mev_zeros]
  unfold neg plus pos
  rw [ev_ng]
  have h1 := ev_split (x := x) (sqr ts)
  have h2 : ev x (sqr ts) = ev x ts * ev x ts := by
    unfold sqr
    rw [ev_coll, ev_prods _ _ (by rw [hx]; exact hL) (by rw [hx]; exact hL)]
  rw [h2] at h1
  simp only [Int.mul_one]
  omega
theorem more_iff {x : List Int} {n : Nat} {ts : Pl} (hx : x.length = n) (hL : Len n ts) : decide (ev x (less n ts) > ev x (plus ts)) = decide (ev x ts = 0) := by
  rw [ev_sides hx hL]
  refine decide_eq_decide.mpr ?_
  have h : 0 ≤ ev x ts * ev x ts := by
    rcases Int.le_total 0 (ev x ts) with h | h
    · exact Int.mul_nonneg h h
    · exact Int.mul_nonneg_of_nonpos_of_nonpos h h
  constructor
  · intro z
    have : ev x ts * ev x ts = 0 := by omega
    rcases Int.mul_eq_zero.mp this with q | q <;> exact q
  · intro z
    rw [z]
    omega
theorem esum_pl2 : ∀ e e' : Ex, esum (pl2 e e') ≤ esum e + esum e'
  | [], e' => by simp [pl2, esum]
  | p :: e, [] => by simp [pl2, esum]
  | p :: e, q :: e' => by
    have := esum_pl2 e e'
    unfold pl2 at this ⊢
    rw [List.zipWith_cons_cons, esum, esum, esum]
    omega
theorem Ps_sqr {ts : Pl} (hP : ∀ t ∈ ts, esum t.1 ≤ 400) : Ps (sqr ts) := fun t ht => by
  obtain ⟨u, hu, e⟩ := List.mem_map.mp (coll_keys _ ht)
  unfold prods at hu
  obtain ⟨a, ha, hu⟩ := List.mem_flatMap.mp hu
  obtain ⟨b, hb, rfl⟩ := List.mem_map.mp hu
  rw [← e]
  have := esum_pl2 a.1 b.1
  have h1 := hP a ha
  have h2 := hP b hb
  show esum (pl2 a.1 b.1) ≤ 1000
  omega
theorem esum_zeros : ∀ n, esum (zeros n) = 0
  | 0 => rfl
  | n + 1 => by
    have := esum_zeros n
    unfold zeros at this ⊢
    rw [List.replicate_succ, esum, this]
theorem Ps_less {n : Nat} {ts : Pl} (hP : ∀ t ∈ ts, esum t.1 ≤ 400) : Ps (less n ts) := fun t ht => by
  obtain ⟨u, hu, e⟩ := List.mem_map.mp (coll_keys _ ht)
  rw [← e]
  unfold one1 at hu
  rcases List.mem_cons.mp hu with rfl | hu
  · rw [esum_zeros]; decide
  · unfold neg at hu
    obtain ⟨v, hv, rfl⟩ := List.mem_map.mp hu
    exact Ps_sqr hP v (List.mem_filter.mp hv).1
theorem Ps_plus {ts : Pl} (hP : ∀ t ∈ ts, esum t.1 ≤ 400) : Ps (plus ts) := fun t ht => Ps_sqr hP t (List.mem_filter.mp ht).1
theorem N_sq {ts : Pl} (hN : N ts < 2 ^ 1000) : N (sqr ts) < 2 ^ 2000 := by
  refine Nat.lt_of_le_of_lt N_sqr ?_
  rw [show 2000 = 1000 + 1000 from rfl, Nat.pow_add]
  exact Nat.mul_lt_mul'' hN hN
theorem N_plus {ts : Pl} (hN : N ts < 2 ^ 1000) : N (plus ts) < 2 ^ 3000 :=
  Nat.lt_of_le_of_lt (N_filter _ _) (Nat.lt_of_lt_of_le (N_sq hN) (Nat.pow_le_pow_right (by decide) (by decide)))
theorem N_less {n : Nat} {ts : Pl} (hN : N ts < 2 ^ 1000) : N (less n ts) < 2 ^ 3000 := by
  have h1 : N (less n ts) ≤ 1 + N (sqr ts) := by
    refine Nat.le_trans (N_coll _) ?_
    unfold one1
    rw [N]
    exact Nat.add_le_add_left (N_neg _) _
  have h2 := N_sq hN
  have h3 : 2 ^ 2000 < 2 ^ 3000 := Nat.pow_lt_pow_right (by decide) (by decide)
  generalize 2 ^ 2000 = A at h2 h3
  generalize 2 ^ 3000 = B at h3 ⊢
  omega
theorem holds_ok {n : Nat} (hn : n ≤ 10) (ts : Pl) (x : List Nat) (S : Sto) (Q : WP) (E : XP) (hx : x.length = n) (hs : ∀ k, x.getD k 0 < 15) (hl : ts.length ≤ 20) (hL : Len n ts) (hN : N ts < 2 ^ 1000) (hP : ∀ t ∈ ts, esum t.1 ≤ 400)
    (h : Q (.dat (.bl true)) S) : w__law_holds [dueD n ts, .lst (ts.map tD), .lst [.lst ((less n ts).map tD), .lst ((plus ts).map tD)], ptD (intsL x)] S Q E := by
  unfold w__law_holds r__law_holds ptD intsL
  walk_at "fx"
  have hxg : ∀ k, ((intsL x).getD k 0).natAbs.log2 ≤ 3 := fun k => by
    have h1 := hs k
    unfold intsL
    rw [List.getD_eq_getElem?_getD] at h1 ⊢
    rw [List.getElem?_map]
    cases hq : x[k]? with
    | none => decide
    | some v =>
      rw [hq] at h1
      simp only [Option.getD_some, Option.map_some] at h1 ⊢
      clear hq
      rw [Int.natAbs_natCast]
      revert v
      decide
  have l1 := less_le (n := n) hl
  have l2 := plus_le hl
  have xl : (intsL x).length = n := by unfold intsL; rw [List.length_map]; exact hx
  rw [List.map_map]
  refine compA (fun k : Nat => M.dat (tx k)) (by omega) ?_ fun l1 k r1 K1 e1 k1 => ?_
  · refine ⟨x.map tx, ?_, ?_⟩
    · rw [show (fun k : Nat => M.dat (tx k)) = M.dat ∘ tx from rfl, ← List.map_map]
      exact ld_lst _
    rw [← List.map_map, show D.tup (x.map tx) = txs x from rfl]
    unfold r__law_holds_4
    walk_at "fx"
    refine ⟨_, rfl, ?_⟩
    refine book_value_ok hn x hx hs _ S _ _ (by omega) (less_lens hL) (N_less hN) (Ps_less hP) ?_
    unfold r__law_holds_3
    walk_at "fx"
    refine ⟨_, rfl, ?_⟩
    refine book_value_ok hn x hx hs _ S _ _ (by omega) (plus_lens hL) (N_plus hN) (Ps_plus hP) ?_
    rw [show x.map (fun i : Nat => (i : Int)) = intsL x from rfl]
    unfold r__law_holds_2
    walk_at "fx"
    have hB1 : Bd (less n ts) := Bd_of (N_less hN) (by decide)
    have hB2 : Bd (plus ts) := Bd_of (N_plus hN) (by decide)
    have s1 : ∀ z : Int, TT 9 (.int z) := fun z => .int _ z
    refine ⟨_, rfl, worth_ok (n := n) (by omega) _ _ S _ _ xl hxg (by omega) (less_lens hL) hB1 (Ps_less hP) ⟨[_], rfl, same_ok _ _ 9 _ _ (s1 _) ?_⟩⟩
    walk_at "fx"
    refine ⟨_, rfl, worth_ok (n := n) (by omega) _ _ S _ _ xl hxg (by omega) (plus_lens hL) hB2 (Ps_plus hP) ⟨[_], rfl, same_ok _ _ 9 _ _ (s1 _) ?_⟩⟩
    walk_at "fx"
    unfold r__law_holds_1
    walk_at "fx"
    refine worth_ok (n := n) (by omega) ts _ S _ _ xl hxg (by omega) hL (Bd_of hN (by decide)) (fun t ht => Nat.le_trans (hP t ht) (by decide)) ?_
    walk_at "fx"
    rw [more_iff xl hL]
    walk_at "fx"
    simpa using h
  · have hk : k < 15 := by
      have : x.getD l1.length 0 = k := by rw [e1, List.getD_eq_getElem?_getD, List.getElem?_append_right (Nat.le_refl _), Nat.sub_self]; rfl
      rw [← this]; exact hs _
    show gN 7 _ _ _
    walk_at "fx"
    show -2 ^ 62 ≤ (k : Int) ∧ (k : Int) < 2 ^ 62 ∧ 1 * (k : Int).toNat ≤ 16000000 ∧ K1 (M.dat (D.str (List.replicate (k : Int).toNat [97]).flatten)) S
    refine ⟨by omega, by omega, by omega, ?_⟩
    rw [flat_one, Int.toNat_natCast]
    exact k1
end K64
namespace K64
open PySem L2 L2.Fn
local macro_rules | `(tactic| walk_at "fx") => `(tactic| try simp only [mkW, fSeq, fAsg, gN, fC, fVar, fBin, fDat, fFrz, oAdd, oInt0, oInt, oIx, fIfS, fTru, oTru, fBl, fNot, fAnd, fOr, fNext, fRet, fRetV, fRetN, fLst, fTup, fNil, fCons, fCB, oLen, oIntC, oStrI, oTupC, oLstC, fApp, fSl, fPart, fNoP, oSl, fIf, fAndV, fOrV, fNotV, fIsi, M.ty, fM1, oIn, oEq, oNe, oLt, oLe, oGt, oGe, oSub, oMul, oFDiv, oMod, oPow, eqF, fDrop, fFor, fWalk, oWalk, fRng, oR1, oR2, fCall, fComp, fYes, wipeE, oCat, oRep,
  fComp2, oMulS, fNeg, oSum, fExt, M.sqD, fIdx, oIdx, keysD, Int.zero_add, oMin2, oMax2, oAbs, oI2, gTupP, gConsP, gNilP, fDict, fDSet, oDIx, oDIn, fDGet2, M.asD, oEnum, oZip, fFz, fSet0, fRevS, oRevS, fChain, oAll, oAny, oShl, oShr, oBand, oLstDN, oSortDN, oSortN, oRepT, fDComp, fCallU,
  List.length_cons, List.length_nil, List.map_cons, List.map_nil, List.cons_append, List.nil_append, List.append_nil, blanks, List.getElem?_cons_zero, List.getElem?_cons_succ, List.set_cons_zero, List.set_cons_succ, Option.some.injEq, exists_eq_left', true_and, and_true, Nat.reduceSub, Nat.reduceAdd, Nat.reduceLT, Nat.lt_add_one, M.dat.injEq, D.bl.injEq, D.int.injEq, Nat.zero_lt_succ, Nat.succ_lt_succ_iff, Nat.zero_lt_one, exists_eq_left, List.getElem?_nil, Bool.false_bne, Bool.false_xor, decide_eq_true_eq,
  ex_nil, ex_cons, ex_map, toD_lst, toD_dat, dats_nil, dats_cons, ld_l, ld_dat, ld_lst, Option.map_some, ex_some, kitI isi_int_int, kitI isi_int_bool, kitI isi_str_str, kitI isi_tup_tup, kitI isi_str_tup, M.lst.injEq, List.length_map, Bool.not_true, Bool.not_false, Bool.false_eq_true, if_true, if_false, reduceIte, endOf_nx, endOf_rt, endOf_ex, ex_pair, ex_dct, ex_cons2, Option.bind_some, Option.getD_some, Option.getD_none, flat_one, Int.toNat_natCast, gv_LETTERS, fTry, fRaise1, fIsE, fXf, P0])
/-! ### the equation -/
structure EqOk (n : Nat) (ts : Pl) : Prop where
  red : Red ts
  len : Len n ts
  le : ts.length ≤ 7
  nn : N ts < 2 ^ 900
  es : ∀ t ∈ ts, esum t.1 ≤ 40
theorem digs_get {ds zs : List Int} (hd : Digs ds zs) {i : Nat} (hi : i < zs.length) : atI (ds.map D.int) (i : Int) = some (.int ((ds.getD i 0).toNat : Nat)) ∧ ((ds.getD i 0).toNat : Int) < zs.getD i 0 := by
  have h1 : i < ds.length := by rw [hd.1]; exact hi
  have h3 := hd.2 i ds[i] _ (List.getElem?_eq_getElem h1) (List.getElem?_eq_getElem hi)
  have h4 : ds.getD i 0 = ds[i] := by rw [List.getD_eq_getElem?_getD, List.getElem?_eq_getElem h1]; rfl
  have h5 : zs.getD i 0 = zs[i] := by rw [List.getD_eq_getElem?_getD, List.getElem?_eq_getElem hi]; rfl
  rw [h4, h5, Int.toNat_of_nonneg h3.1]
  exact ⟨int_at' (List.getElem?_eq_getElem h1), h3.2⟩
theorem esum_le_mul : ∀ (e : Ex) (c : Nat), (∀ p ∈ e, p ≤ c) → esum e ≤ e.length * c
  | [], _, _ => by simp [esum]
  | p :: e, c, h => by
    have h1 := esum_le_mul e c fun q hq => h q (List.mem_cons_of_mem _ hq)
    have h2 := h p List.mem_cons_self
    rw [esum, List.length_cons, Nat.succ_mul]
    omega
theorem esum_set : ∀ (e : Ex) (i v : Nat), esum (e.set i v) ≤ esum e + v
  | [], _, _ => by simp [esum]
  | p :: e, 0, v => by rw [List.set_cons_zero, esum, esum]; omega
  | p :: e, i + 1, v => by
    have := esum_set e i v
    rw [List.set_cons_succ, esum, esum]; omega
theorem mev_bound : ∀ (x : List Int) (e : Ex) {c : Nat}, 1 ≤ c → (∀ k, (x.getD k 0).natAbs ≤ c) → (mev x e).natAbs ≤ c ^ esum e
  | [], e, c, hc, h => by
    have : (mev [] e).natAbs = 1 := by cases e <;> rfl
    rw [this]
    exact Nat.one_le_pow _ _ hc
  | y :: x, [], c, hc, h => by
    rw [show mev (y :: x) [] = 1 from rfl, esum]
    simp
  | y :: x, p :: e, c, hc, h => by
    have h1 := mev_bound x e hc fun k => by simpa using h (k + 1)
    have h0 : y.natAbs ≤ c := by simpa using h 0
    rw [mev, esum, Int.natAbs_mul, Int.natAbs_pow, Nat.pow_add]
    exact Nat.mul_le_mul (Nat.pow_le_pow_left h0 p) h1
theorem ev_bound (x : List Int) {c m : Nat} (hc : 1 ≤ c) (h : ∀ k, (x.getD k 0).natAbs ≤ c) : ∀ l : Pl, (∀ t ∈ l, esum t.1 ≤ m) → (ev x l).natAbs ≤ N l * c ^ m
  | [], _ => by simp [ev, N]
  | t :: l, hl => by
    have ih := ev_bound x hc h l fun u hu => hl u (List.mem_cons_of_mem _ hu)
    have h1 := mev_bound x t.1 hc h
    have h2 : c ^ esum t.1 ≤ c ^ m := Nat.pow_le_pow_right hc (hl t List.mem_cons_self)
    have h3 : (t.2 * mev x t.1).natAbs ≤ t.2.natAbs * c ^ m := by
      rw [Int.natAbs_mul]
      exact Nat.mul_le_mul_left _ (Nat.le_trans h1 h2)
    rw [ev, N, Nat.add_mul]
    have := Int.natAbs_add_le (t.2 * mev x t.1) (ev x l)
    omega
/-- the terms as they are drawn -/
structure Raw (n at' : Nat) (l : Pl) : Prop where
  len : Len n l
  le : l.length = at'
  nn : N l ≤ at' * 10 ^ 24
  es : ∀ t ∈ l, esum t.1 ≤ 40
theorem equation_ok {n : Nat} (hn : n ≤ 4) (sz : Nat) (hz : sz ≤ 6) (pl : Bool) (ns : List Int) (x : List Nat) (hx : x.length = n) (hs : ∀ k, x.getD k 0 < 8) (S : Sto) (Q : WP) (E : XP) (hS : S = [])
    (h : ∀ ts, EqOk n ts → Q (.lst (ts.map tM)) S) : w__law_equation [.lst (ns.map .int), .int n, .int sz, .bl pl, ptD (intsL x)] S Q E := by
  unfold w__law_equation r__law_equation
  walk_at "fx"
  refine ⟨by decide, ?_⟩
  unfold r__law_equation_8
  walk_at "fx"
  refine ⟨by omega, by omega, ?_⟩
  refine forR (fun k ρ => ∃ l : Pl, Raw n k l ∧ ∃ a b c d e : Option M, ρ = [some (.dat (.lst (ns.map .int))), some (.dat (.int n)), some (.dat (.int sz)), some (.dat (.bl pl)), some (.dat (ptD (intsL x))), some (.lst ((l.map tD).map .dat)), a, b, c, d, e]) ⟨[], ⟨by simp [Len], rfl, by simp [N], by simp⟩, none, none, none, none, none, rfl⟩ ?_ ?_
  · rintro ρ ⟨l, hl, a, b, c, d, e, rfl⟩
    unfold r__law_equation_7
    walk_at "fx"
    have fin : ∀ l : Pl, Len n l → l.length ≤ 7 → N l < 2 ^ 900 → (∀ t ∈ l, esum t.1 ≤ 40) → r__law_equation_6 (endOf Q E) [some (.dat (.lst (ns.map .int))), some (.dat (.int n)), some (.dat (.int sz)), some (.dat (.bl pl)), some (.dat (ptD (intsL x))), some (.lst ((l.map tD).map .dat)), a, b, c, d, e] S := fun l h1 h2 h3 h4 => by
      unfold r__law_equation_6
      walk_at "fx"
      refine collected_ok l S _ _ (by omega) (h _ ⟨coll_red l, coll_len h1, Nat.le_trans (coll_le l) h2, Nat.lt_of_le_of_lt (N_coll l) h3, fun t ht => ?_⟩)
      obtain ⟨u, hu, e⟩ := List.mem_map.mp (coll_keys l ht)
      rw [← e]
      exact h4 u hu
    have hle := hl.le
    have hN1 : N l ≤ 6 * 10 ^ 24 := Nat.le_trans hl.nn (Nat.mul_le_mul_right _ hz)
    have p9 : 6 * 10 ^ 24 < 2 ^ 84 := by decide
    refine ite2 (fun _ => ?_) fun _ => fin l hl.len (by omega) (Nat.lt_of_le_of_lt hN1 (by decide)) hl.es
    refine ⟨small_line' (by omega), by omega, by omega, ?_⟩
    rw [rng_map]
    refine compA (fun k : Nat => M.dat (.int 0)) (by simp; omega) ?_ fun l1 j r1 K1 e1 k1 => ?_
    · have xl : (intsL x).length = n := by unfold intsL; rw [List.length_map]; exact hx
      have hxg : ∀ k, ((intsL x).getD k 0).natAbs < 8 := fun k => by
        have h1 := hs k
        unfold intsL
        rw [List.getD_eq_getElem?_getD] at h1 ⊢
        rw [List.getElem?_map]
        cases hq : x[k]? with
        | none => decide
        | some v => rw [hq] at h1; simpa using h1
      refine ⟨(zeros n).map fun p : Nat => D.int (p : Int), ?_, l.map tD, [ptD (intsL x)], rfl, worth_ok (n := n) (by omega) l _ S _ _ xl (fun k => ?_) (by omega) hl.len (Bd_of (k := 84) (by omega) (by decide)) (fun t ht => by have := hl.es t ht; omega) ⟨hS, _, rfl, trivial, _, rfl, by decide, ?_⟩⟩
      · rw [zeros_ints n]
        exact ld_lst _
      · have := hxg k
        generalize ((intsL x).getD k 0).natAbs = v at this
        revert v
        decide
      · have := fin (l ++ [(zeros n, - ev (intsL x) l)]) ?_ (by simp; omega) ?_ ?_
        · rw [List.map_append, List.map_append] at this
          exact this
        · intro t ht
          rcases List.mem_append.mp ht with q | q
          · exact hl.len t q
          · rw [List.mem_singleton.mp q]; exact zeros_len n
        · rw [N_app, N, N]
          have h1 := ev_bound (intsL x) (c := 8) (m := 40) (by decide) (fun k => by have := hxg k; omega) l hl.es
          show N l + ((-ev (intsL x) l).natAbs + 0) < 2 ^ 900
          rw [Int.natAbs_neg]
          have h2 : N l * 8 ^ 40 < 2 ^ 84 * 8 ^ 40 := Nat.mul_lt_mul_of_pos_right (by omega) (by decide)
          have h3 : 2 ^ 84 * 8 ^ 40 + 2 ^ 84 < 2 ^ 900 := by decide
          omega
        · intro t ht
          rcases List.mem_append.mp ht with q | q
          · exact hl.es t q
          · rw [List.mem_singleton.mp q]
            show esum (zeros n) ≤ 40
            rw [esum_zeros]; decide
    · walk_at "fx"
      exact k1
  · rintro k ρ W hk ⟨l, hl, a, b, c, d, e, rfl⟩ ih
    rw [Int.zero_add]
    walk_at "fx"
    refine ⟨cmulS (by decide) (by decide) (by omega) (by omega), cell_ok ns _ S _ _ (by omega) (by omega) fun cc => ⟨by decide, [.int cc, .lst ([4, 4, 4, 4, 19, 6, 19, (4 : Int)].map D.int)], rfl, ?_⟩⟩
    refine digits_ok cc [4, 4, 4, 4, 19, 6, 19, (4 : Int)] S _ _ (by decide) (by decide) fun ds hd => ?_
    rw [toD_lst]
    have g0 : ∀ i : Nat, i < 4 → atI (ds.map D.int) (i : Int) = some (.int ((ds.getD i 0).toNat : Nat)) ∧ (ds.getD i 0).toNat ≤ 3 := fun i hi => by
      have := digs_get hd (i := i) (by simp; omega)
      refine ⟨this.1, ?_⟩
      have h2 : [4, 4, 4, 4, 19, 6, 19, (4 : Int)].getD i 0 = 4 := by
        have : i = 0 ∨ i = 1 ∨ i = 2 ∨ i = 3 := by omega
        rcases this with rfl | rfl | rfl | rfl <;> rfl
      have := this.2
      rw [h2] at this
      omega
    obtain ⟨g4, b4⟩ := digs_get hd (i := 4) (by decide)
    obtain ⟨g5, b5⟩ := digs_get hd (i := 5) (by decide)
    obtain ⟨g6, b6⟩ := digs_get hd (i := 6) (by decide)
    obtain ⟨g7, b7⟩ := digs_get hd (i := 7) (by decide)
    rw [show [4, 4, 4, 4, 19, 6, 19, (4 : Int)].getD 4 0 = 19 from rfl] at b4
    rw [show [4, 4, 4, 4, 19, 6, 19, (4 : Int)].getD 6 0 = 19 from rfl] at b6
    generalize (ds.getD 4 0).toNat = d4 at g4 b4
    generalize (ds.getD 5 0).toNat = d5 at g5
    generalize (ds.getD 6 0).toNat = d6 at g6 b6
    generalize (ds.getD 7 0).toNat = d7 at g7
    generalize hdf : (fun k : Nat => (ds.getD k 0).toNat) = df at *
    have g0 : ∀ i : Nat, i < 4 → atI (ds.map D.int) (i : Int) = some (.int (df i : Nat)) ∧ df i ≤ 3 := fun i hi => by rw [← hdf]; exact g0 i hi
    generalize ds.map D.int = row at *
    unfold r__law_equation_5
    walk_at "fx"
    refine ⟨_, g4, ?_⟩
    unfold r__law_equation_4
    walk_at "fx"
    refine ⟨by omega, by omega, ?_⟩
    rw [rng_map]
    refine compA (fun k : Nat => M.dat (.int (df k : Nat))) (by simp; omega) ?_ fun l1 j r1 K1 e1 k1 => ?_
    · have fin1 : ∀ (pw : Ex) (z : Int), pw.length = n → esum pw ≤ 40 → z.natAbs ≤ 10 ^ 24 → r__law_equation_1 { nx := W, rt := Q, bk := r__law_equation_7 (endOf Q E), ct := W, ex := (endOf Q E).ex }
          [some (M.dat (D.lst (List.map D.int ns))), some (M.dat (D.int ↑n)), some (M.dat (D.int ↑sz)), some (M.dat (D.bl pl)), some (M.dat (ptD (intsL x))), some (M.lst (List.map M.dat (List.map tD l))), some (M.dat (D.int ↑k)), some (M.dat (D.lst row)), some (M.dat (D.int z)), some (M.lst ((pw.map fun p : Nat => D.int (p : Int)).map .dat)), e] S := fun pw z h1 h2 h3 => by
        unfold r__law_equation_1
        walk_at "fx"
        have hle := hl.le
        refine ⟨small_line' (by omega), _, ld_lst _, by decide, ih _ ⟨l ++ [(pw, z)], ⟨fun t ht => ?_, by simp [hle], ?_, fun t ht => ?_⟩, some (.dat (.int k)), some (.dat (.lst row)), some (.dat (.int z)), some (.lst ((pw.map fun p : Nat => D.int (p : Int)).map .dat)), e, ?_⟩⟩
        · rcases List.mem_append.mp ht with q | q
          · exact hl.len t q
          · rw [List.mem_singleton.mp q]; exact h1
        · rw [N_app, N, N]
          have := hl.nn
          rw [Nat.succ_mul]
          show N l + (z.natAbs + 0) ≤ _
          omega
        · rcases List.mem_append.mp ht with q | q
          · exact hl.es t q
          · rw [List.mem_singleton.mp q]; exact h2
        · rw [List.map_append, List.map_append]
          rfl
      have fin2 : ∀ z : Int, z.natAbs ≤ 10 ^ 24 → r__law_equation_2 { nx := W, rt := Q, bk := r__law_equation_7 (endOf Q E), ct := W, ex := (endOf Q E).ex }
          [some (M.dat (D.lst (List.map D.int ns))), some (M.dat (D.int ↑n)), some (M.dat (D.int ↑sz)), some (M.dat (D.bl pl)), some (M.dat (ptD (intsL x))), some (M.lst (List.map M.dat (List.map tD l))), some (M.dat (D.int ↑k)), some (M.dat (D.lst row)), some (M.dat (D.int z)), some (M.lst (List.map (fun k => M.dat (D.int ↑(df k))) (List.range n))), e] S := fun z hzz => by
        unfold r__law_equation_2
        have e2 : List.map (fun k => M.dat (D.int ↑(df k))) (List.range n) = (((List.range n).map df).map fun p : Nat => D.int (p : Int)).map M.dat := by
          rw [List.map_map, List.map_map]; rfl
        rw [e2]
        generalize hpw : (List.range n).map df = pw
        have l1 : pw.length = n := by rw [← hpw]; simp
        have l2 : esum pw ≤ n * 3 := by
          have := esum_le_mul pw 3 fun p hp => by
            rw [← hpw] at hp
            obtain ⟨i, hi, rfl⟩ := List.mem_map.mp hp
            exact (g0 i (by have := List.mem_range.mp hi; omega)).2
          rwa [l1] at this
        walk_at "fx"
        refine ⟨_, g5, ?_⟩
        walk_at "fx"
        have go : r__law_equation_1 { nx := W, rt := Q, bk := r__law_equation_7 (endOf Q E), ct := W, ex := (endOf Q E).ex }
          [some (M.dat (D.lst (List.map D.int ns))), some (M.dat (D.int ↑n)), some (M.dat (D.int ↑sz)), some (M.dat (D.bl pl)), some (M.dat (ptD (intsL x))), some (M.lst (List.map M.dat (List.map tD l))), some (M.dat (D.int ↑k)), some (M.dat (D.lst row)), some (M.dat (D.int z)), some (M.lst ((pw.map fun p : Nat => D.int (p : Int)).map .dat)), e] S := fin1 pw z l1 (by omega) hzz
        refine ite2 (fun c1 => ?_) fun c1 => go
        refine ite2 (fun c2 => ?_) fun c2 => go
        refine ⟨_, g6, ?_⟩
        walk_at "fx"
        refine ⟨_, g7, ?_⟩
        walk_at "fx"
        have n0 : 0 < n := by omega
        refine ⟨by omega, _, d7 % n, rfl, ?_, ?_⟩
        · rw [← Int.natCast_emod]
          unfold ixN
          have := Nat.mod_lt d7 n0
          rw [if_pos (by omega), if_pos (by omega), Int.toNat_natCast]
        · rw [show (M.dat (D.int (9 + (d6 : Int)))) = M.dat (D.int ((9 + d6 : Nat) : Int)) by rw [Int.natCast_add]; rfl, ← List.map_set, ← List.map_set]
          refine fin1 (pw.set (d7 % n) (9 + d6)) z (by rw [List.length_set]; exact l1) ?_ hzz
          have := esum_set pw (d7 % n) (9 + d6)
          omega
      unfold r__law_equation_3
      walk_at "fx"
      refine ⟨_, g5, ?_⟩
      walk_at "fx"
      refine ite2 (fun c1 => ?_) fun c1 => fin2 _ (by omega)
      refine ⟨cmulS (by decide) (by decide) (by omega) (by omega), cell_ok ns _ S _ _ (by omega) (by omega) fun c3 => ⟨⟨by decide, by decide, by decide⟩, by decide, ⟨by decide, by decide, by decide⟩, cmulS (by decide) (by decide) (by decide) (by decide), fin2 _ ?_⟩⟩
      rw [show (10 : Int) ^ Int.toNat 24 = 10 ^ 24 from rfl, show (10 : Int) ^ Int.toNat 23 = 10 ^ 23 from rfl]
      have h1 : 0 ≤ c3 % 10 ^ 24 := Int.emod_nonneg _ (by decide)
      have h2 : c3 % 10 ^ 24 < 10 ^ 24 := Int.emod_lt_of_pos _ (by decide)
      omega
    · have hj := (range_at e1).2
      rw [Int.zero_add]
      walk_at "fx"
      exact ⟨_, (g0 j (by omega)).1, k1⟩
end K64
namespace K64
open PySem L2 L2.Fn
local macro_rules | `(tactic| walk_at "fx") => `(tactic| try simp only [mkW, fSeq, fAsg, gN, fC, fVar, fBin, fDat, fFrz, oAdd, oInt0, oInt, oIx, fIfS, fTru, oTru, fBl, fNot, fAnd, fOr, fNext, fRet, fRetV, fRetN, fLst, fTup, fNil, fCons, fCB, oLen, oIntC, oStrI, oTupC, oLstC, fApp, fSl, fPart, fNoP, oSl, fIf, fAndV, fOrV, fNotV, fIsi, M.ty, fM1, oIn, oEq, oNe, oLt, oLe, oGt, oGe, oSub, oMul, oFDiv, oMod, oPow, eqF, fDrop, fFor, fWalk, oWalk, fRng, oR1, oR2, fCall, fComp, fYes, wipeE, oCat, oRep,
  fComp2, oMulS, fNeg, oSum, fExt, M.sqD, fIdx, oIdx, keysD, Int.zero_add, oMin2, oMax2, oAbs, oI2, gTupP, gConsP, gNilP, fDict, fDSet, oDIx, oDIn, fDGet2, M.asD, oEnum, oZip, fFz, fSet0, fRevS, oRevS, fChain, oAll, oAny, oShl, oShr, oBand, oLstDN, oSortDN, oSortN, oRepT, fDComp, fCallU,
  List.length_cons, List.length_nil, List.map_cons, List.map_nil, List.cons_append, List.nil_append, List.append_nil, blanks, List.getElem?_cons_zero, List.getElem?_cons_succ, List.set_cons_zero, List.set_cons_succ, Option.some.injEq, exists_eq_left', true_and, and_true, Nat.reduceSub, Nat.reduceAdd, Nat.reduceLT, Nat.lt_add_one, M.dat.injEq, D.bl.injEq, D.int.injEq, Nat.zero_lt_succ, Nat.succ_lt_succ_iff, Nat.zero_lt_one, exists_eq_left, List.getElem?_nil, Bool.false_bne, Bool.false_xor, decide_eq_true_eq,
  ex_nil, ex_cons, ex_map, toD_lst, toD_dat, dats_nil, dats_cons, ld_l, ld_dat, ld_lst, Option.map_some, ex_some, kitI isi_int_int, kitI isi_int_bool, kitI isi_str_str, kitI isi_tup_tup, kitI isi_str_tup, M.lst.injEq, List.length_map, Bool.not_true, Bool.not_false, Bool.false_eq_true, if_true, if_false, reduceIte, endOf_nx, endOf_rt, endOf_ex, ex_pair, ex_dct, ex_cons2, Option.bind_some, Option.getD_some, Option.getD_none, flat_one, Int.toNat_natCast, gv_LETTERS, fTry, fRaise1, fIsE, fXf, P0])
/-! ### one unknown number more -/
theorem prs_snoc : ∀ (e : Ex) (j v : Nat), prs j (e ++ [v]) = prs j e ++ if v = 0 then [] else [(j + e.length, v)]
  | [], j, v => by simp [prs]
  | p :: e, j, v => by
    have ih := prs_snoc e (j + 1) v
    rw [List.cons_append, prs, prs, ih]
    have : j + 1 + e.length = j + (p :: e).length := by simp; omega
    rw [this]
    split <;> simp
def ext (t : Tm) : Tm := (t.1 ++ [0], t.2)
theorem toG_ext (t : Tm) : toG (ext t) = toG t := by
  unfold toG ext
  rw [prs_snoc]
  simp
theorem nK_inj {a b : Nm} (h : nK a = nK b) : a = b := by
  unfold nK at h
  simp only [NK.t.injEq, List.cons.injEq, NK.i.injEq, NK.s.injEq, and_true] at h
  obtain ⟨a1, a2, a3⟩ := a
  obtain ⟨b1, b2, b3⟩ := b
  simp only at h
  obtain ⟨h1, h2, h3⟩ := h
  have : a1 = b1 := by omega
  subst this; subst h2; subst h3; rfl
theorem qK_inj {a b : Nm × Nat} (h : qK a = qK b) : a = b := by
  unfold qK at h
  simp only [NK.t.injEq, List.cons.injEq, NK.i.injEq, and_true] at h
  have h1 := nK_inj h.1
  obtain ⟨a1, a2⟩ := a
  obtain ⟨b1, b2⟩ := b
  simp only at h h1
  have : a2 = b2 := by omega
  subst this; subst h1; rfl
def fG (q : Nat × Nat) : Nm × Nat := ((q.1, [97], []), q.2)
theorem fG_sorted (e : Ex) : ((prs 0 e).map fG).Pairwise fun x y => NK.lt (qK y) (qK x) = false := by
  rw [List.pairwise_map]
  refine (prs_sorted e 0).imp fun {a b} h => ?_
  show NK.lt (.t [vK b.1, .i b.2]) (.t [vK a.1, .i a.2]) = false
  rw [lt_t, lts_other _ _ (Cm_v _ _) (fun z => by have := vK_inj z; omega), lt_v]
  exact decide_eq_false (by omega)
theorem mono_eq {m : List (Nm × Nat)} {e : Ex} (pm : m.Perm ((prs 0 e).map fG)) (s : m.Pairwise fun x y => NK.lt (qK y) (qK x) = false) : m = (prs 0 e).map fG := by
  have h := nk_unique (pm.map qK) (by rw [List.pairwise_map]; exact s) (by rw [List.pairwise_map]; exact fG_sorted e) fun a ha b hb => by
    obtain ⟨x, _, rfl⟩ := List.mem_map.mp ha
    obtain ⟨y, _, rfl⟩ := List.mem_map.mp hb
    exact Cm_q x y
  exact List.map_inj_right (fun _ _ => qK_inj) |>.mp h
def more (ts : Pl) (pw : Ex) (p : Nat) (c : Int) : Pl := ts.map ext ++ [(pw ++ [p], c)]
theorem ext_keys (ts : Pl) : (ts.map ext).map (·.1) = (ts.map (·.1)).map (· ++ [0]) := by
  rw [List.map_map, List.map_map]; rfl
theorem more_red {ts : Pl} (h : Red ts) {pw : Ex} {p : Nat} {c : Int} (hp : 0 < p) (hc : c ≠ 0) : Red (more ts pw p c) := by
  refine ⟨?_, fun t ht => ?_⟩
  · unfold more
    rw [List.map_append, ext_keys]
    refine List.nodup_append.mpr ⟨?_, by simp, fun a ha b hb e => ?_⟩
    · exact List.Pairwise.map _ (fun a b hab z => hab (by simpa using z)) h.nd
    · obtain ⟨x, _, rfl⟩ := List.mem_map.mp ha
      have hb := List.mem_singleton.mp hb
      rw [hb] at e
      have := (List.append_inj' e rfl).2
      simp at this
      omega
  · unfold more at ht
    rcases List.mem_append.mp ht with q | q
    · obtain ⟨u, hu, rfl⟩ := List.mem_map.mp q
      exact h.nz u hu
    · rw [List.mem_singleton.mp q]; exact hc
theorem more_len {n : Nat} {ts : Pl} (h : Len n ts) {pw : Ex} {p : Nat} {c : Int} (hp : pw.length = n) : Len (n + 1) (more ts pw p c) := fun t ht => by
  unfold more at ht
  rcases List.mem_append.mp ht with q | q
  · obtain ⟨u, hu, rfl⟩ := List.mem_map.mp q
    show (u.1 ++ [0]).length = _
    rw [List.length_append, h u hu]; rfl
  · rw [List.mem_singleton.mp q]
    show (pw ++ [p]).length = _
    rw [List.length_append, hp]; rfl
theorem N_ext (ts : Pl) : N (ts.map ext) = N ts := by
  induction ts with
  | nil => rfl
  | cons t ts ih => rw [List.map_cons, N, N, ih]; rfl
theorem gt_tm (t : Tm) : gtK (toG t) = tmK t := by
  unfold gtK tmK gmK moK toG
  rw [List.map_map]; rfl
theorem with_eq {n : Nat} {ts : Pl} (h : Red ts) (hL : Len n ts) {pw : Ex} {p : Nat} {c : Int} (hp : pw.length = n) (p0 : 0 < p) (hc : c ≠ 0) {m : List (Nm × Nat)} {g' : List Gt}
    (pm : m.Perm ((prs 0 pw).map fG ++ [((n, [97], []), p)])) (sm : m.Pairwise fun x y => NK.lt (qK y) (qK x) = false) (pg : g'.Perm ((nfl ts).map toG ++ [(m, c)])) (sg : g'.Pairwise fun x y => NK.lt (gtK y) (gtK x) = false) : gD g' = polyD (nfl (more ts pw p c)) := by
  have e1 : (prs 0 pw).map fG ++ [(((n, [97], []) : Nm), p)] = (prs 0 (pw ++ [p])).map fG := by
    rw [prs_snoc, if_neg (by omega), List.map_append, hp, Nat.zero_add]; rfl
  rw [e1] at pm
  have em := mono_eq pm sm
  have e2 : (nfl ts).map toG ++ [(m, c)] = ((nfl ts).map ext ++ [(pw ++ [p], c)]).map toG := by
    rw [List.map_append, List.map_map, em]
    congr 1
    exact List.map_congr_left fun t _ => (toG_ext t).symm
  rw [e2] at pg
  obtain ⟨L, pL, rfl⟩ := perm_map pg
  rw [← polyD_g]
  have pM : L.Perm (more ts pw p c) := pL.trans ((((nfl_of_red h).map ext)).append_right _)
  have hr := more_red h (pw := pw) p0 hc
  congr 1
  refine nfl_of (n := n + 1) ⟨(pM.map (·.1)).nodup_iff.mpr hr.nd, fun t ht => hr.nz t (pM.mem_iff.mp ht)⟩ ?_ (fun t ht => more_len hL hp t (pM.mem_iff.mp ht)) (more_len hL hp) fun e => cf_perm pM e
  rw [List.pairwise_map] at sg
  exact sg.imp fun {a b} z => by
    rw [gt_tm, gt_tm] at z
    exact tm_mo z
theorem names_len {n : Nat} : ∀ {l : Pl}, Len n l → (names (l.map toG)).length ≤ l.length * n
  | [], _ => by simp [names]
  | t :: l, h => by
    have ih := names_len (l := l) fun u hu => h u (List.mem_cons_of_mem _ hu)
    have h1 := prs_len t.1 0
    rw [h t List.mem_cons_self] at h1
    unfold names at ih ⊢
    rw [List.map_cons, List.flatMap_cons, List.length_append, List.length_cons, Nat.succ_mul]
    have h2 : ((toG t).1.map (·.1)).length = (prs 0 t.1).length := by unfold toG; simp
    omega
end K64
namespace K64
open PySem L2 L2.Fn
local macro_rules | `(tactic| walk_at "fx") => `(tactic| try simp only [mkW, fSeq, fAsg, gN, fC, fVar, fBin, fDat, fFrz, oAdd, oInt0, oInt, oIx, fIfS, fTru, oTru, fBl, fNot, fAnd, fOr, fNext, fRet, fRetV, fRetN, fLst, fTup, fNil, fCons, fCB, oLen, oIntC, oStrI, oTupC, oLstC, fApp, fSl, fPart, fNoP, oSl, fIf, fAndV, fOrV, fNotV, fIsi, M.ty, fM1, oIn, oEq, oNe, oLt, oLe, oGt, oGe, oSub, oMul, oFDiv, oMod, oPow, eqF, fDrop, fFor, fWalk, oWalk, fRng, oR1, oR2, fCall, fComp, fYes, wipeE, oCat, oRep,
  fComp2, oMulS, fNeg, oSum, fExt, M.sqD, fIdx, oIdx, keysD, Int.zero_add, oMin2, oMax2, oAbs, oI2, gTupP, gConsP, gNilP, fDict, fDSet, oDIx, oDIn, fDGet2, M.asD, oEnum, oZip, fFz, fSet0, fRevS, oRevS, fChain, oAll, oAny, oShl, oShr, oBand, oLstDN, oSortDN, oSortN, oRepT, fDComp, fCallU,
  List.length_cons, List.length_nil, List.map_cons, List.map_nil, List.cons_append, List.nil_append, List.append_nil, blanks, List.getElem?_cons_zero, List.getElem?_cons_succ, List.set_cons_zero, List.set_cons_succ, Option.some.injEq, exists_eq_left', true_and, and_true, Nat.reduceSub, Nat.reduceAdd, Nat.reduceLT, Nat.lt_add_one, M.dat.injEq, D.bl.injEq, D.int.injEq, Nat.zero_lt_succ, Nat.succ_lt_succ_iff, Nat.zero_lt_one, exists_eq_left, List.getElem?_nil, Bool.false_bne, Bool.false_xor, decide_eq_true_eq,
  ex_nil, ex_cons, ex_map, toD_lst, toD_dat, dats_nil, dats_cons, ld_l, ld_dat, ld_lst, Option.map_some, ex_some, kitI isi_int_int, kitI isi_int_bool, kitI isi_str_str, kitI isi_tup_tup, kitI isi_str_tup, M.lst.injEq, List.length_map, Bool.not_true, Bool.not_false, Bool.false_eq_true, if_true, if_false, reduceIte, endOf_nx, endOf_rt, endOf_ex, ex_pair, ex_dct, ex_cons2, Option.bind_some, Option.getD_some, Option.getD_none, flat_one, Int.toNat_natCast, gv_LETTERS, fTry, fRaise1, fIsE, fXf, P0])
theorem digs_nats {ds zs : List Int} (hd : Digs ds zs) : ∃ ks : List Nat, ds = ks.map (fun k : Nat => (k : Int)) ∧ ks.length = zs.length ∧ ∀ i, i < zs.length → (ks.getD i 0 : Int) < zs.getD i 0 := by
  refine ⟨ds.map Int.toNat, ?_, by rw [List.length_map, hd.1], fun i hi => ?_⟩
  · rw [List.map_map]
    apply List.ext_getElem?
    intro i
    rw [List.getElem?_map]
    cases h : ds[i]? with
    | none => rfl
    | some d =>
      have hi : i < zs.length := by rw [← hd.1]; exact (List.getElem?_eq_some_iff.mp h).1
      have := (hd.2 i d _ h (List.getElem?_eq_getElem hi)).1
      show some d = some _
      rw [Function.comp, Int.toNat_of_nonneg this]
  · have := (digs_get hd hi).2
    rw [List.getD_eq_getElem?_getD, List.getElem?_map]
    rw [List.getD_eq_getElem?_getD] at this
    cases h : ds[i]? with
    | none => rw [h] at this; simpa using this
    | some d => rw [h] at this; simpa using this
/-- the law behind the points -/
theorem law8_ok (ns : List Int) {n : Nat} (hn : n ≤ 4) {ts : Pl} (hE : EqOk n ts) (S : Sto) (Q : WP) (E : XP) (v1 v3 v4 v5 v9 v10 v11 v12 v13 v14 v15 v16 v17 v18 v19 : Option M) (h : Q (.dat (.bl true)) S) :
    r_law_8 (endOf Q E) [some (.dat (.lst (ns.map .int))), v1, some (.dat (.int n)), v3, v4, v5, some (.dat (.lst (ts.map tD))), some (.dat (polyD (nfl ts))), some (.dat (dueD n ts)), v9, v10, v11, v12, v13, v14, v15, v16, v17, v18, v19] S := by
  have hL := hE.len
  have hR := hE.red
  have hle := hE.le
  have hN : N ts < 2 ^ 1000 := Nat.lt_trans hE.nn (Nat.pow_lt_pow_right (by decide) (by decide))
  have hnl : (nfl ts).length ≤ 7 := by rw [(nfl_of_red hR).length_eq]; exact hle
  have hnm : (names ((nfl ts).map toG)).length ≤ 28 := by
    have h1 := names_len (nfl_len hL)
    have h2 : (nfl ts).length * n ≤ 7 * 4 := Nat.mul_le_mul hnl hn
    omega
  have end3 : ∀ (v4 v14 v15 v17 v18 v19 : Option M), r_law_3 (endOf Q E) [some (.dat (.lst (ns.map .int))), v1, some (.dat (.int n)), v3, v4, v5, some (.dat (.lst (ts.map tD))), some (.dat (polyD (nfl ts))), some (.dat (dueD n ts)), v9, v10, v11, v12, v13, v14, v15, v16, v17, v18, v19] S := fun v4 v14 v15 v17 v18 v19 => by
    unfold r_law_3
    walk_at "fx"
    refine border_good (n := n) (by omega) ts S _ _ (by omega) hL hR hN (by omega) ?_
    refine ⟨[dueD n ts, dueD n ts], rfl, same_ok _ _ 9 _ _ (TT_due (n := n) (by omega) (by omega) hL) h⟩
  unfold r_law_8
  walk_at "fx"
  refine cell_ok ns 16 S _ _ (by decide) (by decide) fun c0 => ⟨by decide, [.int c0, .lst ([4, 3, 5, 4, 4, 4, 4, (4 : Int)].map D.int)], rfl, ?_⟩
  refine digits_ok c0 [4, 3, 5, 4, 4, 4, 4, (4 : Int)] S _ _ (by decide) (by decide) fun ds hd => ?_
  rw [toD_lst]
  unfold r_law_7
  walk_at "fx"
  refine bad_ok hn ds hd S _ _ fun w pw b p hB => ?_
  obtain ⟨g7, b7⟩ := digs_get hd (i := 7) (by decide)
  rw [show [4, 3, 5, 4, 4, 4, 4, (4 : Int)].getD 7 0 = 4 from rfl] at b7
  generalize (ds.getD 7 0).toNat = d7 at g7 b7
  generalize ds.map D.int = row at g7 ⊢
  rw [show (M.lst [M.dat (D.int (w : Int)), M.dat (exD pw), M.dat (nD b), M.dat (D.int (p : Int))]).toD = badD w pw b p from rfl]
  unfold r_law_6
  walk_at "fx"
  have hnum : ∃ c : Int, c ≠ 0 ∧ c.natAbs ≤ 7 ∧ atI [M.dat (.int 1), .dat (.int (-1)), .dat (.int 7), .dat (.int (-2))] (d7 : Int) = some (.dat (.int c)) := by
    have : d7 = 0 ∨ d7 = 1 ∨ d7 = 2 ∨ d7 = 3 := by omega
    rcases this with rfl | rfl | rfl | rfl
    · exact ⟨1, by decide, by decide, rfl⟩
    · exact ⟨-1, by decide, by decide, rfl⟩
    · exact ⟨7, by decide, by decide, rfl⟩
    · exact ⟨-2, by decide, by decide, rfl⟩
  obtain ⟨c, c0, c7, hnum⟩ := hnum
  refine ⟨by decide, _, g7, _, hnum, ?_⟩
  unfold r_law_5
  rw [polyD_g]
  walk_at "fx"
  refine with_ok (n := n) (by omega) _ w pw b p c hB.len (by simp; omega) S _ _ fun m g' pm sm pg sg => ?_
  have pN : (names g').Perm (names ((nfl ts).map toG) ++ (((prs 0 pw).map fG ++ [(b, p)]).map (·.1))) := by
    have h1 : (names g').Perm (names ((nfl ts).map toG ++ [(m, c)])) := pg.flatMap_right _
    refine h1.trans ?_
    unfold names
    rw [List.flatMap_append]
    refine List.Perm.append_left _ ?_
    simp only [List.flatMap_cons, List.flatMap_nil, List.append_nil]
    exact pm.map _
  have hbm : b ∈ names g' := pN.mem_iff.mpr (by simp)
  have hpl := prs_len pw 0
  have hBl := hB.len
  refine ⟨[_], rfl, refused_ok (n := n) g' S _ _ (by omega) ?_ (fun d hd => ?_) hbm hB.no ?_⟩
  · rw [pN.length_eq]
    simp
    omega
  · rcases List.mem_append.mp (pN.mem_iff.mp hd) with q | q
    · exact okN_good (names_toG (nfl_len hL) d q)
    · rw [List.map_append] at q
      rcases List.mem_append.mp q with q | q
      · rw [List.map_map] at q
        obtain ⟨z, _, rfl⟩ := List.mem_map.mp q
        exact okN_a _
      · simp at q
        rw [q]; exact hB.ok
  walk_at "fx"
  unfold r_law_4
  have q0 : atI [D.int (w : Int), exD pw, nD b, D.int (p : Int)] 0 = some (.int (w : Int)) := rfl
  have q1 : atI [D.int (w : Int), exD pw, nD b, D.int (p : Int)] 1 = some (exD pw) := rfl
  have q3 : atI [D.int (w : Int), exD pw, nD b, D.int (p : Int)] 3 = some (.int (p : Int)) := rfl
  rw [show badD w pw b p = .lst [.int (w : Int), exD pw, nD b, .int (p : Int)] from rfl]
  generalize hbad : [D.int (w : Int), exD pw, nD b, D.int (p : Int)] = bl at q0 q1 q3 ⊢
  walk_at "fx"
  refine ⟨_, q0, ?_⟩
  walk_at "fx"
  refine ite2 (fun c1 => ?_) fun c1 => ?_
  · refine ite2 (fun c2 => ?_) fun c2 => ?_
    · have w0 : w = 0 := by omega
      have n3 : n < 4 := by omega
      have hb0 := hB.w0 w0
      have hp0 := hB.p0
      have hp3 := hB.p3
      refine compA (fun t : Tm => tM (ext t)) (by omega) ?_ fun l1 t r1 K1 e1 k1 => ?_
      · have e3 : (M.lst (ts.map fun t => tM (ext t))).toD = .lst ((ts.map ext).map tD) := by
          rw [← toD_tM, List.map_map]; rfl
        have mL := more_len hL (pw := pw) (p := p) (c := c) hBl
        have mR := more_red hR (pw := pw) (p := p) (c := c) hp0 c0
        have ml : (more ts pw p c).length ≤ 8 := by unfold more; simp; omega
        have mN : N (more ts pw p c) < 2 ^ 1000 := by
          unfold more
          rw [N_app, N_ext, N, N]
          show N ts + (c.natAbs + 0) < 2 ^ 1000
          have h1 := hE.nn
          have h2 : 2 ^ 900 + 7 < 2 ^ 1000 := by decide
          omega
        have mnl : (nfl (more ts pw p c)).length ≤ 8 := by rw [(nfl_of_red mR).length_eq]; exact ml
        have mnm : (names ((nfl (more ts pw p c)).map toG)).length ≤ 60 := by
          have h1 := names_len (nfl_len mL)
          have h2 : (nfl (more ts pw p c)).length * (n + 1) ≤ 8 * 5 := Nat.mul_le_mul mnl (by omega)
          omega
        refine ⟨_, q1, _, q3, by decide, ?_⟩
        rw [show exD pw = .tup (pw.map fun p : Nat => D.int (p : Int)) from rfl]
        walk_at "fx"
        refine ⟨small_line (by simp; omega), by decide, by decide, (ts.map ext).map tD, by rw [e3]; exact ld_dat _, [tD (pw ++ [p], c)], ?_, small_line (by simp; omega), ?_⟩
        · rw [M.toD, M.toDs, M.toDs, M.toD, M.toDs, M.toDs, M.toDs]
          show some [D.lst [D.tup (pw.map (fun p : Nat => D.int (p : Int)) ++ [D.int (p : Int)]), D.int c]] = _
          unfold tD exD
          rw [List.map_append]; rfl
        · have e4 : (ts.map ext).map tD ++ [tD (pw ++ [p], c)] = (more ts pw p c).map tD := by unfold more; rw [List.map_append]; rfl
          rw [e4]
          unfold r_law_2
          walk_at "fx"
          rw [← hbad, show D.lst [.int (w : Int), exD pw, nD b, .int (p : Int)] = badD w pw b p from rfl]
          refine (with_ok (n := n) (by omega) _ w pw b p c hB.len (by simp; omega) S _ _ fun m g' pm sm pg sg => ?_)
          rw [hb0] at pm
          rw [with_eq hR hL hBl hp0 c0 pm sm pg sg, show (n : Int) + 1 = ((n + 1 : Nat) : Int) by rw [Int.natCast_add]; rfl]
          refine ⟨[polyD (nfl (more ts pw p c))], rfl, border_good (n := n + 1) (by omega) _ S _ _ (by omega) mL mR mN mnm ?_⟩
          refine due_ok (n := n + 1) (by omega) _ S _ _ (by omega) mL (Bd_of mN (by decide)) ?_
          refine ⟨[_, _], rfl, same_ok _ _ 9 _ _ (TT_due (n := n + 1) (by omega) (by omega) mL) ?_⟩
          walk_at "fx"
          rw [← polyD_g]
          exact end3 _ _ _ _ _ _
      · rw [show tD t = .lst [exD t.1, .int t.2] from rfl]
        have t0 : atI [exD t.1, D.int t.2] 0 = some (exD t.1) := rfl
        have t1 : atI [exD t.1, D.int t.2] 1 = some (.int t.2) := rfl
        have htl := hL t (by rw [e1]; simp)
        walk_at "fx"
        refine ⟨_, t0, by decide, ?_⟩
        rw [show exD t.1 = .tup (t.1.map fun p : Nat => D.int (p : Int)) from rfl]
        walk_at "fx"
        refine ⟨small_line (by simp; omega), _, t1, by decide, ?_⟩
        have := k1
        unfold tM ext exD at this
        rw [List.map_append] at this
        exact this
    · rw [← polyD_g]
      exact end3 _ _ _ _ _ _
  · rw [← polyD_g]
    exact end3 _ _ _ _ _ _
end K64
namespace K64
open PySem L2 L2.Fn
local macro_rules | `(tactic| walk_at "fx") => `(tactic| try simp only [mkW, fSeq, fAsg, gN, fC, fVar, fBin, fDat, fFrz, oAdd, oInt0, oInt, oIx, fIfS, fTru, oTru, fBl, fNot, fAnd, fOr, fNext, fRet, fRetV, fRetN, fLst, fTup, fNil, fCons, fCB, oLen, oIntC, oStrI, oTupC, oLstC, fApp, fSl, fPart, fNoP, oSl, fIf, fAndV, fOrV, fNotV, fIsi, M.ty, fM1, oIn, oEq, oNe, oLt, oLe, oGt, oGe, oSub, oMul, oFDiv, oMod, oPow, eqF, fDrop, fFor, fWalk, oWalk, fRng, oR1, oR2, fCall, fComp, fYes, wipeE, oCat, oRep,
  fComp2, oMulS, fNeg, oSum, fExt, M.sqD, fIdx, oIdx, keysD, Int.zero_add, oMin2, oMax2, oAbs, oI2, gTupP, gConsP, gNilP, fDict, fDSet, oDIx, oDIn, fDGet2, M.asD, oEnum, oZip, fFz, fSet0, fRevS, oRevS, fChain, oAll, oAny, oShl, oShr, oBand, oLstDN, oSortDN, oSortN, oRepT, fDComp, fCallU,
  List.length_cons, List.length_nil, List.map_cons, List.map_nil, List.cons_append, List.nil_append, List.append_nil, blanks, List.getElem?_cons_zero, List.getElem?_cons_succ, List.set_cons_zero, List.set_cons_succ, Option.some.injEq, exists_eq_left', true_and, and_true, Nat.reduceSub, Nat.reduceAdd, Nat.reduceLT, Nat.lt_add_one, M.dat.injEq, D.bl.injEq, D.int.injEq, Nat.zero_lt_succ, Nat.succ_lt_succ_iff, Nat.zero_lt_one, exists_eq_left, List.getElem?_nil, Bool.false_bne, Bool.false_xor, decide_eq_true_eq,
  ex_nil, ex_cons, ex_map, toD_lst, toD_dat, dats_nil, dats_cons, ld_l, ld_dat, ld_lst, Option.map_some, ex_some, kitI isi_int_int, kitI isi_int_bool, kitI isi_str_str, kitI isi_tup_tup, kitI isi_str_tup, M.lst.injEq, List.length_map, Bool.not_true, Bool.not_false, Bool.false_eq_true, if_true, if_false, reduceIte, endOf_nx, endOf_rt, endOf_ex, ex_pair, ex_dct, ex_cons2, Option.bind_some, Option.getD_some, Option.getD_none, flat_one, Int.toNat_natCast, gv_LETTERS, fTry, fRaise1, fIsE, fXf, P0])
theorem pick {l : List M} {ms : List Nat} (h : l = ms.map fun k : Nat => M.dat (.int (k : Int))) {i : Nat} (hi : i < ms.length) : atI l (i : Int) = some (.dat (.int ((ms.getD i 0 : Nat) : Int))) := by
  subst h
  refine atI_n ?_
  rw [List.getElem?_map, List.getElem?_eq_getElem hi, List.getD_eq_getElem?_getD, List.getElem?_eq_getElem hi]
  rfl
theorem cut_to {α : Type} (xs : List α) (n : Nat) : cutN xs none (some (n : Int)) = xs.take n := by
  have := cut_mid xs (i := 0) (j := n) (by decide) (by omega)
  rw [show cutN xs none (some (n : Int)) = cutN xs (some 0) (some (n : Int)) from ?_]
  · rw [this, Int.toNat_natCast]; rfl
  · unfold cutN
    rw [HT.sIx_none, sIx_pos _ _ (by decide : (0 : Int) ≤ 0)]
    simp
theorem ints_at {x : List Nat} {k : Nat} (h : k < x.length) : atI ((intsL x).map D.int) (k : Int) = some (.int ((x.getD k 0 : Nat) : Int)) := by
  unfold intsL
  refine atI_n ?_
  rw [List.getElem?_map, List.getElem?_map, List.getElem?_eq_getElem h, List.getD_eq_getElem?_getD, List.getElem?_eq_getElem h]
  rfl
theorem getD_map_self (x : List Nat) : (List.range x.length).map (fun k => x.getD k 0) = x := by
  apply List.ext_getElem?
  intro k
  rw [List.getElem?_map]
  by_cases h : k < x.length
  · rw [List.getElem?_range h, List.getElem?_eq_getElem h, Option.map_some, List.getD_eq_getElem?_getD, List.getElem?_eq_getElem h]; rfl
  · rw [List.getElem?_eq_none (by simp; omega), List.getElem?_eq_none (by omega)]; rfl
theorem law10_ok (ns : List Int) {n : Nat} (hn : n ≤ 4) {ts : Pl} (hE : EqOk n ts) (x y : List Nat) (hx : x.length = n) (hs : ∀ k, x.getD k 0 < 15) (yl : y.length = n) (yb : ∀ k, y.getD k 0 < 15) (S : Sto) (Q : WP) (E : XP) (v1 v3 v4 v12 v13 v14 v15 v16 v17 v18 v19 : Option M) (h : Q (.dat (.bl true)) S) :
    r_law_10 (endOf Q E) [some (.dat (.lst (ns.map .int))), v1, some (.dat (.int n)), v3, v4, some (.dat (ptD (intsL x))), some (.dat (.lst (ts.map tD))), some (.dat (polyD (nfl ts))), some (.dat (dueD n ts)), some (.dat (dueD n ts)),
      some (.dat (.lst [.lst ((less n ts).map tD), .lst ((plus ts).map tD)])), some (.lst (((intsL y).map D.int).map .dat)), v12, v13, v14, v15, v16, v17, v18, v19] S := by
  have hL := hE.len
  have hR := hE.red
  have hle := hE.le
  have hN : N ts < 2 ^ 1000 := Nat.lt_trans hE.nn (Nat.pow_lt_pow_right (by decide) (by decide))
  have hP : ∀ t ∈ ts, esum t.1 ≤ 400 := fun t ht => Nat.le_trans (hE.es t ht) (by decide)
  unfold r_law_10
  walk_at "fx"
  refine cell_ok ns 15 S _ _ (by decide) (by decide) fun c0 => ⟨by decide, by decide, by decide, by decide, [.int c0, .lst ((List.replicate 8 (15 : Int)).map D.int)], rfl, ?_⟩
  refine digits_ok c0 (List.replicate 8 (15 : Int)) S _ _ (by decide) (by decide) fun ds hd => ?_
  rw [toD_lst]
  obtain ⟨ks, rfl, kl, kb⟩ := digs_nats hd
  have kl : ks.length = 8 := by rw [kl]; rfl
  have kb : ∀ i, ks.getD i 0 < 15 := fun i => by
    by_cases hi : i < 8
    · have h1 := kb i (by simpa using hi)
      have h2 : (List.replicate 8 (15 : Int)).getD i 0 = 15 := by
        rw [List.getD_eq_getElem?_getD, List.getElem?_replicate, if_pos hi]; rfl
      rw [h2] at h1
      omega
    · rw [List.getD_eq_getElem?_getD, List.getElem?_eq_none (by omega)]
      exact (by decide : 0 < 15)
  unfold r_law_9
  walk_at "fx"
  refine ⟨by omega, by omega, ?_⟩
  rw [rng_map]
  refine compA (fun k : Nat => M.dat (.int 0)) (by simp; omega) ?_ fun l1 j r1 K1 e1 k1 => ?_
  · have hc1 : cutN ((ks.map fun k : Nat => (k : Int)).map D.int) none (some (n : Int)) = (intsL (ks.take n)).map .int := by
      unfold intsL
      rw [cut_to, ← List.map_take, ← List.map_take]
    have hc2 : cutN ((ks.map fun k : Nat => (k : Int)).map D.int) (some 4) (some (4 + n : Int)) = (intsL ((ks.take (4 + n)).drop 4)).map .int := by
      unfold intsL
      rw [cut_mid _ (by decide) (by omega), show (4 + n : Int).toNat = 4 + n by omega, ← List.map_take, ← List.map_take, show (4 : Int).toNat = 4 from rfl, ← List.map_drop, ← List.map_drop]
    have hz : (List.range n).map (fun _ => M.dat (D.int 0)) = ((intsL (zeros n)).map D.int).map M.dat := by
      rw [zeros_ints]
      unfold intsL
      rw [List.map_map, List.map_map, List.map_map]; rfl
    have hnum : (M.lst [M.dat (ptD (intsL x)), M.dat (D.lst (List.map D.int (intsL y))), M.lst ((List.range n).map fun _ => M.dat (D.int 0)),
        M.lst (List.map M.dat (cutN (List.map D.int (List.map (fun k : Nat => (k : Int)) ks)) none (some (n : Int)))),
        M.lst (List.map M.dat (cutN (List.map D.int (List.map (fun k : Nat => (k : Int)) ks)) (some 4) (some (4 + n : Int))))]).toD = .lst ([x, y, zeros n, ks.take n, (ks.take (4 + n)).drop 4].map fun z => ptD (intsL z)) := by
      rw [hc1, hc2, hz, M.toD, M.toDs, M.toDs, M.toDs, M.toDs, M.toDs, M.toDs, toD_lst, toD_lst, toD_lst]
      rfl
    rw [hnum]
    have hall : ∀ z ∈ [x, y, zeros n, ks.take n, (ks.take (4 + n)).drop 4], z.length = n ∧ ∀ k, z.getD k 0 < 15 := fun z hz => by
      simp only [List.mem_cons, List.not_mem_nil, or_false] at hz
      rcases hz with rfl | rfl | rfl | rfl | rfl
      · exact ⟨hx, hs⟩
      · exact ⟨yl, yb⟩
      · exact ⟨zeros_len n, fun k => by rw [zeros_get]; decide⟩
      · refine ⟨by simp; omega, fun k => ?_⟩
        rw [List.getD_eq_getElem?_getD, List.getElem?_take]
        split
        · rw [← List.getD_eq_getElem?_getD]; exact kb k
        · exact (by decide : 0 < 15)
      · refine ⟨by simp; omega, fun k => ?_⟩
        rw [List.getD_eq_getElem?_getD, List.getElem?_drop, List.getElem?_take]
        split
        · rw [← List.getD_eq_getElem?_getD]; exact kb _
        · exact (by decide : 0 < 15)
    generalize [x, y, zeros n, ks.take n, (ks.take (4 + n)).drop 4] = zs at hall ⊢
    refine ⟨by decide, ?_⟩
    generalize hV12 : some (M.dat (D.lst (List.map D.int (List.map (fun k : Nat => (k : Int)) ks)))) = V12
    refine forV (fun l ρ => ∃ w : Option M, ρ = [some (.dat (.lst (ns.map .int))), v1, some (.dat (.int n)), v3, v4, some (.dat (ptD (intsL x))), some (.dat (.lst (ts.map tD))), some (.dat (polyD (nfl ts))), some (.dat (dueD n ts)), some (.dat (dueD n ts)),
      some (.dat (.lst [.lst ((less n ts).map tD), .lst ((plus ts).map tD)])), some (.dat (D.lst (List.map D.int (intsL y)))), V12, w, v14, v15, v16, v17, v18, v19]) ⟨_, rfl⟩ ?_ ?_
    · rintro ρ ⟨w, rfl⟩
      exact law8_ok ns hn hE S Q E _ _ _ _ _ _ _ _ _ _ _ _ _ _ _ h
    · rintro l z r ρ W e ⟨w, rfl⟩ ih
      obtain ⟨zl, zb⟩ := hall z (by rw [e]; simp)
      walk_at "fx"
      refine holds_ok (n := n) (by omega) ts z S _ _ zl zb (by omega) hL hN hP ?_
      walk_at "fx"
      exact ih _ ⟨_, rfl⟩
  · walk_at "fx"
    exact k1
/-- the law -/
theorem law_okS (ns : List Int) (S : Sto) (hS : S = []) (hn : ns.length ≤ 63) : w_law [.lst (ns.map .int)] S (fun m _ => m = .dat (.bl true)) (fun _ _ => False) := by
  unfold w_law r_law
  walk_at "fx"
  refine cell_ok ns 0 S _ _ (by decide) (by decide) fun c0 => ⟨by decide, [.int c0, .lst ([8, 3, (8 : Int)].map D.int)], rfl, ?_⟩
  refine digits_ok c0 [8, 3, (8 : Int)] S _ _ (by decide) (by decide) fun ds hd => ?_
  rw [toD_lst]
  obtain ⟨g0, b0⟩ := digs_get hd (i := 0) (by decide)
  obtain ⟨g1, b1⟩ := digs_get hd (i := 1) (by decide)
  obtain ⟨g2, b2⟩ := digs_get hd (i := 2) (by decide)
  rw [show [8, 3, (8 : Int)].getD 0 0 = 8 from rfl] at b0
  rw [show [8, 3, (8 : Int)].getD 2 0 = 8 from rfl] at b2
  generalize (ds.getD 0 0).toNat = d0 at g0 b0
  generalize (ds.getD 1 0).toNat = d1 at g1
  generalize (ds.getD 2 0).toNat = d2 at g2 b2
  generalize ds.map D.int = head at *
  unfold r_law_22
  walk_at "fx"
  have hmany : ∃ n : Nat, n ≤ 4 ∧ atI [M.dat (.int 2), .dat (.int 1), .dat (.int 3), .dat (.int 4), .dat (.int 2), .dat (.int 1), .dat (.int 3), .dat (.int 0)] (d0 : Int) = some (.dat (.int (n : Int))) := by
    refine ⟨_, ?_, pick (ms := [2, 1, 3, 4, 2, 1, 3, 0]) rfl (by simp; omega)⟩
    have : d0 < 8 := by omega
    clear g0 b0
    revert d0
    decide
  have hsize : ∃ n : Nat, n ≤ 6 ∧ atI [M.dat (.int 3), .dat (.int 1), .dat (.int 4), .dat (.int 2), .dat (.int 5), .dat (.int 6), .dat (.int 2), .dat (.int 0)] (d2 : Int) = some (.dat (.int (n : Int))) := by
    refine ⟨_, ?_, pick (ms := [3, 1, 4, 2, 5, 6, 2, 0]) rfl (by simp; omega)⟩
    have : d2 < 8 := by omega
    clear g2 b2
    revert d2
    decide
  obtain ⟨n, hn4, hmany⟩ := hmany
  obtain ⟨sz, hsz, hsize⟩ := hsize
  refine ⟨by decide, _, g0, _, hmany, ?_⟩
  unfold r_law_21
  walk_at "fx"
  refine ⟨by decide, _, g2, _, hsize, ?_⟩
  unfold r_law_20
  walk_at "fx"
  refine cell_ok ns 1 S _ _ (by decide) (by decide) fun c1 => ⟨by decide, [.int c1, .lst ([8, 8, 8, 8, 4, (2 : Int)].map D.int)], rfl, ?_⟩
  refine digits_ok c1 [8, 8, 8, 8, 4, (2 : Int)] S _ _ (by decide) (by decide) fun ds1 hd1 => ?_
  rw [toD_lst]
  obtain ⟨ks, rfl, kl, kb⟩ := digs_nats hd1
  clear hd1
  unfold r_law_19
  walk_at "fx"
  have hcut : cutN ((ks.map fun k : Nat => (k : Int)).map D.int) none (some (n : Int)) = (intsL (ks.take n)).map .int := by
    unfold intsL
    rw [cut_to, ← List.map_take, ← List.map_take]
  rw [hcut]
  have hx : (ks.take n).length = n := by rw [List.length_take, kl]; simp; omega
  have hs : ∀ k, (ks.take n).getD k 0 < 8 := fun k => by
    rw [List.getD_eq_getElem?_getD, List.getElem?_take]
    by_cases hk : k < n
    · rw [if_pos hk, ← List.getD_eq_getElem?_getD]
      have h1 := kb k (by simp; omega)
      have h2 : [8, 8, 8, 8, 4, (2 : Int)].getD k 0 = 8 := by
        have : k = 0 ∨ k = 1 ∨ k = 2 ∨ k = 3 := by omega
        rcases this with rfl | rfl | rfl | rfl <;> rfl
      rw [h2] at h1
      omega
    · rw [if_neg hk]; exact (by decide : 0 < 8)
  generalize hxx : ks.take n = x at hx hs
  have hs15 : ∀ k, x.getD k 0 < 15 := fun k => Nat.lt_of_lt_of_le (hs k) (by decide)
  unfold r_law_18
  walk_at "fx"
  refine ⟨_, g1, ?_⟩
  walk_at "fx"
  rw [show (D.lst ((intsL x).map .int)) = ptD (intsL x) from rfl]
  refine equation_ok hn4 sz hsz _ ns x hx hs S _ _ hS fun ts hE => ?_
  have hL := hE.len
  have hR := hE.red
  have hle := hE.le
  have hN : N ts < 2 ^ 1000 := Nat.lt_trans hE.nn (Nat.pow_lt_pow_right (by decide) (by decide))
  have hP : ∀ t ∈ ts, esum t.1 ≤ 400 := fun t ht => Nat.le_trans (hE.es t ht) (by decide)
  rw [show ts.map tM = ts.map tM from rfl, toD_tM]
  have hnm : (names ((nfl ts).map toG)).length ≤ 28 := by
    have h1 := names_len (nfl_len hL)
    rw [(nfl_of_red hR).length_eq] at h1
    have h2 : ts.length * n ≤ 7 * 4 := Nat.mul_le_mul hle hn4
    omega
  unfold r_law_17
  walk_at "fx"
  refine written_ok (n := n) (by omega) ts S _ _ (by omega) hL hR ?_
  unfold r_law_16
  walk_at "fx"
  refine due_ok (n := n) (by omega) ts S _ _ (by omega) hL (Bd_of hN (by decide)) ?_
  unfold r_law_15
  walk_at "fx"
  refine border_good (n := n) (by omega) ts S _ _ (by omega) hL hR hN (by omega) ?_
  unfold r_law_14
  walk_at "fx"
  have tt := TT_due (n := n) (by omega) (show ts.length ≤ 20 by omega) hL
  refine same_ok _ _ 9 _ _ tt ?_
  walk_at "fx"
  unfold r_law_13
  walk_at "fx"
  refine sides_ok (n := n) (by omega) ts S _ _ (by omega) hL (Bd_of hN (by decide)) (by have := sqr_le (show ts.length ≤ 20 by omega); omega) ?_
  have e10 : (M.lst [M.dat (D.lst (List.map tD (coll (one1 n (sqr ts))))), M.lst (List.map (fun t => M.dat (tD t)) (pos (sqr ts)))]).toD = .lst [.lst ((less n ts).map tD), .lst ((plus ts).map tD)] := by
    rw [M.toD, M.toDs, M.toDs, M.toDs, show (fun t : Tm => M.dat (tD t)) = M.dat ∘ tD from rfl, ← List.map_map, toD_lst]
    rfl
  rw [e10]
  unfold r_law_12
  walk_at "fx"
  refine ⟨by omega, by omega, ?_⟩
  rw [rng_map]
  refine compA (fun k : Nat => M.dat (.int (x.getD k 0 : Nat))) (by simp; omega) ?_ fun l1 j r1 K1 e1 k1 => ?_
  · have e11 : (List.range n).map (fun k : Nat => M.dat (.int (x.getD k 0 : Nat))) = ((intsL x).map D.int).map .dat := by
      subst hx
      conv => rhs; rw [← getD_map_self x]
      unfold intsL
      rw [List.map_map, List.map_map, List.map_map]; rfl
    rw [e11]
    unfold r_law_11
    walk_at "fx"
    refine ite2 (fun c => ?_) fun c => law10_ok ns hn4 hE x x hx hs15 hx hs15 S _ _ _ _ _ _ _ _ _ _ _ _ _ rfl
    have n0 : 0 < n := by omega
    have hk4 : atI (List.map D.int (List.map (fun k : Nat => (k : Int)) ks)) 4 = some (.int ((ks.getD 4 0 : Nat) : Int)) := ints_at (by rw [kl]; decide)
    have hk5 : atI (List.map D.int (List.map (fun k : Nat => (k : Int)) ks)) 5 = some (.int ((ks.getD 5 0 : Nat) : Int)) := ints_at (by rw [kl]; decide)
    have hb5 := kb 5 (by decide)
    rw [show [8, 8, 8, 8, 4, (2 : Int)].getD 5 0 = 2 from rfl] at hb5
    refine ⟨_, hk4, ?_⟩
    walk_at "fx"
    refine ⟨by omega, ?_⟩
    have hi := Nat.mod_lt (ks.getD 4 0) n0
    rw [← Int.natCast_emod]
    generalize ks.getD 4 0 % n = i at hi
    unfold r_law_1
    walk_at "fx"
    have hxi := hs i
    generalize hv : x.getD i 0 = v at hxi
    have hat : atI (List.map M.dat (List.map D.int (intsL x))) (i : Int) = some (.dat (.int (v : Int))) := by
      refine atI_n ?_
      have h1 : i < x.length := by omega
      unfold intsL
      rw [List.getElem?_map, List.getElem?_map, List.getElem?_map, List.getElem?_eq_getElem h1, ← hv, List.getD_eq_getElem?_getD, List.getElem?_eq_getElem h1]
      rfl
    generalize ks.getD 5 0 = b at hk5 hb5
    refine ⟨_, hat, _, hk5, ?_⟩
    show CMulW 2 (b : Int) ∧ _
    refine ⟨cmulS (by decide) (by decide) (by omega) (by omega), _, i, rfl, ?_, ?_⟩
    · unfold ixN intsL
      rw [List.length_map, if_pos (by omega), if_pos (by omega), Int.toNat_natCast]
    · have hval : (if (v : Int) + 1 - 2 * (b : Int) < 0 then -((v : Int) + 1 - 2 * b) else (v : Int) + 1 - 2 * b) = (((v : Int) + 1 - 2 * b).natAbs : Nat) := by split <;> omega
      rw [hval, ← List.map_set, ← List.map_set]
      have hset : (intsL x).set i ((((v : Int) + 1 - 2 * b).natAbs : Nat) : Int) = intsL (x.set i ((v : Int) + 1 - 2 * b).natAbs) := by unfold intsL; rw [List.map_set]
      rw [hset]
      refine law10_ok ns hn4 hE x _ hx hs15 (by rw [List.length_set]; exact hx) (fun k => ?_) S _ _ _ _ _ _ _ _ _ _ _ _ _ rfl
      rw [List.getD_eq_getElem?_getD, List.getElem?_set]
      split
      · rename_i hik
        subst hik
        rw [if_pos (by omega)]
        show ((v : Int) + 1 - 2 * b).natAbs < 15
        omega
      · rw [← List.getD_eq_getElem?_getD]; exact hs15 k
  · have hj := (range_at e1).2
    rw [Int.zero_add]
    walk_at "fx"
    exact ⟨_, ints_at (by omega), k1⟩
theorem law_ok (ns : List Int) (_ : Sto) (hn : ns.length ≤ 63) : w_law [.lst (ns.map .int)] [] (fun m _ => m = .dat (.bl true)) (fun _ _ => False) := law_okS ns [] rfl hn
end K64
namespace K64
open PySem PySem.Spec PyProof.Rows L2 L2.Fn
abbrev si_Malformed : Stmt := clsS (topS 2) 0
set_option maxHeartbeats 0 in
theorem all_mk {l : PySem.W.OpenLaw} {w : World} {K : PySem.W.Frag} {h : Heap} {mg : Str → Option Value} {fa f0 f1 f2 f3 f4 f5 f6 f7 f8 f9 f10 f11 f12 f13 f14 f15 f16 f17 f18 f19 f20 f21 f22 f23 f24 f25 f26 f27 f28 f29 f30 f31 f32 f33 : Addr} (X : K.In h) (G : h.Ns mainGlobals mg) (hfa : mg "law" = some (.ref fa))
    {od0 an0 od1 an1 od2 an2 od3 an3 od4 an4 od5 an5 od6 an6 od7 an7 od8 an8 od9 an9 od10 an10 od11 an11 od12 an12 od13 an13 od14 an14 od15 an15 od16 an16 od17 an17 od18 an18 od19 an19 od20 an20 od21 an21 od22 an22 od23 an23 od24 an24 od25 an25 od26 an26 od27 an27 od28 an28 od29 an29 od30 an30 od31 an31 od32 an32 od33 an33 : Option Addr} {sl0 sl1 sl2 sl3 sl4 sl5 sl6 sl7 sl8 sl9 sl10 sl11 sl12 sl13 sl14 sl15 sl16 sl17 sl18 sl19 sl20 sl21 sl22 sl23 sl24 sl25 sl26 sl27 sl28 sl29 sl30 sl31 sl32 sl33 : Array (Option Value)} {oc0 kV0 dc0 pm0 cd0 ct0 oc1 kV1 dc1 pm1 cd1 ct1 oc2 kV2 dc2 pm2 cd2 ct2 oc3 kV3 dc3 pm3 cd3 ct3 oc4 kV4 dc4 pm4 cd4 ct4 oc5 kV5 dc5 pm5 cd5 ct5 oc6 kV6 dc6 pm6 cd6 ct6 oc7 kV7 dc7 pm7 cd7 ct7 oc8 kV8 dc8 pm8 cd8 ct8 oc9 kV9 dc9 pm9 cd9 ct9 oc10 kV10 dc10 pm10 cd10 ct10 oc11 kV11 dc11 pm11 cd11 ct11 oc12 kV12 dc12 pm12 cd12 ct12 oc13 kV13 dc13 pm13 cd13 ct13 oc14 kV14 dc14 pm14 cd14 ct14 oc15 kV15 dc15 pm15 cd15 ct15 oc16 kV16 dc16 pm16 cd16 ct16 oc17 kV17 dc17 pm17 cd17 ct17 oc18 kV18 dc18 pm18 cd18 ct18 oc19 kV19 dc19 pm19 cd19 ct19 oc20 kV20 dc20 pm20 cd20 ct20 oc21 kV21 dc21 pm21 cd21 ct21 oc22 kV22 dc22 pm22 cd22 ct22 oc23 kV23 dc23 pm23 cd23 ct23 oc24 kV24 dc24 pm24 cd24 ct24 oc25 kV25 dc25 pm25 cd25 ct25 oc26 kV26 dc26 pm26 cd26 ct26 oc27 kV27 dc27 pm27 cd27 ct27 oc28 kV28 dc28 pm28 cd28 ct28 oc29 kV29 dc29 pm29 cd29 ct29 oc30 kV30 dc30 pm30 cd30 ct30 oc31 kV31 dc31 pm31 cd31 ct31 oc32 kV32 dc32 pm32 cd32 ct32 oc33 kV33 dc33 pm33 cd33 ct33 : Value}
    (a0 : PySem.W.nsIn K mainGlobals "order_of" = some (some (.ref f0))) (l0 : K.lookup f0 = some ⟨oc0, od0, .func (PySem.W.fnOf "order_of" "order_of" (defArgs st_order_of) (defBody st_order_of) (defScope st_order_of) .none kV0 dc0 pm0 an0 cd0 ct0), sl0⟩) (c0 : PySem.W.codeIn K cd0 "order_of" = true) (k0 : PySem.W.keepIn K (.ref f0) = true)
    (a1 : PySem.W.nsIn K mainGlobals "orders" = some (some (.ref f1))) (l1 : K.lookup f1 = some ⟨oc1, od1, .func (PySem.W.fnOf "orders" "orders" (defArgs st_orders) (defBody st_orders) (defScope st_orders) .none kV1 dc1 pm1 an1 cd1 ct1), sl1⟩) (c1 : PySem.W.codeIn K cd1 "orders" = true) (k1 : PySem.W.keepIn K (.ref f1) = true)
    (a2 : PySem.W.nsIn K mainGlobals "order_rows" = some (some (.ref f2))) (l2 : K.lookup f2 = some ⟨oc2, od2, .func (PySem.W.fnOf "order_rows" "order_rows" (defArgs st_order_rows) (defBody st_order_rows) (defScope st_order_rows) .none kV2 dc2 pm2 an2 cd2 ct2), sl2⟩) (c2 : PySem.W.codeIn K cd2 "order_rows" = true) (k2 : PySem.W.keepIn K (.ref f2) = true)
    {dT3 : Addr} {tc3 : Value} {tod3 : Option Addr} {tn3 : Nat} {tsl3 : Array (Option Value)} {ttk3 : Tok}
    (a3 : PySem.W.nsIn K mainGlobals "behind" = some (some (.ref f3))) (l3 : K.lookup f3 = some ⟨oc3, od3, .func (PySem.W.fnOf "behind" "behind" (defArgs st_behind) (defBody st_behind) (defScope st_behind) (.ref dT3) kV3 dc3 pm3 an3 cd3 ct3), sl3⟩) (c3 : PySem.W.codeIn K cd3 "behind" = true) (k3 : PySem.W.keepIn K (.ref f3) = true)
    (ld3 : K.lookup dT3 = some ⟨tc3, tod3, .seq ([.str "" ttk3] : List Value).toArray tn3, tsl3⟩)
    (a4 : PySem.W.nsIn K mainGlobals "behind_variables" = some (some (.ref f4))) (l4 : K.lookup f4 = some ⟨oc4, od4, .func (PySem.W.fnOf "behind_variables" "behind_variables" (defArgs st_behind_variables) (defBody st_behind_variables) (defScope st_behind_variables) .none kV4 dc4 pm4 an4 cd4 ct4), sl4⟩) (c4 : PySem.W.codeIn K cd4 "behind_variables" = true) (k4 : PySem.W.keepIn K (.ref f4) = true)
    (a5 : PySem.W.nsIn K mainGlobals "behind_counts" = some (some (.ref f5))) (l5 : K.lookup f5 = some ⟨oc5, od5, .func (PySem.W.fnOf "behind_counts" "behind_counts" (defArgs st_behind_counts) (defBody st_behind_counts) (defScope st_behind_counts) .none kV5 dc5 pm5 an5 cd5 ct5), sl5⟩) (c5 : PySem.W.codeIn K cd5 "behind_counts" = true) (k5 : PySem.W.keepIn K (.ref f5) = true)
    (a6 : PySem.W.nsIn K mainGlobals "monomial_of" = some (some (.ref f6))) (l6 : K.lookup f6 = some ⟨oc6, od6, .func (PySem.W.fnOf "monomial_of" "monomial_of" (defArgs st_monomial_of) (defBody st_monomial_of) (defScope st_monomial_of) .none kV6 dc6 pm6 an6 cd6 ct6), sl6⟩) (c6 : PySem.W.codeIn K cd6 "monomial_of" = true) (k6 : PySem.W.keepIn K (.ref f6) = true)
    (a7 : PySem.W.nsIn K mainGlobals "from_terms" = some (some (.ref f7))) (l7 : K.lookup f7 = some ⟨oc7, od7, .func (PySem.W.fnOf "from_terms" "from_terms" (defArgs st_from_terms) (defBody st_from_terms) (defScope st_from_terms) .none kV7 dc7 pm7 an7 cd7 ct7), sl7⟩) (c7 : PySem.W.codeIn K cd7 "from_terms" = true) (k7 : PySem.W.keepIn K (.ref f7) = true)
    (a8 : PySem.W.nsIn K mainGlobals "constant" = some (some (.ref f8))) (l8 : K.lookup f8 = some ⟨oc8, od8, .func (PySem.W.fnOf "constant" "constant" (defArgs st_constant) (defBody st_constant) (defScope st_constant) .none kV8 dc8 pm8 an8 cd8 ct8), sl8⟩) (c8 : PySem.W.codeIn K cd8 "constant" = true) (k8 : PySem.W.keepIn K (.ref f8) = true)
    (a9 : PySem.W.nsIn K mainGlobals "added" = some (some (.ref f9))) (l9 : K.lookup f9 = some ⟨oc9, od9, .func (PySem.W.fnOf "added" "added" (defArgs st_added) (defBody st_added) (defScope st_added) .none kV9 dc9 pm9 an9 cd9 ct9), sl9⟩) (c9 : PySem.W.codeIn K cd9 "added" = true) (k9 : PySem.W.keepIn K (.ref f9) = true)
    (a10 : PySem.W.nsIn K mainGlobals "scaled" = some (some (.ref f10))) (l10 : K.lookup f10 = some ⟨oc10, od10, .func (PySem.W.fnOf "scaled" "scaled" (defArgs st_scaled) (defBody st_scaled) (defScope st_scaled) .none kV10 dc10 pm10 an10 cd10 ct10), sl10⟩) (c10 : PySem.W.codeIn K cd10 "scaled" = true) (k10 : PySem.W.keepIn K (.ref f10) = true)
    (a11 : PySem.W.nsIn K mainGlobals "multiplied" = some (some (.ref f11))) (l11 : K.lookup f11 = some ⟨oc11, od11, .func (PySem.W.fnOf "multiplied" "multiplied" (defArgs st_multiplied) (defBody st_multiplied) (defScope st_multiplied) .none kV11 dc11 pm11 an11 cd11 ct11), sl11⟩) (c11 : PySem.W.codeIn K cd11 "multiplied" = true) (k11 : PySem.W.keepIn K (.ref f11) = true)
    (a12 : PySem.W.nsIn K mainGlobals "variables_in" = some (some (.ref f12))) (l12 : K.lookup f12 = some ⟨oc12, od12, .func (PySem.W.fnOf "variables_in" "variables_in" (defArgs st_variables_in) (defBody st_variables_in) (defScope st_variables_in) .none kV12 dc12 pm12 an12 cd12 ct12), sl12⟩) (c12 : PySem.W.codeIn K cd12 "variables_in" = true) (k12 : PySem.W.keepIn K (.ref f12) = true)
    (a13 : PySem.W.nsIn K mainGlobals "value_at" = some (some (.ref f13))) (l13 : K.lookup f13 = some ⟨oc13, od13, .func (PySem.W.fnOf "value_at" "value_at" (defArgs st_value_at) (defBody st_value_at) (defScope st_value_at) .none kV13 dc13 pm13 an13 cd13 ct13), sl13⟩) (c13 : PySem.W.codeIn K cd13 "value_at" = true) (k13 : PySem.W.keepIn K (.ref f13) = true)
    (a14 : PySem.W.nsIn K mainGlobals "book_row" = some (some (.ref f14))) (l14 : K.lookup f14 = some ⟨oc14, od14, .func (PySem.W.fnOf "book_row" "book_row" (defArgs st_book_row) (defBody st_book_row) (defScope st_book_row) .none kV14 dc14 pm14 an14 cd14 ct14), sl14⟩) (c14 : PySem.W.codeIn K cd14 "book_row" = true) (k14 : PySem.W.keepIn K (.ref f14) = true)
    (a15 : PySem.W.nsIn K mainGlobals "book_value" = some (some (.ref f15))) (l15 : K.lookup f15 = some ⟨oc15, od15, .func (PySem.W.fnOf "book_value" "book_value" (defArgs st_book_value) (defBody st_book_value) (defScope st_book_value) .none kV15 dc15 pm15 an15 cd15 ct15), sl15⟩) (c15 : PySem.W.codeIn K cd15 "book_value" = true) (k15 : PySem.W.keepIn K (.ref f15) = true)
    (a16 : PySem.W.nsIn K mainGlobals "plain_book" = some (some (.ref f16))) (l16 : K.lookup f16 = some ⟨oc16, od16, .func (PySem.W.fnOf "plain_book" "plain_book" (defArgs st_plain_book) (defBody st_plain_book) (defScope st_plain_book) .none kV16 dc16 pm16 an16 cd16 ct16), sl16⟩) (c16 : PySem.W.codeIn K cd16 "plain_book" = true) (k16 : PySem.W.keepIn K (.ref f16) = true)
    (a17 : PySem.W.nsIn K mainGlobals "border_books" = some (some (.ref f17))) (l17 : K.lookup f17 = some ⟨oc17, od17, .func (PySem.W.fnOf "border_books" "border_books" (defArgs st_border_books) (defBody st_border_books) (defScope st_border_books) .none kV17 dc17 pm17 an17 cd17 ct17), sl17⟩) (c17 : PySem.W.codeIn K cd17 "border_books" = true) (k17 : PySem.W.keepIn K (.ref f17) = true)
    (a18 : PySem.W.nsIn K mainGlobals "_law_cell" = some (some (.ref f18))) (l18 : K.lookup f18 = some ⟨oc18, od18, .func (PySem.W.fnOf "_law_cell" "_law_cell" (defArgs st__law_cell) (defBody st__law_cell) (defScope st__law_cell) .none kV18 dc18 pm18 an18 cd18 ct18), sl18⟩) (c18 : PySem.W.codeIn K cd18 "_law_cell" = true) (k18 : PySem.W.keepIn K (.ref f18) = true)
    (a19 : PySem.W.nsIn K mainGlobals "_law_digits" = some (some (.ref f19))) (l19 : K.lookup f19 = some ⟨oc19, od19, .func (PySem.W.fnOf "_law_digits" "_law_digits" (defArgs st__law_digits) (defBody st__law_digits) (defScope st__law_digits) .none kV19 dc19 pm19 an19 cd19 ct19), sl19⟩) (c19 : PySem.W.codeIn K cd19 "_law_digits" = true) (k19 : PySem.W.keepIn K (.ref f19) = true)
    (a20 : PySem.W.nsIn K mainGlobals "_law_same" = some (some (.ref f20))) (l20 : K.lookup f20 = some ⟨oc20, od20, .func (PySem.W.fnOf "_law_same" "_law_same" (defArgs st__law_same) (defBody st__law_same) (defScope st__law_same) .none kV20 dc20 pm20 an20 cd20 ct20), sl20⟩) (c20 : PySem.W.codeIn K cd20 "_law_same" = true) (k20 : PySem.W.keepIn K (.ref f20) = true)
    (a21 : PySem.W.nsIn K mainGlobals "_law_collected" = some (some (.ref f21))) (l21 : K.lookup f21 = some ⟨oc21, od21, .func (PySem.W.fnOf "_law_collected" "_law_collected" (defArgs st__law_collected) (defBody st__law_collected) (defScope st__law_collected) .none kV21 dc21 pm21 an21 cd21 ct21), sl21⟩) (c21 : PySem.W.codeIn K cd21 "_law_collected" = true) (k21 : PySem.W.keepIn K (.ref f21) = true)
    (a22 : PySem.W.nsIn K mainGlobals "_law_written" = some (some (.ref f22))) (l22 : K.lookup f22 = some ⟨oc22, od22, .func (PySem.W.fnOf "_law_written" "_law_written" (defArgs st__law_written) (defBody st__law_written) (defScope st__law_written) .none kV22 dc22 pm22 an22 cd22 ct22), sl22⟩) (c22 : PySem.W.codeIn K cd22 "_law_written" = true) (k22 : PySem.W.keepIn K (.ref f22) = true)
    (a23 : PySem.W.nsIn K mainGlobals "_law_squared" = some (some (.ref f23))) (l23 : K.lookup f23 = some ⟨oc23, od23, .func (PySem.W.fnOf "_law_squared" "_law_squared" (defArgs st__law_squared) (defBody st__law_squared) (defScope st__law_squared) .none kV23 dc23 pm23 an23 cd23 ct23), sl23⟩) (c23 : PySem.W.codeIn K cd23 "_law_squared" = true) (k23 : PySem.W.keepIn K (.ref f23) = true)
    (a24 : PySem.W.nsIn K mainGlobals "_law_worth" = some (some (.ref f24))) (l24 : K.lookup f24 = some ⟨oc24, od24, .func (PySem.W.fnOf "_law_worth" "_law_worth" (defArgs st__law_worth) (defBody st__law_worth) (defScope st__law_worth) .none kV24 dc24 pm24 an24 cd24 ct24), sl24⟩) (c24 : PySem.W.codeIn K cd24 "_law_worth" = true) (k24 : PySem.W.keepIn K (.ref f24) = true)
    (a25 : PySem.W.nsIn K mainGlobals "_law_book" = some (some (.ref f25))) (l25 : K.lookup f25 = some ⟨oc25, od25, .func (PySem.W.fnOf "_law_book" "_law_book" (defArgs st__law_book) (defBody st__law_book) (defScope st__law_book) .none kV25 dc25 pm25 an25 cd25 ct25), sl25⟩) (c25 : PySem.W.codeIn K cd25 "_law_book" = true) (k25 : PySem.W.keepIn K (.ref f25) = true)
    (a26 : PySem.W.nsIn K mainGlobals "_law_sides" = some (some (.ref f26))) (l26 : K.lookup f26 = some ⟨oc26, od26, .func (PySem.W.fnOf "_law_sides" "_law_sides" (defArgs st__law_sides) (defBody st__law_sides) (defScope st__law_sides) .none kV26 dc26 pm26 an26 cd26 ct26), sl26⟩) (c26 : PySem.W.codeIn K cd26 "_law_sides" = true) (k26 : PySem.W.keepIn K (.ref f26) = true)
    (a27 : PySem.W.nsIn K mainGlobals "_law_due" = some (some (.ref f27))) (l27 : K.lookup f27 = some ⟨oc27, od27, .func (PySem.W.fnOf "_law_due" "_law_due" (defArgs st__law_due) (defBody st__law_due) (defScope st__law_due) .none kV27 dc27 pm27 an27 cd27 ct27), sl27⟩) (c27 : PySem.W.codeIn K cd27 "_law_due" = true) (k27 : PySem.W.keepIn K (.ref f27) = true)
    (a28 : PySem.W.nsIn K mainGlobals "_law_equation" = some (some (.ref f28))) (l28 : K.lookup f28 = some ⟨oc28, od28, .func (PySem.W.fnOf "_law_equation" "_law_equation" (defArgs st__law_equation) (defBody st__law_equation) (defScope st__law_equation) .none kV28 dc28 pm28 an28 cd28 ct28), sl28⟩) (c28 : PySem.W.codeIn K cd28 "_law_equation" = true) (k28 : PySem.W.keepIn K (.ref f28) = true)
    (a29 : PySem.W.nsIn K mainGlobals "_law_bad" = some (some (.ref f29))) (l29 : K.lookup f29 = some ⟨oc29, od29, .func (PySem.W.fnOf "_law_bad" "_law_bad" (defArgs st__law_bad) (defBody st__law_bad) (defScope st__law_bad) .none kV29 dc29 pm29 an29 cd29 ct29), sl29⟩) (c29 : PySem.W.codeIn K cd29 "_law_bad" = true) (k29 : PySem.W.keepIn K (.ref f29) = true)
    (a30 : PySem.W.nsIn K mainGlobals "_law_with" = some (some (.ref f30))) (l30 : K.lookup f30 = some ⟨oc30, od30, .func (PySem.W.fnOf "_law_with" "_law_with" (defArgs st__law_with) (defBody st__law_with) (defScope st__law_with) .none kV30 dc30 pm30 an30 cd30 ct30), sl30⟩) (c30 : PySem.W.codeIn K cd30 "_law_with" = true) (k30 : PySem.W.keepIn K (.ref f30) = true)
    (a31 : PySem.W.nsIn K mainGlobals "_law_refused" = some (some (.ref f31))) (l31 : K.lookup f31 = some ⟨oc31, od31, .func (PySem.W.fnOf "_law_refused" "_law_refused" (defArgs st__law_refused) (defBody st__law_refused) (defScope st__law_refused) .none kV31 dc31 pm31 an31 cd31 ct31), sl31⟩) (c31 : PySem.W.codeIn K cd31 "_law_refused" = true) (k31 : PySem.W.keepIn K (.ref f31) = true)
    (a32 : PySem.W.nsIn K mainGlobals "_law_holds" = some (some (.ref f32))) (l32 : K.lookup f32 = some ⟨oc32, od32, .func (PySem.W.fnOf "_law_holds" "_law_holds" (defArgs st__law_holds) (defBody st__law_holds) (defScope st__law_holds) .none kV32 dc32 pm32 an32 cd32 ct32), sl32⟩) (c32 : PySem.W.codeIn K cd32 "_law_holds" = true) (k32 : PySem.W.keepIn K (.ref f32) = true)
    (a33 : PySem.W.nsIn K mainGlobals "law" = some (some (.ref f33))) (l33 : K.lookup f33 = some ⟨oc33, od33, .func (PySem.W.fnOf "law" "law" (defArgs st_law) (defBody st_law) (defScope st_law) .none kV33 dc33 pm33 an33 cd33 ct33), sl33⟩) (c33 : PySem.W.codeIn K cd33 "law" = true) (k33 : PySem.W.keepIn K (.ref f33) = true)
    (y_ValueError : PySem.W.nsIn K mainGlobals "ValueError" = some none)    (y_abs : PySem.W.nsIn K mainGlobals "abs" = some none)    (y_all : PySem.W.nsIn K mainGlobals "all" = some none)    (y_any : PySem.W.nsIn K mainGlobals "any" = some none)    (y_bool : PySem.W.nsIn K mainGlobals "bool" = some none)    (y_enumerate : PySem.W.nsIn K mainGlobals "enumerate" = some none)    (y_int : PySem.W.nsIn K mainGlobals "int" = some none)    (y_isinstance : PySem.W.nsIn K mainGlobals "isinstance" = some none)    (y_len : PySem.W.nsIn K mainGlobals "len" = some none)    (y_list : PySem.W.nsIn K mainGlobals "list" = some none)    (y_max : PySem.W.nsIn K mainGlobals "max" = some none)    (y_range : PySem.W.nsIn K mainGlobals "range" = some none)    (y_reversed : PySem.W.nsIn K mainGlobals "reversed" = some none)    (y_sorted : PySem.W.nsIn K mainGlobals "sorted" = some none)    (y_str : PySem.W.nsIn K mainGlobals "str" = some none)    (y_tuple : PySem.W.nsIn K mainGlobals "tuple" = some none)
    {tk_LETTERS : Tok} (u_LETTERS : PySem.W.nsIn K mainGlobals "LETTERS" = some (some (.str "abcde" tk_LETTERS)))
    {C_Malformed : Addr} (ca_Malformed : PySem.W.nsIn K mainGlobals "Malformed" = some (some (.ref C_Malformed)))
    {C_PlainError : Addr} (ca_PlainError : PySem.W.nsIn K mainGlobals "PlainError" = some (some (.ref C_PlainError)))
    {C_Misfit : Addr} (ca_Misfit : PySem.W.nsIn K mainGlobals "Misfit" = some (some (.ref C_Misfit)))
    {C_Clash : Addr} (ca_Clash : PySem.W.nsIn K mainGlobals "Clash" = some (some (.ref C_Clash)))
    {C_Unbound : Addr} (ca_Unbound : PySem.W.nsIn K mainGlobals "Unbound" = some (some (.ref C_Unbound)))
    {C_BadText : Addr} (ca_BadText : PySem.W.nsIn K mainGlobals "BadText" = some (some (.ref C_BadText)))
    {C_Ring : Addr} (ca_Ring : PySem.W.nsIn K mainGlobals "Ring" = some (some (.ref C_Ring)))
    {C_NoSuch : Addr} (ca_NoSuch : PySem.W.nsIn K mainGlobals "NoSuch" = some (some (.ref C_NoSuch)))
    {C_TooMuch : Addr} (ca_TooMuch : PySem.W.nsIn K mainGlobals "TooMuch" = some (some (.ref C_TooMuch)))
    {C_NoStep : Addr} (ca_NoStep : PySem.W.nsIn K mainGlobals "NoStep" = some (some (.ref C_NoStep)))
    {C_NothingBack : Addr} (ca_NothingBack : PySem.W.nsIn K mainGlobals "NothingBack" = some (some (.ref C_NothingBack)))
    (ox_Malformed : OexC K C_Malformed) (ow_Malformed : PySem.W.findIn K (.ref C_Malformed) "what" = some none) {fi_Malformed : Addr} (ii_Malformed : PySem.W.findIn K (.ref C_Malformed) "__init__" = some (some (.ref fi_Malformed))) (ti_Malformed : PySem.W.typeIn K (.ref fi_Malformed) = some (.type "function"))
    {odi_Malformed ani_Malformed : Option Addr} {sli_Malformed : Array (Option Value)} {oci_Malformed kVi_Malformed dci_Malformed pmi_Malformed cdi_Malformed cti_Malformed : Value} (li_Malformed : K.lookup fi_Malformed = some ⟨oci_Malformed, odi_Malformed, .func (PySem.W.fnOf "__init__" "Malformed.__init__" (defArgs si_Malformed) (defBody si_Malformed) (defScope si_Malformed) .none kVi_Malformed dci_Malformed pmi_Malformed ani_Malformed cdi_Malformed cti_Malformed), sli_Malformed⟩) (ci_Malformed : PySem.W.codeIn K cdi_Malformed "Malformed.__init__" = true) (ki_Malformed : PySem.W.keepIn K (.ref fi_Malformed) = true)
    (xl_Malformed : ExcL K C_Malformed "what")
    (i_Malformed_Misfit : PySem.W.kitOne K (.ref C_Malformed) (.ref C_Misfit) = some false)
    (i_Malformed_Clash : PySem.W.kitOne K (.ref C_Malformed) (.ref C_Clash) = some false)
    (i_Malformed_Unbound : PySem.W.kitOne K (.ref C_Malformed) (.ref C_Unbound) = some false)
    (i_Malformed_BadText : PySem.W.kitOne K (.ref C_Malformed) (.ref C_BadText) = some false)
    (i_Malformed_Ring : PySem.W.kitOne K (.ref C_Malformed) (.ref C_Ring) = some false)
    (i_Malformed_NoSuch : PySem.W.kitOne K (.ref C_Malformed) (.ref C_NoSuch) = some false)
    (i_Malformed_TooMuch : PySem.W.kitOne K (.ref C_Malformed) (.ref C_TooMuch) = some false)
    (i_Malformed_NoStep : PySem.W.kitOne K (.ref C_Malformed) (.ref C_NoStep) = some false)
    (i_Malformed_NothingBack : PySem.W.kitOne K (.ref C_Malformed) (.ref C_NothingBack) = some false)
    (i_Malformed_Malformed : PySem.W.kitOne K (.ref C_Malformed) (.ref C_Malformed) = some true)
    (i_Malformed_ValueError : PySem.W.kitOne K (.ref C_Malformed) (.type "ValueError") = some true)
    (m_Malformed_PlainError : PySem.W.exmOne K (.ref C_Malformed) (.ref C_PlainError) = some true)
    (hNL : NoLists K) :
    ∃ fd : FuncData, (∀ (s : Shared) (v : Value), BindsTo s fd ⟨[v], []⟩ [("script", v)]) ∧ ∀ base : Heap, K.In base → base.Ns mainGlobals mg → FnOk l.prog w K mg base (L2N.CX l.prog w) 12 fa fd ["script"] (LFa K w_law) := by
  have e := hfa.symm.trans (PySem.W.mg_of X G a33)
  cases e
  have F0 := fun_mk (st := st_order_of) l0 c0 k0
  have D0 : DefAt K mg "order_of" st_order_of ["text"] := ⟨_, _, F0, PySem.W.mg_of X G a0, F0.binds fun _ _ _ _ _ _ us hl => match us, hl with | [_], _ => rfl⟩
  have F1 := fun_mk (st := st_orders) l1 c1 k1
  have D1 : DefAt K mg "orders" st_orders ["count"] := ⟨_, _, F1, PySem.W.mg_of X G a1, F1.binds fun _ _ _ _ _ _ us hl => match us, hl with | [_], _ => rfl⟩
  have F2 := fun_mk (st := st_order_rows) l2 c2 k2
  have D2 : DefAt K mg "order_rows" st_order_rows ["counts"] := ⟨_, _, F2, PySem.W.mg_of X G a2, F2.binds fun _ _ _ _ _ _ us hl => match us, hl with | [_], _ => rfl⟩
  have D3 : DefAtD K mg "behind" st_behind [.str ""] ["text", "letter", "mark"] := defD l3 c3 k3 ld3 (PySem.W.mg_of X G a3) fun _ _ _ _ _ _ _ us its hl hi => match us, hl, its, hi with | [_, _, _], _, [_], _ => ⟨_, rfl, rfl⟩
  have F4 := fun_mk (st := st_behind_variables) l4 c4 k4
  have D4 : DefAt K mg "behind_variables" st_behind_variables ["argument", "order"] := ⟨_, _, F4, PySem.W.mg_of X G a4, F4.binds fun _ _ _ _ _ _ us hl => match us, hl with | [_, _], _ => rfl⟩
  have F5 := fun_mk (st := st_behind_counts) l5 c5 k5
  have D5 : DefAt K mg "behind_counts" st_behind_counts ["argument", "text"] := ⟨_, _, F5, PySem.W.mg_of X G a5, F5.binds fun _ _ _ _ _ _ us hl => match us, hl with | [_, _], _ => rfl⟩
  have F6 := fun_mk (st := st_monomial_of) l6 c6 k6
  have D6 : DefAt K mg "monomial_of" st_monomial_of ["pairs"] := ⟨_, _, F6, PySem.W.mg_of X G a6, F6.binds fun _ _ _ _ _ _ us hl => match us, hl with | [_], _ => rfl⟩
  have F7 := fun_mk (st := st_from_terms) l7 c7 k7
  have D7 : DefAt K mg "from_terms" st_from_terms ["terms"] := ⟨_, _, F7, PySem.W.mg_of X G a7, F7.binds fun _ _ _ _ _ _ us hl => match us, hl with | [_], _ => rfl⟩
  have F8 := fun_mk (st := st_constant) l8 c8 k8
  have D8 : DefAt K mg "constant" st_constant ["number"] := ⟨_, _, F8, PySem.W.mg_of X G a8, F8.binds fun _ _ _ _ _ _ us hl => match us, hl with | [_], _ => rfl⟩
  have F9 := fun_mk (st := st_added) l9 c9 k9
  have D9 : DefAt K mg "added" st_added ["one", "two"] := ⟨_, _, F9, PySem.W.mg_of X G a9, F9.binds fun _ _ _ _ _ _ us hl => match us, hl with | [_, _], _ => rfl⟩
  have F10 := fun_mk (st := st_scaled) l10 c10 k10
  have D10 : DefAt K mg "scaled" st_scaled ["one", "number"] := ⟨_, _, F10, PySem.W.mg_of X G a10, F10.binds fun _ _ _ _ _ _ us hl => match us, hl with | [_, _], _ => rfl⟩
  have F11 := fun_mk (st := st_multiplied) l11 c11 k11
  have D11 : DefAt K mg "multiplied" st_multiplied ["one", "two"] := ⟨_, _, F11, PySem.W.mg_of X G a11, F11.binds fun _ _ _ _ _ _ us hl => match us, hl with | [_, _], _ => rfl⟩
  have F12 := fun_mk (st := st_variables_in) l12 c12 k12
  have D12 : DefAt K mg "variables_in" st_variables_in ["one"] := ⟨_, _, F12, PySem.W.mg_of X G a12, F12.binds fun _ _ _ _ _ _ us hl => match us, hl with | [_], _ => rfl⟩
  have F13 := fun_mk (st := st_value_at) l13 c13 k13
  have D13 : DefAt K mg "value_at" st_value_at ["one", "point"] := ⟨_, _, F13, PySem.W.mg_of X G a13, F13.binds fun _ _ _ _ _ _ us hl => match us, hl with | [_, _], _ => rfl⟩
  have F14 := fun_mk (st := st_book_row) l14 c14 k14
  have D14 : DefAt K mg "book_row" st_book_row ["book", "choice"] := ⟨_, _, F14, PySem.W.mg_of X G a14, F14.binds fun _ _ _ _ _ _ us hl => match us, hl with | [_, _], _ => rfl⟩
  have F15 := fun_mk (st := st_book_value) l15 c15 k15
  have D15 : DefAt K mg "book_value" st_book_value ["book", "texts"] := ⟨_, _, F15, PySem.W.mg_of X G a15, F15.binds fun _ _ _ _ _ _ us hl => match us, hl with | [_, _], _ => rfl⟩
  have F16 := fun_mk (st := st_plain_book) l16 c16 k16
  have D16 : DefAt K mg "plain_book" st_plain_book ["counts", "one"] := ⟨_, _, F16, PySem.W.mg_of X G a16, F16.binds fun _ _ _ _ _ _ us hl => match us, hl with | [_, _], _ => rfl⟩
  have F17 := fun_mk (st := st_border_books) l17 c17 k17
  have D17 : DefAt K mg "border_books" st_border_books ["count", "one"] := ⟨_, _, F17, PySem.W.mg_of X G a17, F17.binds fun _ _ _ _ _ _ us hl => match us, hl with | [_, _], _ => rfl⟩
  have F18 := fun_mk (st := st__law_cell) l18 c18 k18
  have D18 : DefAt K mg "_law_cell" st__law_cell ["script", "k"] := ⟨_, _, F18, PySem.W.mg_of X G a18, F18.binds fun _ _ _ _ _ _ us hl => match us, hl with | [_, _], _ => rfl⟩
  have F19 := fun_mk (st := st__law_digits) l19 c19 k19
  have D19 : DefAt K mg "_law_digits" st__law_digits ["cell", "sizes"] := ⟨_, _, F19, PySem.W.mg_of X G a19, F19.binds fun _ _ _ _ _ _ us hl => match us, hl with | [_, _], _ => rfl⟩
  have F20 := fun_mk (st := st__law_same) l20 c20 k20
  have D20 : DefAt K mg "_law_same" st__law_same ["told", "due"] := ⟨_, _, F20, PySem.W.mg_of X G a20, F20.binds fun _ _ _ _ _ _ us hl => match us, hl with | [_, _], _ => rfl⟩
  have F21 := fun_mk (st := st__law_collected) l21 c21 k21
  have D21 : DefAt K mg "_law_collected" st__law_collected ["terms"] := ⟨_, _, F21, PySem.W.mg_of X G a21, F21.binds fun _ _ _ _ _ _ us hl => match us, hl with | [_], _ => rfl⟩
  have F22 := fun_mk (st := st__law_written) l22 c22 k22
  have D22 : DefAt K mg "_law_written" st__law_written ["terms"] := ⟨_, _, F22, PySem.W.mg_of X G a22, F22.binds fun _ _ _ _ _ _ us hl => match us, hl with | [_], _ => rfl⟩
  have F23 := fun_mk (st := st__law_squared) l23 c23 k23
  have D23 : DefAt K mg "_law_squared" st__law_squared ["terms"] := ⟨_, _, F23, PySem.W.mg_of X G a23, F23.binds fun _ _ _ _ _ _ us hl => match us, hl with | [_], _ => rfl⟩
  have F24 := fun_mk (st := st__law_worth) l24 c24 k24
  have D24 : DefAt K mg "_law_worth" st__law_worth ["terms", "point"] := ⟨_, _, F24, PySem.W.mg_of X G a24, F24.binds fun _ _ _ _ _ _ us hl => match us, hl with | [_, _], _ => rfl⟩
  have F25 := fun_mk (st := st__law_book) l25 c25 k25
  have D25 : DefAt K mg "_law_book" st__law_book ["terms", "many"] := ⟨_, _, F25, PySem.W.mg_of X G a25, F25.binds fun _ _ _ _ _ _ us hl => match us, hl with | [_, _], _ => rfl⟩
  have F26 := fun_mk (st := st__law_sides) l26 c26 k26
  have D26 : DefAt K mg "_law_sides" st__law_sides ["terms", "many"] := ⟨_, _, F26, PySem.W.mg_of X G a26, F26.binds fun _ _ _ _ _ _ us hl => match us, hl with | [_, _], _ => rfl⟩
  have F27 := fun_mk (st := st__law_due) l27 c27 k27
  have D27 : DefAt K mg "_law_due" st__law_due ["terms", "many"] := ⟨_, _, F27, PySem.W.mg_of X G a27, F27.binds fun _ _ _ _ _ _ us hl => match us, hl with | [_, _], _ => rfl⟩
  have F28 := fun_mk (st := st__law_equation) l28 c28 k28
  have D28 : DefAt K mg "_law_equation" st__law_equation ["script", "many", "size", "planted", "point"] := ⟨_, _, F28, PySem.W.mg_of X G a28, F28.binds fun _ _ _ _ _ _ us hl => match us, hl with | [_, _, _, _, _], _ => rfl⟩
  have F29 := fun_mk (st := st__law_bad) l29 c29 k29
  have D29 : DefAt K mg "_law_bad" st__law_bad ["many", "row"] := ⟨_, _, F29, PySem.W.mg_of X G a29, F29.binds fun _ _ _ _ _ _ us hl => match us, hl with | [_, _], _ => rfl⟩
  have F30 := fun_mk (st := st__law_with) l30 c30 k30
  have D30 : DefAt K mg "_law_with" st__law_with ["one", "bad", "number"] := ⟨_, _, F30, PySem.W.mg_of X G a30, F30.binds fun _ _ _ _ _ _ us hl => match us, hl with | [_, _, _], _ => rfl⟩
  have F31 := fun_mk (st := st__law_refused) l31 c31 k31
  have D31 : DefAt K mg "_law_refused" st__law_refused ["many", "one"] := ⟨_, _, F31, PySem.W.mg_of X G a31, F31.binds fun _ _ _ _ _ _ us hl => match us, hl with | [_, _], _ => rfl⟩
  have F32 := fun_mk (st := st__law_holds) l32 c32 k32
  have D32 : DefAt K mg "_law_holds" st__law_holds ["books", "terms", "sides", "point"] := ⟨_, _, F32, PySem.W.mg_of X G a32, F32.binds fun _ _ _ _ _ _ us hl => match us, hl with | [_, _, _, _], _ => rfl⟩
  have F33 := fun_mk (st := st_law) l33 c33 k33
  have D33 : DefAt K mg "law" st_law ["script"] := ⟨_, _, F33, PySem.W.mg_of X G a33, F33.binds fun _ _ _ _ _ _ us hl => match us, hl with | [_], _ => rfl⟩
  have DK17 : DefAtK K mg "border_books" st_border_books ["count", "one"] := ⟨_, _, F17, PySem.W.mg_of X G a17, fun_kwn F17 fun _ _ _ _ _ _ us hl => match us, hl with | [_, _], _ => rfl⟩
  have z_ValueError := PySem.W.mg_none_of X G y_ValueError
  have z_abs := PySem.W.mg_none_of X G y_abs
  have z_all := PySem.W.mg_none_of X G y_all
  have z_any := PySem.W.mg_none_of X G y_any
  have z_bool := PySem.W.mg_none_of X G y_bool
  have z_enumerate := PySem.W.mg_none_of X G y_enumerate
  have z_int := PySem.W.mg_none_of X G y_int
  have z_isinstance := PySem.W.mg_none_of X G y_isinstance
  have z_len := PySem.W.mg_none_of X G y_len
  have z_list := PySem.W.mg_none_of X G y_list
  have z_max := PySem.W.mg_none_of X G y_max
  have z_range := PySem.W.mg_none_of X G y_range
  have z_reversed := PySem.W.mg_none_of X G y_reversed
  have z_sorted := PySem.W.mg_none_of X G y_sorted
  have z_str := PySem.W.mg_none_of X G y_str
  have z_tuple := PySem.W.mg_none_of X G y_tuple
  have g_LETTERS : GlobD ⟨K, mg, w⟩ "LETTERS" gv_LETTERS := ⟨.str "abcde", _, PySem.W.mg_of X G u_LETTERS, ⟨_, rfl⟩, fun _ _ => FD.str' (by decide +kernel)⟩
  have h_Malformed := PySem.W.mg_of X G ca_Malformed
  have h_PlainError := PySem.W.mg_of X G ca_PlainError
  have h_Misfit := PySem.W.mg_of X G ca_Misfit
  have h_Clash := PySem.W.mg_of X G ca_Clash
  have h_Unbound := PySem.W.mg_of X G ca_Unbound
  have h_BadText := PySem.W.mg_of X G ca_BadText
  have h_Ring := PySem.W.mg_of X G ca_Ring
  have h_NoSuch := PySem.W.mg_of X G ca_NoSuch
  have h_TooMuch := PySem.W.mg_of X G ca_TooMuch
  have h_NoStep := PySem.W.mg_of X G ca_NoStep
  have h_NothingBack := PySem.W.mg_of X G ca_NothingBack
  have FI_Malformed := fun_mk (st := si_Malformed) li_Malformed ci_Malformed ki_Malformed
  refine ⟨PySem.W.fnOf "law" "law" (defArgs st_law) (defBody st_law) (defScope st_law) .none kV33 dc33 pm33 an33 cd33 ct33, fun s v => .of_eq rfl, fun base _ _ => ?_⟩
  have e_Malformed : ExcAt l.prog w K mg base "Malformed" "what" 1 C_Malformed := ⟨h_Malformed, ox_Malformed, ow_Malformed, fi_Malformed, _, ii_Malformed, ti_Malformed, init_ok (k := 0) FI_Malformed ⟨rfl, rfl, rfl, by decide +kernel, rfl, by decide +kernel, by decide +kernel⟩ (fun _ _ _ _ _ _ => pss_one (ps_ost (pv 0) (pv 1))), FI_Malformed.binds fun _ _ _ _ _ _ us hl => match us, hl with | [_, _], _ => rfl⟩
  have c_order_of := ok_order_of (P := l.prog) (w := w) (base := base) D0 z_reversed
  have c_orders := ok_orders (P := l.prog) (w := w) (base := base) D1 z_range z_tuple g_LETTERS hNL
  have c_behind_variables := ok_behind_variables (P := l.prog) (w := w) (base := base) D4 z_enumerate z_sorted z_tuple
  have c_monomial_of := ok_monomial_of (P := l.prog) (w := w) (base := base) D6 z_sorted z_tuple
  have c_variables_in := ok_variables_in (P := l.prog) (w := w) (base := base) D12 z_sorted z_tuple
  have c_value_at := ok_value_at (P := l.prog) (w := w) (base := base) D13 z_range
  have c__law_cell := ok__law_cell (P := l.prog) (w := w) (base := base) D18 z_len z_int
  have c__law_digits := ok__law_digits (P := l.prog) (w := w) (base := base) D19 z_int z_len z_range
  have c__law_collected := ok__law_collected (P := l.prog) (w := w) (base := base) D21 z_list
  have c__law_written := ok__law_written (P := l.prog) (w := w) (base := base) D22 z_len z_range z_tuple z_sorted
  have c__law_worth := ok__law_worth (P := l.prog) (w := w) (base := base) D24 z_len z_range
  have c__law_bad := ok__law_bad (P := l.prog) (w := w) (base := base) D29 z_max z_range z_tuple
  have c__law_with := ok__law_with (P := l.prog) (w := w) (base := base) D30 z_len z_range z_list z_sorted z_tuple hNL
  have c_order_rows := ok_order_rows (P := l.prog) (w := w) (base := base) D2 c_orders z_tuple
  have c_from_terms := ok_from_terms (P := l.prog) (w := w) (base := base) D7 c_monomial_of z_sorted z_tuple
  have c__law_squared := ok__law_squared (P := l.prog) (w := w) (base := base) D23 c__law_collected z_len z_range z_tuple
  have c__law_book := ok__law_book (P := l.prog) (w := w) (base := base) D25 c__law_written z_range z_all z_tuple
  have c__law_equation := ok__law_equation (P := l.prog) (w := w) (base := base) D28 c__law_cell c__law_digits c__law_worth c__law_collected z_range z_int z_tuple
  have c_behind := ok_behind (P := l.prog) (w := w) (base := base) h_Malformed e_Malformed D3
  have c_constant := ok_constant (P := l.prog) (w := w) (base := base) D8 c_from_terms
  have c_added := ok_added (P := l.prog) (w := w) (base := base) D9 c_from_terms
  have c_scaled := ok_scaled (P := l.prog) (w := w) (base := base) D10 c_from_terms z_tuple
  have c_multiplied := ok_multiplied (P := l.prog) (w := w) (base := base) D11 c_from_terms z_tuple
  have c_book_row := ok_book_row (P := l.prog) (w := w) (base := base) D14 c_order_rows
  have c_plain_book := ok_plain_book (P := l.prog) (w := w) (base := base) D16 c_order_rows c_from_terms z_all z_tuple
  have c__law_sides := ok__law_sides (P := l.prog) (w := w) (base := base) D26 c__law_squared c__law_collected z_range z_tuple hNL
  have c_behind_counts := ok_behind_counts (P := l.prog) (w := w) (base := base) D5 c_order_of c_behind_variables c_behind z_tuple
  have ck_border_books := okk_border_books (P := l.prog) (w := w) (base := base) h_Malformed e_Malformed DK17 c_variables_in c_multiplied c_scaled c_plain_book c_constant c_added z_tuple
  have c_border_books := ok_border_books (P := l.prog) (w := w) (base := base) h_Malformed e_Malformed D17 c_variables_in c_multiplied c_scaled c_plain_book c_constant c_added z_tuple
  have c__law_due := ok__law_due (P := l.prog) (w := w) (base := base) D27 c__law_sides c__law_book
  have c_book_value := ok_book_value (P := l.prog) (w := w) (base := base) D15 c_order_of c_behind_counts c_book_row c_value_at z_tuple z_enumerate hNL
  have c__law_refused := ok__law_refused (P := l.prog) (w := w) (base := base) h_Malformed xl_Malformed h_PlainError h_Misfit h_Clash h_Unbound h_BadText h_Ring h_NoSuch h_TooMuch h_NoStep h_NothingBack i_Malformed_Misfit i_Malformed_Clash i_Malformed_Unbound i_Malformed_BadText i_Malformed_Ring i_Malformed_NoSuch i_Malformed_TooMuch i_Malformed_NoStep i_Malformed_NothingBack i_Malformed_Malformed i_Malformed_ValueError m_Malformed_PlainError D31 c_border_books z_isinstance z_any z_str z_ValueError hNL
  have c__law_same := ok__law_same (P := l.prog) (w := w) (base := base) D20 z_tuple z_isinstance z_len z_range z_all z_str z_bool z_int 9
  have c__law_holds := ok__law_holds (P := l.prog) (w := w) (base := base) D32 c_book_value c__law_worth c__law_same z_tuple
  exact (ok_law F33 c__law_cell c__law_digits c__law_equation c__law_written c__law_due c_border_books c__law_same c__law_sides c__law_holds c__law_bad c__law_with c__law_refused ck_border_books z_range z_abs hNL).imp fun _ _ _ _ h => h mg w

end K64
open PySem PySem.W PyProof.Rows
set_option maxHeartbeats 0 in
theorem PySem.Challenge.cw_plainbehind_k64_border_whole_holds : PySem.Challenge.rw_plainbehind_k64_border_whole.Holds := by
  w_on; o_law; k_head; (case hw => w_witness2)
  k_fill
  refine L2.Fn.row_of (l := PySem.Challenge.rw_plainbehind_k64_border_whole) (n := 63) (k := 12) (x := "script") (sp := fun K => L2.Fn.LFa K K64.w_law) rfl (by decide) rfl ⟨rfl, by decide, by decide⟩ (fun w h Y => PySem.W.kIn_of Y) ?F ?S
  case F =>
    intro w mg fa h KX G hmg
    refine' K64.all_mk KX G hmg ?a0 ?l0 ?c0 ?k0 ?a1 ?l1 ?c1 ?k1 ?a2 ?l2 ?c2 ?k2 ?a3 ?l3 ?c3 ?k3 ?ld3 ?a4 ?l4 ?c4 ?k4 ?a5 ?l5 ?c5 ?k5 ?a6 ?l6 ?c6 ?k6 ?a7 ?l7 ?c7 ?k7 ?a8 ?l8 ?c8 ?k8 ?a9 ?l9 ?c9 ?k9 ?a10 ?l10 ?c10 ?k10 ?a11 ?l11 ?c11 ?k11 ?a12 ?l12 ?c12 ?k12 ?a13 ?l13 ?c13 ?k13 ?a14 ?l14 ?c14 ?k14 ?a15 ?l15 ?c15 ?k15 ?a16 ?l16 ?c16 ?k16 ?a17 ?l17 ?c17 ?k17 ?a18 ?l18 ?c18 ?k18 ?a19 ?l19 ?c19 ?k19 ?a20 ?l20 ?c20 ?k20 ?a21 ?l21 ?c21 ?k21 ?a22 ?l22 ?c22 ?k22 ?a23 ?l23 ?c23 ?k23 ?a24 ?l24 ?c24 ?k24 ?a25 ?l25 ?c25 ?k25 ?a26 ?l26 ?c26 ?k26 ?a27 ?l27 ?c27 ?k27 ?a28 ?l28 ?c28 ?k28 ?a29 ?l29 ?c29 ?k29 ?a30 ?l30 ?c30 ?k30 ?a31 ?l31 ?c31 ?k31 ?a32 ?l32 ?c32 ?k32 ?a33 ?l33 ?c33 ?k33 ?y_ValueError ?y_abs ?y_all ?y_any ?y_bool ?y_enumerate ?y_int ?y_isinstance ?y_len ?y_list ?y_max ?y_range ?y_reversed ?y_sorted ?y_str ?y_tuple ?u_LETTERS ?ca_Malformed ?ca_PlainError ?ca_Misfit ?ca_Clash ?ca_Unbound ?ca_BadText ?ca_Ring ?ca_NoSuch ?ca_TooMuch ?ca_NoStep ?ca_NothingBack ?ox_Malformed ?ow_Malformed ?ii_Malformed ?ti_Malformed ?li_Malformed ?ci_Malformed ?ki_Malformed ?xl_Malformed ?i_Malformed_Misfit ?i_Malformed_Clash ?i_Malformed_Unbound ?i_Malformed_BadText ?i_Malformed_Ring ?i_Malformed_NoSuch ?i_Malformed_TooMuch ?i_Malformed_NoStep ?i_Malformed_NothingBack ?i_Malformed_Malformed ?i_Malformed_ValueError ?m_Malformed_PlainError ?hNL
    (case a0 => k_is); (case l0 => k_is); (case c0 => k_is); (case k0 => k_is); (case a1 => k_is); (case l1 => k_is); (case c1 => k_is); (case k1 => k_is); (case a2 => k_is); (case l2 => k_is); (case c2 => k_is); (case k2 => k_is); (case a3 => k_is); (case l3 => k_is); (case c3 => k_is); (case k3 => k_is); (case ld3 => k_is); (case a4 => k_is); (case l4 => k_is); (case c4 => k_is); (case k4 => k_is); (case a5 => k_is); (case l5 => k_is); (case c5 => k_is); (case k5 => k_is); (case a6 => k_is); (case l6 => k_is); (case c6 => k_is); (case k6 => k_is); (case a7 => k_is); (case l7 => k_is); (case c7 => k_is); (case k7 => k_is); (case a8 => k_is); (case l8 => k_is); (case c8 => k_is); (case k8 => k_is); (case a9 => k_is); (case l9 => k_is); (case c9 => k_is); (case k9 => k_is); (case a10 => k_is); (case l10 => k_is); (case c10 => k_is); (case k10 => k_is); (case a11 => k_is); (case l11 => k_is); (case c11 => k_is); (case k11 => k_is); (case a12 => k_is); (case l12 => k_is); (case c12 => k_is); (case k12 => k_is); (case a13 => k_is); (case l13 => k_is); (case c13 => k_is); (case k13 => k_is); (case a14 => k_is); (case l14 => k_is); (case c14 => k_is); (case k14 => k_is); (case a15 => k_is); (case l15 => k_is); (case c15 => k_is); (case k15 => k_is); (case a16 => k_is); (case l16 => k_is); (case c16 => k_is); (case k16 => k_is); (case a17 => k_is); (case l17 => k_is); (case c17 => k_is); (case k17 => k_is); (case a18 => k_is); (case l18 => k_is); (case c18 => k_is); (case k18 => k_is); (case a19 => k_is); (case l19 => k_is); (case c19 => k_is); (case k19 => k_is); (case a20 => k_is); (case l20 => k_is); (case c20 => k_is); (case k20 => k_is); (case a21 => k_is); (case l21 => k_is); (case c21 => k_is); (case k21 => k_is); (case a22 => k_is); (case l22 => k_is); (case c22 => k_is); (case k22 => k_is); (case a23 => k_is); (case l23 => k_is); (case c23 => k_is); (case k23 => k_is); (case a24 => k_is); (case l24 => k_is); (case c24 => k_is); (case k24 => k_is); (case a25 => k_is); (case l25 => k_is); (case c25 => k_is); (case k25 => k_is); (case a26 => k_is); (case l26 => k_is); (case c26 => k_is); (case k26 => k_is); (case a27 => k_is); (case l27 => k_is); (case c27 => k_is); (case k27 => k_is); (case a28 => k_is); (case l28 => k_is); (case c28 => k_is); (case k28 => k_is); (case a29 => k_is); (case l29 => k_is); (case c29 => k_is); (case k29 => k_is); (case a30 => k_is); (case l30 => k_is); (case c30 => k_is); (case k30 => k_is); (case a31 => k_is); (case l31 => k_is); (case c31 => k_is); (case k31 => k_is); (case a32 => k_is); (case l32 => k_is); (case c32 => k_is); (case k32 => k_is); (case a33 => k_is); (case l33 => k_is); (case c33 => k_is); (case k33 => k_is); (case y_ValueError => k_is); (case y_abs => k_is); (case y_all => k_is); (case y_any => k_is); (case y_bool => k_is); (case y_enumerate => k_is); (case y_int => k_is); (case y_isinstance => k_is); (case y_len => k_is); (case y_list => k_is); (case y_max => k_is); (case y_range => k_is); (case y_reversed => k_is); (case y_sorted => k_is); (case y_str => k_is); (case y_tuple => k_is); (case u_LETTERS => k_is); (case ca_Malformed => k_is); (case ca_PlainError => k_is); (case ca_Misfit => k_is); (case ca_Clash => k_is); (case ca_Unbound => k_is); (case ca_BadText => k_is); (case ca_Ring => k_is); (case ca_NoSuch => k_is); (case ca_TooMuch => k_is); (case ca_NoStep => k_is); (case ca_NothingBack => k_is); (case ox_Malformed => exact ⟨⟨_, _, _, _, _, _, _, _, _, _, _, _, _, _, _, by k_is, by rfl⟩, by k_is, by k_is, by k_is, by k_is⟩); (case ow_Malformed => k_is); (case ii_Malformed => k_is); (case ti_Malformed => k_is); (case li_Malformed => k_is); (case ci_Malformed => k_is); (case ki_Malformed => k_is); (case xl_Malformed => exact ⟨⟨by k_is, by k_is, by k_is, by k_is⟩, ⟨by k_is, by k_is, by k_is, by k_is, by k_is, by k_is, by k_is, by k_is⟩, by k_is⟩); (case i_Malformed_Misfit => rfl); (case i_Malformed_Clash => rfl); (case i_Malformed_Unbound => rfl); (case i_Malformed_BadText => rfl); (case i_Malformed_Ring => rfl); (case i_Malformed_NoSuch => rfl); (case i_Malformed_TooMuch => rfl); (case i_Malformed_NoStep => rfl); (case i_Malformed_NothingBack => rfl); (case i_Malformed_Malformed => rfl); (case i_Malformed_ValueError => rfl); (case m_Malformed_PlainError => rfl); (case hNL => exact L2.Fn.NoLists.of (by rfl))

  case S => exact fun K H a ns hl hO hS mg w => L2.Fn.law_S (fun ns hn => K64.law_ok ns [] hn) H a ns hl hO hS
#print axioms PySem.Challenge.cw_plainbehind_k64_border_whole_holds
