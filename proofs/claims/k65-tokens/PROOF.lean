import PyProof.Rows.All
import HandS.ForMost
import HandS.ForExc
import HandS.IsInst
import HandS.Wide
import HandS.StrMore
import HandS.TupAny
import HandS.TupMul
import PySem.Challenge.RW_plainbehind_k65_tokens
set_option Elab.async false
set_option linter.all false
set_option maxRecDepth 100000
/-! Fn, part A: pure data, what represents it, and how it lasts. -/
namespace L2.Fn
open PySem PySem.Spec PyProof.Rows

/-- pure data (never changed) -/
inductive D where
  | non | bl (b : Bool) | int (i : Int) | str (s : List Nat) | tup (l : List D) | lst (l : List D) | obj (n : Nat) | fn (x : Str)
/-- what a name may hold: pure data, or a list of one's own that may still be changed -/
inductive M where
  | dat (d : D) | lst (l : List M)

/-- what the text's top says: the written part, the module's names -/
structure Top where
  K : PySem.W.Frag
  mg : Str → Option Value

abbrev Ob := List (Addr × Addr)
abbrev Ob.ads (φ : Ob) : List Addr := φ.map (·.1)

def FzL (T : Top) (H : Hp) (a : Addr) (xs : List V) : Prop := (∃ o, H a = some (.frz o (.lst xs))) ∨
  ∃ (o : Obj) (its : Array Value) (n : Nat), T.K.lookup a = some o ∧ o.cls = .type "list" ∧ o.dict = none ∧ o.data = .seq its n ∧ its.size ≤ sizeLine ∧ Vals xs its.toList
theorem FzL.seq {T : Top} {H : Hp} {a : Addr} {xs : List V} (h : FzL T H a xs) : SqL T.K H a xs := by
  rcases h with ⟨o, h⟩ | h
  · exact .inl (.inr ⟨o, h⟩)
  · exact .inr h
mutual
inductive FD (T : Top) (φ : Ob) (H : Hp) : V → D → Prop where
  | non : FD T φ H .non .non
  | bl (b : Bool) : FD T φ H (.bl b) (.bl b)
  | int (i : Int) : FD T φ H (.int i) (.int i)
  | str (s : List Nat) : FD T φ H (.str ⟨s.toArray⟩) (.str s)
  | tup {a : Addr} {xs : List V} {ds : List D} : SqT T.K H a xs → FDs T φ H xs ds → FD T φ H (.ref a) (.tup ds)
  | lst {a : Addr} {xs : List V} {ds : List D} : FzL T H a xs → FDs T φ H xs ds → FD T φ H (.ref a) (.lst ds)
  | obj {a dx : Addr} {n : Nat} : φ[n]? = some (a, dx) → FD T φ H (.ref a) (.obj n)
  | fn {x : Str} {f : Addr} : T.mg x = some (.ref f) → FD T φ H (.ref f) (.fn x)
inductive FDs (T : Top) (φ : Ob) (H : Hp) : List V → List D → Prop where
  | nil : FDs T φ H [] []
  | cons {v : V} {vs : List V} {d : D} {ds : List D} : FD T φ H v d → FDs T φ H vs ds → FDs T φ H (v :: vs) (d :: ds)
end
mutual
inductive Rep (T : Top) (φ : Ob) (H : Hp) : V → M → List Addr → Prop where
  | dat {v : V} {d : D} : FD T φ H v d → Rep T φ H v (.dat d) []
  | lst {a : Addr} {vs : List V} {ms : List M} {f : List Addr} : H a = some (.lst vs) → Reps T φ H vs ms f → Rep T φ H (.ref a) (.lst ms) (a :: f)
inductive Reps (T : Top) (φ : Ob) (H : Hp) : List V → List M → List Addr → Prop where
  | nil : Reps T φ H [] [] []
  | cons {v : V} {vs : List V} {m : M} {ms : List M} {f g : List Addr} : Rep T φ H v m f → Reps T φ H vs ms g → Reps T φ H (v :: vs) (m :: ms) (f ++ g)
end

/-- the frame's slots -/
abbrev Ev := List (Option M)
inductive RepE (T : Top) (φ : Ob) (H : Hp) : St → Ev → List Addr → Prop where
  | nil : RepE T φ H [] [] []
  | skip {x : Option V} {σ : St} {ρ : Ev} {f : List Addr} : RepE T φ H σ ρ f → RepE T φ H (x :: σ) (none :: ρ) f
  | cons {v : V} {m : M} {σ : St} {ρ : Ev} {f g : List Addr} : Rep T φ H v m f → RepE T φ H σ ρ g → RepE T φ H (some v :: σ) (some m :: ρ) (f ++ g)
/-- instances: the class's name, the attributes -/
structure Ins where
  cls : Str
  fs : List (Str × M)
abbrev Sto := List Ins
inductive RepS (T : Top) (H : Hp) (Φ : Ob) : Ob → Sto → List Addr → Prop where
  | nil : RepS T H Φ [] [] []
  | cons {a dx C : Addr} {φ : Ob} {i : Ins} {S : Sto} {vs : List V} {f g : List Addr} : T.mg i.cls = some (.ref C) → H a = some (.ins C dx ((i.fs.map (·.1)).zip vs)) → vs.length = i.fs.length →
      Reps T Φ H vs (i.fs.map (·.2)) f → RepS T H Φ φ S g → RepS T H Φ ((a, dx) :: φ) (i :: S) (f ++ g)

/-! ### how it lasts -/
/-- pure things are kept -/
structure Ext (H H' : Hp) : Prop where
  tup : ∀ a xs, H a = some (.tup xs) → H' a = some (.tup xs)
  frz : ∀ a o u, H a = some (.frz o u) → H' a = some (.frz o u)
theorem Ext.refl (H : Hp) : Ext H H := ⟨fun _ _ h => h, fun _ _ _ h => h⟩
theorem Ext.trans {H H1 H2 : Hp} (a : Ext H H1) (b : Ext H1 H2) : Ext H H2 := ⟨fun x y h => b.tup x y (a.tup x y h), fun x y z h => b.frz x y z (a.frz x y z h)⟩
def Pre (φ φ' : Ob) : Prop := ∀ (n : Nat) (p : Addr × Addr), φ[n]? = some p → φ'[n]? = some p
theorem Pre.refl (φ : Ob) : Pre φ φ := fun _ _ h => h
theorem Pre.trans {a b c : Ob} (x : Pre a b) (y : Pre b c) : Pre a c := fun n p h => y n p (x n p h)
section
variable {T : Top} {φ φ' : Ob} {H H' : Hp}
theorem Ext.seqT {a : Addr} {xs : List V} (e : Ext H H') (h : SqT T.K H a xs) : SqT T.K H' a xs := by
  rcases h with (h | ⟨o, h⟩) | h
  · exact .inl (.inl (e.tup _ _ h))
  · exact .inl (.inr ⟨o, e.frz _ _ _ h⟩)
  · exact .inr h
theorem Ext.fzl {a : Addr} {xs : List V} (e : Ext H H') (h : FzL T H a xs) : FzL T H' a xs := by
  rcases h with ⟨o, h⟩ | h
  · exact .inl ⟨o, e.frz _ _ _ h⟩
  · exact .inr h
mutual
theorem FD.ext (e : Ext H H') (p : Pre φ φ') : ∀ {v : V} {d : D}, FD T φ H v d → FD T φ' H' v d
  | _, _, .non => .non
  | _, _, .bl b => .bl b
  | _, _, .int i => .int i
  | _, _, .str s => .str s
  | _, _, .tup h r => .tup (e.seqT h) (FDs.ext e p r)
  | _, _, .lst h r => .lst (e.fzl h) (FDs.ext e p r)
  | _, _, .obj h => .obj (p _ _ h)
  | _, _, .fn h => .fn h
theorem FDs.ext (e : Ext H H') (p : Pre φ φ') : ∀ {v : List V} {d : List D}, FDs T φ H v d → FDs T φ' H' v d
  | _, _, .nil => .nil
  | _, _, .cons h r => .cons (FD.ext e p h) (FDs.ext e p r)
end
mutual
/-- .. and what stands at the own places -/
theorem Rep.ext (e : Ext H H') (p : Pre φ φ') : ∀ {v : V} {m : M} {f : List Addr}, Rep T φ H v m f → (∀ a xs, a ∈ f → H a = some (.lst xs) → H' a = some (.lst xs)) → Rep T φ' H' v m f
  | _, _, _, .dat h, _ => .dat (h.ext e p)
  | _, _, _, .lst (a := a) (vs := vs) h r, k => .lst (k a vs List.mem_cons_self h) (Reps.ext e p r fun b xs hb => k b xs (List.mem_cons_of_mem _ hb))
theorem Reps.ext (e : Ext H H') (p : Pre φ φ') : ∀ {v : List V} {m : List M} {f : List Addr}, Reps T φ H v m f → (∀ a xs, a ∈ f → H a = some (.lst xs) → H' a = some (.lst xs)) → Reps T φ' H' v m f
  | _, _, _, .nil, _ => .nil
  | _, _, _, .cons h r, k => .cons (Rep.ext e p h fun b xs hb => k b xs (List.mem_append_left _ hb)) (Reps.ext e p r fun b xs hb => k b xs (List.mem_append_right _ hb))
end
theorem RepE.ext (e : Ext H H') (p : Pre φ φ') : ∀ {σ : St} {ρ : Ev} {f : List Addr}, RepE T φ H σ ρ f → (∀ a xs, a ∈ f → H a = some (.lst xs) → H' a = some (.lst xs)) → RepE T φ' H' σ ρ f
  | _, _, _, .nil, _ => .nil
  | _, _, _, .skip r, k => .skip (RepE.ext e p r k)
  | _, _, _, .cons h r, k => .cons (Rep.ext e p h fun b xs hb => k b xs (List.mem_append_left _ hb)) (RepE.ext e p r fun b xs hb => k b xs (List.mem_append_right _ hb))
theorem RepS.ext {Φ Φ' : Ob} (e : Ext H H') (p : Pre Φ Φ') : ∀ {φ : Ob} {S : Sto} {f : List Addr}, RepS T H Φ φ S f → (∀ a xs, a ∈ f → H a = some (.lst xs) → H' a = some (.lst xs)) →
    (∀ a C dx fs, a ∈ φ.ads → H a = some (.ins C dx fs) → H' a = some (.ins C dx fs)) → RepS T H' Φ' φ S f
  | _, _, _, .nil, _, _ => .nil
  | _, _, _, .cons hC h hl r t, k, q => .cons hC (q _ _ _ _ List.mem_cons_self h) hl (Reps.ext e p r fun b xs hb => k b xs (List.mem_append_left _ hb))
      (RepS.ext e p t (fun b xs hb => k b xs (List.mem_append_right _ hb)) fun a C dx fs ha => q a C dx fs (List.mem_cons_of_mem _ ha))

/-! ### what stands at own places -/
mutual
theorem Rep.own : ∀ {v : V} {m : M} {f : List Addr}, Rep T φ H v m f → ∀ a ∈ f, ∃ xs, H a = some (.lst xs)
  | _, _, _, .dat _, _, h => nomatch h
  | _, _, _, .lst e r, b, h => (List.mem_cons.mp h).elim (fun z => ⟨_, z ▸ e⟩) fun h => Reps.own r b h
theorem Reps.own : ∀ {v : List V} {m : List M} {f : List Addr}, Reps T φ H v m f → ∀ a ∈ f, ∃ xs, H a = some (.lst xs)
  | _, _, _, .nil, _, h => nomatch h
  | _, _, _, .cons x r, b, h => (List.mem_append.mp h).elim (fun h => Rep.own x b h) fun h => Reps.own r b h
end
theorem RepE.own : ∀ {σ : St} {ρ : Ev} {f : List Addr}, RepE T φ H σ ρ f → ∀ a ∈ f, ∃ xs, H a = some (.lst xs)
  | _, _, _, .nil, _, h => nomatch h
  | _, _, _, .skip r, b, h => RepE.own r b h
  | _, _, _, .cons x r, b, h => (List.mem_append.mp h).elim (fun h => Rep.own x b h) fun h => RepE.own r b h
theorem RepS.own {Φ : Ob} : ∀ {φ : Ob} {S : Sto} {f : List Addr}, RepS T H Φ φ S f → ∀ a ∈ f ++ φ.ads, (∃ xs, H a = some (.lst xs)) ∨ ∃ C dx fs, H a = some (.ins C dx fs)
  | _, _, _, .nil, _, h => nomatch h
  | _, _, _, .cons (f := f) (g := g) hC e hl r t, b, h => by
    rcases List.mem_append.mp h with h | h
    · rcases List.mem_append.mp h with h | h
      · exact .inl (r.own b h)
      · exact RepS.own t b (List.mem_append_left _ h)
    · rcases List.mem_cons.mp h with h | h
      · refine .inr ?_
        have z : b = _ := h
        subst z
        exact ⟨_, _, _, e⟩
      · exact RepS.own t b (List.mem_append_right _ h)
end
end L2.Fn
/-! Fn, part B: readings of expressions over pure values. -/
namespace L2.Fn
open PySem PySem.Spec PyProof.Rows

abbrev WP := M → Sto → Prop
structure Exn where
  cls : Str
  fs : List (Str × D)
abbrev XP := Exn → Sto → Prop
/-- an expression's reading: the slots, the instances, what is wanted of a value, of an exception -/
abbrev FE := Ev → Sto → WP → XP → Prop

inductive RepX (T : Top) (φ : Ob) (H : Hp) : Value → Option Addr → Exn → Prop where
  | own0 {x : Str} {C : Addr} : T.mg x = some (.ref C) → RepX T φ H (.ref C) none ⟨x, []⟩
  | own1 {x f : Str} {C dd : Addr} {v : V} {d : D} : T.mg x = some (.ref C) → H dd = some (.xd [(f, v)]) → FD T φ H v d → RepX T φ H (.ref C) (some dd) ⟨x, [(f, d)]⟩

structure Good (T : Top) (φ : Ob) (H : Hp) (σ : St) (ρ : Ev) (S : Sto) (fe fs : List Addr) : Prop where
  env : RepE T φ H σ ρ fe
  sto : RepS T H φ φ S fs
  nd : (fe ++ (fs ++ φ.ads)).Nodup
structure Aft (φ : Ob) (fs : List Addr) (H : Hp) (φ' : Ob) (fs' fm : List Addr) (H' : Hp) : Prop where
  pre : Pre φ φ'
  keep : ∀ a o, a ∉ fs ++ φ.ads → H a = some o → H' a = some o
  new : ∀ a ∈ fm ++ (fs' ++ φ'.ads), a ∈ fs ++ φ.ads ∨ H a = none
  nd : (fm ++ (fs' ++ φ'.ads)).Nodup

section
variable {T : Top} {φ φ1 φ2 : Ob} {H H1 H2 : Hp} {S S1 S2 : Sto} {σ : St} {ρ : Ev} {fe fs fs1 fs2 fm fm1 fm2 : List Addr}
theorem lst_not {a : Addr} {xs ys : List V} (h : H a = some (.lst xs)) (k : H a = some (.tup ys)) : False := by rw [h] at k; cases k
theorem Aft.ext (A : Aft φ fs H φ1 fs1 fm H1) (R : RepS T H φ φ S fs) : Ext H H1 := by
  refine ⟨fun a xs h => A.keep a _ (fun z => ?_) h, fun a o u h => A.keep a _ (fun z => ?_) h⟩
  · rcases R.own a z with ⟨_, q⟩ | ⟨_, _, _, q⟩ <;> rw [h] at q <;> cases q
  · rcases R.own a z with ⟨_, q⟩ | ⟨_, _, _, q⟩ <;> rw [h] at q <;> cases q
theorem Aft.refl (nd : (fs ++ φ.ads).Nodup) : Aft φ fs H φ fs [] H := ⟨Pre.refl _, fun _ _ _ h => h, fun _ h => .inl h, nd⟩
/-- things that no step touches stay: they stand beside what the store owns -/
theorem Aft.rep {v : V} {m : M} (A : Aft φ fs H φ1 fs1 fm1 H1) (R : RepS T H φ φ S fs) (r : Rep T φ H v m fm) (d : ∀ a ∈ fm, a ∉ fs ++ φ.ads) : Rep T φ1 H1 v m fm :=
  r.ext (A.ext R) A.pre fun a xs ha h => A.keep a _ (d a ha) h
theorem Aft.reps {v : List V} {m : List M} (A : Aft φ fs H φ1 fs1 fm1 H1) (R : RepS T H φ φ S fs) (r : Reps T φ H v m fm) (d : ∀ a ∈ fm, a ∉ fs ++ φ.ads) : Reps T φ1 H1 v m fm :=
  r.ext (A.ext R) A.pre fun a xs ha h => A.keep a _ (d a ha) h
theorem Aft.fd {v : V} {d : D} (A : Aft φ fs H φ1 fs1 fm1 H1) (R : RepS T H φ φ S fs) (r : FD T φ H v d) : FD T φ1 H1 v d := r.ext (A.ext R) A.pre
theorem Good.disj (G : Good T φ H σ ρ S fe fs) : ∀ a ∈ fe, a ∉ fs ++ φ.ads := fun a h k => (List.nodup_append.mp G.nd).2.2 a h a k rfl
theorem Good.ndS (G : Good T φ H σ ρ S fe fs) : (fs ++ φ.ads).Nodup := (List.nodup_append.mp G.nd).2.1
theorem Aft.disj (A : Aft φ fs H φ1 fs1 fm1 H1) : ∀ a ∈ fm1, a ∉ fs1 ++ φ1.ads := fun a h k => (List.nodup_append.mp A.nd).2.2 a h a k rfl
theorem Aft.ndS (A : Aft φ fs H φ1 fs1 fm1 H1) : (fs1 ++ φ1.ads).Nodup := (List.nodup_append.mp A.nd).2.1
/-- the frame's own things stand apart from what is new -/
theorem Aft.apart (A : Aft φ fs H φ1 fs1 fm1 H1) {f : List Addr} (d : ∀ a ∈ f, a ∉ fs ++ φ.ads) (o : ∀ a ∈ f, H a ≠ none) : ∀ a ∈ f, a ∉ fm1 ++ (fs1 ++ φ1.ads) := fun a h k => by
  rcases A.new a k with z | z
  · exact d a h z
  · exact o a h z
theorem Aft.good (A : Aft φ fs H φ1 fs1 fm1 H1) (G : Good T φ H σ ρ S fe fs) (R1 : RepS T H1 φ1 φ1 S1 fs1) : Good T φ1 H1 σ ρ S1 fe fs1 := by
  refine ⟨G.env.ext (A.ext G.sto) A.pre fun a xs ha h => A.keep a _ (G.disj a ha) h, R1, ?_⟩
  refine List.nodup_append.mpr ⟨(List.nodup_append.mp G.nd).1, A.ndS, fun a h b k e => ?_⟩
  subst e
  refine A.apart G.disj (fun a ha => ?_) a h (List.mem_append_right _ k)
  obtain ⟨xs, q⟩ := G.env.own a ha
  rw [q]
  exact fun z => nomatch z
theorem Aft.drop (A : Aft φ fs H φ1 fs1 fm1 H1) : Aft φ fs H φ1 fs1 [] H1 := ⟨A.pre, A.keep, fun a h => A.new a (List.mem_append_right _ h), A.ndS⟩
theorem Aft.trans (A : Aft φ fs H φ1 fs1 fm1 H1) (B : Aft φ1 fs1 H1 φ2 fs2 fm2 H2) : Aft φ fs H φ2 fs2 fm2 H2 := by
  refine ⟨A.pre.trans B.pre, fun a o n h => ?_, fun a h => ?_, B.nd⟩
  · refine B.keep a o (fun z => ?_) (A.keep a o n h)
    rcases A.new a (List.mem_append_right _ z) with q | q
    · exact n q
    · rw [q] at h; cases h
  · rcases B.new a h with z | z
    · exact A.new a (List.mem_append_right _ z)
    · by_cases hm : a ∈ fs ++ φ.ads
      · exact .inl hm
      · refine .inr ?_
        cases q : H a with
        | none => rfl
        | some o => rw [A.keep a o hm q] at z; cases z
/-- a first new thing is kept beside a second one -/
theorem Aft.both (A : Aft φ fs H φ1 fs1 fm1 H1) (B : Aft φ1 fs1 H1 φ2 fs2 fm2 H2) (o : ∀ a ∈ fm1, H1 a ≠ none) : Aft φ fs H φ2 fs2 (fm1 ++ fm2) H2 := by
  have C := A.trans B
  refine ⟨C.pre, C.keep, fun a h => ?_, ?_⟩
  · rw [List.append_assoc] at h
    rcases List.mem_append.mp h with h | h
    · exact A.new a (List.mem_append_left _ h)
    · exact C.new a h
  · rw [List.append_assoc]
    refine List.nodup_append.mpr ⟨(List.nodup_append.mp A.nd).1, B.nd, fun a h b k e => ?_⟩
    subst e
    exact B.apart A.disj o a h k
end
theorem Rep.own' {T : Top} {φ : Ob} {H : Hp} {v : V} {m : M} {f : List Addr} (r : Rep T φ H v m f) : ∀ a ∈ f, H a ≠ none := fun a h z => by
  obtain ⟨xs, q⟩ := r.own a h
  rw [q] at z; cases z
theorem Reps.own' {T : Top} {φ : Ob} {H : Hp} {v : List V} {m : List M} {f : List Addr} (r : Reps T φ H v m f) : ∀ a ∈ f, H a ≠ none := fun a h z => by
  obtain ⟨xs, q⟩ := r.own a h
  rw [q] at z; cases z

/-- what is wished of an exception -/
def WxE (T : Top) (φ : Ob) (fs : List Addr) (H : Hp) (σ : St) (E : XP) (W : WX) : Prop :=
  ∀ (x : Exn) (S' : Sto) (c : Value) (d : Option Addr) (H' : Hp) (φ' : Ob) (fs' : List Addr), E x S' → Aft φ fs H φ' fs' [] H' → RepX T φ' H' c d x → RepS T H' φ' φ' S' fs' → W c d σ H'
theorem WxE.aft {T : Top} {φ φ1 : Ob} {fs fs1 fm : List Addr} {H H1 : Hp} {σ : St} {E : XP} {W : WX} (h : WxE T φ fs H σ E W) (A : Aft φ fs H φ1 fs1 fm H1) : WxE T φ1 fs1 H1 σ E W :=
  fun x S' c d H' φ' fs' e a => h x S' c d H' φ' fs' e (A.trans a)
/-- a new value of one's own -/
def LE (T : Top) (W : WX) (t : FE) : TE := fun σ H Q => ∃ (ρ : Ev) (S : Sto) (φ : Ob) (fe fs : List Addr) (E : XP) (Qm : WP), Good T φ H σ ρ S fe fs ∧ t ρ S Qm E ∧ WxE T φ fs H σ E W ∧
  ∀ (m : M) (S' : Sto) (v : V) (H' : Hp) (φ' : Ob) (fs' fm : List Addr), Qm m S' → Aft φ fs H φ' fs' fm H' → Rep T φ' H' v m fm → RepS T H' φ' φ' S' fs' → Q v H'
/-- a value that may be the frame's -/
def LB (T : Top) (W : WX) (t : FE) : TE := fun σ H Q => ∃ (ρ : Ev) (S : Sto) (φ : Ob) (fe fs : List Addr) (E : XP) (Qm : WP), Good T φ H σ ρ S fe fs ∧ t ρ S Qm E ∧ WxE T φ fs H σ E W ∧
  ∀ (m : M) (S' : Sto) (v : V) (H' : Hp) (φ' : Ob) (fs' fm : List Addr), Qm m S' → Aft φ fs H φ' fs' [] H' → Rep T φ' H' v m fm → (∀ a ∈ fm, a ∉ fs' ++ φ'.ads) → RepS T H' φ' φ' S' fs' → Q v H'
theorem PE.weak {X : Cx} {e : Expr} {t t' : TE} (h : PE X e t) (k : ∀ σ H Q, t' σ H Q → t σ H Q) : PE X e t' := ⟨fun pins s σ H Q I w => h.run pins s σ H Q I (k _ _ _ w)⟩
theorem PT.weak {X : Cx} {e : Expr} {t t' : TT} (h : PT X e t) (k : ∀ σ H Q, t' σ H Q → t σ H Q) : PT X e t' := ⟨fun pins s σ H Q I w => h.run pins s σ H Q I (k _ _ _ w)⟩

section
variable {X : Cx} {T : Top} {W : WX} {e a b : Expr} {t ta tb : FE} {pos : Pos}
/-- an own value may be looked at -/
theorem fe_lb (h : PE X e (LE T W t)) : PE X e (LB T W t) := PE.weak h fun σ H Q ⟨ρ, S, φ, fe, fs, E, Qm, G, w, hx, k⟩ =>
  ⟨ρ, S, φ, fe, fs, E, Qm, G, w, hx, fun m S' v H' φ' fs' fm q A r R => k m S' v H' φ' fs' fm q A.drop r A.disj R⟩
def fDat (t : FE) : FE := fun ρ S Q E => t ρ S (fun m S' => match m with
  | .dat d => Q (.dat d) S'
  | _ => False) E
/-- what is looked at is pure -/
theorem fe_dat (h : PE X e (LB T W t)) : PE X e (LE T W (fDat t)) := PE.weak h fun σ H Q ⟨ρ, S, φ, fe, fs, E, Qm, G, w, hx, k⟩ => by
  refine ⟨ρ, S, φ, fe, fs, E, _, G, w, hx, fun m S' v H' φ' fs' fm q A r dj R => ?_⟩
  cases m with
  | lst ms => exact False.elim q
  | dat d =>
    cases r with
    | dat r => exact k (.dat d) S' v H' φ' fs' [] q A (.dat r) R
/-- a name -/
def fVar (i : Nat) : FE := fun ρ S Q _ => ∃ m, ρ[i]? = some (some m) ∧ Q m S
theorem RepE.get {φ : Ob} {H : Hp} : ∀ {σ : St} {ρ : Ev} {f : List Addr} {i : Nat} {m : M}, RepE T φ H σ ρ f → ρ[i]? = some (some m) → ∃ v g, σ[i]? = some (some v) ∧ Rep T φ H v m g ∧ ∀ a ∈ g, a ∈ f
  | _, _, _, i, _, .nil, h => by simp at h
  | _, _, _, 0, _, .skip r, h => by simp at h
  | _, _, _, i + 1, _, .skip r, h => by
    obtain ⟨v, g, h1, h2, h3⟩ := RepE.get (i := i) r (by simpa using h)
    exact ⟨v, g, by simpa using h1, h2, h3⟩
  | _, _, _, 0, _, .cons (v := v) (f := f) x r, h => by
    simp at h
    subst h
    exact ⟨v, f, by simp, x, fun a z => List.mem_append_left _ z⟩
  | _, _, _, i + 1, _, .cons x r, h => by
    obtain ⟨v, g, h1, h2, h3⟩ := RepE.get (i := i) r (by simpa using h)
    exact ⟨v, g, by simpa using h1, h2, fun a z => List.mem_append_right _ (h3 a z)⟩
theorem fe_var {i : Nat} (h : PE X e (tVar i)) : PE X e (LB T W (fVar i)) := PE.weak h fun σ H Q ⟨ρ, S, φ, fe, fs, E, Qm, G, ⟨m, hm, w⟩, hx, k⟩ => by
  obtain ⟨v, g, h1, h2, h3⟩ := G.env.get hm
  exact ⟨v, h1, k m S v H φ fs g w (Aft.refl G.ndS) h2 (fun a z => G.disj a (h3 a z)) G.sto⟩
/-- a constant -/
def fC (d : D) : FE := fun _ S Q _ => Q (.dat d) S
theorem fe_c {v : V} {d : D} (h : PE X e (tC v)) (r : ∀ φ H, FD T φ H v d) : PE X e (LE T W (fC d)) := PE.weak h fun σ H Q ⟨ρ, S, φ, fe, fs, E, Qm, G, w, hx, k⟩ =>
  k (.dat d) S v H φ fs [] w (Aft.refl G.ndS) (.dat (r _ _)) G.sto

/-! ### operators -/
/-- what a step lays beside what stands -/
structure Fresh (H H' : Hp) (fm : List Addr) : Prop where
  keep : ∀ a o, H a = some o → H' a = some o
  new : ∀ a ∈ fm, H a = none
  nd : fm.Nodup
theorem Fresh.refl (H : Hp) : Fresh H H [] := ⟨fun _ _ h => h, fun _ h => (nomatch h), List.nodup_nil⟩
theorem Fresh.upd {H : Hp} {p : Addr} {o : HO} (h : H p = none) : Fresh H (upd H p o) [p] := ⟨fun a u q => by rw [upd_ne (ne_of_none q h)]; exact q, fun a z => by rw [List.mem_singleton.mp z]; exact h, by simp⟩
theorem Fresh.upd0 {H : Hp} {p : Addr} {o : HO} (h : H p = none) : Fresh H (L2.upd H p o) [] := ⟨fun a u q => by rw [upd_ne (ne_of_none q h)]; exact q, fun _ z => (nomatch z), List.nodup_nil⟩
theorem Fresh.ext {H H' : Hp} {fm : List Addr} (F : Fresh H H' fm) : Ext H H' := ⟨fun a _ h => F.keep a _ h, fun a _ _ h => F.keep a _ h⟩
theorem Fresh.aft {T : Top} {H H' : Hp} {fm fs : List Addr} {φ : Ob} {S : Sto} (F : Fresh H H' fm) (R : RepS T H φ φ S fs) (nd : (fs ++ φ.ads).Nodup) : Aft φ fs H φ fs fm H' := by
  refine ⟨Pre.refl _, fun a o _ h => F.keep a o h, fun a h => (List.mem_append.mp h).elim (fun z => .inr (F.new a z)) .inl, ?_⟩
  refine List.nodup_append.mpr ⟨F.nd, nd, fun a h b k e => ?_⟩
  subst e
  have z := F.new a h
  rcases R.own a k with ⟨_, q⟩ | ⟨_, _, _, q⟩ <;> rw [z] at q <;> cases q
theorem Fresh.sto {T : Top} {H H' : Hp} {fm fs : List Addr} {φ : Ob} {S : Sto} (F : Fresh H H' fm) (R : RepS T H φ φ S fs) : RepS T H' φ φ S fs :=
  R.ext F.ext (Pre.refl _) (fun a _ _ h => F.keep a _ h) fun a _ _ _ _ h => F.keep a _ h
/-- an operator of two values, told purely -/
def Op2 (T : Top) (r : R2) (o : M → M → (M → Prop) → Prop) : Prop := ∀ (φ : Ob) (H : Hp) (x y : V) (m1 m2 : M) (f1 f2 : List Addr) (Q : VK) (Qm : M → Prop), Rep T φ H x m1 f1 → Rep T φ H y m2 f2 → o m1 m2 Qm →
  (∀ m v H' fm, Qm m → Fresh H H' fm → Rep T φ H' v m fm → Q v H') → r x y H Q
theorem Op2.or {r r' : R2} {o o' : M → M → (M → Prop) → Prop} (h : Op2 T r o) (h' : Op2 T r' o') : Op2 T (fun x y H Q => r x y H Q ∨ r' x y H Q) (fun a b Q => o a b Q ∨ o' a b Q) :=
  fun φ H x y m1 m2 f1 f2 Q Qm r1 r2 w k => w.elim (fun w => .inl (h φ H x y m1 m2 f1 f2 Q Qm r1 r2 w k)) fun w => .inr (h' φ H x y m1 m2 f1 f2 Q Qm r1 r2 w k)
theorem Op2.imp {r : R2} {o o' : M → M → (M → Prop) → Prop} (h : Op2 T r o) (i : ∀ a b Q, o' a b Q → o a b Q) : Op2 T r o' := fun φ H x y m1 m2 f1 f2 Q Qm r1 r2 w k => h φ H x y m1 m2 f1 f2 Q Qm r1 r2 (i _ _ _ w) k
def fBin (o : M → M → (M → Prop) → Prop) (ta tb : FE) : FE := fun ρ S Q E => ta ρ S (fun m1 S1 => tb ρ S1 (fun m2 S2 => o m1 m2 fun m => Q m S2) E) E
/-- two looks, one behind the other -/
theorem two_looks {σ : St} {H : Hp} {Q : VK} {k : V → V → Hp → Prop} {o : M → M → (M → Prop) → Prop} (h : LE T W (fBin o ta tb) σ H Q)
    (hk : ∀ (φ : Ob) (H : Hp) (x y : V) (m1 m2 : M) (f1 f2 : List Addr) (Qm : M → Prop), Rep T φ H x m1 f1 → Rep T φ H y m2 f2 → o m1 m2 Qm → (∀ m v H' fm, Qm m → Fresh H H' fm → Rep T φ H' v m fm → Q v H') → k x y H) :
    LB T W ta σ H fun x H1 => LB T W tb σ H1 fun y H2 => k x y H2 := by
  obtain ⟨ρ, S, φ, fe, fs, E, Qm, G, w, hx, fin⟩ := h
  refine ⟨ρ, S, φ, fe, fs, E, _, G, w, hx, fun m1 S1 x H1 φ1 fs1 f1 w1 A1 r1 d1 R1 => ?_⟩
  refine ⟨ρ, S1, φ1, fe, fs1, E, _, A1.good G R1, w1, hx.aft A1, fun m2 S2 y H2 φ2 fs2 f2 w2 A2 r2 d2 R2 => ?_⟩
  refine hk φ2 H2 x y m1 m2 f1 f2 _ (A2.rep R1 r1 d1) r2 w2 fun m v H' fm q F r => ?_
  exact fin m S2 v H' φ2 fs2 fm q ((A1.trans A2).trans (F.aft R2 A2.ndS)) r (F.sto R2)
theorem fe_op {op : Operator} {r : R2} {o : M → M → (M → Prop) → Prop} (ho : OpR X (binaryOp op) r) (h2 : Op2 T r o) (ha : PE X a (LB T W ta)) (hb : PE X b (LB T W tb)) : PE X (.BinOp a op b pos) (LE T W (fBin o ta tb)) :=
  PE.weak (pe_op ho ha hb) fun σ H Q h => two_looks h fun φ H x y m1 m2 f1 f2 Qm r1 r2 w k => h2 φ H x y m1 m2 f1 f2 Q Qm r1 r2 w k
theorem fe_cmp {op : CmpOp} {r : R2} {o : M → M → (M → Prop) → Prop} (ho : OpR X (compareOp op) r) (h2 : Op2 T r o) (ha : PE X a (LB T W ta)) (hb : PE X b (LB T W tb)) (hm : behindInMarks op b = false) :
    PE X (.Compare a [op] [b] pos) (LE T W (fBin o ta tb)) :=
  PE.weak (pe_cmpR ho ha hb hm) fun σ H Q h => two_looks h fun φ H x y m1 m2 f1 f2 Qm r1 r2 w k => h2 φ H x y m1 m2 f1 f2 Q Qm r1 r2 w k
theorem fe_ix {r : R2} {o : M → M → (M → Prop) → Prop} (ho : IxR X r) (h2 : Op2 T r o) (ha : PE X a (LB T W ta)) (hb : PE X b (LB T W tb)) (hs : PlainIx b) : PE X (.Subscript a b pos) (LE T W (fBin o ta tb)) :=
  PE.weak (pe_ix ho ha hb hs) fun σ H Q h => two_looks h fun φ H x y m1 m2 f1 f2 Qm r1 r2 w k => h2 φ H x y m1 m2 f1 f2 Q Qm r1 r2 w k
/-- .. and a part of the first one -/
def Op2B (T : Top) (r : R2) (o : M → M → (M → Prop) → Prop) : Prop := ∀ (φ : Ob) (H : Hp) (x y : V) (m1 m2 : M) (f1 f2 : List Addr) (Q : VK) (Qm : M → Prop), Rep T φ H x m1 f1 → Rep T φ H y m2 f2 → o m1 m2 Qm →
  (∀ m v fm, Qm m → Rep T φ H v m fm → (∀ a ∈ fm, a ∈ f1) → Q v H) → r x y H Q
theorem fb_ix {r : R2} {o : M → M → (M → Prop) → Prop} (ho : IxR X r) (h2 : Op2B T r o) (ha : PE X a (LB T W ta)) (hb : PE X b (LB T W tb)) (hs : PlainIx b) : PE X (.Subscript a b pos) (LB T W (fBin o ta tb)) :=
  PE.weak (pe_ix ho ha hb hs) fun σ H Q ⟨ρ, S, φ, fe, fs, E, Qm, G, w, hx, fin⟩ => by
    refine ⟨ρ, S, φ, fe, fs, E, _, G, w, hx, fun m1 S1 x H1 φ1 fs1 f1 w1 A1 r1 d1 R1 => ?_⟩
    refine ⟨ρ, S1, φ1, fe, fs1, E, _, A1.good G R1, w1, hx.aft A1, fun m2 S2 y H2 φ2 fs2 f2 w2 A2 r2 d2 R2 => ?_⟩
    refine h2 φ2 H2 x y m1 m2 f1 f2 Q _ (A2.rep R1 r1 d1) r2 w2 fun m v fm q r hs => ?_
    exact fin m S2 v H2 φ2 fs2 fm q (A1.trans A2) r (fun a ha => fun z => A2.apart d1 r1.own' a (hs a ha) (List.mem_append_right _ z)) R2
end
end L2.Fn
/-! Fn, part C: freezing, tests, argument lists, displays, calls. -/
namespace L2.Fn
open PySem PySem.Spec PyProof.Rows

/-! ### an own list becomes pure -/
mutual
def M.toD : M → D
  | .dat d => d
  | .lst l => .lst (M.toDs l)
def M.toDs : List M → List D
  | [] => []
  | m :: l => m.toD :: M.toDs l
end
theorem M.toDs_eq (l : List M) : M.toDs l = l.map M.toD := by
  induction l with
  | nil => rfl
  | cons m l ih => rw [M.toDs, ih]; rfl
theorem M.toDs_dat (l : List D) : M.toDs (l.map .dat) = l := by
  induction l with
  | nil => rfl
  | cons m l ih => rw [List.map_cons, M.toDs, ih]; rfl
/-- what a lock changes -/
structure Lk (f : List Addr) (H H' : Hp) : Prop where
  keep : ∀ a, a ∉ f → H' a = H a
  lock : ∀ a ∈ f, ∃ xs o, H a = some (.lst xs) ∧ H' a = some (.frz o (.lst xs))
theorem Lk.ext {f : List Addr} {H H' : Hp} (k : Lk f H H') : Ext H H' := by
  refine ⟨fun a xs h => ?_, fun a o u h => ?_⟩
  · rw [k.keep a fun z => ?_]; exact h
    obtain ⟨_, _, q, _⟩ := k.lock a z
    rw [h] at q; cases q
  · rw [k.keep a fun z => ?_]; exact h
    obtain ⟨_, _, q, _⟩ := k.lock a z
    rw [h] at q; cases q
section
variable {X : Cx} {pins : List (Addr × Obj)} {σ : St} {s : Shared} {T : Top} {φ : Ob}
mutual
theorem frz_m : ∀ {H : Hp} {v : V} {m : M} {f : List Addr}, Inv X pins σ H s → Rep T φ H v m f → f.Nodup → ∃ H', Inv X pins σ H' s ∧ Lk f H H' ∧ FD T φ H' v m.toD
  | H, _, _, _, I, .dat r, _ => ⟨H, I, ⟨fun _ _ => rfl, fun _ z => (nomatch z)⟩, r⟩
  | H, _, _, _, I, .lst (a := a) (vs := vs) (f := f) e r, nd => by
    obtain ⟨H1, I1, k, rs⟩ := frz_l I r (List.nodup_cons.mp nd).2
    have ha : a ∉ f := (List.nodup_cons.mp nd).1
    have e1 : H1 a = some (.lst vs) := (k.keep a ha).trans e
    obtain ⟨o, I2⟩ := I1.lock e1 trivial
    have k2 : Lk (a :: f) H (upd H1 a (.frz o (.lst vs))) := by
      refine ⟨fun b hb => ?_, fun b hb => ?_⟩
      · rw [upd_ne fun z => hb (by rw [z]; exact List.mem_cons_self)]
        exact k.keep b fun z => hb (List.mem_cons_of_mem _ z)
      · by_cases q : b = a
        · subst q; exact ⟨vs, o, e, upd_same⟩
        · rcases List.mem_cons.mp hb with z | z
          · exact absurd z q
          · obtain ⟨xs, u, q1, q2⟩ := k.lock b z
            exact ⟨xs, u, q1, by rw [upd_ne q]; exact q2⟩
    have ex : Ext H1 (upd H1 a (.frz o (.lst vs))) := by
      refine ⟨fun b xs h => ?_, fun b u w h => ?_⟩
      · rw [upd_ne fun z => by rw [z, e1] at h; cases h]; exact h
      · rw [upd_ne fun z => by rw [z, e1] at h; cases h]; exact h
    exact ⟨_, I2, k2, .lst (.inl ⟨o, upd_same⟩) (rs.ext ex (Pre.refl _))⟩
theorem frz_l : ∀ {H : Hp} {v : List V} {m : List M} {f : List Addr}, Inv X pins σ H s → Reps T φ H v m f → f.Nodup → ∃ H', Inv X pins σ H' s ∧ Lk f H H' ∧ FDs T φ H' v (M.toDs m)
  | H, _, _, _, I, .nil, _ => ⟨H, I, ⟨fun _ _ => rfl, fun _ z => (nomatch z)⟩, .nil⟩
  | H, _, _, _, I, .cons (f := f) (g := g) r rs, nd => by
    obtain ⟨n1, n2, n3⟩ := List.nodup_append.mp nd
    obtain ⟨H1, I1, k1, r1⟩ := frz_m I r n1
    have rs1 : Reps T φ H1 _ _ g := rs.ext k1.ext (Pre.refl _) fun a xs ha h => (k1.keep a fun z => n3 a z a ha rfl).trans h
    obtain ⟨H2, I2, k2, r2⟩ := frz_l I1 rs1 n2
    refine ⟨H2, I2, ⟨fun b hb => ?_, fun b hb => ?_⟩, .cons (r1.ext k2.ext (Pre.refl _)) r2⟩
    · rw [k2.keep b fun z => hb (List.mem_append_right _ z)]
      exact k1.keep b fun z => hb (List.mem_append_left _ z)
    · rcases List.mem_append.mp hb with z | z
      · obtain ⟨xs, o, q1, q2⟩ := k1.lock b z
        exact ⟨xs, o, q1, (k2.keep b fun w => n3 b z b w rfl).trans q2⟩
      · obtain ⟨xs, o, q1, q2⟩ := k2.lock b z
        exact ⟨xs, o, (k1.keep b fun w => n3 b w b z rfl).symm.trans q1, q2⟩
end
end
theorem Lk.aft {T : Top} {φ φ1 : Ob} {fs fs1 fm f : List Addr} {H H1 H2 : Hp} (k : Lk f H1 H2) (A : Aft φ fs H φ1 fs1 fm H1) (hf : ∀ a ∈ f, a ∈ fm) : Aft φ fs H φ1 fs1 [] H2 := by
  refine ⟨A.pre, fun a o n h => ?_, fun a h => A.new a (List.mem_append_right _ h), A.ndS⟩
  have e := A.keep a o n h
  rw [k.keep a fun z => ?_]; exact e
  rcases A.new a (List.mem_append_left _ (hf a z)) with q | q
  · exact n q
  · rw [h] at q; cases q
theorem Lk.sto {T : Top} {φ : Ob} {S : Sto} {fs f : List Addr} {H1 H2 : Hp} (k : Lk f H1 H2) (R : RepS T H1 φ φ S fs) (d : ∀ a ∈ f, a ∉ fs ++ φ.ads) : RepS T H2 φ φ S fs :=
  R.ext k.ext (Pre.refl _) (fun a xs ha h => (k.keep a fun z => d a z (List.mem_append_left _ ha)).trans h) fun a C dx gs ha h => (k.keep a fun z => d a z (List.mem_append_right _ ha)).trans h
def fFrz (t : FE) : FE := fun ρ S Q E => t ρ S (fun m S' => Q (.dat m.toD) S') E
section
variable {X : Cx} {T : Top} {W : WX} {e a b : Expr} {t ta tb : FE} {pos : Pos} {es rest : List Expr}
theorem fe_frz (h : PE X e (LE T W t)) : PE X e (LE T W (fFrz t)) := by
  refine ⟨fun pins s σ H Q I ⟨ρ, S, φ, fe, fs, E, Qm, G, w, hx, k⟩ => ?_⟩
  refine thn (h.run pins s σ H (fun v H' => ∃ (m : M) (S' : Sto) (φ' : Ob) (fs' fm : List Addr), Qm (.dat m.toD) S' ∧ Aft φ fs H φ' fs' fm H' ∧ Rep T φ' H' v m fm ∧ RepS T H' φ' φ' S' fs') I
    ⟨ρ, S, φ, fe, fs, E, _, G, w, hx, fun m S' v H' φ' fs' fm q A r R => ⟨m, S', φ', fs', fm, q, A, r, R⟩⟩) fun u s' ⟨v, H', I', rv, m, S', φ', fs', fm, q, A, r, R⟩ => ?_
  obtain ⟨H2, I2, lk, r2⟩ := frz_m I' r (List.nodup_append.mp A.nd).1
  exact ⟨v, H2, I2, rv, k _ S' v H2 φ' fs' [] q (lk.aft (T := T) A fun _ z => z) (.dat r2) (lk.sto R A.disj)⟩

/-! ### tests -/
abbrev FT := Ev → Sto → (Bool → Sto → Prop) → XP → Prop
def LT (T : Top) (W : WX) (t : FT) : TT := fun σ H Q => ∃ (ρ : Ev) (S : Sto) (φ : Ob) (fe fs : List Addr) (E : XP) (Qm : Bool → Sto → Prop), Good T φ H σ ρ S fe fs ∧ t ρ S Qm E ∧ WxE T φ fs H σ E W ∧
  ∀ (m : Bool) (S' : Sto) (H' : Hp) (φ' : Ob) (fs' : List Addr), Qm m S' → Aft φ fs H φ' fs' [] H' → RepS T H' φ' φ' S' fs' → Q m H'
/-- the truth of a value -/
def oTru (m : M) (Q : Bool → Prop) : Prop := match m with
  | .dat .non => Q false
  | .dat (.bl b) => Q b
  | .dat (.int i) => Q (i != 0)
  | .dat (.str s) => s.length ≤ sizeLine ∧ Q (!s.isEmpty)
  | .dat (.tup l) => Q (!l.isEmpty)
  | .dat (.lst l) => Q (!l.isEmpty)
  | .lst l => Q (!l.isEmpty)
  | _ => False
theorem FDs.isEmpty {φ : Ob} {H : Hp} {v : List V} {d : List D} (r : FDs T φ H v d) : v.isEmpty = d.isEmpty := by cases r <;> rfl
theorem Reps.isEmpty {φ : Ob} {H : Hp} {v : List V} {d : List M} {f : List Addr} (r : Reps T φ H v d f) : v.isEmpty = d.isEmpty := by cases r <;> rfl
theorem oTru_ok {φ : Ob} {H : Hp} {x : V} {m : M} {f : List Addr} {Q : Bool → Prop} (r : Rep T φ H x m f) (w : oTru m Q) : ∃ k, TruV T.K x H k ∧ Q k := by
  cases r with
  | @dat v d r =>
    cases r with
    | non => exact ⟨_, rfl, w⟩
    | bl b => exact ⟨_, rfl, w⟩
    | int i => exact ⟨_, rfl, w⟩
    | str s => exact ⟨!s.isEmpty, ⟨w.1, by cases s <;> simp [Str.length]; omega⟩, w.2⟩
    | tup h r => exact ⟨_, .inr (.inl ⟨_, h, rfl⟩), by rw [r.isEmpty]; exact w⟩
    | lst h r => exact ⟨_, .inl ⟨_, h.seq, rfl⟩, by rw [r.isEmpty]; exact w⟩
    | obj h => exact w.elim
    | fn h => exact w.elim
  | lst e r => exact ⟨_, .inl ⟨_, SqL.of e, rfl⟩, by rw [r.isEmpty]; exact w⟩
def fTru (t : FE) : FT := fun ρ S Q E => t ρ S (fun m S' => oTru m fun b => Q b S') E
theorem ft_val (hK : X.K = T.K) (h : PE X e (LB T W t)) (he : ∀ whole, isTrue e X.env whole = (do let v ← whole; standAt e.pos; holding [v] (truthy v)) := by intro _; rfl) : PT X e (LT T W (fTru t)) :=
  PT.weak (pt_truth h he) fun σ H Q ⟨ρ, S, φ, fe, fs, E, Qm, G, w, hx, k⟩ => by
    refine ⟨ρ, S, φ, fe, fs, E, _, G, w, hx, fun m S' v H' φ' fs' fm q A r d R => ?_⟩
    rw [hK]
    obtain ⟨b, h1, h2⟩ := oTru_ok r q
    exact ⟨b, h1, k b S' H' φ' fs' h2 A R⟩
def fBl (t : FE) : FT := fun ρ S Q E => t ρ S (fun m S' => ∃ b, m = .dat (.bl b) ∧ Q b S') E
/-- a comparison as a test -/
theorem ft_cmp {op : CmpOp} {r : R2} {o : M → M → (M → Prop) → Prop} (ho : OpR X (compareOp op) r) (h2 : Op2 T r o) (ha : PE X a (LB T W ta)) (hb : PE X b (LB T W tb)) (hm : behindInMarks op b = false) :
    PT X (.Compare a [op] [b] pos) (LT T W (fBl (fBin o ta tb))) :=
  PT.weak (pt_cmpR ho ha hb hm) fun σ H Q ⟨ρ, S, φ, fe, fs, E, Qm, G, w, hx, k⟩ => by
    refine two_looks (T := T) (W := W) (Q := fun x H' => ∃ b, x = .bl b ∧ Q b H') ⟨ρ, S, φ, fe, fs, E, _, G, w, hx, fun m S' v H' φ' fs' fm q A r R => ?_⟩ fun φ H x y m1 m2 f1 f2 Qm r1 r2 w k => h2 φ H x y m1 m2 f1 f2 _ Qm r1 r2 w k
    obtain ⟨b, rfl, q⟩ := q
    cases r with
    | dat r =>
      cases r with
      | bl => exact ⟨b, rfl, k b S' H' φ' fs' q A.drop R⟩
def fNot (t : FT) : FT := fun ρ S Q E => t ρ S (fun b S' => Q (!b) S') E
theorem ft_not {t : FT} (h : PT X e (LT T W t)) : PT X (.UnaryOp .Not e pos) (LT T W (fNot t)) := PT.weak (pt_not h) fun σ H Q ⟨ρ, S, φ, fe, fs, E, Qm, G, w, hx, k⟩ =>
  ⟨ρ, S, φ, fe, fs, E, _, G, w, hx, fun b S' H' φ' fs' q A R => k (!b) S' H' φ' fs' q A R⟩
structure PWw (X : Cx) (e : Expr) (t : TT) : Prop where
  h : PW X e t
theorem PW.weak {t t' : TT} (h : PW X e t) (k : ∀ σ H Q, t' σ H Q → t σ H Q) : PW X e t' := ⟨fun wh pins s σ H Q I w => h.run wh pins s σ H Q I (k _ _ _ w)⟩
def fAnd (t u : FT) : FT := fun ρ S Q E => t ρ S (fun b S' => if b = true then u ρ S' Q E else Q false S') E
def fOr (t u : FT) : FT := fun ρ S Q E => t ρ S (fun b S' => if b = true then Q true S' else u ρ S' Q E) E
theorem LT.next {t : FT} {σ : St} {H : Hp} {Q : Bool → Hp → Prop} {ρ : Ev} {S : Sto} {φ : Ob} {fe fs : List Addr} {E : XP} {Qm : Bool → Sto → Prop} {H' : Hp} {φ' : Ob} {fs' : List Addr} {S' : Sto}
    (G : Good T φ H σ ρ S fe fs) (hx : WxE T φ fs H σ E W) (k : ∀ (m : Bool) (S' : Sto) (H' : Hp) (φ' : Ob) (fs' : List Addr), Qm m S' → Aft φ fs H φ' fs' [] H' → RepS T H' φ' φ' S' fs' → Q m H')
    (A : Aft φ fs H φ' fs' [] H') (R : RepS T H' φ' φ' S' fs') (w : t ρ S' Qm E) : LT T W t σ H' Q :=
  ⟨ρ, S', φ', fe, fs', E, Qm, A.good G R, w, hx.aft A, fun b S2 H2 φ2 fs2 q A2 R2 => k b S2 H2 φ2 fs2 q (A.trans A2) R2⟩
theorem fw_one_and {t : FT} (h : PT X a (LT T W t)) : PW X (.BoolOp .And [a] pos) (LT T W t) := pw_and1 h
theorem fw_one_or {t : FT} (h : PT X a (LT T W t)) : PW X (.BoolOp .Or [a] pos) (LT T W t) := pw_or1 h
theorem fw_and {t u : FT} (ha : PT X a (LT T W t)) (hb : PW X (.BoolOp .And (b :: rest) pos) (LT T W u)) : PW X (.BoolOp .And (a :: b :: rest) pos) (LT T W (fAnd t u)) :=
  PW.weak (pw_and ha hb) fun σ H Q ⟨ρ, S, φ, fe, fs, E, Qm, G, w, hx, k⟩ => ⟨ρ, S, φ, fe, fs, E, _, G, w, hx, fun c S' H' φ' fs' q A R => by
    cases c with
    | true => exact LT.next G hx k A R q
    | false => exact k false S' H' φ' fs' q A R⟩
theorem fw_or {t u : FT} (ha : PT X a (LT T W t)) (hb : PW X (.BoolOp .Or (b :: rest) pos) (LT T W u)) : PW X (.BoolOp .Or (a :: b :: rest) pos) (LT T W (fOr t u)) :=
  PW.weak (pw_or ha hb) fun σ H Q ⟨ρ, S, φ, fe, fs, E, Qm, G, w, hx, k⟩ => ⟨ρ, S, φ, fe, fs, E, _, G, w, hx, fun c S' H' φ' fs' q A R => by
    cases c with
    | true => exact k true S' H' φ' fs' q A R
    | false => exact LT.next G hx k A R q⟩
/-- a test in a value's place -/
theorem LE.next {t : FE} {σ : St} {H : Hp} {Q : VK} {ρ : Ev} {S : Sto} {φ : Ob} {fe fs : List Addr} {E : XP} {Qm : WP} {H' : Hp} {φ' : Ob} {fs' fm0 : List Addr} {S' : Sto}
    (G : Good T φ H σ ρ S fe fs) (hx : WxE T φ fs H σ E W) (k : ∀ (m : M) (S' : Sto) (v : V) (H' : Hp) (φ' : Ob) (fs' fm : List Addr), Qm m S' → Aft φ fs H φ' fs' fm H' → Rep T φ' H' v m fm → RepS T H' φ' φ' S' fs' → Q v H')
    (A : Aft φ fs H φ' fs' fm0 H') (R : RepS T H' φ' φ' S' fs') (w : t ρ S' Qm E) : LE T W t σ H' Q :=
  ⟨ρ, S', φ', fe, fs', E, Qm, A.good G R, w, hx.aft A, fun m S2 v H2 φ2 fs2 fm q A2 r R2 => k m S2 v H2 φ2 fs2 fm q (A.trans A2) r R2⟩
def fIf (c : FT) (t u : FE) : FE := fun ρ S Q E => c ρ S (fun b S' => if b = true then t ρ S' Q E else u ρ S' Q E) E
theorem fe_if {c : Expr} {tc : FT} (hc : PT X c (LT T W tc)) (ha : PE X a (LE T W ta)) (hb : PE X b (LE T W tb)) : PE X (.IfExp c a b pos) (LE T W (fIf tc ta tb)) :=
  PE.weak (pe_ifExp hc ha hb) fun σ H Q ⟨ρ, S, φ, fe, fs, E, Qm, G, w, hx, k⟩ => ⟨ρ, S, φ, fe, fs, E, _, G, w, hx, fun c S' H' φ' fs' q A R => by
    cases c with
    | true => exact LE.next G hx k A R q
    | false => exact LE.next G hx k A R q⟩
/-- and, or, not of truth values -/
def fAndV (t u : FE) : FE := fun ρ S Q E => t ρ S (fun m S' => ∃ b, m = .dat (.bl b) ∧ if b = true then u ρ S' Q E else Q (.dat (.bl false)) S') E
def fOrV (t u : FE) : FE := fun ρ S Q E => t ρ S (fun m S' => ∃ b, m = .dat (.bl b) ∧ if b = true then Q (.dat (.bl true)) S' else u ρ S' Q E) E
def fNotV (t : FE) : FE := fun ρ S Q E => t ρ S (fun m S' => ∃ b, m = .dat (.bl b) ∧ Q (.dat (.bl (!b))) S') E
theorem fe_and {op : BoolOp} (ha : PE X a (LE T W ta)) (hb : PE X (.BoolOp .And (b :: rest) pos) (LE T W tb)) : PE X (.BoolOp .And (a :: b :: rest) pos) (LE T W (fAndV ta tb)) :=
  PE.weak (pe_and ha hb) fun σ H Q ⟨ρ, S, φ, fe, fs, E, Qm, G, w, hx, k⟩ => ⟨ρ, S, φ, fe, fs, E, _, G, w, hx, fun m S' v H' φ' fs' fm q A r R => by
    obtain ⟨c, rfl, q⟩ := q
    cases r with
    | dat r =>
      cases r with
      | bl =>
        refine ⟨c, rfl, ?_⟩
        cases c with
        | true => exact LE.next G hx k A R q
        | false => exact k _ S' _ H' φ' fs' [] q A (.dat (.bl _)) R⟩
theorem fe_or {op : BoolOp} (ha : PE X a (LE T W ta)) (hb : PE X (.BoolOp .Or (b :: rest) pos) (LE T W tb)) : PE X (.BoolOp .Or (a :: b :: rest) pos) (LE T W (fOrV ta tb)) :=
  PE.weak (pe_or ha hb) fun σ H Q ⟨ρ, S, φ, fe, fs, E, Qm, G, w, hx, k⟩ => ⟨ρ, S, φ, fe, fs, E, _, G, w, hx, fun m S' v H' φ' fs' fm q A r R => by
    obtain ⟨c, rfl, q⟩ := q
    cases r with
    | dat r =>
      cases r with
      | bl =>
        refine ⟨c, rfl, ?_⟩
        cases c with
        | true => exact k _ S' _ H' φ' fs' [] q A (.dat (.bl _)) R
        | false => exact LE.next G hx k A R q⟩
theorem fe_not (ha : PE X a (LE T W ta)) : PE X (.UnaryOp .Not a pos) (LE T W (fNotV ta)) :=
  PE.weak (pe_not ha) fun σ H Q ⟨ρ, S, φ, fe, fs, E, Qm, G, w, hx, k⟩ => ⟨ρ, S, φ, fe, fs, E, _, G, w, hx, fun m S' v H' φ' fs' fm q A r R => by
    obtain ⟨c, rfl, q⟩ := q
    cases r with
    | dat r =>
      cases r with
      | bl => exact ⟨c, rfl, k _ S' _ H' φ' fs' [] q A (.dat (.bl _)) R⟩⟩
theorem fe_one {op : BoolOp} (ha : PE X a (LE T W ta)) : PE X (.BoolOp op [a] pos) (LE T W ta) := pe_one ha

/-! ### argument lists -/
abbrev FA := Ev → Sto → (List M → Sto → Prop) → XP → Prop
/-- looked at -/
def LAB (T : Top) (W : WX) (t : FA) : TA := fun σ H Q => ∃ (ρ : Ev) (S : Sto) (φ : Ob) (fe fs : List Addr) (E : XP) (Qm : List M → Sto → Prop), Good T φ H σ ρ S fe fs ∧ t ρ S Qm E ∧ WxE T φ fs H σ E W ∧
  ∀ (m : List M) (S' : Sto) (v : List V) (H' : Hp) (φ' : Ob) (fs' fm : List Addr), Qm m S' → Aft φ fs H φ' fs' [] H' → Reps T φ' H' v m fm → (∀ a ∈ fm, a ∉ fs' ++ φ'.ads) → RepS T H' φ' φ' S' fs' → Q v H'
/-- new and one's own -/
def LAE (T : Top) (W : WX) (t : FA) : TA := fun σ H Q => ∃ (ρ : Ev) (S : Sto) (φ : Ob) (fe fs : List Addr) (E : XP) (Qm : List M → Sto → Prop), Good T φ H σ ρ S fe fs ∧ t ρ S Qm E ∧ WxE T φ fs H σ E W ∧
  ∀ (m : List M) (S' : Sto) (v : List V) (H' : Hp) (φ' : Ob) (fs' fm : List Addr), Qm m S' → Aft φ fs H φ' fs' fm H' → Reps T φ' H' v m fm → RepS T H' φ' φ' S' fs' → Q v H'
def fNil : FA := fun _ S Q _ => Q [] S
def fCons (t : FE) (u : FA) : FA := fun ρ S Q E => t ρ S (fun m S1 => u ρ S1 (fun ms S2 => Q (m :: ms) S2) E) E
theorem PA.weak {t t' : TA} (h : PA X es t) (k : ∀ σ H Q, t' σ H Q → t σ H Q) : PA X es t' := ⟨fun p pins s σ H Q I w => h.run p pins s σ H Q I (k _ _ _ w)⟩
theorem fb_nil : PA X [] (LAB T W fNil) := PA.weak pa_nil fun σ H Q ⟨ρ, S, φ, fe, fs, E, Qm, G, w, hx, k⟩ => k [] S [] H φ fs [] w (Aft.refl G.ndS) .nil (fun _ z => nomatch z) G.sto
theorem fa_nil : PA X [] (LAE T W fNil) := PA.weak pa_nil fun σ H Q ⟨ρ, S, φ, fe, fs, E, Qm, G, w, hx, k⟩ => k [] S [] H φ fs [] w (Aft.refl G.ndS) .nil G.sto
theorem fb_cons {u : FA} (ha : PE X e (LB T W t)) (hr : PA X es (LAB T W u)) (hs : starEach (e :: es) X.env = (false, eval e X.env) :: starEach es X.env := by rfl) : PA X (e :: es) (LAB T W (fCons t u)) :=
  PA.weak (pa_cons ha hr hs) fun σ H Q ⟨ρ, S, φ, fe, fs, E, Qm, G, w, hx, k⟩ => by
    refine ⟨ρ, S, φ, fe, fs, E, _, G, w, hx, fun m S1 v H1 φ1 fs1 f1 q A1 r1 d1 R1 => ?_⟩
    refine ⟨ρ, S1, φ1, fe, fs1, E, _, A1.good G R1, q, hx.aft A1, fun ms S2 vs H2 φ2 fs2 f2 q2 A2 r2 d2 R2 => ?_⟩
    refine k (m :: ms) S2 (v :: vs) H2 φ2 fs2 (f1 ++ f2) q2 (A1.trans A2) (.cons (A2.rep R1 r1 d1) r2) (fun a z => ?_) R2
    rcases List.mem_append.mp z with z | z
    · exact fun y => A2.apart d1 r1.own' a z (List.mem_append_right _ y)
    · exact d2 a z
theorem fa_cons {u : FA} (ha : PE X e (LE T W t)) (hr : PA X es (LAE T W u)) (hs : starEach (e :: es) X.env = (false, eval e X.env) :: starEach es X.env := by rfl) : PA X (e :: es) (LAE T W (fCons t u)) :=
  PA.weak (pa_cons ha hr hs) fun σ H Q ⟨ρ, S, φ, fe, fs, E, Qm, G, w, hx, k⟩ => by
    refine ⟨ρ, S, φ, fe, fs, E, _, G, w, hx, fun m S1 v H1 φ1 fs1 f1 q A1 r1 R1 => ?_⟩
    refine ⟨ρ, S1, φ1, fe, fs1, E, _, A1.good G R1, q, hx.aft A1, fun ms S2 vs H2 φ2 fs2 f2 q2 A2 r2 R2 => ?_⟩
    exact k (m :: ms) S2 (v :: vs) H2 φ2 fs2 (f1 ++ f2) q2 (A1.both A2 r1.own') (.cons (A2.rep R1 r1 A1.disj) r2) R2

/-! ### displays -/
theorem Reps.len {φ : Ob} {H : Hp} : ∀ {v : List V} {m : List M} {f : List Addr}, Reps T φ H v m f → v.length = m.length
  | _, _, _, .nil => rfl
  | _, _, _, .cons _ r => by rw [List.length_cons, List.length_cons, r.len]
theorem FDs.len {φ : Ob} {H : Hp} : ∀ {v : List V} {m : List D}, FDs T φ H v m → v.length = m.length
  | _, _, .nil => rfl
  | _, _, .cons _ r => by rw [List.length_cons, List.length_cons, r.len]
theorem Reps.dats {φ : Ob} {H : Hp} : ∀ {v : List V} {m : List M} {f : List Addr}, Reps T φ H v m f → ∀ {ds : List D}, m = ds.map .dat → FDs T φ H v ds ∧ f = []
  | _, _, _, .nil, [], _ => ⟨.nil, rfl⟩
  | _, _, _, .nil, _ :: _, h => by cases h
  | _, _, _, .cons x r, [], h => by cases h
  | _, _, _, .cons (f := f) x r, d :: ds, h => by
    injection h with h1 h2
    subst h1
    obtain ⟨z, e⟩ := r.dats h2
    cases x with
    | dat x => exact ⟨.cons x z, by rw [e] <;> rfl⟩
theorem FDs.reps {φ : Ob} {H : Hp} : ∀ {v : List V} {ds : List D}, FDs T φ H v ds → Reps T φ H v (ds.map .dat) []
  | _, _, .nil => .nil
  | _, _, .cons x r => .cons (.dat x) r.reps
/-- [..] -/
def fLst (t : FA) : FE := fun ρ S Q E => t ρ S (fun ms S' => ms.length ≤ sizeLine ∧ Q (.lst ms) S') E
theorem fe_lst {u : FA} (h : PA X es (LAE T W u)) : PE X (.List es pos) (LE T W (fLst u)) := PE.weak (pe_lst h) fun σ H Q ⟨ρ, S, φ, fe, fs, E, Qm, G, w, hx, k⟩ => by
  refine ⟨ρ, S, φ, fe, fs, E, _, G, w, hx, fun ms S1 vs H1 φ1 fs1 f1 q A1 r1 R1 => ⟨by rw [r1.len]; exact q.1, fun p hp => ?_⟩⟩
  have F : Fresh H1 (upd H1 p (.lst vs)) [p] := Fresh.upd hp
  have B := F.aft R1 A1.ndS
  have np : ∀ a ∈ f1, a ≠ p := fun a h z => by rw [z] at h; exact r1.own' p h hp
  refine k (.lst ms) S1 (.ref p) _ φ1 fs1 (p :: f1) q.2 ?_ (.lst upd_same (r1.ext F.ext (Pre.refl _) fun a xs _ h => F.keep a _ h)) (F.sto R1)
  have C := A1.both B r1.own'
  refine ⟨C.pre, C.keep, fun a h => C.new a ?_, ?_⟩
  · rw [List.append_assoc]
    rcases List.mem_cons.mp h with h | h
    · exact List.mem_append_right _ (List.mem_append_left _ (List.mem_singleton.mpr h))
    · rcases List.mem_append.mp h with h | h
      · exact List.mem_append_left _ h
      · exact List.mem_append_right _ (List.mem_append_right _ h)
  · have nd := C.nd
    rw [List.append_assoc] at nd
    have q1 := List.nodup_append.mp nd
    have q2 := List.nodup_append.mp q1.2.1
    refine List.nodup_cons.mpr ⟨fun z => ?_, ?_⟩
    · rcases List.mem_append.mp z with z | z
      · exact np p z rfl
      · exact q2.2.2 p (List.mem_singleton.mpr rfl) p z rfl
    · exact List.nodup_append.mpr ⟨q1.1, q2.2.1, fun a h b h' => q1.2.2 a h b (List.mem_append_right _ h')⟩
/-- (..) -/
def fTup (t : FA) : FE := fun ρ S Q E => t ρ S (fun ms S' => ms.length ≤ sizeLine ∧ ∃ ds : List D, ms = ds.map .dat ∧ Q (.dat (.tup ds)) S') E
theorem fe_tup {u : FA} {x1 : Nat} (h : PA X es (LAE T W u)) : PE X (.Tuple es x1 pos) (LE T W (fTup u)) := PE.weak (pe_tup h) fun σ H Q ⟨ρ, S, φ, fe, fs, E, Qm, G, w, hx, k⟩ => by
  refine ⟨ρ, S, φ, fe, fs, E, _, G, w, hx, fun ms S1 vs H1 φ1 fs1 f1 q A1 r1 R1 => ⟨by rw [r1.len]; exact q.1, fun p hp => ?_⟩⟩
  obtain ⟨_, ds, e, q⟩ := q
  obtain ⟨r, e1⟩ := r1.dats e
  have F : Fresh H1 (upd H1 p (.tup vs)) [] := Fresh.upd0 hp
  exact k _ S1 (.ref p) _ φ1 fs1 [] q (A1.trans (F.aft R1 A1.ndS)) (.dat (.tup (SqT.of upd_same) (r.ext F.ext (Pre.refl _)))) (F.sto R1)

/-! ### calls of what is built in -/
def OpN (T : Top) (r : List V → Hp → VK → Prop) (o : List M → (M → Prop) → Prop) : Prop := ∀ (φ : Ob) (H : Hp) (vs : List V) (ms : List M) (f : List Addr) (Q : VK) (Qm : M → Prop), Reps T φ H vs ms f → o ms Qm →
  (∀ m v H' fm, Qm m → Fresh H H' fm → Rep T φ H' v m fm → Q v H') → r vs H Q
def fCB (o : List M → (M → Prop) → Prop) (t : FA) : FE := fun ρ S Q E => t ρ S (fun ms S' => o ms fun m => Q m S') E
theorem fCB_ok {r : List V → Hp → VK → Prop} {o : List M → (M → Prop) → Prop} {u : FA} {σ : St} {H : Hp} {Q : VK} (h2 : OpN T r o) (h : LE T W (fCB o u) σ H Q) : LAB T W u σ H fun vs H1 => r vs H1 Q := by
  obtain ⟨ρ, S, φ, fe, fs, E, Qm, G, w, hx, k⟩ := h
  refine ⟨ρ, S, φ, fe, fs, E, _, G, w, hx, fun ms S1 vs H1 φ1 fs1 f1 q A1 r1 d1 R1 => ?_⟩
  exact h2 φ1 H1 vs ms f1 Q _ r1 q fun m v H' fm q F r => k m S1 v H' φ1 fs1 fm q (A1.trans (F.aft R1 A1.ndS)) r (F.sto R1)
theorem fe_callB {x : Str} {p : Pos} {u : FA} {id : String} {r : List V → Hp → VK → Prop} {o : List M → (M → Prop) → Prop} (hc : CallR X (.builtin id) r) (h2 : OpN T r o) (hg : Gl X x) (hm : X.mg x = none) (hv : bootBuiltins x = some (.builtin id)) (ha : PA X (e :: es) (LAB T W u))
    (hn : x ≠ "__name__" := by decide) (hdb : (x == ("__debug__" : Str)) = false := by decide) (he : starEach (e :: es) X.env = (false, eval e X.env) :: starEach es X.env := by rfl) (hpl : (backTo pos (starEach es X.env)).any (·.1) = false := by rfl) :
    PE X (.Call (.Name x p) (e :: es) [] pos) (LE T W (fCB o u)) := PE.weak (pe_callB hc hg hm hv ha hn hdb he hpl) fun σ H Q h => fCB_ok h2 h
theorem fe_callTy {x : Str} {p : Pos} {u : FA} {Ty : String} {r : List V → Hp → VK → Prop} {o : List M → (M → Prop) → Prop} (hc : CallR X (.type Ty) r) (h2 : OpN T r o) (hg : Gl X x) (hm : X.mg x = none) (hv : bootBuiltins x = some (.type Ty)) (ha : PA X (e :: es) (LAB T W u))
    (hn : x ≠ "__name__" := by decide) (hdb : (x == ("__debug__" : Str)) = false := by decide) (he : starEach (e :: es) X.env = (false, eval e X.env) :: starEach es X.env := by rfl) (hpl : (backTo pos (starEach es X.env)).any (·.1) = false := by rfl) :
    PE X (.Call (.Name x p) (e :: es) [] pos) (LE T W (fCB o u)) := PE.weak (pe_callTy hc hg hm hv ha hn hdb he hpl) fun σ H Q h => fCB_ok h2 h

/-! ### methods of what is built in -/
def OpM (T : Top) (Ty : String) (r : V → List V → Hp → VK → Prop) (o : M → List M → (M → Prop) → Prop) : Prop := ∀ (φ : Ob) (H : Hp) (x : V) (m : M) (f : List Addr), Rep T φ H x m f → ∀ (Q : VK) (Qm : M → Prop) (H' : Hp) (vs : List V) (ms : List M) (f' : List Addr),
  Rep T φ H' x m f → Reps T φ H' vs ms f' → o m ms Qm → (∀ m v H2 fm, Qm m → Fresh H' H2 fm → Rep T φ H2 v m fm → Q v H2) → r x vs H' Q
end

/-! ### defs of the text -/
abbrev FF := List D → Sto → WP → XP → Prop
def LF (T : Top) (wf : FF) : Sp := fun vs H Q Ex => ∃ (ds : List D) (S : Sto) (φ : Ob) (fs : List Addr) (E : XP) (Qm : WP), FDs T φ H vs ds ∧ RepS T H φ φ S fs ∧ (fs ++ φ.ads).Nodup ∧ wf ds S Qm E ∧
  (∀ (x : Exn) (S' : Sto) (c : Value) (d : Option Addr) (H' : Hp) (φ' : Ob) (fs' : List Addr), E x S' → Aft φ fs H φ' fs' [] H' → RepX T φ' H' c d x → RepS T H' φ' φ' S' fs' → Ex c d H') ∧
  ∀ (m : M) (S' : Sto) (v : V) (H' : Hp) (φ' : Ob) (fs' fm : List Addr), Qm m S' → Aft φ fs H φ' fs' fm H' → Rep T φ' H' v m fm → RepS T H' φ' φ' S' fs' → Q v H'
def fCall (wf : FF) (t : FA) : FE := fun ρ S Q E => t ρ S (fun ms S' => ∃ ds : List D, ms = ds.map .dat ∧ wf ds S' Q E) E
section
variable {X : Cx} {T : Top} {W : WX} {e a b : Expr} {t ta tb : FE} {pos : Pos} {es rest : List Expr}
theorem fCall_ok {wf : FF} {u : FA} {σ : St} {H : Hp} {Q : VK} (h : LE T W (fCall wf u) σ H Q) : LAB T W u σ H fun vs H1 => LF T wf vs H1 Q (WE W σ) := by
  obtain ⟨ρ, S, φ, fe, fs, E, Qm, G, w, hx, k⟩ := h
  refine ⟨ρ, S, φ, fe, fs, E, _, G, w, hx, fun ms S1 vs H1 φ1 fs1 f1 q A1 r1 d1 R1 => ?_⟩
  obtain ⟨ds, e, q⟩ := q
  obtain ⟨r, _⟩ := r1.dats e
  exact ⟨ds, S1, φ1, fs1, E, Qm, r, R1, A1.ndS, q, fun x S' c d H' φ' fs' y A2 rx R2 => hx x S' c d H' φ' fs' y (A1.trans A2) rx R2, fun m S2 v H2 φ2 fs2 fm q A2 r R2 => k m S2 v H2 φ2 fs2 fm q (A1.trans A2) r R2⟩
theorem fe_call {k : Nat} {f : Addr} {fd : FuncData} {ps : List Str} {wf : FF} {x : Str} {p : Pos} {u : FA} (F : FnOk X.prog X.w X.K X.mg X.base (L2.CX X.prog X.w) k f fd ps (LF T wf)) (hr : Room k X.A) (hg : Gl X x) (hm : X.mg x = some (.ref f))
    (hk : PySem.W.keepIn X.K (.ref f) = true) (hb : Binds X.K fd ps []) (tk : Takes X W) (ha : PA X (e :: es) (LAB T W u)) (hdb : (x == ("__debug__" : Str)) = false := by decide)
    (he : starEach (e :: es) X.env = (false, eval e X.env) :: starEach es X.env := by rfl) (hpl : (backTo pos (starEach es X.env)).any (·.1) = false := by rfl) : PE X (.Call (.Name x p) (e :: es) [] pos) (LE T W (fCall wf u)) :=
  PE.weak (pe_callS F hr hg hm hk hb (passAt tk) ha hdb he hpl) fun σ H Q h => fCall_ok h
end
end L2.Fn
/-! Fn, part D: statements, blocks, loops, the bodies of defs. -/
namespace L2.Fn
open PySem PySem.Spec PyProof.Rows

/-- what is wanted behind a statement -/
structure EndP where
  nx : Ev → Sto → Prop
  rt : WP
  bk : Ev → Sto → Prop := fun _ _ => False
  ct : Ev → Sto → Prop := fun _ _ => False
  ex : Exn → Ev → Sto → Prop := fun _ _ _ => False
abbrev FS := EndP → Ev → Sto → Prop

structure AftS (φ : Ob) (fe fs : List Addr) (H : Hp) (φ' : Ob) (fe' fs' : List Addr) (H' : Hp) : Prop where
  pre : Pre φ φ'
  keep : ∀ a o, a ∉ fe ++ (fs ++ φ.ads) → H a = some o → H' a = some o
  new : ∀ a ∈ fe' ++ (fs' ++ φ'.ads), a ∈ fe ++ (fs ++ φ.ads) ∨ H a = none
section
variable {T : Top} {φ φ1 φ2 : Ob} {H H1 H2 : Hp} {S S1 S2 : Sto} {σ : St} {ρ : Ev} {fe fe1 fe2 fs fs1 fs2 fm fm1 fm2 : List Addr}
theorem AftS.refl : AftS φ fe fs H φ fe fs H := ⟨Pre.refl _, fun _ _ _ h => h, fun _ h => .inl h⟩
theorem AftS.trans (A : AftS φ fe fs H φ1 fe1 fs1 H1) (B : AftS φ1 fe1 fs1 H1 φ2 fe2 fs2 H2) : AftS φ fe fs H φ2 fe2 fs2 H2 := by
  refine ⟨A.pre.trans B.pre, fun a o n h => ?_, fun a h => ?_⟩
  · refine B.keep a o (fun z => ?_) (A.keep a o n h)
    rcases A.new a z with q | q
    · exact n q
    · rw [q] at h; cases h
  · rcases B.new a h with z | z
    · exact A.new a z
    · by_cases hm : a ∈ fe ++ (fs ++ φ.ads)
      · exact .inl hm
      · refine .inr ?_
        cases q : H a with
        | none => rfl
        | some o => rw [A.keep a o hm q] at z; cases z
/-- behind an expression -/
theorem Aft.s (A : Aft φ fs H φ1 fs1 fm H1) : AftS φ fe fs H φ1 (fm ++ fe) fs1 H1 := by
  refine ⟨A.pre, fun a o n h => A.keep a o (fun z => n (List.mem_append_right _ z)) h, fun a h => ?_⟩
  rw [List.append_assoc] at h
  rcases List.mem_append.mp h with h | h
  · rcases A.new a (List.mem_append_left _ h) with z | z
    · exact .inl (List.mem_append_right _ z)
    · exact .inr z
  · rcases List.mem_append.mp h with h | h
    · exact .inl (List.mem_append_left _ h)
    · rcases A.new a (List.mem_append_right _ h) with z | z
      · exact .inl (List.mem_append_right _ z)
      · exact .inr z
theorem AftS.sub {fe3 : List Addr} (A : AftS φ fe fs H φ1 fe1 fs1 H1) (h : ∀ a ∈ fe3, a ∈ fe1) : AftS φ fe fs H φ1 fe3 fs1 H1 :=
  ⟨A.pre, A.keep, fun a z => (List.mem_append.mp z).elim (fun z => A.new a (List.mem_append_left _ (h a z))) fun z => A.new a (List.mem_append_right _ z)⟩
end
/-- what the reading's ends ask -/
structure EndOk (T : Top) (φ : Ob) (fe fs : List Addr) (H : Hp) (P : EndP) (W : WX) (D : Ends) : Prop where
  nx : ∀ ρ' S' σ' H' φ' fe' fs', P.nx ρ' S' → AftS φ fe fs H φ' fe' fs' H' → Good T φ' H' σ' ρ' S' fe' fs' → D.nx σ' H'
  bk : ∀ ρ' S' σ' H' φ' fe' fs', P.bk ρ' S' → AftS φ fe fs H φ' fe' fs' H' → Good T φ' H' σ' ρ' S' fe' fs' → D.bk σ' H'
  ct : ∀ ρ' S' σ' H' φ' fe' fs', P.ct ρ' S' → AftS φ fe fs H φ' fe' fs' H' → Good T φ' H' σ' ρ' S' fe' fs' → D.ct σ' H'
  rt : ∀ m S' v H' φ' fm fs', P.rt m S' → AftS φ fe fs H φ' fm fs' H' → (fm ++ (fs' ++ φ'.ads)).Nodup → Rep T φ' H' v m fm → RepS T H' φ' φ' S' fs' → D.rt v H'
  ex : ∀ x ρ' S' c d σ' H' φ' fe' fs', P.ex x ρ' S' → AftS φ fe fs H φ' fe' fs' H' → Good T φ' H' σ' ρ' S' fe' fs' → RepX T φ' H' c d x → W c d σ' H'
section
variable {T : Top} {φ φ1 φ2 : Ob} {H H1 H2 : Hp} {S S1 S2 : Sto} {σ : St} {ρ : Ev} {fe fe1 fe2 fs fs1 fs2 fm fm1 fm2 : List Addr} {P : EndP} {W : WX} {D : Ends}
theorem EndOk.aft (k : EndOk T φ fe fs H P W D) (A : AftS φ fe fs H φ1 fe1 fs1 H1) : EndOk T φ1 fe1 fs1 H1 P W D :=
  ⟨fun ρ' S' σ' H' φ' fe' fs' p a g => k.nx ρ' S' σ' H' φ' fe' fs' p (A.trans a) g, fun ρ' S' σ' H' φ' fe' fs' p a g => k.bk ρ' S' σ' H' φ' fe' fs' p (A.trans a) g,
   fun ρ' S' σ' H' φ' fe' fs' p a g => k.ct ρ' S' σ' H' φ' fe' fs' p (A.trans a) g, fun m S' v H' φ' fm fs' p a n r R => k.rt m S' v H' φ' fm fs' p (A.trans a) n r R,
   fun x ρ' S' c d σ' H' φ' fe' fs' p a g r => k.ex x ρ' S' c d σ' H' φ' fe' fs' p (A.trans a) g r⟩
theorem EndOk.wx (k : EndOk T φ fe fs H P W D) (G : Good T φ H σ ρ S fe fs) : WxE T φ fs H σ (fun x S' => P.ex x ρ S') W :=
  fun x S' c d H' φ' fs' e A r R => k.ex x ρ S' c d σ H' φ' fe fs' e (A.s.sub fun a z => List.mem_append_right _ z) (A.good G R) r
end
def LS (T : Top) (W : WX) (t : FS) : TS := fun D σ H => ∃ (ρ : Ev) (S : Sto) (φ : Ob) (fe fs : List Addr) (P : EndP), Good T φ H σ ρ S fe fs ∧ t P ρ S ∧ EndOk T φ fe fs H P W D
theorem PS.weak {X : Cx} {e : Stmt} {t t' : TS} (h : PS X e t) (k : ∀ D σ H, t' D σ H → t D σ H) : PS X e t' := ⟨fun pins s σ H D I w => h.run pins s σ H D I (k _ _ _ w)⟩
theorem PSs.weak {X : Cx} {e : List Stmt} {t t' : TS} (h : PSs X e t) (k : ∀ D σ H, t' D σ H → t D σ H) : PSs X e t' := ⟨fun pins s σ H D I w => h.run pins s σ H D I (k _ _ _ w)⟩

section
variable {X : Cx} {T : Top} {W : WX} {e a b : Expr} {t ta tb : FE} {pos : Pos} {es : List Expr} {st : Stmt} {rest body : List Stmt} {u w : FS}
def fNext : FS := fun P ρ S => P.nx ρ S
def fSeq (t u : FS) : FS := fun P ρ S => t { P with nx := u P } ρ S
theorem fs_nil : PSs X [] (LS T W fNext) := PSs.weak pss_nil fun D σ H ⟨ρ, S, φ, fe, fs, P, G, w, k⟩ => k.nx ρ S σ H φ fe fs w AftS.refl G
theorem fs_one (h : PS X st (LS T W u)) : PSs X [st] (LS T W u) := pss_one h
theorem fs_cons (h : PS X st (LS T W u)) (hr : PSs X rest (LS T W w)) : PSs X (st :: rest) (LS T W (fSeq u w)) := PSs.weak (pss_cons h hr) fun D σ H ⟨ρ, S, φ, fe, fs, P, G, q, k⟩ =>
  ⟨ρ, S, φ, fe, fs, { P with nx := w P }, G, q, ⟨fun ρ' S' σ' H' φ' fe' fs' p A G' => ⟨ρ', S', φ', fe', fs', P, G', p, k.aft A⟩, k.bk, k.ct, k.rt, k.ex⟩⟩
theorem fs_pass : PS X (.Pass pos) (LS T W fNext) := PS.weak ps_pass fun D σ H ⟨ρ, S, φ, fe, fs, P, G, w, k⟩ => k.nx ρ S σ H φ fe fs w AftS.refl G
def fBreak : FS := fun P ρ S => P.bk ρ S
def fCont : FS := fun P ρ S => P.ct ρ S
theorem fs_break : PS X (.Break pos) (LS T W fBreak) := PS.weak ps_break fun D σ H ⟨ρ, S, φ, fe, fs, P, G, w, k⟩ => k.bk ρ S σ H φ fe fs w AftS.refl G
theorem fs_continue : PS X (.Continue pos) (LS T W fCont) := PS.weak ps_continue fun D σ H ⟨ρ, S, φ, fe, fs, P, G, w, k⟩ => k.ct ρ S σ H φ fe fs w AftS.refl G
theorem fs_doc {x : Str} {j : Nat} {pos' : Pos} : PS X (.Expr (.Constant (.str x) j pos) pos') (LS T W fNext) := PS.weak ps_doc fun D σ H ⟨ρ, S, φ, fe, fs, P, G, w, k⟩ => k.nx ρ S σ H φ fe fs w AftS.refl G
def fDrop (t : FE) : FS := fun P ρ S => t ρ S (fun _ S' => P.nx ρ S') fun x S' => P.ex x ρ S'
theorem fs_expr (he : PE X e (LB T W t)) (hs : swapsWith e none pos.line X.env = pure false := by rfl) : PS X (.Expr e pos) (LS T W (fDrop t)) := PS.weak (ps_expr he hs) fun D σ H ⟨ρ, S, φ, fe, fs, P, G, w, k⟩ =>
  ⟨ρ, S, φ, fe, fs, _, _, G, w, k.wx G, fun m S' v H' φ' fs' fm q A r d R => k.nx ρ S' σ H' φ' fe fs' q (A.s.sub fun a z => List.mem_append_right _ z) (A.good G R)⟩
def fRet (t : FE) : FS := fun P ρ S => t ρ S P.rt fun x S' => P.ex x ρ S'
theorem fs_ret (he : PE X e (LE T W t)) : PS X (.Return (some e) pos) (LS T W (fRet t)) := PS.weak (ps_ret he) fun D σ H ⟨ρ, S, φ, fe, fs, P, G, w, k⟩ =>
  ⟨ρ, S, φ, fe, fs, _, _, G, w, k.wx G, fun m S' v H' φ' fs' fm q A r R => k.rt m S' v H' φ' fm fs' q (A.s.sub fun a z => List.mem_append_left _ z) A.nd r R⟩
/-- return x: what the name holds goes out -/
theorem RepE.get1 {φ : Ob} {H : Hp} : ∀ {σ : St} {ρ : Ev} {f : List Addr} {i : Nat} {m : M}, RepE T φ H σ ρ f → f.Nodup → ρ[i]? = some (some m) → ∃ v g, σ[i]? = some (some v) ∧ Rep T φ H v m g ∧ (∀ a ∈ g, a ∈ f) ∧ g.Nodup
  | _, _, _, i, _, .nil, _, h => by simp at h
  | _, _, _, 0, _, .skip r, _, h => by simp at h
  | _, _, _, i + 1, _, .skip r, nd, h => by
    obtain ⟨v, g, h1, h2, h3⟩ := RepE.get1 (i := i) r nd (by simpa using h)
    exact ⟨v, g, by simpa using h1, h2, h3⟩
  | _, _, _, 0, _, .cons (v := v) (f := f) x r, nd, h => by
    simp at h
    subst h
    exact ⟨v, f, by simp, x, fun a z => List.mem_append_left _ z, (List.nodup_append.mp nd).1⟩
  | _, _, _, i + 1, _, .cons x r, nd, h => by
    obtain ⟨v, g, h1, h2, h3, h4⟩ := RepE.get1 (i := i) r (List.nodup_append.mp nd).2.1 (by simpa using h)
    exact ⟨v, g, by simpa using h1, h2, fun a z => List.mem_append_right _ (h3 a z), h4⟩
def fRetV (i : Nat) : FS := fun P ρ S => ∃ m, ρ[i]? = some (some m) ∧ P.rt m S
theorem fs_retV {i : Nat} (he : PE X e (tVar i)) : PS X (.Return (some e) pos) (LS T W (fRetV i)) := PS.weak (ps_ret he) fun D σ H ⟨ρ, S, φ, fe, fs, P, G, ⟨m, hm, w⟩, k⟩ => by
  have nd := List.nodup_append.mp G.nd
  obtain ⟨v, g, h1, h2, h3, h4⟩ := G.env.get1 nd.1 hm
  exact ⟨v, h1, k.rt m S v H φ g fs w (AftS.refl.sub h3) (List.nodup_append.mpr ⟨h4, nd.2.1, fun a h b h' => nd.2.2 a (h3 a h) b h'⟩) h2 G.sto⟩
def fRetN : FS := fun P _ S => P.rt (.dat .non) S
theorem fs_retN : PS X (.Return none pos) (LS T W fRetN) := PS.weak ps_retN fun D σ H ⟨ρ, S, φ, fe, fs, P, G, w, k⟩ =>
  k.rt _ S _ H φ [] fs w (AftS.refl.sub fun _ z => nomatch z) G.ndS (.dat .non) G.sto
def fIfS (c : FT) (t u : FS) : FS := fun P ρ S => c ρ S (fun b S' => if b = true then t P ρ S' else u P ρ S') fun x S' => P.ex x ρ S'
theorem fs_if {c : Expr} {x y : List Stmt} {tc : FT} (hc : PT X c (LT T W tc)) (ha : PSs X x (LS T W u)) (hb : PSs X y (LS T W w)) : PS X (.If c x y pos) (LS T W (fIfS tc u w)) :=
  PS.weak (ps_if hc ha hb) fun D σ H ⟨ρ, S, φ, fe, fs, P, G, q, k⟩ => ⟨ρ, S, φ, fe, fs, _, _, G, q, k.wx G, fun b S' H' φ' fs' q A R => by
    have B : AftS φ fe fs H φ' fe fs' H' := A.s.sub fun a z => List.mem_append_right _ z
    cases b with
    | true => exact ⟨ρ, S', φ', fe, fs', P, A.good G R, q, k.aft B⟩
    | false => exact ⟨ρ, S', φ', fe, fs', P, A.good G R, q, k.aft B⟩⟩
theorem fs_never : PS X st (LS T W fun _ _ _ => False) := PS.weak ps_never fun D σ H ⟨ρ, S, φ, fe, fs, P, G, w, k⟩ => w

/-! ### targets -/
abbrev FG := M → Ev → (Ev → Prop) → Prop
abbrev FGs := List D → Ev → (Ev → Prop) → Prop
/-- the value stands apart from the frame and the instances; slots are set, nothing else -/
def LG (T : Top) (vs : List Nat) (g : FG) : TG := fun v σ H Q => ∃ (m : M) (ρ : Ev) (S : Sto) (φ : Ob) (fm fe fs : List Addr) (Qm : Ev → Prop), Rep T φ H v m fm ∧ Good T φ H σ ρ S fe fs ∧ (fm ++ fe).Nodup ∧ (∀ a ∈ fm, a ∉ fs ++ φ.ads) ∧ g m ρ Qm ∧
  ∀ ρ' σ' fe', Qm ρ' → (∀ a ∈ fe', a ∈ fm ++ fe) → Good T φ H σ' ρ' S fe' fs → wipe σ' vs = wipe σ vs → Q σ' H
def LGs (T : Top) (vs : List Nat) (g : FGs) : TGs := fun v σ H Q => ∃ (ds : List D) (ρ : Ev) (S : Sto) (φ : Ob) (fe fs : List Addr) (Qm : Ev → Prop), FDs T φ H v ds ∧ Good T φ H σ ρ S fe fs ∧ g ds ρ Qm ∧
  ∀ ρ' σ' fe', Qm ρ' → (∀ a ∈ fe', a ∈ fe) → Good T φ H σ' ρ' S fe' fs → wipe σ' vs = wipe σ vs → Q σ' H
theorem PG.weak {e : Expr} {t t' : TG} (h : PG X e t) (k : ∀ v σ H Q, t' v σ H Q → t v σ H Q) : PG X e t' := ⟨fun pins s σ H v u Q I r w => h.run pins s σ H v u Q I r (k _ _ _ _ w)⟩
theorem PGs.weak {e : List Expr} {t t' : TGs} (h : PGs X e t) (k : ∀ v σ H Q, t' v σ H Q → t v σ H Q) : PGs X e t' := ⟨fun pins s σ H v u Q I r w => h.run pins s σ H v u Q I r (k _ _ _ _ w)⟩
theorem RepE.set {φ : Ob} {H : Hp} {v : V} {m : M} {fm : List Addr} (x : Rep T φ H v m fm) : ∀ {σ : St} {ρ : Ev} {f : List Addr} {i : Nat}, RepE T φ H σ ρ f → (fm ++ f).Nodup → i < ρ.length →
    ∃ f', RepE T φ H (σ.set i (some v)) (ρ.set i (some m)) f' ∧ (∀ a ∈ f', a ∈ fm ++ f) ∧ f'.Nodup
  | _, _, _, i, .nil, _, h => absurd h (Nat.not_lt_zero _)
  | _, _, _, 0, .skip (f := f) r, nd, _ => ⟨fm ++ f, .cons x r, fun _ z => z, nd⟩
  | _, _, _, i + 1, .skip r, nd, h => by
    obtain ⟨f', h1, h2, h3⟩ := RepE.set x (i := i) r nd (by simpa using h)
    exact ⟨f', .skip h1, h2, h3⟩
  | _, _, _, 0, .cons (f := f) (g := g) y r, nd, _ => by
    have q := List.nodup_append.mp nd
    refine ⟨fm ++ g, .cons x r, fun a z => ?_, List.nodup_append.mpr ⟨q.1, (List.nodup_append.mp q.2.1).2.1, fun a h b h' => q.2.2 a h b (List.mem_append_right _ h')⟩⟩
    rcases List.mem_append.mp z with z | z
    · exact List.mem_append_left _ z
    · exact List.mem_append_right _ (List.mem_append_right _ z)
  | _, _, _, i + 1, .cons (f := f) (g := g) y r, nd, h => by
    have q := List.nodup_append.mp nd
    have q2 := List.nodup_append.mp q.2.1
    obtain ⟨f', h1, h2, h3⟩ := RepE.set x (i := i) r (List.nodup_append.mpr ⟨q.1, q2.2.1, fun a h b h' => q.2.2 a h b (List.mem_append_right _ h')⟩) (by simpa using h)
    refine ⟨f ++ f', .cons y h1, fun a z => ?_, List.nodup_append.mpr ⟨q2.1, h3, fun a h b h' e => ?_⟩⟩
    · rcases List.mem_append.mp z with z | z
      · exact List.mem_append_right _ (List.mem_append_left _ z)
      · rcases List.mem_append.mp (h2 a z) with z | z
        · exact List.mem_append_left _ z
        · exact List.mem_append_right _ (List.mem_append_right _ z)
    · rcases List.mem_append.mp (h2 b h') with z | z
      · exact q.2.2 b z a (List.mem_append_left _ h) e.symm
      · exact q2.2.2 a h b z e
theorem RepE.len {φ : Ob} {H : Hp} : ∀ {σ : St} {ρ : Ev} {f : List Addr}, RepE T φ H σ ρ f → σ.length = ρ.length
  | _, _, _, .nil => rfl
  | _, _, _, .skip r => by rw [List.length_cons, List.length_cons, r.len]
  | _, _, _, .cons _ r => by rw [List.length_cons, List.length_cons, r.len]
def gN (i : Nat) : FG := fun m ρ Q => i < ρ.length ∧ Q (ρ.set i (some m))
theorem wipe_set {σ : St} {i : Nat} {x : Option V} : ∀ {vs : List Nat}, i ∈ vs → wipe (σ.set i x) vs = wipe σ vs
  | v :: vs, h => by
    unfold wipe
    by_cases e : i ∈ vs
    · rw [wipe_set e]
    · have ev : v = i := by
        rcases List.mem_cons.mp h with z | z
        · exact z.symm
        · exact absurd z e
      subst ev
      have sw : ∀ (us : List Nat), v ∉ us → wipe (σ.set v x) us = (wipe σ us).set v x := by
        intro us
        induction us with
        | nil => intro _; rfl
        | cons u us ih =>
          intro hu
          unfold wipe
          rw [ih fun z => hu (List.mem_cons_of_mem _ z)]
          exact List.set_comm _ _ fun z => hu (by rw [z]; exact List.mem_cons_self)
      rw [sw vs e, List.set_set]
/-- a slot set -/
theorem Good.setN {φ : Ob} {H : Hp} {v : V} {m : M} {σ : St} {ρ : Ev} {S : Sto} {fm fe fs : List Addr} {i : Nat} (G : Good T φ H σ ρ S fe fs) (r : Rep T φ H v m fm) (nd : (fm ++ fe).Nodup) (d : ∀ a ∈ fm, a ∉ fs ++ φ.ads) (hi : i < ρ.length) :
    ∃ fe', (∀ a ∈ fe', a ∈ fm ++ fe) ∧ Good T φ H (σ.set i (some v)) (ρ.set i (some m)) S fe' fs := by
  obtain ⟨f', h1, h2, h3⟩ := G.env.set r nd hi
  refine ⟨f', h2, h1, G.sto, List.nodup_append.mpr ⟨h3, G.ndS, fun a h b h' e => ?_⟩⟩
  subst e
  rcases List.mem_append.mp (h2 a h) with z | z
  · exact d a z h'
  · exact G.disj a z h'
theorem fg_name {vs : List Nat} {i : Nat} (h : PG X e (gName i)) (hv : i ∈ vs := by decide) : PG X e (LG T vs (gN i)) := PG.weak h fun v σ H Q ⟨m, ρ, S, φ, fm, fe, fs, Qm, r, G, nd, d, w, k⟩ => by
  obtain ⟨fe', h1, h2⟩ := G.setN r nd d w.1
  exact k _ _ fe' w.2 h1 h2 (wipe_set hv)
def gNilP : FGs := fun ds ρ Q => ds = [] ∧ Q ρ
def gConsP (g : FG) (gs : FGs) : FGs := fun ds ρ Q => ∃ d r, ds = d :: r ∧ g (.dat d) ρ fun ρ' => gs r ρ' Q
theorem FDs.of_nil {φ : Ob} {H : Hp} {v : List V} (r : FDs T φ H v []) : v = [] := by cases r; rfl
theorem fgs_nil {vs : List Nat} : PGs X [] (LGs T vs gNilP) := PGs.weak pgs_nil fun v σ H Q ⟨ds, ρ, S, φ, fe, fs, Qm, r, G, w, k⟩ => by
  obtain ⟨e, w⟩ := w
  subst e
  exact ⟨r.of_nil, k ρ σ fe w (fun _ z => z) G rfl⟩
theorem fgs_cons {vs : List Nat} {g : FG} {gs : FGs} (h1 : PG X e (LG T vs g)) (h2 : PGs X es (LGs T vs gs)) (hs : (assignEach (e :: es) X.env).map (·.2) = assign e X.env :: (assignEach es X.env).map (·.2) := by rfl) : PGs X (e :: es) (LGs T vs (gConsP g gs)) :=
  PGs.weak (pgs_cons h1 h2 hs) fun v σ H Q ⟨ds, ρ, S, φ, fe, fs, Qm, r, G, w, k⟩ => by
    obtain ⟨d, rr, e, w⟩ := w
    subst e
    cases r with
    | @cons v vs d ds x r =>
      exact ⟨v, vs, rfl, .dat d, ρ, S, φ, [], fe, fs, _, .dat x, G, (List.nodup_append.mp G.nd).1, fun _ z => (nomatch z), w, fun ρ' σ' fe' q sub G' hw =>
        ⟨rr, ρ', S, φ, fe', fs, Qm, r, G', q, fun ρ2 σ2 fe2 q2 sub2 G2 hw2 => k ρ2 σ2 fe2 q2 (fun a z => sub a (sub2 a z)) G2 (hw2.trans hw)⟩⟩
def gTupP (n : Nat) (gs : FGs) : FG := fun m ρ Q => match m with
  | .dat (.tup ds) => ds.length = n ∧ gs ds ρ Q
  | _ => False
theorem fg_tup {vs : List Nat} {kk n : Nat} {gs : FGs} (hK : X.K = T.K) (hc : X.calm = true) (h : PGs X es (LGs T vs gs)) (hn : (assignEach es X.env).length = n := by rfl) (hst : (assignEach es X.env).findIdx? (·.1) = none := by rfl) : PG X (.Tuple es kk pos) (LG T vs (gTupP n gs)) :=
  PG.weak (pg_tup hc h hn hst) fun v σ H Q ⟨m, ρ, S, φ, fm, fe, fs, Qm, r, G, nd, d, w, k⟩ => by
    cases r with
    | lst => exact w.elim
    | @dat v d r =>
      cases r with
      | @tup a xs ds hq rs =>
        exact ⟨a, xs, rfl, by rw [hK]; exact hq, by rw [rs.len]; exact w.1, ds, ρ, S, φ, fe, fs, Qm, rs, G, w.2, k⟩
      | _ => exact w.elim
def fAsg (t : FE) (g : FG) : FS := fun P ρ S => t ρ S (fun m S' => g m ρ fun ρ' => P.nx ρ' S') fun x S' => P.ex x ρ S'
theorem lAsg {vs : List Nat} {g : FG} {D : Ends} {σ : St} {H : Hp} (h : LS T W (fAsg t g) D σ H) : LE T W t σ H fun x H1 => LG T vs g x σ H1 D.nx := by
  obtain ⟨ρ, S, φ, fe, fs, P, G, w, k⟩ := h
  refine ⟨ρ, S, φ, fe, fs, _, _, G, w, k.wx G, fun m S' v H' φ' fs' fm q A r R => ?_⟩
  have G' := A.good G R
  refine ⟨m, ρ, S', φ', fm, fe, fs', _, r, G', List.nodup_append.mpr ⟨(List.nodup_append.mp A.nd).1, (List.nodup_append.mp G.nd).1, fun a h b h' e => ?_⟩, A.disj, q, fun ρ2 σ2 fe2 q2 sub G2 _ => k.nx ρ2 S' σ2 H' φ' fe2 fs' q2 (A.s.sub sub) G2⟩
  subst e
  refine A.apart G.disj (fun a ha => ?_) a h' (List.mem_append_left _ h)
  obtain ⟨xs, q⟩ := G.env.own a ha
  rw [q]
  exact fun z => nomatch z
theorem fs_asg {vs : List Nat} {tg : Expr} {g : FG} (he : PE X e (LE T W t)) (hg : PG X tg (LG T vs g)) (hs : swapsWithSole [tg] e pos.line X.env = pure false := by rfl) (hw : swappedStores [tg] e X.env = pure none := by rfl)
    (h1 : (assignEach [tg] X.env).map (·.2) = [assign tg X.env] := by rfl) : PS X (.Assign [tg] e pos) (LS T W (fAsg t g)) := PS.weak (ps_asg he hg hs hw h1) fun D σ H h => lAsg h
theorem lSet {D : Ends} {σ : St} {H : Hp} {i : Nat} (h : LS T W (fAsg t (gN i)) D σ H) : tAsg (LE T W t) (gName i) D σ H := by
  obtain ⟨ρ, S, φ, fe, fs, E, Qm, G, w, hx, k⟩ := lAsg (vs := [i]) h
  refine ⟨ρ, S, φ, fe, fs, E, Qm, G, w, hx, fun m S' v H' φ' fs' fm q A r R => ?_⟩
  obtain ⟨m, ρ, S, φ, fm, fe, fs, Qm, r, G, nd, d, w, k⟩ := k m S' v H' φ' fs' fm q A r R
  obtain ⟨fe', h1, h2⟩ := G.setN r nd d w.1
  exact k _ _ fe' w.2 h1 h2 (wipe_set (by simp))
/-- name = value -/
theorem fs_set {i : Nat} {x : Str} {pos' : Pos} (hN : X.N.Nodup) (hi : X.N[i]? = some x) (hx : Loc X.env.scope x) (he : PE X e (LE T W t)) (hs : swapsWith e (some (.Name x pos')) pos.line X.env = pure false := by rfl) (hf : X.fn x = true ∨ X.env.scope.names.lookup x = some .local := by first | exact .inl rfl | exact .inr rfl | assumption) :
    PS X (.Assign [.Name x pos'] e pos) (LS T W (fAsg t (gN i))) := PS.weak (ps_set hN hi hx he hs hf) fun D σ H h => lSet h

/-! ### loops -/
def fWhile (c : FT) (b : FS) : FS := fun P ρ S => ∃ I : Nat → Ev → Sto → Prop, (∃ n, I n ρ S) ∧ ∀ n ρ S, I n ρ S →
  c ρ S (fun k S' => if k = true then b { P with nx := fun ρ' S' => ∃ n', n' < n ∧ I n' ρ' S', ct := fun ρ' S' => ∃ n', n' < n ∧ I n' ρ' S', bk := P.nx } ρ S' else P.nx ρ S') fun x S' => P.ex x ρ S'
theorem fs_while {c : Expr} {tc : FT} (hp : PassesOwn (model X.prog X.w) X.A X.env X.xe) (hc : PT X c (LT T W tc)) (hb : PSs X body (LS T W u)) : PS X (.While c body [] pos) (LS T W (fWhile tc u)) :=
  PS.weak (ps_while hp hc hb) fun D σ H ⟨ρ, S, φ, fe, fs, P, G, ⟨I, ⟨n, hn⟩, turn⟩, k⟩ => by
    refine ⟨fun m σ' H' => ∃ (ρ' : Ev) (S' : Sto) (φ' : Ob) (fe' fs' : List Addr), I m ρ' S' ∧ AftS φ fe fs H φ' fe' fs' H' ∧ Good T φ' H' σ' ρ' S' fe' fs', ⟨n, ρ, S, φ, fe, fs, hn, AftS.refl, G⟩, fun m σ1 H1 ⟨ρ1, S1, φ1, fe1, fs1, h1, A1, G1⟩ => ?_⟩
    have k1 := k.aft A1
    refine ⟨ρ1, S1, φ1, fe1, fs1, _, _, G1, turn m ρ1 S1 h1, k1.wx G1, fun b S2 H2 φ2 fs2 q A2 R2 => ?_⟩
    have B : AftS φ1 fe1 fs1 H1 φ2 fe1 fs2 H2 := A2.s.sub fun a z => List.mem_append_right _ z
    have G2 := A2.good G1 R2
    cases b with
    | false => exact k1.nx ρ1 S2 σ1 H2 φ2 fe1 fs2 q B G2
    | true =>
      refine ⟨fun σ' H' => ∃ m', m' < m ∧ ∃ (ρ' : Ev) (S' : Sto) (φ' : Ob) (fe' fs' : List Addr), I m' ρ' S' ∧ AftS φ fe fs H φ' fe' fs' H' ∧ Good T φ' H' σ' ρ' S' fe' fs', fun σ' H' z => z, ?_⟩
      have k2 := k1.aft B
      refine ⟨ρ1, S2, φ2, fe1, fs2, _, G2, q, ⟨fun ρ' S' σ' H' φ' fe' fs' p A G' => ?_, fun ρ' S' σ' H' φ' fe' fs' p A G' => k2.nx ρ' S' σ' H' φ' fe' fs' p A G', fun ρ' S' σ' H' φ' fe' fs' p A G' => ?_, k2.rt, k2.ex⟩⟩
      · obtain ⟨m', hm, hI⟩ := p
        exact ⟨m', hm, ρ', S', φ', fe', fs', hI, (A1.trans B).trans A, G'⟩
      · obtain ⟨m', hm, hI⟩ := p
        exact ⟨m', hm, ρ', S', φ', fe', fs', hI, (A1.trans B).trans A, G'⟩
abbrev FI := Ev → Sto → (List D → Sto → Prop) → XP → Prop
/-- what a for walks: pure items -/
def Walks (T : Top) (φ : Ob) (J : It) (H : Hp) (ds : List D) : Prop := ∀ (i : Nat) (H2 : Hp) (φ2 : Ob), Ext H H2 → Pre φ φ2 →
  (∀ d, ds[i]? = some d → J.go i H2 ∧ ∀ x H3, J.yld i H2 x H3 → Fresh H2 H3 [] ∧ FD T φ2 H3 x d) ∧ (ds.length ≤ i → J.stop i H2)
def LI (T : Top) (W : WX) (t : FI) : TI := fun σ H R => ∃ (ρ : Ev) (S : Sto) (φ : Ob) (fe fs : List Addr) (E : XP) (Qm : List D → Sto → Prop), Good T φ H σ ρ S fe fs ∧ t ρ S Qm E ∧ WxE T φ fs H σ E W ∧
  ∀ ds S' J H' φ' fs', Qm ds S' → Aft φ fs H φ' fs' [] H' → RepS T H' φ' φ' S' fs' → Walks T φ' J H' ds → R J H'
theorem PI.weak {tg iter : Expr} {t t' : TI} (h : PI X tg iter t) (k : ∀ σ H Q, t' σ H Q → t σ H Q) : PI X tg iter t' := ⟨fun pins s σ H R I w => h.run pins s σ H R I (k _ _ _ w)⟩
def forW (g : FG) (b : FS) (P : EndP) : List D → Ev → Sto → Prop
  | [], ρ, S => P.nx ρ S
  | d :: ds, ρ, S => g (.dat d) ρ fun ρ1 => b { P with nx := forW g b P ds, ct := forW g b P ds, bk := P.nx } ρ1 S
def fFor (t : FI) (g : FG) (b : FS) : FS := fun P ρ S => t ρ S (fun ds S' => forW g b P ds ρ S') fun x S' => P.ex x ρ S'
theorem AftS.ext {φ φ1 : Ob} {H H1 : Hp} {σ : St} {ρ : Ev} {S : Sto} {fe fs fe1 fs1 : List Addr} (A : AftS φ fe fs H φ1 fe1 fs1 H1) (G : Good T φ H σ ρ S fe fs) : Ext H H1 := by
  refine ⟨fun a xs h => A.keep a _ (fun z => ?_) h, fun a o u h => A.keep a _ (fun z => ?_) h⟩
  · rcases List.mem_append.mp z with z | z
    · obtain ⟨_, q⟩ := G.env.own a z
      rw [h] at q; cases q
    · rcases G.sto.own a z with ⟨_, q⟩ | ⟨_, _, _, q⟩ <;> rw [h] at q <;> cases q
  · rcases List.mem_append.mp z with z | z
    · obtain ⟨_, q⟩ := G.env.own a z
      rw [h] at q; cases q
    · rcases G.sto.own a z with ⟨_, q⟩ | ⟨_, _, _, q⟩ <;> rw [h] at q <;> cases q
theorem fs_for {vs : List Nat} {tg iter : Expr} {ti : FI} {g : FG} (hp : PassesOwn (model X.prog X.w) X.A X.env X.xe) (hc : X.calm = true) (hi : PI X tg iter (LI T W ti)) (hg : PG X tg (LG T vs g)) (hb : PSs X body (LS T W u))
    (hs : ∀ x, foldedSetIterable iter X.env x = pure x := by intro _; rfl) : PS X (.For tg iter body [] pos) (LS T W (fFor ti g u)) :=
  PS.weak (ps_for hp hc hi hg hb hs) fun D σ H ⟨ρ, S, φ, fe, fs, P, G, w, k⟩ => by
    refine ⟨ρ, S, φ, fe, fs, _, _, G, w, k.wx G, fun ds S0 J H0 φ0 fs0 q A0 R0 wk => ?_⟩
    have G0 := A0.good G R0
    have B0 : AftS φ fe fs H φ0 fe fs0 H0 := A0.s.sub fun a z => List.mem_append_right _ z
    refine ⟨fun i m σ' H' => i + m = ds.length ∧ ∃ (ρ' : Ev) (S' : Sto) (φ' : Ob) (fe' fs' : List Addr), forW g u P (ds.drop i) ρ' S' ∧ AftS φ0 fe fs0 H0 φ' fe' fs' H' ∧ Good T φ' H' σ' ρ' S' fe' fs', ⟨ds.length, by omega, ρ, S0, φ0, fe, fs0, q, AftS.refl, G0⟩, ?_⟩
    intro i m σ1 H1 ⟨him, ρ1, S1, φ1, fe1, fs1, h1, A1, G1⟩
    have wk1 := wk i H1 φ1 (A1.ext G0) A1.pre
    have k1 := k.aft (B0.trans A1)
    by_cases hi : ds.length ≤ i
    · rw [List.drop_of_length_le hi] at h1
      exact .inl ⟨wk1.2 hi, k1.nx ρ1 S1 σ1 H1 φ1 fe1 fs1 h1 AftS.refl G1⟩
    · have hlt : i < ds.length := by omega
      rw [List.drop_eq_getElem_cons hlt] at h1
      obtain ⟨go, yl⟩ := wk1.1 ds[i] (List.getElem?_eq_getElem hlt)
      refine .inr ⟨go, fun σ' H' => ∃ m', m' < m ∧ (i + 1) + m' = ds.length ∧ ∃ (ρ' : Ev) (S' : Sto) (φ' : Ob) (fe' fs' : List Addr), forW g u P (ds.drop (i + 1)) ρ' S' ∧ AftS φ0 fe fs0 H0 φ' fe' fs' H' ∧ Good T φ' H' σ' ρ' S' fe' fs', fun σ' H' z => z, fun x H2 hy => ?_⟩
      obtain ⟨F, rd⟩ := yl x H2 hy
      have A2 := F.aft G1.sto G1.ndS
      have R2 := F.sto G1.sto
      have G2 := A2.good G1 R2
      have B2 : AftS φ1 fe1 fs1 H1 φ1 fe1 fs1 H2 := A2.s.sub fun a z => List.mem_append_right _ z
      refine ⟨.dat ds[i], ρ1, S1, φ1, [], fe1, fs1, _, .dat rd, G2, (List.nodup_append.mp G2.nd).1, fun _ z => (nomatch z), h1, fun ρ3 σ3 fe3 q3 sub3 G3 _ => ?_⟩
      have B3 : AftS φ1 fe1 fs1 H1 φ1 fe3 fs1 H2 := B2.sub sub3
      have k3 := k1.aft B3
      have C3 : AftS φ0 fe fs0 H0 φ1 fe3 fs1 H2 := A1.trans B3
      refine ⟨ρ3, S1, φ1, fe3, fs1, _, G3, q3, ⟨fun ρ' S' σ' H' φ' fe' fs' p A G' => ?_, fun ρ' S' σ' H' φ' fe' fs' p A G' => k3.nx ρ' S' σ' H' φ' fe' fs' p A G', fun ρ' S' σ' H' φ' fe' fs' p A G' => ?_, k3.rt, k3.ex⟩⟩
      · exact ⟨m - 1, by omega, by omega, ρ', S', φ', fe', fs', p, C3.trans A, G'⟩
      · exact ⟨m - 1, by omega, by omega, ρ', S', φ', fe', fs', p, C3.trans A, G'⟩
end

/-! ### the body of a def -/
def blanks : Nat → Ev
  | 0 => []
  | n + 1 => none :: blanks n
theorem blanks_eq : ∀ n, blanks n = List.replicate n none
  | 0 => rfl
  | n + 1 => by rw [blanks, blanks_eq n]; rfl
/-- a def's ends -/
def endOf (Q : WP) (E : XP) : EndP := { nx := fun _ S' => Q (.dat .non) S', rt := Q, ex := fun x _ S' => E x S' }
theorem endOf_nx (Q : WP) (E : XP) (ρ : Ev) (S : Sto) : (endOf Q E).nx ρ S = Q (.dat .non) S := rfl
theorem endOf_rt (Q : WP) (E : XP) : (endOf Q E).rt = Q := rfl
theorem endOf_ex (Q : WP) (E : XP) (x : Exn) (ρ : Ev) (S : Sto) : (endOf Q E).ex x ρ S = E x S := rfl
def mkW (n np : Nat) (r : FS) : FF := fun ds S Q E => ds.length = np ∧ r (endOf Q E) (ds.map (fun d => some (.dat d)) ++ blanks (n - np)) S
theorem RepE.start {T : Top} {φ : Ob} {H : Hp} (k : Nat) : ∀ {vs : List V} {ds : List D}, FDs T φ H vs ds → RepE T φ H (vs.map some ++ List.replicate k none) (ds.map (fun d => some (.dat d)) ++ List.replicate k none) []
  | _, _, .nil => by
    show RepE T φ H (List.replicate k none) (List.replicate k none) []
    induction k with
    | zero => exact .nil
    | succ k ih => exact .skip ih
  | _, _, .cons x r => .cons (f := []) (g := []) (.dat x) (RepE.start k r)
theorem fn_ok {P : Program} {w : World} {K : PySem.W.Frag} {mg : Str → Option Value} {base : Heap} {T : Top} {x qual : Str} {st : Stmt} {f : Addr} {fd : FuncData} {N ps : List Str} {k : Nat} {r : FS} (F : Fun K x qual st f fd) (S : FnScope N ps (defScope st))
    (hb : ∀ (cdv : Value) (A : Around) (outer : List Env) (s : Shared) (H : Hp) (E : XK), Room k (A.deeper (envOfC qual (defScope st) s.heap.objs.size f cdv)) →
      PSs (cxOf (L2.CX P w) P w K mg base N qual (defScope st) f cdv A outer s H E) (defBody st) (LS T (fun c d _ H' => E c d H') r)) :
    FnOk P w K mg base (L2.CX P w) (k + 1) f fd ps (LF T (mkW N.length ps.length r)) := by
  refine F.okX S (fun vs H Q E h => ?_) (fun cdv A outer s H vs Q E hr h => ⟨_, hb cdv A outer s H E hr, ?_⟩)
  · obtain ⟨ds, S, φ, fs, _, _, h1, _, _, h2, _⟩ := h
    rw [h1.len]; exact h2.1
  · obtain ⟨ds, S, φ, fs, Ex, Qm, h1, R, nd, h2, hx, k⟩ := h
    refine ⟨_, S, φ, [], fs, _, ⟨?_, R, nd⟩, h2.2, ⟨fun ρ' S' σ' H' φ' fe' fs' p A G' => ?_, fun ρ' S' σ' H' φ' fe' fs' p A G' => p.elim, fun ρ' S' σ' H' φ' fe' fs' p A G' => p.elim, fun m S' v H' φ' fm fs' p A n r R => ?_, fun x ρ' S' c d σ' H' φ' fe' fs' p A G' r => ?_⟩⟩
    · unfold L2.start
      rw [h1.len, h2.1, blanks_eq]
      exact RepE.start _ h1
    · exact k _ S' _ H' φ' fs' [] p ⟨A.pre, A.keep, fun a z => A.new a (List.mem_append_right _ z), G'.ndS⟩ (.dat .non) G'.sto
    · exact k m S' v H' φ' fs' fm p ⟨A.pre, A.keep, A.new, n⟩ r R
    · exact hx x S' c d H' φ' fs' p ⟨A.pre, A.keep, fun a z => A.new a (List.mem_append_right _ z), G'.ndS⟩ r G'.sto
end L2.Fn
/-! Fn, part E: what the operators, the built-ins and the loops' heads do, told purely. -/
namespace L2.Fn
open PySem PySem.Spec PyProof.Rows

/-! ### lists and tuples as they are looked at -/
def M.asL : M → Option (List M)
  | .lst ms => some ms
  | .dat (.lst ds) => some (ds.map .dat)
  | _ => none
def M.asT : M → Option (List D)
  | .dat (.tup ds) => some ds
  | _ => none
/-- the pure items of a list -/
def M.ds : M → Option (List D)
  | .lst ms => some (ms.map M.toD)
  | .dat (.lst ds) => some ds
  | .dat (.tup ds) => some ds
  | _ => none
section
variable {T : Top} {φ : Ob} {H : Hp}
theorem asL_ok {v : V} {m : M} {f : List Addr} (r : Rep T φ H v m f) {ms : List M} (e : m.asL = some ms) : ∃ a xs g, v = .ref a ∧ SqL T.K H a xs ∧ Reps T φ H xs ms g ∧ ∀ b ∈ g, b ∈ f := by
  cases r with
  | lst h r => cases e; exact ⟨_, _, _, rfl, SqL.of h, r, fun b z => List.mem_cons_of_mem _ z⟩
  | dat r =>
    cases r with
    | lst h r => cases e; exact ⟨_, _, _, rfl, h.seq, r.reps, fun b z => z⟩
    | _ => cases e
theorem asT_ok {v : V} {m : M} {f : List Addr} (r : Rep T φ H v m f) {ds : List D} (e : m.asT = some ds) : ∃ a xs, v = .ref a ∧ SqT T.K H a xs ∧ FDs T φ H xs ds := by
  cases r with
  | lst h r => cases e
  | dat r =>
    cases r with
    | tup h r => cases e; exact ⟨_, _, rfl, h, r⟩
    | _ => cases e
theorem Reps.get {φ : Ob} : ∀ {v : List V} {m : List M} {f : List Addr} {i : Nat} {x : M}, Reps T φ H v m f → m[i]? = some x → ∃ w g, v[i]? = some w ∧ Rep T φ H w x g ∧ ∀ a ∈ g, a ∈ f
  | _, _, _, i, _, .nil, h => by simp at h
  | _, _, _, 0, _, .cons (v := v) (f := f) x r, h => by
    simp at h
    subst h
    exact ⟨v, f, by simp, x, fun a z => List.mem_append_left _ z⟩
  | _, _, _, i + 1, _, .cons x r, h => by
    obtain ⟨v, g, h1, h2, h3⟩ := Reps.get (i := i) r (by simpa using h)
    exact ⟨v, g, by simpa using h1, h2, fun a z => List.mem_append_right _ (h3 a z)⟩
theorem FDs.get {φ : Ob} : ∀ {v : List V} {m : List D} {i : Nat} {x : D}, FDs T φ H v m → m[i]? = some x → ∃ w, v[i]? = some w ∧ FD T φ H w x
  | _, _, i, _, .nil, h => by simp at h
  | _, _, 0, _, .cons (v := v) x r, h => by
    simp at h
    subst h
    exact ⟨v, by simp, x⟩
  | _, _, i + 1, _, .cons x r, h => by
    obtain ⟨v, h1, h2⟩ := FDs.get (i := i) r (by simpa using h)
    exact ⟨v, by simpa using h1, h2⟩
theorem FDs.app {φ : Ob} : ∀ {v w : List V} {m n : List D}, FDs T φ H v m → FDs T φ H w n → FDs T φ H (v ++ w) (m ++ n)
  | _, _, _, _, .nil, s => s
  | _, _, _, _, .cons x r, s => .cons x (r.app s)
theorem FDs.take {φ : Ob} : ∀ {v : List V} {m : List D} (n : Nat), FDs T φ H v m → FDs T φ H (v.take n) (m.take n)
  | _, _, 0, _ => by simpa using FDs.nil
  | _, _, _ + 1, .nil => .nil
  | _, _, n + 1, .cons x r => .cons x (r.take n)
theorem FDs.drop {φ : Ob} : ∀ {v : List V} {m : List D} (n : Nat), FDs T φ H v m → FDs T φ H (v.drop n) (m.drop n)
  | _, _, 0, r => r
  | _, _, _ + 1, .nil => .nil
  | _, _, n + 1, .cons _ r => r.drop n
theorem FDs.rep {φ : Ob} {v : List V} {m : List D} (r : FDs T φ H v m) : ∀ n : Nat, FDs T φ H (List.replicate n v).flatten (List.replicate n m).flatten
  | 0 => .nil
  | n + 1 => by rw [List.replicate_succ, List.replicate_succ, List.flatten_cons, List.flatten_cons]; exact r.app (r.rep n)
/-- own lists of pure items -/
theorem Reps.toD {φ : Ob} : ∀ {v : List V} {m : List M} {f : List Addr}, Reps T φ H v m f → f = [] → FDs T φ H v (m.map M.toD)
  | _, _, _, .nil, _ => .nil
  | _, _, _, .cons (f := f) (g := g) x r, h => by
    have h1 : f = [] := (List.append_eq_nil_iff.mp h).1
    have h2 : g = [] := (List.append_eq_nil_iff.mp h).2
    refine .cons ?_ (r.toD h2)
    cases x with
    | dat x => exact x
    | lst => cases h1
end
/-- all items are pure -/
def dats : List M → Option (List D)
  | [] => some []
  | .dat d :: r => (dats r).map (d :: ·)
  | .lst _ :: _ => none
theorem dats_map : ∀ ds : List D, dats (ds.map .dat) = some ds
  | [] => rfl
  | d :: ds => by rw [List.map_cons, dats, dats_map ds]; rfl
theorem dats_eq : ∀ {ms : List M} {ds : List D}, dats ms = some ds → ms = ds.map .dat
  | [], ds, h => by cases h; rfl
  | .dat d :: r, ds, h => by
    rw [dats] at h
    cases q : dats r with
    | none => rw [q] at h; cases h
    | some e =>
      rw [q] at h
      cases h
      rw [dats_eq q]; rfl
  | .lst _ :: _, ds, h => by cases h
def M.ld (m : M) : Option (List D) := m.asL.bind dats
theorem ld_dat (ds : List D) : (M.dat (.lst ds)).ld = some ds := dats_map ds
theorem ld_lst (ds : List D) : (M.lst (ds.map .dat)).ld = some ds := dats_map ds
section
variable {T : Top} {φ : Ob} {H : Hp}
theorem ld_ok {v : V} {m : M} {f : List Addr} (r : Rep T φ H v m f) {ds : List D} (e : m.ld = some ds) : ∃ a xs, v = .ref a ∧ SqL T.K H a xs ∧ FDs T φ H xs ds := by
  unfold M.ld at e
  cases q : m.asL with
  | none => rw [q] at e; cases e
  | some ms =>
    rw [q] at e
    obtain ⟨a, xs, g, h1, h2, h3, _⟩ := asL_ok r q
    exact ⟨a, xs, h1, h2, (h3.dats (dats_eq e)).1⟩
theorem str_cat (a b : List Nat) : (⟨a.toArray⟩ : Str) ++ ⟨b.toArray⟩ = ⟨(a ++ b).toArray⟩ := congrArg Str.mk (show a.toArray ++ b.toArray = _ by simp)
theorem str_len (a : List Nat) : (⟨a.toArray⟩ : Str).length = a.length := by simp [Str.length]
theorem str_inj {a b : List Nat} : ((⟨a.toArray⟩ : Str) = ⟨b.toArray⟩) ↔ a = b := by
  constructor
  · intro h; injection h with h; simpa using h
  · intro h; rw [h]
end

/-! ### list + list, each of one's own or locked -/
section
variable {X : Cx} {pins : List (Addr × Obj)} {σ : St} {H : Hp} {s : Shared}
theorem inv_rdL {l : Addr} {xs : List V} (I : Inv X pins σ H s) (h : Rd H l (.lst xs)) : ∃ (its : List Value) (n : Nat), xs.length ≤ sizeLine ∧ Vals xs its ∧ xs.length = its.length ∧ s.heap.get? l = some { cls := .type "list", data := .seq its.toArray n } := by
  obtain ⟨z, its, n, r, e⟩ := h.ok I.hok
  exact ⟨its, n, z, r, r.length, e⟩
def rCatR : R2 := fun x y H Q => ∃ l b xs zs, x = .ref l ∧ y = .ref b ∧ Rd H l (.lst xs) ∧ Rd H b (.lst zs) ∧ xs.length + zs.length ≤ sizeLine ∧ ∀ p, H p = none → Q (.ref p) (upd H p (.lst (xs ++ zs)))
theorem op_catR : OpR X (binaryOp .Add) rCatR := by
  intro pins s σ H x y v u Q I rx ry h
  obtain ⟨l, b, xs, zs, rfl, rfl, hH, hB, hz, q⟩ := h
  cases rx
  cases ry
  obtain ⟨its, n, z, r, hl, e⟩ := inv_rdL I hH
  obtain ⟨its2, n2, z2, r2, hl2, e2⟩ := inv_rdL I hB
  refine PySem.P.add_list e e2 ?_ (by rw [List.size_toArray, List.size_toArray]; omega)
  have ea : its.toArray ++ its2.toArray = (its ++ its2).toArray := by simp
  rw [ea]
  exact ⟨.ref _, _, I.lnew (t' := s.toks) (r.append r2) (by rw [List.length_append]; omega), rfl, q _ I.fresh⟩
end
/-- a list that stands in the abstract heap (not a written one) -/
def M.isL : M → Bool
  | .lst _ => true
  | .dat (.lst _) => true
  | _ => false

section
variable {T : Top}
/-! ### + - * // % ** -/
def oAdd (a b : M) (Q : M → Prop) : Prop := match a, b with
  | .dat (.int i), .dat (.int j) => Q (.dat (.int (i + j)))
  | .dat (.str s), .dat (.str t) => s.length + t.length ≤ sizeLine ∧ Q (.dat (.str (s ++ t)))
  | .dat (.tup s), .dat (.tup t) => s.length + t.length ≤ sizeLine ∧ Q (.dat (.tup (s ++ t)))
  | _, _ => False
def rAddA (K : PySem.W.Frag) : R2 := fun x y H Q => ((rI0 fun i j => .int (i + j)) x y H Q ∨ (∃ i j, x = .str i ∧ y = .str j ∧ i.length + j.length ≤ sizeLine ∧ Q (.str (i ++ j)) H)) ∨ rCatA K x y H Q
theorem op_addA {X : Cx} : OpR X (binaryOp .Add) (rAddA X.K) := (op_add.or op_add_str).or op_catA
theorem o_add : Op2 T (rAddA T.K) oAdd := by
  intro φ H x y m1 m2 f1 f2 Q Qm r1 r2 w k
  cases r1 with
  | lst => exact w.elim
  | dat r1 =>
    cases r2 with
    | lst => cases r1 <;> exact w.elim
    | dat r2 =>
      cases r1 with
      | int i =>
        cases r2 with
        | int j => exact .inl (.inl ⟨i, j, rfl, rfl, k _ _ H [] w (Fresh.refl H) (.dat (.int _))⟩)
        | _ => exact w.elim
      | str a =>
        cases r2 with
        | str b =>
          refine .inl (.inr ⟨_, _, rfl, rfl, by rw [str_len, str_len]; exact w.1, ?_⟩)
          rw [str_cat]
          exact k _ _ H [] w.2 (Fresh.refl H) (.dat (.str _))
        | _ => exact w.elim
      | @tup a xs ds h1 s1 =>
        cases r2 with
        | @tup b ys es h2 s2 =>
          refine .inr ⟨a, b, xs, ys, rfl, rfl, h1, h2, by rw [s1.len, s2.len]; exact w.1, fun e => ?_, fun e e2 => ?_, fun e e2 p hp => ?_⟩
          · subst e
            cases s1
            exact k _ _ H [] w.2 (Fresh.refl H) (.dat (.tup h2 s2))
          · subst e2
            cases s2
            refine k _ _ H [] w.2 (Fresh.refl H) (.dat (.tup h1 ?_))
            rw [List.append_nil]
            exact s1
          · have F : Fresh H (upd H p (.tup (xs ++ ys))) [] := Fresh.upd0 hp
            exact k _ _ _ [] w.2 F (.dat (.tup (SqT.of upd_same) ((s1.app s2).ext F.ext (Pre.refl _))))
        | _ => exact w.elim
      | _ => exact w.elim
/-- list + list: the items pure -/
def oCat (a b : M) (Q : M → Prop) : Prop := ∃ s : List D, a.ld = some s ∧ ∃ t : List D, b.ld = some t ∧ s.length + t.length ≤ sizeLine ∧ Q (.lst ((s ++ t).map .dat))
/-- .. the top has no lists of its own -/
def NoLists (K : PySem.W.Frag) : Prop := ∀ a o, K.lookup a = some o → o.cls ≠ .type "list"
theorem sql_rd (hK : NoLists T.K) {H : Hp} {a : Addr} {xs : List V} (h : SqL T.K H a xs) : Rd H a (.lst xs) := by
  rcases h with h | ⟨o, its, n, hk, hc, _⟩
  · exact h
  · exact absurd hc (hK a o hk)
theorem o_cat (hK : NoLists T.K) : Op2 T rCatR oCat := by
  intro φ H x y m1 m2 f1 f2 Q Qm r1 r2 ⟨s, e1, t, e2, hz, w⟩ k
  obtain ⟨a, xs, rfl, h1, s1⟩ := ld_ok r1 e1
  obtain ⟨b, ys, rfl, h2, s2⟩ := ld_ok r2 e2
  refine ⟨a, b, xs, ys, rfl, rfl, sql_rd hK h1, sql_rd hK h2, by rw [s1.len, s2.len]; exact hz, fun p hp => ?_⟩
  have F : Fresh H (upd H p (.lst (xs ++ ys))) [p] := Fresh.upd hp
  exact k _ _ _ [p] w F (.lst upd_same ((s1.app s2).ext F.ext (Pre.refl _)).reps)
def oInt (g : Int → Int → Int) (c : Int → Int → Prop) (a b : M) (Q : M → Prop) : Prop := match a, b with
  | .dat (.int i), .dat (.int j) => c i j ∧ Q (.dat (.int (g i j)))
  | _, _ => False
theorem o_int {g : Int → Int → Int} {c c' : Int → Int → Prop} (hc : ∀ i j, c' i j → c i j) : Op2 T (rI c fun i j => .int (g i j)) (oInt g c') := by
  intro φ H x y m1 m2 f1 f2 Q Qm r1 r2 w k
  cases r1 with
  | lst => exact w.elim
  | dat r1 =>
    cases r2 with
    | lst => cases r1 <;> exact w.elim
    | dat r2 =>
      cases r1 with
      | int i =>
        cases r2 with
        | int j => exact ⟨i, j, rfl, rfl, hc i j w.1, k _ _ H [] w.2 (Fresh.refl H) (.dat (.int _))⟩
        | _ => exact w.elim
      | _ => exact w.elim
def oInt0 (g : Int → Int → D) (a b : M) (Q : M → Prop) : Prop := match a, b with
  | .dat (.int i), .dat (.int j) => Q (.dat (g i j))
  | _, _ => False
theorem o_int0 {g : Int → Int → V} {g' : Int → Int → D} (hg : ∀ φ H i j, FD T φ H (g i j) (g' i j)) : Op2 T (rI0 g) (oInt0 g') := by
  intro φ H x y m1 m2 f1 f2 Q Qm r1 r2 w k
  cases r1 with
  | lst => exact w.elim
  | dat r1 =>
    cases r2 with
    | lst => cases r1 <;> exact w.elim
    | dat r2 =>
      cases r1 with
      | int i =>
        cases r2 with
        | int j => exact ⟨i, j, rfl, rfl, k _ _ H [] w (Fresh.refl H) (.dat (hg _ _ i j))⟩
        | _ => exact w.elim
      | _ => exact w.elim
abbrev oSub := oInt0 fun i j => .int (i - j)
theorem o_sub : Op2 T (rI0 fun i j => .int (i - j)) oSub := o_int0 fun _ _ _ _ => .int _
abbrev oMul := oInt (fun i j => i * j) CMulW
abbrev oFDiv := oInt (fun i j => i / j) CDivW
abbrev oMod := oInt (fun i j => i % j) fun _ j => 0 < j
abbrev oPow := oInt (fun i j => i ^ j.toNat) CPow
theorem o_mul : Op2 T (rI CMulW fun i j => .int (i * j)) oMul := o_int fun _ _ h => h
theorem o_fdiv : Op2 T (rI CDivW fun i j => .int (i / j)) oFDiv := o_int fun _ _ h => h
theorem o_mod : Op2 T (rI (fun _ j => 0 < j) fun i j => .int (i % j)) oMod := o_int fun _ _ h => h
theorem o_pow : Op2 T (rI CPow fun i j => .int (i ^ j.toNat)) oPow := o_int fun _ _ h => h
abbrev oLt := oInt0 fun i j => .bl (decide (i < j))
abbrev oLe := oInt0 fun i j => .bl (decide (i ≤ j))
abbrev oGt := oInt0 fun i j => .bl (decide (j < i))
abbrev oGe := oInt0 fun i j => .bl (decide (j ≤ i))
theorem o_lt : Op2 T (rI0 fun i j => .bl (decide (i < j))) oLt := o_int0 fun _ _ _ _ => .bl _
theorem o_le : Op2 T (rI0 fun i j => .bl (decide (i ≤ j))) oLe := o_int0 fun _ _ _ _ => .bl _
theorem o_gt : Op2 T (rI0 fun i j => .bl (decide (j < i))) oGt := o_int0 fun _ _ _ _ => .bl _
theorem o_ge : Op2 T (rI0 fun i j => .bl (decide (j ≤ i))) oGe := o_int0 fun _ _ _ _ => .bl _
/-- list * int -/
def oRep (a b : M) (Q : M → Prop) : Prop := match b with
  | .dat (.int j) => ∃ s : List D, a = .lst (s.map .dat) ∧ -(2 ^ 63) ≤ j ∧ j < 2 ^ 63 ∧ s.length * j.toNat ≤ sizeLine ∧ Q (.lst ((List.replicate j.toNat s).flatten.map .dat))
  | _ => False
theorem o_rep : Op2 T rRep oRep := by
  intro φ H x y m1 m2 f1 f2 Q Qm r1 r2 w k
  cases r2 with
  | lst => exact w.elim
  | dat r2 =>
    cases r2 with
    | int j =>
      obtain ⟨s, rfl, h1, h2, hz, w⟩ := w
      cases r1 with
      | @lst a vs ms f h rs =>
        obtain ⟨s1, _⟩ := rs.dats rfl
        refine ⟨a, j, vs, rfl, rfl, h, h1, h2, by rw [s1.len]; exact hz, fun p hp => ?_⟩
        have F : Fresh H (upd H p (.lst (List.replicate j.toNat vs).flatten)) [p] := Fresh.upd hp
        exact k _ _ _ [p] w F (.lst upd_same ((s1.rep j.toNat).ext F.ext (Pre.refl _)).reps)
    | _ => exact w.elim
/-! ### == != of flat things -/
def D.flat : D → Bool
  | .non => true
  | .bl _ => true
  | .int _ => true
  | .str _ => true
  | _ => false
/-- == where it is plain: the same kind, or one of them None, a number or a truth value beside a text -/
def eqF : D → D → Option Bool
  | .non, .non => some true
  | .int a, .int b => some (decide (a = b))
  | .bl a, .bl b => some (decide (a = b))
  | .str a, .str b => some (decide (a = b))
  | .non, .int _ => some false | .int _, .non => some false | .non, .bl _ => some false | .bl _, .non => some false | .non, .str _ => some false | .str _, .non => some false
  | .int _, .str _ => some false | .str _, .int _ => some false | .bl _, .str _ => some false | .str _, .bl _ => some false
  | _, _ => none
theorem eqF_ok {φ : Ob} {H : Hp} {x y : V} {a b : D} {c : Bool} (r1 : FD T φ H x a) (r2 : FD T φ H y b) (e : eqF a b = some c) : scal x y = true ∧ decide (x = y) = c := by
  cases r1 <;> cases r2 <;> first | (cases e; done) | skip
  all_goals
    injection e with e
    subst e
    refine ⟨rfl, ?_⟩
    first
      | rfl
      | (simp; done)
      | exact decide_eq_decide.mpr ⟨fun h => by injection h, fun h => by rw [h]⟩
      | exact decide_eq_decide.mpr ⟨fun h => by injection h with h; exact str_inj.mp h, fun h => by rw [h]⟩
def oEq (a b : M) (Q : M → Prop) : Prop := match a, b with
  | .dat d, .dat e => ∃ c, eqF d e = some c ∧ Q (.dat (.bl c))
  | _, _ => False
def oNe (a b : M) (Q : M → Prop) : Prop := match a, b with
  | .dat d, .dat e => ∃ c, eqF d e = some c ∧ Q (.dat (.bl (!c)))
  | _, _ => False
theorem o_eq : Op2 T rEq oEq := by
  intro φ H x y m1 m2 f1 f2 Q Qm r1 r2 w k
  cases r1 with
  | lst => exact w.elim
  | dat r1 =>
    cases r2 with
    | lst => exact w.elim
    | dat r2 =>
      obtain ⟨c, e, w⟩ := w
      obtain ⟨h1, h2⟩ := eqF_ok r1 r2 e
      exact ⟨h1, by rw [h2]; exact k _ _ H [] w (Fresh.refl H) (.dat (.bl _))⟩
theorem o_ne : Op2 T rNe oNe := by
  intro φ H x y m1 m2 f1 f2 Q Qm r1 r2 w k
  cases r1 with
  | lst => exact w.elim
  | dat r1 =>
    cases r2 with
    | lst => exact w.elim
    | dat r2 =>
      obtain ⟨c, e, w⟩ := w
      obtain ⟨h1, h2⟩ := eqF_ok r1 r2 e
      exact ⟨h1, by rw [h2]; exact k _ _ H [] w (Fresh.refl H) (.dat (.bl _))⟩
/-! ### in -/
def eqvF : D → D → Bool
  | .non, .non => true
  | .bl a, .bl b => a == b
  | .bl a, .int b => (if a then 1 else 0) == b
  | .int a, .bl b => a == (if b then 1 else 0)
  | .int a, .int b => a == b
  | .str a, .str b => decide (a = b)
  | _, _ => false
theorem eqvF_ok {φ : Ob} {H : Hp} {x y : V} {a b : D} (r1 : FD T φ H x a) (r2 : FD T φ H y b) (fa : a.flat = true) (fb : b.flat = true) : flatV x = true ∧ flatV y = true ∧ eqV x y = eqvF a b := by
  cases r1 <;> cases r2 <;> first | (cases fa; done) | (cases fb; done) | skip
  all_goals
    refine ⟨rfl, rfl, ?_⟩
    first
      | rfl
      | (show ((⟨_⟩ : Str) == ⟨_⟩) = _
         rw [Bool.beq_eq_decide_eq]
         exact decide_eq_decide.mpr ⟨fun h => str_inj.mp h, fun h => by rw [h]⟩)
theorem flat_all {φ : Ob} {H : Hp} : ∀ {xs : List V} {ds : List D}, FDs T φ H xs ds → ds.all D.flat = true → xs.all flatV = true ∧ ∀ (x : V) (d : D), FD T φ H x d → d.flat = true → inV x xs = ds.any fun y => eqvF y d
  | _, _, .nil, _ => ⟨rfl, fun _ _ _ _ => rfl⟩
  | _, _, .cons (v := v) (d := d) y r, h => by
    rw [List.all_cons, Bool.and_eq_true] at h
    obtain ⟨i1, i2⟩ := flat_all r h.2
    refine ⟨by rw [List.all_cons, i1, (eqvF_ok y y h.1 h.1).1]; rfl, fun x e rx hx => ?_⟩
    unfold inV
    rw [List.any_cons, List.any_cons, (eqvF_ok y rx h.1 hx).2.2]
    have := i2 x e rx hx
    unfold inV at this
    rw [this]
def oIn (neg : Bool) (a b : M) (Q : M → Prop) : Prop := match a, b with
  | .dat (.str [c]), .dat (.str t) => Q (.dat (.bl (neg ^^ decide (c ∈ t))))
  | .dat d, .dat (.tup ds) => d.flat = true ∧ ds.all D.flat = true ∧ Q (.dat (.bl (neg ^^ ds.any fun y => eqvF y d)))
  | .dat d, m => ∃ ds, m.ld = some ds ∧ d.flat = true ∧ ds.all D.flat = true ∧ Q (.dat (.bl (neg ^^ ds.any fun y => eqvF y d)))
  | _, _ => False
def rInA (K : PySem.W.Frag) (neg : Bool) : R2 := fun x y H Q => (∃ (c : Nat) (z : Str), x = .str ⟨#[c]⟩ ∧ y = .str z ∧ Q (.bl (neg ^^ decide (c ∈ z.cps.toList))) H) ∨ rIn K neg x y H Q
theorem op_inA {X : Cx} : OpR X (compareOp .In) (rInA X.K false) := by
  intro pins s σ H x y v u Q I rx ry h
  rcases h with ⟨c, z, e1, e2, q⟩ | h
  · exact op_in_sign pins s σ H x y v u Q I rx ry ⟨c, z, e1, e2, by simpa using q⟩
  · exact op_in_seq pins s σ H x y v u Q I rx ry h
theorem op_notInA {X : Cx} : OpR X (compareOp .NotIn) (rInA X.K true) := by
  intro pins s σ H x y v u Q I rx ry h
  rcases h with ⟨c, z, e1, e2, q⟩ | h
  · exact op_notIn_sign pins s σ H x y v u Q I rx ry ⟨c, z, e1, e2, by simpa using q⟩
  · exact op_notIn_seq pins s σ H x y v u Q I rx ry h
theorem o_in {neg : Bool} : Op2 T (rInA T.K neg) (oIn neg) := by
  intro φ H x y m1 m2 f1 f2 Q Qm r1 r2 w k
  have seq : ∀ (p : Addr) (xs : List V) (d : D) (ds : List D), y = .ref p → (SqL T.K H p xs ∨ SqT T.K H p xs) → FD T φ H x d → FDs T φ H xs ds → d.flat = true → ds.all D.flat = true → Qm (.dat (.bl (neg ^^ ds.any fun y => eqvF y d))) → rInA T.K neg x y H Q := by
    intro p xs d ds e hs rx rs fd fa q
    obtain ⟨h1, h2⟩ := flat_all rs fa
    refine .inr ⟨p, xs, e, hs, (eqvF_ok rx rx fd fd).1, h1, ?_⟩
    rw [h2 x d rx fd]
    have e2 : (if neg = true then !(ds.any fun y => eqvF y d) else ds.any fun y => eqvF y d) = (neg ^^ ds.any fun y => eqvF y d) := by cases neg <;> simp
    rw [e2]
    exact k _ _ H [] q (Fresh.refl H) (.dat (.bl _))
  unfold oIn at w
  split at w
  · cases r1 with
    | dat r1 =>
      cases r1
      cases r2 with
      | dat r2 =>
        cases r2
        exact .inl ⟨_, _, rfl, rfl, k _ _ H [] w (Fresh.refl H) (.dat (.bl _))⟩
  · cases r1 with
    | dat r1 =>
      cases r2 with
      | dat r2 =>
        cases r2 with
        | tup h rs => exact seq _ _ _ _ rfl (.inr h) r1 rs w.1 w.2.1 w.2.2
  · obtain ⟨ds, e, w⟩ := w
    obtain ⟨a, xs, e1, h, rs⟩ := ld_ok r2 e
    cases r1 with
    | dat r1 => exact seq _ _ _ _ e1 (.inl h) r1 rs w.1 w.2.1 w.2.2
  · exact w.elim
/-! ### x[i] -/
/-- the item at i, a pure one -/
def oIx (a b : M) (Q : M → Prop) : Prop := match b with
  | .dat (.int i) => match a with
    | .dat (.str s) => s.length ≤ sizeLine ∧ ∃ c, atI s i = some c ∧ Q (.dat (.str [c]))
    | .dat (.tup ds) => ∃ d, atI ds i = some d ∧ Q (.dat d)
    | .dat (.lst ds) => ∃ d, atI ds i = some d ∧ Q (.dat d)
    | .lst ms => ∃ m, atI ms i = some m ∧ Q m
    | _ => False
  | _ => False
theorem atI_reps {φ : Ob} {H : Hp} {v : List V} {m : List M} {f : List Addr} {i : Int} {x : M} (r : Reps T φ H v m f) (h : atI m i = some x) : ∃ w g, atI v i = some w ∧ Rep T φ H w x g ∧ ∀ a ∈ g, a ∈ f := by
  unfold atI at h ⊢
  rw [← r.len] at h
  cases q : ixN v.length i with
  | none => rw [q] at h; cases h
  | some j =>
    rw [q] at h
    exact r.get h
theorem atI_map {α β : Type} (g : α → β) (xs : List α) (i : Int) : atI (xs.map g) i = (atI xs i).map g := by
  unfold atI
  rw [List.length_map]
  cases ixN xs.length i with
  | none => rfl
  | some j => simp
theorem o_ix : Op2B T (rIx T.K) oIx := by
  intro φ H x y m1 m2 f1 f2 Q Qm r1 r2 w k
  · cases r2 with
    | lst => exact w.elim
    | dat r2 =>
      cases r2 with
      | int i =>
        cases r1 with
        | @lst a vs ms f h rs =>
          obtain ⟨m, e, w⟩ := w
          obtain ⟨u, g, h1, h2, h3⟩ := atI_reps rs e
          exact .inl ⟨a, vs, i, u, rfl, rfl, SqL.of h, h1, k m u g w h2 fun b z => List.mem_cons_of_mem _ (h3 b z)⟩
        | dat r1 =>
          cases r1 with
          | str s =>
            obtain ⟨hz, c, e, w⟩ := w
            exact .inr (.inr ⟨_, i, c, rfl, rfl, by rw [str_len]; exact hz, e, k _ _ [] w (.dat (.str [c])) fun _ z => nomatch z⟩)
          | @tup a xs ds h rs =>
            obtain ⟨d, e, w⟩ := w
            have e' : atI (ds.map M.dat) i = some (.dat d) := by rw [atI_map, e]; rfl
            obtain ⟨u, g, h1, h2, h3⟩ := atI_reps rs.reps e'
            exact .inr (.inl ⟨a, xs, i, u, rfl, rfl, h, h1, k _ u g w h2 h3⟩)
          | @lst a xs ds h rs =>
            obtain ⟨d, e, w⟩ := w
            have e' : atI (ds.map M.dat) i = some (.dat d) := by rw [atI_map, e]; rfl
            obtain ⟨u, g, h1, h2, h3⟩ := atI_reps rs.reps e'
            exact .inl ⟨a, xs, i, u, rfl, rfl, h.seq, h1, k _ u g w h2 h3⟩
          | _ => exact w.elim
      | _ => exact w.elim
end
end L2.Fn
/-! Fn, part F: own lists changed, frozen names, what is walked, comprehensions. -/
namespace L2.Fn
open PySem PySem.Spec PyProof.Rows

/-! ### a slot is changed in its place -/
section
variable {T : Top} {φ φ' : Ob} {H H' : Hp}
/-- the slot i apart from the others -/
theorem RepE.at' : ∀ {σ : St} {ρ : Ev} {f : List Addr} {i : Nat} {m : M}, RepE T φ H σ ρ f → ρ[i]? = some (some m) → ∃ v g f1 f2, σ[i]? = some (some v) ∧ Rep T φ H v m g ∧ f = f1 ++ (g ++ f2) ∧
    ∀ (φ' : Ob) (H' : Hp) (m' : M) (g' : List Addr), Ext H H' → Pre φ φ' → (∀ a xs, a ∈ f1 ++ f2 → H a = some (.lst xs) → H' a = some (.lst xs)) → Rep T φ' H' v m' g' → RepE T φ' H' σ (ρ.set i (some m')) (f1 ++ (g' ++ f2))
  | _, _, _, i, _, .nil, h => by simp at h
  | _, _, _, 0, _, .skip r, h => by simp at h
  | _, _, _, i + 1, _, .skip r, h => by
    obtain ⟨v, g, f1, f2, h1, h2, h3, h4⟩ := RepE.at' (i := i) r (by simpa using h)
    exact ⟨v, g, f1, f2, by simpa using h1, h2, h3, fun φ' H' m' g' e p k x => .skip (h4 φ' H' m' g' e p k x)⟩
  | _, _, _, 0, _, .cons (v := v) (f := f) (g := g) x r, h => by
    simp at h
    subst h
    exact ⟨v, f, [], g, by simp, x, rfl, fun φ' H' m' g' e p k y => by
      have z := RepE.cons y (r.ext e p k)
      exact z⟩
  | _, _, _, i + 1, _, .cons (f := f) (g := g0) x r, h => by
    obtain ⟨v, g, f1, f2, h1, h2, h3, h4⟩ := RepE.at' (i := i) r (by simpa using h)
    refine ⟨v, g, f ++ f1, f2, by simpa using h1, h2, by rw [h3, List.append_assoc], fun φ' H' m' g' e p k y => ?_⟩
    rw [List.append_assoc]
    exact .cons (x.ext e p fun a xs ha => k a xs (List.mem_append_left _ (List.mem_append_left _ ha))) (h4 φ' H' m' g' e p (fun a xs ha => k a xs (by rw [List.append_assoc]; exact List.mem_append_right _ ha)) y)
theorem Reps.app : ∀ {v w : List V} {m n : List M} {f g : List Addr}, Reps T φ H v m f → Reps T φ H w n g → Reps T φ H (v ++ w) (m ++ n) (f ++ g)
  | _, _, _, _, _, _, .nil, s => s
  | _, _, _, _, _, _, .cons x r, s => by rw [List.append_assoc]; exact .cons x (r.app s)
theorem Reps.set {y : V} {n : M} {fm : List Addr} (x : Rep T φ H y n fm) : ∀ {v : List V} {m : List M} {f : List Addr} {i : Nat}, Reps T φ H v m f → (fm ++ f).Nodup → i < m.length →
    ∃ f', Reps T φ H (v.set i y) (m.set i n) f' ∧ (∀ a ∈ f', a ∈ fm ++ f) ∧ f'.Nodup
  | _, _, _, i, .nil, _, h => absurd h (Nat.not_lt_zero _)
  | _, _, _, 0, .cons (f := f) (g := g) y r, nd, _ => by
    have q := List.nodup_append.mp nd
    refine ⟨fm ++ g, .cons x r, fun a z => ?_, List.nodup_append.mpr ⟨q.1, (List.nodup_append.mp q.2.1).2.1, fun a h b h' => q.2.2 a h b (List.mem_append_right _ h')⟩⟩
    rcases List.mem_append.mp z with z | z
    · exact List.mem_append_left _ z
    · exact List.mem_append_right _ (List.mem_append_right _ z)
  | _, _, _, i + 1, .cons (f := f) (g := g) y r, nd, h => by
    have q := List.nodup_append.mp nd
    have q2 := List.nodup_append.mp q.2.1
    obtain ⟨f', h1, h2, h3⟩ := Reps.set x (i := i) r (List.nodup_append.mpr ⟨q.1, q2.2.1, fun a h b h' => q.2.2 a h b (List.mem_append_right _ h')⟩) (by simpa using h)
    refine ⟨f ++ f', .cons y h1, fun a z => ?_, List.nodup_append.mpr ⟨q2.1, h3, fun a h b h' e => ?_⟩⟩
    · rcases List.mem_append.mp z with z | z
      · exact List.mem_append_right _ (List.mem_append_left _ z)
      · rcases List.mem_append.mp (h2 a z) with z | z
        · exact List.mem_append_left _ z
        · exact List.mem_append_right _ (List.mem_append_right _ z)
    · rcases List.mem_append.mp (h2 b h') with z | z
      · exact q.2.2 b z a (List.mem_append_left _ h) e.symm
      · exact q2.2.2 a h b z e
/-- the item i apart from the others -/
theorem Reps.at' : ∀ {v : List V} {ms : List M} {f : List Addr} {i : Nat} {m : M}, Reps T φ H v ms f → ms[i]? = some m → ∃ w g f1 f2, v[i]? = some w ∧ Rep T φ H w m g ∧ f = f1 ++ (g ++ f2) ∧
    ∀ (φ' : Ob) (H' : Hp) (m' : M) (g' : List Addr), Ext H H' → Pre φ φ' → (∀ a xs, a ∈ f1 ++ f2 → H a = some (.lst xs) → H' a = some (.lst xs)) → Rep T φ' H' w m' g' → Reps T φ' H' v (ms.set i m') (f1 ++ (g' ++ f2))
  | _, _, _, i, _, .nil, h => by simp at h
  | _, _, _, 0, _, .cons (v := v) (f := f) (g := g) x r, h => by
    simp at h
    subst h
    exact ⟨v, f, [], g, by simp, x, rfl, fun φ' H' m' g' e p k y => by
      have z := Reps.cons y (r.ext e p k)
      exact z⟩
  | _, _, _, i + 1, _, .cons (f := f) (g := g0) x r, h => by
    obtain ⟨v, g, f1, f2, h1, h2, h3, h4⟩ := Reps.at' (i := i) r (by simpa using h)
    refine ⟨v, g, f ++ f1, f2, by simpa using h1, h2, by rw [h3, List.append_assoc], fun φ' H' m' g' e p k y => ?_⟩
    rw [List.append_assoc]
    exact .cons (x.ext e p fun a xs ha => k a xs (List.mem_append_left _ (List.mem_append_left _ ha))) (h4 φ' H' m' g' e p (fun a xs ha => k a xs (by rw [List.append_assoc]; exact List.mem_append_right _ ha)) y)
/-- an own list at a is written -/
theorem upd_ext {a : Addr} {xs : List V} {o : HO} (h : H a = some (.lst xs)) : Ext H (upd H a o) := by
  refine ⟨fun b ys e => ?_, fun b u w e => ?_⟩
  · rw [upd_ne fun z => by rw [z, h] at e; cases e]; exact e
  · rw [upd_ne fun z => by rw [z, h] at e; cases e]; exact e
theorem RepS.wr {Φ φ : Ob} {S : Sto} {fs : List Addr} {a : Addr} {xs : List V} {o : HO} (R : RepS T H Φ φ S fs) (h : H a = some (.lst xs)) (n : a ∉ fs ++ φ.ads) : RepS T (upd H a o) Φ φ S fs :=
  R.ext (upd_ext h) (Pre.refl _) (fun b ys hb e => by rw [upd_ne fun z => n (by rw [← z]; exact List.mem_append_left _ hb)]; exact e)
    fun b C dx gs hb e => by rw [upd_ne fun z => n (by rw [← z]; exact List.mem_append_right _ hb)]; exact e
/-- a slot's list is changed: g, f1, f2 as RepE.at' tells -/
theorem Good.wr {v : V} {σ : St} {ρ : Ev} {S : Sto} {fe fs f1 f2 g g' fm : List Addr} {i : Nat} {m' : M} {a : Addr} {xs ys : List V} (G : Good T φ H σ ρ S fe fs) (e : fe = f1 ++ (g ++ f2)) (ha : a ∈ g) (hH : H a = some (.lst xs))
    (w : ∀ (φ' : Ob) (H' : Hp) (m' : M) (g' : List Addr), Ext H H' → Pre φ φ' → (∀ a xs, a ∈ f1 ++ f2 → H a = some (.lst xs) → H' a = some (.lst xs)) → Rep T φ' H' v m' g' → RepE T φ' H' σ (ρ.set i (some m')) (f1 ++ (g' ++ f2)))
    (r : Rep T φ (upd H a (.lst ys)) v m' g') (hg : ∀ b ∈ g', b ∈ g ++ fm) (nd : g'.Nodup) (d : ∀ b ∈ fm, b ∉ fe ++ (fs ++ φ.ads)) :
    Good T φ (upd H a (.lst ys)) σ (ρ.set i (some m')) S (f1 ++ (g' ++ f2)) fs ∧ AftS φ (fm ++ fe) fs H φ (f1 ++ (g' ++ f2)) fs (upd H a (.lst ys)) := by
  have nds := List.nodup_append.mp G.nd
  have n1 := List.nodup_append.mp (e ▸ nds.1)
  have n2 := List.nodup_append.mp n1.2.1
  have afe : a ∈ fe := by rw [e]; exact List.mem_append_right _ (List.mem_append_left _ ha)
  have keepE : ∀ b zs, b ∈ f1 ++ f2 → H b = some (.lst zs) → upd H a (.lst ys) b = some (.lst zs) := fun b zs hb q => by
    rw [upd_ne fun z => ?_]; exact q
    subst z
    rcases List.mem_append.mp hb with hb | hb
    · exact n1.2.2 b hb b (List.mem_append_left _ ha) rfl
    · exact n2.2.2 b ha b hb rfl
  have sub : ∀ b ∈ f1 ++ (g' ++ f2), b ∈ fm ++ fe := fun b hb => by
    rw [e]
    rcases List.mem_append.mp hb with hb | hb
    · exact List.mem_append_right _ (List.mem_append_left _ hb)
    · rcases List.mem_append.mp hb with hb | hb
      · rcases List.mem_append.mp (hg b hb) with hb | hb
        · exact List.mem_append_right _ (List.mem_append_right _ (List.mem_append_left _ hb))
        · exact List.mem_append_left _ hb
      · exact List.mem_append_right _ (List.mem_append_right _ (List.mem_append_right _ hb))
  refine ⟨⟨w φ _ m' g' (upd_ext hH) (Pre.refl _) keepE r, G.sto.wr hH (G.disj a afe), ?_⟩, ⟨Pre.refl _, fun b o n h => ?_, fun b h => ?_⟩⟩
  · refine List.nodup_append.mpr ⟨?_, nds.2.1, fun b hb c hc z => ?_⟩
    · have dg : ∀ b ∈ g', ∀ c, c ∈ f1 ++ f2 → b ≠ c := fun b hb c hc z => by
        subst z
        rcases List.mem_append.mp (hg b hb) with q | q
        · rcases List.mem_append.mp hc with hc | hc
          · exact n1.2.2 b hc b (List.mem_append_left _ q) rfl
          · exact n2.2.2 b q b hc rfl
        · refine d b q (List.mem_append_left _ ?_)
          rw [e]
          rcases List.mem_append.mp hc with hc | hc
          · exact List.mem_append_left _ hc
          · exact List.mem_append_right _ (List.mem_append_right _ hc)
      refine List.nodup_append.mpr ⟨n1.1, List.nodup_append.mpr ⟨nd, n2.2.1, fun b hb c hc => dg b hb c (List.mem_append_right _ hc)⟩, fun b hb c hc z => ?_⟩
      subst z
      rcases List.mem_append.mp hc with hc | hc
      · exact dg b hc b (List.mem_append_left _ hb) rfl
      · exact n1.2.2 b hb b (List.mem_append_right _ hc) rfl
    · subst z
      rcases List.mem_append.mp (sub b hb) with q | q
      · exact d b q (List.mem_append_right _ hc)
      · exact G.disj b q hc
  · rw [upd_ne fun z => n (by rw [z]; exact List.mem_append_left _ (List.mem_append_right _ afe))]; exact h
  · rcases List.mem_append.mp h with h | h
    · exact .inl (List.mem_append_left _ (sub b h))
    · exact .inl (List.mem_append_right _ h)
end
theorem σ_set_same {σ : St} {i : Nat} {v : V} (h : σ[i]? = some (some v)) : σ.set i (some v) = σ := by
  apply List.ext_getElem?
  intro j
  by_cases e : i = j
  · subst e
    rw [h, List.getElem?_set_self (List.getElem?_eq_some_iff.mp h).1]
  · rw [List.getElem?_set_ne e]

section
variable {X : Cx} {T : Top} {W : WX} {e a b ej : Expr} {t ta tb tj : FE} {pos : Pos} {es : List Expr} {st : Stmt} {rest body : List Stmt} {u w : FS}
/-! ### x.append(e) -/
def fApp (i : Nat) (t : FE) : FS := fun P ρ S => ∃ ms, ρ[i]? = some (some (.lst ms)) ∧ ms.length < sizeLine ∧ t ρ S (fun m S' => P.nx (ρ.set i (some (.lst (ms ++ [m])))) S') fun x S' => P.ex x ρ S'
theorem lApp {D : Ends} {σ : St} {H : Hp} {i : Nat} (hK : X.K = T.K) (h : LS T W (fApp i t) D σ H) : tDrop (tBM X.K "list" rAppend (tVar i) (tCons (LE T W t) tNil)) D σ H := by
  obtain ⟨ρ, S, φ, fe, fs, P, G, ⟨ms, hm, hz, w⟩, k⟩ := h
  obtain ⟨v, g, f1, f2, hv, r, e, wr⟩ := G.env.at' hm
  cases r with
  | @lst a vs ms f hH rs =>
    refine ⟨.ref a, hv, .inl ⟨rfl, vs, SqL.of hH⟩, ρ, S, φ, fe, fs, _, _, G, w, k.wx G, fun m S1 y H1 φ1 fs1 fm q A r1 R1 => ?_⟩
    have G1 := A.good G R1
    have afe : ∀ b ∈ a :: f, b ∈ fe := fun b hb => by rw [e]; exact List.mem_append_right _ (List.mem_append_left _ hb)
    have hH1 : H1 a = some (.lst vs) := A.keep a _ (G.disj a (afe a List.mem_cons_self)) hH
    obtain ⟨v', g', f1', f2', hv', r', e', wr'⟩ := G1.env.at' hm
    rw [hv] at hv'
    cases hv'
    cases r' with
    | @lst a' vs' ms' f' hH' rs' =>
      rw [hH1] at hH'
      cases hH'
      have ap := A.apart G.disj (fun b hb => by obtain ⟨zs, q⟩ := G.env.own b hb; rw [q]; exact fun z => nomatch z)
      have dj : ∀ b ∈ fm, b ∉ fe ++ (fs1 ++ φ1.ads) := fun b hb hc => by
        rcases List.mem_append.mp hc with hc | hc
        · exact ap b hc (List.mem_append_left _ hb)
        · exact A.disj b hb hc
      have nde := (List.nodup_append.mp G1.nd).1
      have n1 := List.nodup_append.mp (e' ▸ nde)
      have n2 := (List.nodup_append.mp n1.2.1).1
      have afe' : ∀ b ∈ a :: f', b ∈ fe := fun b hb => by rw [e']; exact List.mem_append_right _ (List.mem_append_left _ hb)
      have nda := List.nodup_cons.mp n2
      have ex : Ext H1 (upd H1 a (.lst (vs ++ [y]))) := upd_ext hH1
      have kp : ∀ b zs, b ∈ f' ++ fm → H1 b = some (.lst zs) → upd H1 a (.lst (vs ++ [y])) b = some (.lst zs) := fun b zs hb q => by
        rw [upd_ne fun z => ?_]; exact q
        subst z
        rcases List.mem_append.mp hb with hb | hb
        · exact nda.1 hb
        · exact dj b hb (List.mem_append_left _ (afe' b List.mem_cons_self))
      have rr : Rep T φ1 (upd H1 a (.lst (vs ++ [y]))) (.ref a) (.lst (ms ++ [m])) (a :: (f' ++ (fm ++ []))) :=
        .lst upd_same (Reps.app (rs'.ext ex (Pre.refl _) fun b zs hb => kp b zs (List.mem_append_left _ hb)) (.cons (r1.ext ex (Pre.refl _) fun b zs hb => kp b zs (List.mem_append_right _ hb)) .nil))
      rw [List.append_nil] at rr
      have n3 : a ∉ f' ++ fm := fun z => by
        rcases List.mem_append.mp z with z | z
        · exact nda.1 z
        · exact dj a z (List.mem_append_left _ (afe' a List.mem_cons_self))
      have n4 : (f' ++ fm).Nodup := List.nodup_append.mpr ⟨nda.2, (List.nodup_append.mp A.nd).1, fun b hb c hc z => by
        subst z
        exact dj b hc (List.mem_append_left _ (afe' b (List.mem_cons_of_mem _ hb)))⟩
      obtain ⟨G2, A2⟩ := Good.wr (fm := fm) G1 e' List.mem_cons_self hH1 wr' rr (fun b hb => by simpa using hb) (List.nodup_cons.mpr ⟨n3, n4⟩) dj
      refine ⟨a, vs, y, rfl, rfl, hH1, by rw [rs'.len]; exact hz, ?_⟩
      exact k.nx _ S1 σ _ φ1 _ fs1 q (A.s.trans A2) G2
theorem fs_append {i : Nat} {ex : Expr} {apos cpos : Pos} (hK : X.K = T.K) (hx : PE X ex (tVar i)) (he : PE X e (LE T W t))
    (hbase : attributeBase ex "append" X.env (eval ex X.env) = eval ex X.env := by rfl)
    (hpl : (((backTo cpos (starEach [e] X.env)).all fun x => !x.1) && (backToKw cpos (keywordEach [] X.env)).all (fun x => x.1.isSome) && decide ([e].length + ([] : List Keyword).length + (if ([] : List Keyword).isEmpty then 0 else 1) < 30)) = true := by rfl)
    (hline : (apos.endLine == cpos.line) = true := by rfl) (h1 : starEach [e] X.env = (false, eval e X.env) :: starEach [] X.env := by rfl) (h2 : (backTo cpos (starEach [] X.env)).any (·.1) = false := by rfl)
    (hs : swapsWith (.Call (.Attribute ex "append" apos) [e] [] cpos) none pos.line X.env = pure false := by rfl) :
    PS X (.Expr (.Call (.Attribute ex "append" apos) [e] [] cpos) pos) (LS T W (fApp i t)) :=
  PS.weak (ps_expr (pe_bm PySem.F.plainAttrs_list PySem.F.slot_list_append PySem.F.type_list_append mt_append hx (pa_cons he pa_nil h1) hbase hpl hline h1 h2) hs) fun D σ H h => lApp hK h

/-! ### names frozen -/
def fFz (i : Nat) (w : FS) : FS := fun P ρ S => ∃ m, ρ[i]? = some (some m) ∧ w P (ρ.set i (some (.dat m.toD))) S
theorem fs_fz {i : Nat} (h : PSs X rest (LS T W w)) : PSs X rest (LS T W (fFz i w)) := by
  refine ⟨fun pins s σ H D I ⟨ρ, S, φ, fe, fs, P, G, ⟨m, hm, q⟩, k⟩ => ?_⟩
  obtain ⟨v, g, f1, f2, hv, r, e, wr⟩ := G.env.at' hm
  have nds := List.nodup_append.mp G.nd
  have n1 := List.nodup_append.mp (e ▸ nds.1)
  have n2 := List.nodup_append.mp n1.2.1
  obtain ⟨H2, I2, lk, rd⟩ := frz_m I r n2.1
  have gfe : ∀ b ∈ g, b ∈ fe := fun b hb => by rw [e]; exact List.mem_append_right _ (List.mem_append_left _ hb)
  have E2 : RepE T φ H2 σ (ρ.set i (some (.dat m.toD))) (f1 ++ ([] ++ f2)) := wr φ H2 _ [] lk.ext (Pre.refl _) (fun b zs hb q => (lk.keep b fun z => by
    rcases List.mem_append.mp hb with hb | hb
    · exact n1.2.2 b hb b (List.mem_append_left _ z) rfl
    · exact n2.2.2 b z b hb rfl).trans q) (.dat rd)
  have sub : ∀ b ∈ f1 ++ ([] ++ f2), b ∈ fe := fun b hb => by
    rw [e]
    rcases List.mem_append.mp hb with hb | hb
    · exact List.mem_append_left _ hb
    · exact List.mem_append_right _ (List.mem_append_right _ hb)
  have G2 : Good T φ H2 σ (ρ.set i (some (.dat m.toD))) S (f1 ++ ([] ++ f2)) fs := by
    refine ⟨E2, lk.sto G.sto fun b hb => G.disj b (gfe b hb), List.nodup_append.mpr ⟨List.nodup_append.mpr ⟨n1.1, n2.2.1, fun b hb c hc => n1.2.2 b hb c (List.mem_append_right _ hc)⟩, nds.2.1, fun b hb c hc => nds.2.2 b (sub b hb) c hc⟩⟩
  have A2 : AftS φ fe fs H φ (f1 ++ ([] ++ f2)) fs H2 := ⟨Pre.refl _, fun b o n h => (lk.keep b fun z => n (List.mem_append_left _ (gfe b z))).trans h, fun b h => (List.mem_append.mp h).elim (fun h => .inl (List.mem_append_left _ (sub b h))) fun h => .inl (List.mem_append_right _ h)⟩
  exact h.run pins s σ H2 D I2 ⟨_, S, φ, _, fs, P, G2, q, k.aft A2⟩

/-! ### what is walked -/
def iAny (K : PySem.W.Frag) (te : TE) : TI := fun σ H R => te σ H fun v H1 => (∃ a, v = .ref a ∧ (∃ xs, SqL K H1 a xs) ∧ R (Itl K a) H1) ∨ (∃ a, v = .ref a ∧ (∃ xs, SqT K H1 a xs) ∧ R (Itt K a) H1) ∨ ∃ x, v = .str x ∧ R (Its x) H1
theorem pi_any {tg : Expr} {te : TE} (he : PE X e te) : PI X tg e (iAny X.K te) := by
  refine ⟨fun pins s σ H R I h => ?_⟩
  refine thn (he.run pins s σ H _ I h) fun v s1 ⟨y, H1, I1, r1, q1⟩ => ?_
  rcases q1 with ⟨a, e, ⟨xs, hq⟩, q⟩ | ⟨a, e, ⟨xs, hq⟩, q⟩ | ⟨x, ex, q⟩
  · subst e
    cases r1
    obtain ⟨its, rv, p, hz⟩ := I1.list hq
    refine wpAny_pyIter_list p.isList ?_
    refine ⟨s1.heap.objs.size, [s1.heap.objs.size], _, _, H1, rfl, I1.kept (t' := s1.toks) fun b o e => Heap.get?_push_of_some _ e, turn_list a _, ⟨_, Heap.get?_push_size _ rfl, rfl, rfl⟩, fun b hb => ?_, q⟩
    have e : b = s1.heap.objs.size := by simpa using hb
    subst e
    exact I1.fpOk (Nat.le_refl _) (I1.hok.fresh (Nat.le_refl _))
  · subst e
    cases r1
    obtain ⟨its, rv, p, hz⟩ := I1.tuple hq
    refine wpAny_pyIter_tuple (show s1.heap.IsTuple a its.toArray from p) ?_
    refine ⟨s1.heap.objs.size, [s1.heap.objs.size], _, _, H1, rfl, I1.kept (t' := s1.toks) fun b o e => Heap.get?_push_of_some _ e, turn_tuple a _, ⟨_, Heap.get?_push_size _ rfl, rfl, rfl⟩, fun b hb => ?_, q⟩
    have e : b = s1.heap.objs.size := by simpa using hb
    subst e
    exact I1.fpOk (Nat.le_refl _) (I1.hok.fresh (Nat.le_refl _))
  · subst ex
    obtain ⟨t, rfl⟩ := r1
    cases ha : x.cps.all (· < 128)
    · exact wpAny_pyIter_wide ha (pi_one (tk := s1.toks) I1 _ (turn_str _ x t "str_iterator" (.inr rfl)) ⟨_, Heap.get?_push_size _ rfl, rfl, rfl⟩ q)
    · exact wpAny_pyIter_ascii ha (pi_one (tk := s1.toks) I1 _ (turn_str _ x t "str_ascii_iterator" (.inl rfl)) ⟨_, Heap.get?_push_size _ rfl, rfl, rfl⟩ q)
/-- the items that a for walks: those of a pure list or tuple, the signs of a text -/
def oWalk (m : M) (Q : List D → Prop) : Prop := match m with
  | .dat (.lst ds) => Q ds
  | .dat (.tup ds) => Q ds
  | .dat (.str s) => Q (s.map fun c => .str [c])
  | _ => False
def fWalk (t : FE) : FI := fun ρ S Q E => t ρ S (fun m S' => oWalk m fun ds => Q ds S') E
theorem walks_list {φ : Ob} {H : Hp} {a : Addr} {xs : List V} {ds : List D} (h : FzL T H a xs) (rs : FDs T φ H xs ds) : Walks T φ (Itl T.K a) H ds := by
  intro i H2 φ2 ex p
  have h2 : SqL T.K H2 a xs := (ex.fzl h).seq
  refine ⟨fun d hd => ?_, fun hi => ⟨xs, h2, by rw [rs.len]; exact hi⟩⟩
  obtain ⟨x, hx, rx⟩ := rs.get hd
  refine ⟨⟨xs, x, h2, hx⟩, fun y H3 ⟨e, hy⟩ => ?_⟩
  subst e
  have := hy xs h2
  rw [hx] at this
  cases this
  exact ⟨Fresh.refl _, rx.ext ex p⟩
theorem walks_tup {φ : Ob} {H : Hp} {a : Addr} {xs : List V} {ds : List D} (h : SqT T.K H a xs) (rs : FDs T φ H xs ds) : Walks T φ (Itt T.K a) H ds := by
  intro i H2 φ2 ex p
  have h2 : SqT T.K H2 a xs := ex.seqT h
  refine ⟨fun d hd => ?_, fun hi => ⟨xs, h2, by rw [rs.len]; exact hi⟩⟩
  obtain ⟨x, hx, rx⟩ := rs.get hd
  refine ⟨⟨xs, x, h2, hx⟩, fun y H3 ⟨e, hy⟩ => ?_⟩
  subst e
  have := hy xs h2
  rw [hx] at this
  cases this
  exact ⟨Fresh.refl _, rx.ext ex p⟩
theorem walks_str {φ : Ob} {H : Hp} (s : List Nat) : Walks T φ (Its ⟨s.toArray⟩) H (s.map fun c => .str [c]) := by
  intro i H2 φ2 ex p
  refine ⟨fun d hd => ?_, fun hi => by simpa [Its] using hi⟩
  rw [List.getElem?_map] at hd
  cases q : s[i]? with
  | none => rw [q] at hd; cases hd
  | some c =>
    rw [q] at hd
    cases hd
    refine ⟨?_, fun y H3 ⟨e, c', hc, hy⟩ => ?_⟩
    · show i < s.toArray.size
      simpa using (List.getElem?_eq_some_iff.mp q).1
    · subst e
      have e2 : c = c' := by
        have : s[i]? = some c' := by simpa using hc
        rw [q] at this
        exact Option.some.inj this
      subst e2
      subst hy
      exact ⟨Fresh.refl _, .str [c]⟩
theorem fi_any {tg : Expr} (hK : X.K = T.K) (he : PE X e (LB T W t)) : PI X tg e (LI T W (fWalk t)) := PI.weak (pi_any he) fun σ H R ⟨ρ, S, φ, fe, fs, E, Qm, G, w, hx, k⟩ => by
  refine ⟨ρ, S, φ, fe, fs, E, _, G, w, hx, fun m S' v H' φ' fs' fm q A r d R' => ?_⟩
  rw [hK]
  cases r with
  | lst => exact q.elim
  | dat r =>
    cases r with
    | str s => exact .inr (.inr ⟨_, rfl, k _ S' _ H' φ' fs' q A R' (walks_str s)⟩)
    | @tup a xs ds h rs => exact .inr (.inl ⟨a, rfl, ⟨xs, h⟩, k _ S' _ H' φ' fs' q A R' (walks_tup h rs)⟩)
    | @lst a xs ds h rs => exact .inl ⟨a, rfl, ⟨xs, h.seq⟩, k _ S' _ H' φ' fs' q A R' (walks_list h rs)⟩
    | _ => exact q.elim
/-- lo, lo + 1, .. (n of them) -/
def rng (lo : Int) (n : Nat) : List D := (List.range n).map fun k => .int (lo + (k : Nat))
theorem walks_rng {φ : Ob} {H : Hp} (lo : Int) (n : Nat) : Walks T φ (Itr lo n) H (rng lo n) := by
  intro i H2 φ2 ex p
  refine ⟨fun d hd => ?_, fun hi => by simpa [rng, Itr] using hi⟩
  unfold rng at hd
  rw [List.getElem?_map] at hd
  by_cases hi : i < n
  · rw [List.getElem?_range hi] at hd
    cases hd
    refine ⟨hi, fun y H3 ⟨e, hy⟩ => ?_⟩
    subst e
    subst hy
    exact ⟨Fresh.refl _, .int _⟩
  · rw [List.getElem?_eq_none (by simpa using hi)] at hd
    cases hd
def oR1 (ms : List M) (Q : List D → Prop) : Prop := match ms with
  | [.dat (.int j)] => -(2 ^ 62) ≤ j ∧ j < 2 ^ 62 ∧ Q (rng 0 j.toNat)
  | _ => False
def oR2 (ms : List M) (Q : List D → Prop) : Prop := match ms with
  | [.dat (.int i), .dat (.int j)] => (-(2 ^ 62) ≤ i ∧ i < 2 ^ 62 ∧ -(2 ^ 62) ≤ j ∧ j < 2 ^ 62) ∧ Q (rng i (j - i).toNat)
  | _ => False
def fRng (o : List M → (List D → Prop) → Prop) (t : FA) : FI := fun ρ S Q E => t ρ S (fun ms S' => o ms fun ds => Q ds S') E
theorem fi_rng1 {tg : Expr} {ta : FA} {p : Pos} (hg : Gl X "range") (hm : X.mg "range" = none) (ha : PA X [a] (LAB T W ta)) (hs : starEach [a] X.env = [(false, eval a X.env)] := by rfl) : PI X tg (.Call (.Name "range" p) [a] [] pos) (LI T W (fRng oR1 ta)) :=
  PI.weak (pi_range1 hg hm ha hs) fun σ H R ⟨ρ, S, φ, fe, fs, E, Qm, G, w, hx, k⟩ => by
    refine ⟨ρ, S, φ, fe, fs, E, _, G, w, hx, fun ms S' vs H' φ' fs' fm q A r d R' => ?_⟩
    unfold oR1 at q
    split at q
    · cases r with
      | cons x r =>
        cases r
        cases x with
        | dat x =>
          cases x with
          | int => exact ⟨_, rfl, q.1, q.2.1, k _ S' _ H' φ' fs' q.2.2 A R' (walks_rng _ _)⟩
    · exact q.elim
theorem fi_rng2 {tg : Expr} {ta : FA} {p : Pos} (hg : Gl X "range") (hm : X.mg "range" = none) (ha : PA X [a, b] (LAB T W ta)) (hs : starEach [a, b] X.env = [(false, eval a X.env), (false, eval b X.env)] := by rfl) (hs2 : starEach [b] X.env = [(false, eval b X.env)] := by rfl) :
    PI X tg (.Call (.Name "range" p) [a, b] [] pos) (LI T W (fRng oR2 ta)) :=
  PI.weak (pi_range2 hg hm ha hs hs2) fun σ H R ⟨ρ, S, φ, fe, fs, E, Qm, G, w, hx, k⟩ => by
    refine ⟨ρ, S, φ, fe, fs, E, _, G, w, hx, fun ms S' vs H' φ' fs' fm q A r d R' => ?_⟩
    unfold oR2 at q
    split at q
    · cases r with
      | cons x r =>
        cases r with
        | cons y r =>
          cases r
          cases x with
          | dat x =>
            cases x with
            | int =>
              cases y with
              | dat y =>
                cases y with
                | int => exact ⟨_, _, rfl, q.1, k _ S' _ H' φ' fs' q.2 A R' (walks_rng _ _)⟩
    · exact q.elim

/-! ### [e for x in xs if c] -/
def wipeE (ρ : Ev) : List Nat → Ev
  | [] => ρ
  | v :: vs => (wipeE ρ vs).set v none
theorem RepE.unset {φ : Ob} {H : Hp} : ∀ {σ : St} {ρ : Ev} {f : List Addr} (i : Nat), RepE T φ H σ ρ f → ∃ f', RepE T φ H (σ.set i none) (ρ.set i none) f' ∧ f'.Sublist f
  | _, _, _, i, .nil => ⟨[], .nil, List.Sublist.refl _⟩
  | _, _, _, 0, .skip r => ⟨_, .skip r, List.Sublist.refl _⟩
  | _, _, _, i + 1, .skip r => by
    obtain ⟨f', h1, h2⟩ := RepE.unset i r
    exact ⟨f', .skip h1, h2⟩
  | _, _, _, 0, .cons (f := f) (g := g) y r => ⟨g, .skip r, List.sublist_append_right _ _⟩
  | _, _, _, i + 1, .cons (f := f) (g := g) y r => by
    obtain ⟨f', h1, h2⟩ := RepE.unset i r
    exact ⟨f ++ f', .cons y h1, List.Sublist.append_left h2 f⟩
theorem RepE.wiped {φ : Ob} {H : Hp} {σ : St} {ρ : Ev} {f : List Addr} (r : RepE T φ H σ ρ f) : ∀ vs : List Nat, ∃ f', RepE T φ H (wipe σ vs) (wipeE ρ vs) f' ∧ f'.Sublist f
  | [] => ⟨f, r, List.Sublist.refl _⟩
  | v :: vs => by
    obtain ⟨f1, h1, h2⟩ := r.wiped vs
    obtain ⟨f2, h3, h4⟩ := h1.unset v
    exact ⟨f2, h3, h4.trans h2⟩
theorem wipe_wipe (σ : St) : ∀ vs us : List Nat, (∀ v ∈ vs, v ∈ us) → wipe (wipe σ vs) us = wipe σ us
  | [], us, _ => rfl
  | v :: vs, us, h => by
    show wipe ((wipe σ vs).set v none) us = _
    rw [wipe_set (h v List.mem_cons_self), wipe_wipe σ vs us fun w hw => h w (List.mem_cons_of_mem _ hw)]
abbrev noX : XP := fun _ _ => False
def compW (g : FG) (c : FT) (t : FE) (vs : List Nat) (ρ : Ev) (Q : WP) : List D → List M → Sto → Prop
  | [], acc, S => Q (.lst acc) S
  | d :: ds, acc, S => g (.dat d) (wipeE ρ vs) fun ρ1 => c ρ1 S (fun b S2 => if b = true then t ρ1 S2 (fun m S3 => acc.length < sizeLine ∧ compW g c t vs ρ Q ds (acc ++ [m]) S3) noX else compW g c t vs ρ Q ds acc S2) noX
def fComp (ti : FI) (g : FG) (c : FT) (t : FE) (vs : List Nat) : FE := fun ρ S Q E => ti ρ S (fun ds S' => compW g c t vs ρ Q ds [] S') E
abbrev W0 : WX := fun _ _ _ _ => False
theorem lComp {ti : FI} {g : FG} {c : FT} {vs : List Nat} {σ : St} {H : Hp} {Q : VK} (h : LE T W (fComp ti g c t vs) σ H Q) : tLc (LI T W ti) (LG T vs g) (LT T W0 c) (LE T W0 t) vs σ H Q := by
  obtain ⟨ρ, S, φ, fe, fs, E, Qm, G, w, hx, k⟩ := h
  refine ⟨ρ, S, φ, fe, fs, E, _, G, w, hx, fun ds S0 J H0 φ0 fs0 q0 A0 R0 wk D hD => ?_⟩
  have F0 : Fresh H0 (upd H0 D (.lst [])) [D] := Fresh.upd hD
  have B0 := F0.aft R0 A0.ndS
  refine ⟨fun i m H1 => i + m = ds.length ∧ ∃ (acc : List M) (vs' : List V) (fa : List Addr) (S1 : Sto) (φ1 : Ob) (fs1 : List Addr), compW g c t vs ρ Qm (ds.drop i) acc S1 ∧ Aft φ fs H φ1 fs1 (D :: fa) H1 ∧ Ext H0 H1 ∧ Pre φ0 φ1 ∧ H1 D = some (.lst vs') ∧ Reps T φ1 H1 vs' acc fa ∧ RepS T H1 φ1 φ1 S1 fs1,
    ⟨ds.length, by omega, [], [], [], S0, φ0, fs0, q0, A0.trans B0, F0.ext, Pre.refl _, upd_same, .nil, F0.sto R0⟩, ?_⟩
  intro i m H1 ⟨him, acc, vs', fa, S1, φ1, fs1, h1, A1, ex1, pr1, hD1, ra, R1⟩
  have wk1 := wk i H1 φ1 ex1 pr1
  by_cases hi : ds.length ≤ i
  · rw [List.drop_of_length_le hi] at h1
    exact .inl ⟨wk1.2 hi, k _ S1 _ H1 φ1 fs1 (D :: fa) h1 A1 (.lst hD1 ra) R1⟩
  · have hlt : i < ds.length := by omega
    rw [List.drop_eq_getElem_cons hlt] at h1
    obtain ⟨go, yl⟩ := wk1.1 ds[i] (List.getElem?_eq_getElem hlt)
    refine .inr ⟨go, fun H' => ∃ m', m' < m ∧ (i + 1) + m' = ds.length ∧ ∃ (acc : List M) (vs' : List V) (fa : List Addr) (S1 : Sto) (φ1 : Ob) (fs1 : List Addr), compW g c t vs ρ Qm (ds.drop (i + 1)) acc S1 ∧ Aft φ fs H φ1 fs1 (D :: fa) H' ∧ Ext H0 H' ∧ Pre φ0 φ1 ∧ H' D = some (.lst vs') ∧ Reps T φ1 H' vs' acc fa ∧ RepS T H' φ1 φ1 S1 fs1, fun H' z => z, fun x H2 hy => ?_⟩
    obtain ⟨F2, rd⟩ := yl x H2 hy
    have A2 := F2.aft R1 A1.ndS
    have R2 := F2.sto R1
    -- the frame in the block
    have G1 := A1.good G R1
    have G2 := A2.good G1 R2
    obtain ⟨fw, gw, sl⟩ := G2.env.wiped vs
    have Gw : Good T φ1 H2 (wipe σ vs) (wipeE ρ vs) S1 fw fs1 := ⟨gw, R2, List.nodup_append.mpr ⟨(List.nodup_append.mp G2.nd).1.sublist sl, G2.ndS, fun a h b h' => (List.nodup_append.mp G2.nd).2.2 a (sl.subset h) b h'⟩⟩
    have ob : ∀ a ∈ D :: fa, H1 a ≠ none := fun a ha => by
      rcases List.mem_cons.mp ha with z | z
      · rw [z, hD1]; exact fun z => nomatch z
      · exact ra.own' a z
    have A12 : Aft φ fs H φ1 fs1 ((D :: fa) ++ []) H2 := A1.both A2 ob
    rw [List.append_nil] at A12
    have hD2 : H2 D = some (.lst vs') := F2.keep _ _ hD1
    have ra2 : Reps T φ1 H2 vs' acc fa := ra.ext F2.ext (Pre.refl _) fun a _ _ h => F2.keep a _ h
    refine ⟨.dat ds[i], wipeE ρ vs, S1, φ1, [], fw, fs1, _, .dat rd, Gw, (List.nodup_append.mp Gw.nd).1, fun _ z => (nomatch z), h1, fun ρ3 σ3 fe3 q3 sub3 G3 hw => ⟨hw.trans (wipe_wipe σ vs vs fun _ z => z), ?_⟩⟩
    -- D and its items stand through the turn
    have ob2 : ∀ a ∈ D :: fa, H2 a ≠ none := fun a ha => by
      rcases List.mem_cons.mp ha with z | z
      · rw [z, hD2]; exact fun z => nomatch z
      · exact ra2.own' a z
    have stay : ∀ {H4 : Hp} {φ4 : Ob} {fs4 fm4 : List Addr}, Aft φ1 fs1 H2 φ4 fs4 fm4 H4 → H4 D = some (.lst vs') ∧ Reps T φ4 H4 vs' acc fa ∧ Aft φ fs H φ4 fs4 ((D :: fa) ++ fm4) H4 ∧ Ext H0 H4 ∧ Pre φ0 φ4 := fun {H4 φ4 fs4 fm4} B =>
      ⟨B.keep D _ (A12.disj D List.mem_cons_self) hD2, B.reps R2 ra2 (fun a ha => A12.disj a (List.mem_cons_of_mem _ ha)), A12.both B ob2, (ex1.trans F2.ext).trans (B.ext R2), pr1.trans B.pre⟩
    refine ⟨ρ3, S1, φ1, fe3, fs1, noX, _, G3, q3, fun _ _ _ _ _ _ _ z => z.elim, fun b S4 H4 φ4 fs4 q4 A4 R4 => ?_⟩
    have G4 := A4.good G3 R4
    cases b with
    | false =>
      obtain ⟨s1, s2, s3, s4, s5⟩ := stay A4
      rw [List.append_nil] at s3
      exact ⟨m - 1, by omega, by omega, acc, vs', fa, S4, φ4, fs4, q4, s3, s4, s5, s1, s2, R4⟩
    | true =>
      refine ⟨ρ3, S4, φ4, fe3, fs4, noX, _, G4, q4, fun _ _ _ _ _ _ _ z => z.elim, fun m5 S5 y H5 φ5 fs5 fm5 q5 A5 r5 R5 => ?_⟩
      obtain ⟨s1, s2, s3, s4, s5⟩ := stay (A4.trans A5)
      have nD : ∀ b ∈ fa ++ fm5, b ≠ D := fun b hb z => by
        have nd := (List.nodup_append.mp s3.nd).1
        exact (List.nodup_cons.mp nd).1 (z ▸ hb)
      have nM : D ∉ fs5 ++ φ5.ads := s3.disj D List.mem_cons_self
      have kp : ∀ b zs, b ∈ fa ++ fm5 → H5 b = some (.lst zs) → upd H5 D (.lst (vs' ++ [y])) b = some (.lst zs) := fun b zs hb h => by rw [upd_ne (nD b hb)]; exact h
      have A6 : Aft φ fs H φ5 fs5 (D :: (fa ++ fm5)) (upd H5 D (.lst (vs' ++ [y]))) := by
        refine ⟨s3.pre, fun a o n h => ?_, s3.new, s3.nd⟩
        rw [upd_ne fun z => ?_]; exact s3.keep a o n h
        subst z
        rcases s3.new a List.mem_cons_self with q | q
        · exact n q
        · rw [q] at h; cases h
      have rr : Reps T φ5 (upd H5 D (.lst (vs' ++ [y]))) (vs' ++ [y]) (acc ++ [m5]) (fa ++ (fm5 ++ [])) :=
        Reps.app (s2.ext (upd_ext s1) (Pre.refl _) fun b zs hb => kp b zs (List.mem_append_left _ hb)) (.cons (r5.ext (upd_ext s1) (Pre.refl _) fun b zs hb => kp b zs (List.mem_append_right _ hb)) .nil)
      rw [List.append_nil] at rr
      exact ⟨vs', s1, by rw [s2.len]; exact q5.1, m - 1, by omega, by omega, acc ++ [m5], vs' ++ [y], fa ++ fm5, S5, φ5, fs5, q5.2, A6, s4.trans (upd_ext s1), s5, upd_same, rr, R5.wr s1 nM⟩
/-- a comprehension's tests -/
def fYes : FT := fun _ S Q _ => Q true S
theorem PTs.weak {X : Cx} {ifs : List Expr} {t t' : TT} (h : PTs X ifs t) (k : ∀ σ H Q, t' σ H Q → t σ H Q) : PTs X ifs t' := ⟨fun pins s σ H Q I w => h.run pins s σ H Q I (k _ _ _ w)⟩
theorem fts_nil : PTs X [] (LT T W fYes) := PTs.weak pts_nil fun σ H Q ⟨ρ, S, φ, fe, fs, E, Qm, G, w, hx, k⟩ => k true S H φ fs w (Aft.refl G.ndS) G.sto
theorem fts_one {c : Expr} {tc : FT} (h : PT X c (LT T W tc)) : PTs X [c] (LT T W tc) := pts_one h
theorem fe_lc {elt tg iter : Expr} {ifs : List Expr} {scope : Scope} {own : List (Str × Nat)} {ti : FI} {g : FG} {c : FT} (hc : X.calm = true) (hN : X.N.Nodup) (hi : PI X tg iter (LI T W ti)) (ok : BlkOk X.N X.env.scope scope own)
    (hg : ∀ (s : Shared) (H : Hp) (C : Addr) (cl : List (Str × Addr)) (fp : List Addr), PG (X.blk s H scope (compEnvC scope cl C X.env) fp) tg (LG T (own.map (·.2)) g)) (ht : ∀ (s : Shared) (H : Hp) (C : Addr) (cl : List (Str × Addr)) (fp : List Addr), PTs (X.blk s H scope (compEnvC scope cl C X.env) fp) ifs (LT T W0 c))
    (he : ∀ (s : Shared) (H : Hp) (C : Addr) (cl : List (Str × Addr)) (fp : List Addr), PE (X.blk s H scope (compEnvC scope cl C X.env) fp) elt (LE T W0 t)) (hs : ∀ x, foldedSetIterable iter X.env x = pure x := by intro _; rfl) :
    PE X (.ListComp elt [⟨tg, iter, ifs, 0⟩] scope pos) (LE T W (fComp ti g c t (own.map (·.2)))) := PE.weak (pe_lc hc hN hi ok hg ht he hs) fun σ H Q h => lComp h
theorem fs_setLc {i : Nat} {y : Str} {py spos : Pos} {elt tg iter : Expr} {ifs : List Expr} {scope : Scope} {own : List (Str × Nat)} {ti : FI} {g : FG} {c : FT} (hc : X.calm = true) (hN : X.N.Nodup) (hy : X.N[i]? = some y) (hyl : X.env.scope.names.lookup y = some .local)
    (hsw : swapsWith (.ListComp elt [⟨tg, iter, ifs, 0⟩] scope pos) (some (.Name y py)) spos.line X.env = pure true) (hi : PI X tg iter (LI T W ti)) (ok : BlkOk X.N X.env.scope scope own)
    (hg : ∀ (s : Shared) (H : Hp) (C : Addr) (cl : List (Str × Addr)) (fp : List Addr), PG (X.blk s H scope (compEnvC scope cl C X.env) fp) tg (LG T (own.map (·.2)) g)) (ht : ∀ (s : Shared) (H : Hp) (C : Addr) (cl : List (Str × Addr)) (fp : List Addr), PTs (X.blk s H scope (compEnvC scope cl C X.env) fp) ifs (LT T W0 c))
    (he : ∀ (s : Shared) (H : Hp) (C : Addr) (cl : List (Str × Addr)) (fp : List Addr), PE (X.blk s H scope (compEnvC scope cl C X.env) fp) elt (LE T W0 t)) (hs : ∀ x, foldedSetIterable iter X.env x = pure x := by intro _; rfl) :
    PS X (.Assign [.Name y py] (.ListComp elt [⟨tg, iter, ifs, 0⟩] scope pos) spos) (LS T W (fAsg (fComp ti g c t (own.map (·.2))) (gN i))) :=
  PS.weak (ps_setLc hc hN hy hyl hsw hi ok hg ht he hs) fun D σ H h => by
    obtain ⟨ρ, S, φ, fe, fs, E, Qm, G, w, hx, k⟩ := lSet h
    exact lComp ⟨ρ, S, φ, fe, fs, E, Qm, G, w, hx, k⟩
end
end L2.Fn
/-! Fn, part G: slices, built-ins, methods of texts, items stored. -/
namespace L2.Fn
open PySem PySem.Spec PyProof.Rows

/-! ### slices -/
abbrev FO := Ev → Sto → (Option Int → Sto → Prop) → XP → Prop
def LO (T : Top) (W : WX) (t : FO) : TO := fun σ H Q => ∃ (ρ : Ev) (S : Sto) (φ : Ob) (fe fs : List Addr) (E : XP) (Qm : Option Int → Sto → Prop), Good T φ H σ ρ S fe fs ∧ t ρ S Qm E ∧ WxE T φ fs H σ E W ∧
  ∀ (m : Option Int) (S' : Sto) (H' : Hp) (φ' : Ob) (fs' : List Addr), Qm m S' → Aft φ fs H φ' fs' [] H' → RepS T H' φ' φ' S' fs' → Q m H'
def fNoP : FO := fun _ S Q _ => Q none S
def fPart (t : FE) : FO := fun ρ S Q E => t ρ S (fun m S' => match m with
  | .dat (.int i) => Q (some i) S'
  | _ => False) E
/-- the part from lo to hi, as Python cuts -/
def cutN {α : Type} (xs : List α) (lo hi : Option Int) : List α := (xs.drop (HT.sIx xs.length 0 lo)).take (HT.sIx xs.length xs.length hi - HT.sIx xs.length 0 lo)
def oSl (m : M) (lo hi : Option Int) (Q : M → Prop) : Prop := match m with
  | .dat (.str s) => s.length ≤ sizeLine ∧ Q (.dat (.str (cutN s lo hi)))
  | .dat (.tup ds) => Q (.dat (.tup (cutN ds lo hi)))
  | m => ∃ ds, m.ld = some ds ∧ Q (.lst ((cutN ds lo hi).map .dat))
section
variable {X : Cx} {T : Top} {W : WX} {e a b ej : Expr} {t ta tb tj tk : FE} {pos : Pos} {es : List Expr} {st : Stmt} {rest body : List Stmt} {u w : FS} {lo hi : Option Expr}
theorem PO.weak {e : Option Expr} {t t' : TO} (h : PO X e t) (k : ∀ σ H Q, t' σ H Q → t σ H Q) : PO X e t' := ⟨fun pins s σ H Q I w => h.run pins s σ H Q I (k _ _ _ w)⟩
theorem fo_none : PO X none (LO T W fNoP) := PO.weak po_none fun σ H Q ⟨ρ, S, φ, fe, fs, E, Qm, G, w, hx, k⟩ => k none S H φ fs w (Aft.refl G.ndS) G.sto
theorem fo_some (h : PE X e (LB T W t)) : PO X (some e) (LO T W (fPart t)) := PO.weak (po_some h) fun σ H Q ⟨ρ, S, φ, fe, fs, E, Qm, G, w, hx, k⟩ => by
  refine ⟨ρ, S, φ, fe, fs, E, _, G, w, hx, fun m S' v H' φ' fs' fm q A r d R' => ?_⟩
  cases r with
  | lst => exact q.elim
  | dat r =>
    cases r with
    | int i => exact ⟨i, rfl, k _ S' H' φ' fs' q A R'⟩
    | _ => exact q.elim
def rSlAll (K : PySem.W.Frag) : V → Option Int → Option Int → Hp → VK → Prop := fun x lo hi H Q => (rSlS x lo hi H Q ∨ rSlA K x lo hi H Q) ∨ rSlL K x lo hi H Q
theorem sl_all : SlR X (rSlAll X.K) := (sl_str.or sl_tupA).or sl_list
def fSl (t : FE) (tl th : FO) : FE := fun ρ S Q E => t ρ S (fun m S1 => tl ρ S1 (fun l S2 => th ρ S2 (fun h S3 => oSl m l h fun r => Q r S3) E) E) E
theorem cutV_eq (xs : List V) (lo hi : Option Int) : cutV xs lo hi = cutN xs lo hi := rfl
theorem FDs.cut {φ : Ob} {H : Hp} {xs : List V} {ds : List D} (r : FDs T φ H xs ds) (lo hi : Option Int) : FDs T φ H (cutN xs lo hi) (cutN ds lo hi) := by
  unfold cutN
  rw [r.len]
  exact (r.drop _).take _
theorem fe_slice {p2 : Pos} {tl th : FO} (hK : X.K = T.K) (he : PE X e (LB T W t)) (hl : PO X lo (LO T W tl)) (hu : PO X hi (LO T W th)) : PE X (.Subscript e (.Slice lo hi none p2) pos) (LE T W (fSl t tl th)) :=
  PE.weak (pe_slice sl_all he hl hu) fun σ H Q ⟨ρ, S, φ, fe, fs, E, Qm, G, w, hx, k⟩ => by
    refine ⟨ρ, S, φ, fe, fs, E, _, G, w, hx, fun m S1 v H1 φ1 fs1 f1 q1 A1 r1 d1 R1 => ?_⟩
    have G1 := A1.good G R1
    refine ⟨ρ, S1, φ1, fe, fs1, E, _, G1, q1, hx.aft A1, fun l S2 H2 φ2 fs2 q2 A2 R2 => ?_⟩
    have G2 := A2.good G1 R2
    refine ⟨ρ, S2, φ2, fe, fs2, E, _, G2, q2, (hx.aft A1).aft A2, fun h S3 H3 φ3 fs3 q3 A3 R3 => ?_⟩
    have A := (A1.trans A2).trans A3
    have r := (A2.trans A3).rep R1 r1 d1
    rw [hK]
    have lists : ∀ ds, m.ld = some ds → Qm (.lst ((cutN ds l h).map .dat)) S3 → rSlAll T.K v l h H3 Q := fun ds e q => by
      obtain ⟨a, xs, rfl, hs, rs⟩ := ld_ok r e
      refine .inr ⟨a, xs, rfl, hs, fun p hp => ?_⟩
      have F : Fresh H3 (upd H3 p (.lst (cutV xs l h))) [p] := Fresh.upd hp
      exact k _ S3 _ _ φ3 fs3 [p] q (A.trans (F.aft R3 A3.ndS)) (.lst upd_same ((rs.cut l h).ext F.ext (Pre.refl _)).reps) (F.sto R3)
    cases r with
    | lst hH rs =>
      obtain ⟨ds, e, q⟩ := q3
      exact lists ds e q
    | dat r =>
      cases r with
      | str s =>
        refine .inl (.inl ⟨_, rfl, by rw [str_len]; exact q3.1, ?_⟩)
        have e : cutS ⟨s.toArray⟩ l h = ⟨(cutN s l h).toArray⟩ := by
          unfold cutS cutN
          rw [str_len]
        rw [e]
        exact k _ S3 _ H3 φ3 fs3 [] q3.2 A (.dat (.str _)) R3
      | @tup a xs ds hs rs =>
        refine .inl (.inr ⟨a, xs, rfl, hs, fun hw => ?_, fun hw p hp => ?_⟩)
        · refine k _ S3 _ H3 φ3 fs3 [] q3 A (.dat (.tup hs ?_)) R3
          have e : cutN ds l h = ds := by
            unfold cutN
            rw [← rs.len, hw.1, hw.2, rs.len, List.drop_zero, Nat.sub_zero, List.take_length]
          rw [e]
          exact rs
        · have F : Fresh H3 (upd H3 p (.tup (cutV xs l h))) [] := Fresh.upd0 hp
          exact k _ S3 _ _ φ3 fs3 [] q3 (A.trans (F.aft R3 A3.ndS)) (.dat (.tup (SqT.of upd_same) ((rs.cut l h).ext F.ext (Pre.refl _)))) (F.sto R3)
      | @lst a xs ds hs rs =>
        obtain ⟨ds, e, q⟩ := q3
        exact lists ds e q
      | _ =>
        obtain ⟨ds, e, q⟩ := q3
        cases e

/-! ### len, int, str, tuple, list -/
def oLen (ms : List M) (Q : M → Prop) : Prop := match ms with
  | [.dat (.str s)] => s.length ≤ sizeLine ∧ Q (.dat (.int s.length))
  | [.dat (.tup l)] => Q (.dat (.int l.length))
  | [.dat (.lst l)] => Q (.dat (.int l.length))
  | [.lst l] => Q (.dat (.int l.length))
  | _ => False
theorem o_len : OpN T (fun xs H Q => ∃ x n, xs = [x] ∧ LenV T.K x H n ∧ Q (.int n) H) oLen := by
  intro φ H vs ms f Q Qm r w k
  unfold oLen at w
  split at w
  · cases r with
    | cons x r =>
      cases r
      cases x with
      | dat x =>
        cases x with
        | str s => exact ⟨_, _, rfl, ⟨by rw [str_len]; exact w.1, rfl⟩, by rw [str_len]; exact k _ _ H [] w.2 (Fresh.refl H) (.dat (.int _))⟩
  · cases r with
    | cons x r =>
      cases r
      cases x with
      | dat x =>
        cases x with
        | tup h rs => exact ⟨_, _, rfl, .inr ⟨_, h, rfl⟩, by rw [rs.len]; exact k _ _ H [] w (Fresh.refl H) (.dat (.int _))⟩
  · cases r with
    | cons x r =>
      cases r
      cases x with
      | dat x =>
        cases x with
        | lst h rs => exact ⟨_, _, rfl, .inl ⟨_, h.seq, rfl⟩, by rw [rs.len]; exact k _ _ H [] w (Fresh.refl H) (.dat (.int _))⟩
  · cases r with
    | cons x r =>
      cases r
      cases x with
      | lst h rs => exact ⟨_, _, rfl, .inl ⟨_, SqL.of h, rfl⟩, by rw [rs.len]; exact k _ _ H [] w (Fresh.refl H) (.dat (.int _))⟩
  · exact w.elim
def oIntC (ms : List M) (Q : M → Prop) : Prop := match ms with
  | [.dat (.int i)] => Q (.dat (.int i))
  | [.dat (.bl b)] => Q (.dat (.int (if b then 1 else 0)))
  | _ => False
theorem o_intC : OpN T (fun xs H Q => (∃ i, xs = [.int i] ∧ Q (.int i) H) ∨ ∃ k, xs = [.bl k] ∧ Q (.int (if k then 1 else 0)) H) oIntC := by
  intro φ H vs ms f Q Qm r w k
  unfold oIntC at w
  split at w
  · cases r with
    | cons x r =>
      cases r
      cases x with
      | dat x =>
        cases x
        exact .inl ⟨_, rfl, k _ _ H [] w (Fresh.refl H) (.dat (.int _))⟩
  · cases r with
    | cons x r =>
      cases r
      cases x with
      | dat x =>
        cases x
        exact .inr ⟨_, rfl, k _ _ H [] w (Fresh.refl H) (.dat (.int _))⟩
  · exact w.elim
/-- the decimal figures of a number -/
def decN (i : Int) : List Nat := (toString i).toList.map Char.toNat
def oStrI (ms : List M) (Q : M → Prop) : Prop := match ms with
  | [.dat (.int i)] => i.natAbs.log2 < 1920 ∧ Q (.dat (.str (decN i)))
  | _ => False
theorem o_strI : OpN T (fun xs H Q => ∃ i : Int, xs = [.int i] ∧ i.natAbs.log2 < 1920 ∧ Q (.str (toString i)) H) oStrI := by
  intro φ H vs ms f Q Qm r w k
  unfold oStrI at w
  split at w
  · cases r with
    | cons x r =>
      cases r
      cases x with
      | dat x =>
        cases x
        refine ⟨_, rfl, w.1, ?_⟩
        rw [Str.ofString_eq_toList]
        exact k _ _ H [] w.2 (Fresh.refl H) (.dat (.str _))
  · exact w.elim
def oTupC (ms : List M) (Q : M → Prop) : Prop := match ms with
  | [.dat (.tup ds)] => Q (.dat (.tup ds))
  | [m] => ∃ ds, m.ld = some ds ∧ Q (.dat (.tup ds))
  | _ => False
theorem o_tupC : OpN T (fun xs H Q => ∃ p ys, xs = [.ref p] ∧ ((SqL T.K H p ys ∧ ∀ l, H l = none → Q (.ref l) (upd H l (.tup ys))) ∨ (SqT T.K H p ys ∧ Q (.ref p) H))) oTupC := by
  intro φ H vs ms f Q Qm r w k
  unfold oTupC at w
  split at w
  · cases r with
    | cons x r =>
      cases r
      cases x with
      | dat x =>
        cases x with
        | tup h rs => exact ⟨_, _, rfl, .inr ⟨h, k _ _ H [] w (Fresh.refl H) (.dat (.tup h rs))⟩⟩
  · obtain ⟨ds, e, w⟩ := w
    cases r with
    | cons x r =>
      cases r
      obtain ⟨a, xs, rfl, h, rs⟩ := ld_ok x e
      refine ⟨a, xs, rfl, .inl ⟨h, fun l hl => ?_⟩⟩
      have F : Fresh H (upd H l (.tup xs)) [] := Fresh.upd0 hl
      exact k _ _ _ [] w F (.dat (.tup (SqT.of upd_same) (rs.ext F.ext (Pre.refl _))))
  · exact w.elim
def oLstC (ms : List M) (Q : M → Prop) : Prop := match ms with
  | [.dat (.tup ds)] => Q (.lst (ds.map .dat))
  | [m] => ∃ ds, m.ld = some ds ∧ Q (.lst (ds.map .dat))
  | _ => False
theorem o_lstC : OpN T (fun xs H Q => ∃ p ys, xs = [.ref p] ∧ (SqL T.K H p ys ∨ SqT T.K H p ys) ∧ ∀ l, H l = none → Q (.ref l) (upd H l (.lst ys))) oLstC := by
  intro φ H vs ms f Q Qm r w k
  have fin : ∀ (xs : List V) (ds : List D), FDs T φ H xs ds → Qm (.lst (ds.map .dat)) → ∀ l, H l = none → Q (.ref l) (upd H l (.lst xs)) := fun xs ds rs w l hl => by
    have F : Fresh H (upd H l (.lst xs)) [l] := Fresh.upd hl
    exact k _ _ _ [l] w F (.lst upd_same (rs.ext F.ext (Pre.refl _)).reps)
  unfold oLstC at w
  split at w
  · cases r with
    | cons x r =>
      cases r
      cases x with
      | dat x =>
        cases x with
        | tup h rs => exact ⟨_, _, rfl, .inr h, fin _ _ rs w⟩
  · obtain ⟨ds, e, w⟩ := w
    cases r with
    | cons x r =>
      cases r
      obtain ⟨a, xs, rfl, h, rs⟩ := ld_ok x e
      exact ⟨a, xs, rfl, .inl h, fin _ _ rs w⟩
  · exact w.elim

/-! ### isinstance(x, T), T a built-in class by its name -/
def M.ty : M → Option String
  | .dat .non => some "NoneType"
  | .dat (.bl _) => some "bool"
  | .dat (.int _) => some "int"
  | .dat (.str _) => some "str"
  | .dat (.tup _) => some "tuple"
  | .dat (.lst _) => some "list"
  | .lst _ => some "list"
  | _ => none
theorem ty_ok {φ : Ob} {H : Hp} {v : V} {m : M} {f : List Addr} (r : Rep T φ H v m f) {n : String} (e : m.ty = some n) : TyX T.K H v (.type n) := by
  cases r with
  | lst h rs => cases e; exact .base (.lst h)
  | dat r =>
    cases r with
    | non => cases e; exact .base .non
    | bl b => cases e; exact .base (.bl b)
    | int i => cases e; exact .base (.int i)
    | str s => cases e; exact .base (.str _)
    | tup h rs =>
      cases e
      rcases h with (h | ⟨o, h⟩) | ⟨o, its, n, hk, hc, _⟩
      · exact .base (.tup h)
      · exact .fTuple h
      · exact .kTuple hk hc
    | lst h rs =>
      cases e
      rcases h with ⟨o, h⟩ | ⟨o, its, n, hk, hc, _⟩
      · exact .base (.frz h)
      · exact .kList hk hc
    | obj => cases e
    | fn => cases e
def fIsi (t : FE) (n : String) : FE := fun ρ S Q E => t ρ S (fun m S' => ∃ k, m.ty = some k ∧ ∃ b, kitB k n = some b ∧ Q (.dat (.bl b)) S') E
theorem fe_isi {p pn : Pos} {n : String} {nm : Str} (hK : X.K = T.K) (he : PE X e (LB T W t)) (hn : PE X (.Name nm pn) (tC (.ty n))) (hg : Gl X "isinstance") (hm : X.mg "isinstance" = none)
    (hs : starEach [e, .Name nm pn] X.env = (false, eval e X.env) :: starEach [.Name nm pn] X.env := by rfl) (hs2 : starEach [.Name nm pn] X.env = (false, eval (.Name nm pn) X.env) :: starEach [] X.env := by rfl)
    (hpl : (backTo pos (starEach [.Name nm pn] X.env)).any (·.1) = false := by rfl) :
    PE X (.Call (.Name "isinstance" p) [e, .Name nm pn] [] pos) (LE T W (fIsi t n)) :=
  PE.weak (pe_callB call_isi hg hm (by decide +kernel) (pa_cons he (pa_cons hn pa_nil hs2) hs) (by decide) (by decide) hs hpl) fun σ H Q ⟨ρ, S, φ, fe, fs, E, Qm, G, w, hx, k⟩ => by
    refine ⟨ρ, S, φ, fe, fs, E, _, G, w, hx, fun m S' v H' φ' fs' fm q A r d R' => ?_⟩
    obtain ⟨kk, e1, b, e2, q⟩ := q
    refine ⟨v, .ty n, .type kk, .type n, b, rfl, .ty n, by rw [hK]; exact ty_ok r e1, kit_ty e2, ?_⟩
    exact k _ S' _ H' φ' fs' [] q A (.dat (.bl b)) R'

/-! ### methods of texts -/
def fM1 (o : List Nat → List M → (M → Prop) → Prop) (t : FE) (ta : FA) : FE := fun ρ S Q E => t ρ S (fun m S1 => match m with
  | .dat (.str s) => ta ρ S1 (fun ms S2 => o s ms fun r => Q r S2) E
  | _ => False) E
def OpS (T : Top) (r : V → List V → Hp → VK → Prop) (o : List Nat → List M → (M → Prop) → Prop) : Prop := ∀ (φ : Ob) (H : Hp) (s : List Nat) (vs : List V) (ms : List M) (f : List Addr) (Q : VK) (Qm : M → Prop), Reps T φ H vs ms f → o s ms Qm →
  (∀ m v H' fm, Qm m → Fresh H H' fm → Rep T φ H' v m fm → Q v H') → r (.str ⟨s.toArray⟩) vs H Q
theorem lM1 {o : List Nat → List M → (M → Prop) → Prop} {ta : FA} {r : V → List V → Hp → VK → Prop} {σ : St} {H : Hp} {Q : VK} {c : V → Hp → Prop} (h2 : OpS T r o) (hc : ∀ s H, c (.str s) H) (h : LE T W (fM1 o t ta) σ H Q) : LB T W t σ H fun x H1 => c x H1 ∧ LAB T W ta σ H1 fun xs H2 => r x xs H2 Q := by
  obtain ⟨ρ, S, φ, fe, fs, E, Qm, G, w, hx, k⟩ := h
  refine ⟨ρ, S, φ, fe, fs, E, _, G, w, hx, fun m S1 v H1 φ1 fs1 f1 q1 A1 r1 d1 R1 => ?_⟩
  cases r1 with
  | lst => exact q1.elim
  | dat r1 =>
    cases r1 with
    | str s =>
      refine ⟨hc _ _, ρ, S1, φ1, fe, fs1, E, _, A1.good G R1, q1, hx.aft A1, fun ms S2 vs H2 φ2 fs2 f2 q2 A2 r2 d2 R2 => ?_⟩
      refine h2 φ2 H2 s vs ms f2 Q _ r2 q2 fun m v H' fm q F r => ?_
      exact k m S2 v H' φ2 fs2 fm q ((A1.trans A2).trans (F.aft R2 A2.ndS)) r (F.sto R2)
    | _ => exact q1.elim
theorem fe_strM {name : Str} {id : String} {apos cpos : Pos} {r : V → List V → Hp → VK → Prop} {o : List Nat → List M → (M → Prop) → Prop} {ta : FA} (slot : Slot "str" name id) (hty : typeOf (.builtin id) = pure (.type "method_descriptor")) (hm : MtR X id r) (h2 : OpS T r o)
    (ho : PE X b (LB T W t)) (ha : PA X (e :: es) (LAB T W ta))
    (hbase : attributeBase b name X.env (eval b X.env) = eval b X.env := by rfl)
    (hpl : (((backTo cpos (starEach (e :: es) X.env)).all fun x => !x.1) && (backToKw cpos (keywordEach [] X.env)).all (fun x => x.1.isSome) && decide ((e :: es).length + ([] : List Keyword).length + (if ([] : List Keyword).isEmpty then 0 else 1) < 30)) = true := by rfl)
    (hline : (apos.endLine == cpos.line) = true := by rfl) (h3 : starEach (e :: es) X.env = (false, eval e X.env) :: starEach es X.env := by rfl) (h4 : (backTo cpos (starEach es X.env)).any (·.1) = false := by rfl) :
    PE X (.Call (.Attribute b name apos) (e :: es) [] cpos) (LE T W (fM1 o t ta)) :=
  PE.weak (pe_bm PySem.F.plainAttrs_str slot hty hm ho ha hbase hpl hline h3 h4) fun σ H Q h => lM1 (c := fun x H1 => tyV X.K "str" x H1) h2 (fun _ _ => rfl) h
/-- where the sign c stands, from lo on, ahead of hi -/
def FindS (s : List Nat) (c : Nat) (lo : Int) (k : Int) : Prop := (k = -1 ∧ ∀ v : Nat, lo ≤ v → s[v]? ≠ some c) ∨ ∃ n : Nat, k = n ∧ lo ≤ n ∧ s[n]? = some c ∧ ∀ v : Nat, lo ≤ v → v < n → s[v]? ≠ some c
def oFind3 (s : List Nat) (ms : List M) (Q : M → Prop) : Prop := match ms with
  | [.dat (.str [c]), .dat (.int i)] => 0 ≤ i ∧ ∀ k, FindS s c i k → Q (.dat (.int k))
  | _ => False
theorem fromIx {n : Nat} {i : Int} (h : 0 ≤ i) : (fromIndex n i : Int) = i := by
  unfold fromIndex
  rw [if_neg (by omega)]
  omega
theorem getD_iff {s : List Nat} {v c : Nat} (h : v < s.length) : ((⟨s.toArray⟩ : Str).cps.getD v 0 = c) ↔ s[v]? = some c := by
  rw [List.getElem?_eq_getElem h]
  have : (⟨s.toArray⟩ : Str).cps.getD v 0 = s[v] := by simp [Array.getD, h]
  rw [this]
  exact ⟨fun e => by rw [e], fun e => Option.some.inj e⟩
theorem o_find3 : OpS T (fun x xs H Q => ∃ (a b : Str) (i : Int), x = .str a ∧ xs = [.str b, .int i] ∧ Q (.int (Txt.find3 a b i)) H) oFind3 := by
  intro φ H s vs ms f Q Qm r w k
  unfold oFind3 at w
  split at w
  · cases r with
    | cons x r =>
      cases r with
      | cons y r =>
        cases r
        cases x with
        | dat x =>
          cases x
          cases y with
          | dat y =>
            cases y
            rename_i c i
            refine ⟨_, _, i, rfl, rfl, k _ _ H [] (w.2 _ ?_) (Fresh.refl H) (.dat (.int _))⟩
            have hl : (⟨s.toArray⟩ : Str).length = s.length := str_len s
            rcases PySem.StrLaws.find3_spec ⟨s.toArray⟩ c i with ⟨e, h⟩ | ⟨n, e, h1, h2, h3, h4⟩
            · rw [show (⟨[c].toArray⟩ : Str) = ⟨#[c]⟩ from rfl, e]
              refine .inl ⟨rfl, fun v hv hc => ?_⟩
              have hlt : v < s.length := (List.getElem?_eq_some_iff.mp hc).1
              exact h v (by have := fromIx (n := (⟨s.toArray⟩ : Str).length) w.1; omega) (by rw [hl]; exact hlt) ((getD_iff hlt).mpr hc)
            · rw [show (⟨[c].toArray⟩ : Str) = ⟨#[c]⟩ from rfl, e]
              rw [hl] at h2
              refine .inr ⟨n, rfl, by have := fromIx (n := (⟨s.toArray⟩ : Str).length) w.1; omega, (getD_iff h2).mp h3, fun v hv hv2 hc => ?_⟩
              have hlt : v < s.length := (List.getElem?_eq_some_iff.mp hc).1
              exact h4 v (by have := fromIx (n := (⟨s.toArray⟩ : Str).length) w.1; omega) hv2 ((getD_iff hlt).mpr hc)
  · exact w.elim
/-- where the last sign c stands, ahead of hi -/
def RFindS (s : List Nat) (c : Nat) (lo hi : Int) (k : Int) : Prop := (k = -1 ∧ ∀ v : Nat, lo ≤ v → v < hi → s[v]? ≠ some c) ∨ ∃ n : Nat, k = n ∧ lo ≤ n ∧ n < hi ∧ s[n]? = some c ∧ ∀ v : Nat, n < v → v < hi → s[v]? ≠ some c
theorem last_spec (s sub : Str) (lo hi : Nat) : ∀ r, Builtin.Str.lastOccurrence s sub lo hi = r → match r with
    | none => ∀ i, lo ≤ i → i < hi + 1 → ¬ (i + sub.length ≤ hi ∧ Builtin.Str.subAt s sub i = true)
    | some n => lo ≤ n ∧ (n + sub.length ≤ hi ∧ Builtin.Str.subAt s sub n = true) ∧ ∀ i, n < i → i < hi + 1 → ¬ (i + sub.length ≤ hi ∧ Builtin.Str.subAt s sub i = true) := by
  intro r hr
  unfold Builtin.Str.lastOccurrence at hr
  simp only [Std.Legacy.Range.forIn_eq_forIn_range', Std.Legacy.Range.size] at hr
  have key : ∀ (l : List Nat) (z : Option Nat) (a : Nat), l = List.range' a l.length → (∀ n, z = some n → n < a) → ∀ r, (forIn (m := Id) l z fun i last => if (decide (i + sub.length ≤ hi) && Builtin.Str.subAt s sub i) = true then pure (ForInStep.yield (some i)) else pure (ForInStep.yield last)).run = r →
      match r with
      | none => z = none ∧ ∀ i, a ≤ i → i < a + l.length → ¬ (i + sub.length ≤ hi ∧ Builtin.Str.subAt s sub i = true)
      | some n => (z = some n ∨ (a ≤ n ∧ n + sub.length ≤ hi ∧ Builtin.Str.subAt s sub n = true)) ∧ ∀ i, a ≤ i → n < i → i < a + l.length → ¬ (i + sub.length ≤ hi ∧ Builtin.Str.subAt s sub i = true) := by
    intro l
    induction l with
    | nil =>
      intro z a _ _ r h
      simp at h
      subst h
      cases z with
      | none => exact ⟨rfl, fun i h1 h2 => by simp at h2; omega⟩
      | some n => exact ⟨.inl rfl, fun i h1 _ h2 => by simp at h2; omega⟩
    | cons x l ih =>
      intro z a hl hz r h
      rw [List.length_cons, List.range'_succ] at hl
      injection hl with h1 h2
      subst h1
      rw [List.forIn_cons] at h
      by_cases hc : (decide (x + sub.length ≤ hi) && Builtin.Str.subAt s sub x) = true
      · rw [if_pos hc] at h
        simp only [pure_bind] at h
        have hc' := hc
        rw [Bool.and_eq_true, decide_eq_true_eq] at hc'
        have := ih (some x) (x + 1) h2 (fun n e => by cases e; omega) r h
        cases r with
        | none => exact absurd this.1 (by simp)
        | some n =>
          refine ⟨.inr ?_, fun i q1 q2 q3 => ?_⟩
          · rcases this.1 with e | e
            · cases e; exact ⟨Nat.le_refl _, hc'⟩
            · exact ⟨by omega, e.2⟩
          · by_cases hxi : x = i
            · subst hxi
              rcases this.1 with e | e
              · cases e; omega
              · omega
            · exact this.2 i (by omega) q2 (by rw [List.length_cons] at q3; omega)
      · rw [if_neg hc] at h
        simp only [pure_bind] at h
        have hc' : ¬ (x + sub.length ≤ hi ∧ Builtin.Str.subAt s sub x = true) := fun q => hc (by rw [Bool.and_eq_true, decide_eq_true_eq]; exact q)
        have := ih z (x + 1) h2 (fun n e => by have := hz n e; omega) r h
        cases r with
        | none =>
          refine ⟨this.1, fun i q1 q2 => ?_⟩
          by_cases hxi : x = i
          · subst hxi; exact hc'
          · exact this.2 i (by omega) (by rw [List.length_cons] at q2; omega)
        | some n =>
          refine ⟨this.1.imp id fun e => ⟨by omega, e.2⟩, fun i q1 q2 q3 => ?_⟩
          by_cases hxi : x = i
          · subst hxi; exact hc'
          · exact this.2 i (by omega) q2 (by rw [List.length_cons] at q3; omega)
  have := key (List.range' lo (hi + 1 - lo)) none lo (by simp) (fun n e => by cases e) r (by
    rw [← hr]
    simp)
  cases r with
  | none => exact fun i h1 h2 => this.2 i h1 (by simp; omega)
  | some n =>
    rcases this.1 with e | e
    · cases e
    · exact ⟨e.1, e.2, fun i h1 h2 => this.2 i (by omega) h1 (by simp; omega)⟩
theorem subAt_sign {s : List Nat} {c v : Nat} : ((v + (⟨#[c]⟩ : Str).length ≤ s.length) ∧ Builtin.Str.subAt ⟨s.toArray⟩ ⟨#[c]⟩ v = true) ↔ s[v]? = some c := by
  have e1 : (⟨#[c]⟩ : Str).length = 1 := rfl
  rw [e1, PySem.StrLaws.subAt_eq]
  show _ ∧ (((s.drop v).take 1 == [c]) = true) ↔ _
  constructor
  · rintro ⟨h1, h2⟩
    have h2 : (s.drop v).take 1 = [c] := by simpa using h2
    have h3 : ((s.drop v).take 1)[0]? = some c := by rw [h2]; rfl
    rw [List.getElem?_take, List.getElem?_drop] at h3
    simpa using h3
  · intro h
    obtain ⟨h1, h2⟩ := List.getElem?_eq_some_iff.mp h
    refine ⟨by omega, ?_⟩
    rw [List.drop_eq_getElem_cons h1, h2]
    simp
def oRFind4 (s : List Nat) (ms : List M) (Q : M → Prop) : Prop := match ms with
  | [.dat (.str [c]), .dat (.int i), .dat (.int j)] => 0 ≤ i ∧ 0 ≤ j ∧ j ≤ s.length ∧ ∀ k, RFindS s c i j k → Q (.dat (.int k))
  | _ => False
theorem o_rfind4 : OpS T (fun x xs H Q => ∃ (a b : Str) (i j : Int), x = .str a ∧ xs = [.str b, .int i, .int j] ∧ Q (.int (Txt.rfindIn a b i j)) H) oRFind4 := by
  intro φ H s vs ms f Q Qm r w k
  unfold oRFind4 at w
  split at w
  · rename_i c i j
    cases r with
    | cons x r =>
      cases r with
      | cons y r =>
        cases r with
        | cons z r =>
          cases r
          cases x with
          | dat x =>
            cases x
            cases y with
            | dat y =>
              cases y
              cases z with
              | dat z =>
                cases z
                refine ⟨_, _, i, j, rfl, rfl, k _ _ H [] (w.2.2.2 _ ?_) (Fresh.refl H) (.dat (.int _))⟩
                have hl : (⟨s.toArray⟩ : Str).length = s.length := str_len s
                have hi := fromIx (n := (⟨s.toArray⟩ : Str).length) w.1
                have hj : (toIndexW (⟨s.toArray⟩ : Str).length j : Int) = j := by
                  unfold toIndexW
                  rw [hl, if_neg (by omega)]
                  have := w.2.2.1
                  omega
                show RFindS s c i j (Txt.rfindIn ⟨s.toArray⟩ ⟨#[c]⟩ i j)
                unfold Txt.rfindIn
                have sp := last_spec ⟨s.toArray⟩ ⟨#[c]⟩ (fromIndex (⟨s.toArray⟩ : Str).length i) (toIndexW (⟨s.toArray⟩ : Str).length j) _ rfl
                have one : (⟨#[c]⟩ : Str).length = 1 := rfl
                have sg : ∀ v : Nat, v < j → s[v]? = some c → (v + (⟨#[c]⟩ : Str).length ≤ toIndexW (⟨s.toArray⟩ : Str).length j ∧ Builtin.Str.subAt ⟨s.toArray⟩ ⟨#[c]⟩ v = true) := fun v hv hc => by
                  obtain ⟨q1, q2⟩ := subAt_sign.mpr hc
                  exact ⟨by rw [one]; omega, q2⟩
                generalize Builtin.Str.lastOccurrence ⟨s.toArray⟩ ⟨#[c]⟩ (fromIndex (⟨s.toArray⟩ : Str).length i) (toIndexW (⟨s.toArray⟩ : Str).length j) = res at sp
                cases res with
                | none => exact .inl ⟨rfl, fun v h1 h2 hc => sp v (by omega) (by omega) (sg v h2 hc)⟩
                | some n =>
                  obtain ⟨s1, s2, s3⟩ := sp
                  have h2 : (n : Int) < j := by have := s2.1; rw [one] at this; omega
                  have h3 : s[n]? = some c := subAt_sign.mp ⟨by have := w.2.2.1; rw [one]; omega, s2.2⟩
                  exact .inr ⟨n, rfl, by omega, h2, h3, fun v q1 q2 hc => s3 v q1 (by omega) (sg v q2 hc)⟩
  · exact w.elim
/-- sep.join of texts -/
def textsOf : List D → Option (List (List Nat))
  | [] => some []
  | .str s :: r => (textsOf r).map (s :: ·)
  | _ :: _ => none
def M.sq (m : M) : Option (List D) := match m with
  | .dat (.tup ds) => some ds
  | m => m.ld
def oJoin (sep : List Nat) (ms : List M) (Q : M → Prop) : Prop := match ms with
  | [m] => ∃ ds, m.sq = some ds ∧ ∃ ps, textsOf ds = some ps ∧ (ps.map List.length).sum + ps.length * sep.length ≤ 16777216 ∧ Q (.dat (.str (TL.joinL sep ps)))
  | _ => False
theorem textsOf_ok {φ : Ob} {H : Hp} : ∀ {vs : List V} {ds : List D} {ps : List (List Nat)}, FDs T φ H vs ds → textsOf ds = some ps → vs = (ps.map fun s => (⟨s.toArray⟩ : Str)).map V.str
  | _, _, ps, .nil, e => by cases e; rfl
  | _, _, ps, .cons (d := d) (ds := ds) x r, e => by
    cases x with
    | str s =>
      rw [textsOf] at e
      cases q : textsOf ds with
      | none => rw [q] at e; cases e
      | some qs =>
        rw [q] at e
        cases e
        rw [textsOf_ok r q] <;> rfl
    | _ => cases e
theorem o_join : OpS T (fun x xs H Q => ∃ a p, ∃ ys : List Str, x = .str a ∧ xs = [.ref p] ∧ (SqL T.K H p (ys.map V.str) ∨ SqT T.K H p (ys.map V.str)) ∧ (ys.map (·.length)).sum + ys.length * a.length ≤ 16777216 ∧ Q (.str (Txt.join a ys)) H) oJoin := by
  intro φ H s vs ms f Q Qm r w k
  unfold oJoin at w
  split at w
  · obtain ⟨ds, e1, ps, e2, hz, w⟩ := w
    cases r with
    | @cons v _ m _ f0 _ x r =>
      cases r
      have fin : ∀ (p : Addr) (xs : List V), v = .ref p → (SqL T.K H p xs ∨ SqT T.K H p xs) → FDs T φ H xs ds → ∃ a p, ∃ ys : List Str, V.str ⟨s.toArray⟩ = .str a ∧ [v] = [V.ref p] ∧ (SqL T.K H p (ys.map V.str) ∨ SqT T.K H p (ys.map V.str)) ∧ (ys.map (·.length)).sum + ys.length * a.length ≤ 16777216 ∧ Q (.str (Txt.join a ys)) H := fun p xs e hs rs => by
        rw [textsOf_ok rs e2] at hs
        refine ⟨_, p, _, rfl, by rw [e], hs, ?_, ?_⟩
        · rw [List.map_map, List.length_map, str_len]
          have : (List.map ((fun x => x.length) ∘ fun (s : List Nat) => (⟨s.toArray⟩ : Str)) ps) = ps.map List.length := List.map_congr_left fun a _ => str_len a
          rw [this]
          exact hz
        · have e3 : Txt.join ⟨s.toArray⟩ (ps.map fun s => (⟨s.toArray⟩ : Str)) = ⟨(TL.joinL s ps).toArray⟩ := by
            apply TL.ext_tl
            rw [TL.join_eq, TL.tl_join]
            show TL.joinL s _ = TL.joinL s ps
            rw [List.map_map]
            have : (List.map (TL.tl ∘ fun (s : List Nat) => (⟨s.toArray⟩ : Str)) ps) = ps := by
              have : (TL.tl ∘ fun (s : List Nat) => (⟨s.toArray⟩ : Str)) = id := by funext a; rfl
              rw [this, List.map_id]
            rw [this]
          rw [e3]
          exact k _ _ H [] w (Fresh.refl H) (.dat (.str _))
      unfold M.sq at e1
      split at e1
      · cases e1
        cases x with
        | dat x =>
          cases x with
          | tup h rs => exact fin _ _ rfl (.inr h) rs
      · obtain ⟨a, xs, e, h, rs⟩ := ld_ok x e1
        exact fin a xs e (.inl h) rs
  · exact w.elim
theorem fe_join {apos cpos : Pos} (hK : X.K = T.K) (hb : PE X b (LB T W t)) (he : PE X e (LB T W ta)) (hs : starEach [e] X.env = [(false, eval e X.env)] := by rfl) (hbase : attributeBase b "join" X.env (eval b X.env) = eval b X.env := by rfl) (hline : (apos.endLine == cpos.line) = true := by rfl) :
    PE X (.Call (.Attribute b "join" apos) [e] [] cpos) (LE T W (fM1 oJoin t (fCons ta fNil))) :=
  PE.weak (pe_join hb he hs hbase hline) fun σ H Q ⟨ρ, S, φ, fe, fs, E, Qm, G, w, hx, k⟩ => by
    refine ⟨ρ, S, φ, fe, fs, E, _, G, w, hx, fun m S1 v H1 φ1 fs1 f1 q1 A1 r1 d1 R1 => ?_⟩
    cases r1 with
    | lst => exact q1.elim
    | dat r1 =>
      cases r1 with
      | str s =>
        refine ⟨⟨_, rfl⟩, ρ, S1, φ1, fe, fs1, E, _, A1.good G R1, q1, hx.aft A1, fun m2 S2 v2 H2 φ2 fs2 f2 q2 A2 r2 d2 R2 => ?_⟩
        rw [hK]
        have r2' : Reps T φ2 H2 [v2] [m2] (f2 ++ []) := .cons r2 .nil
        exact o_join φ2 H2 s [v2] [m2] _ Q (fun m => Qm m S2) r2' q2 fun m v H' fm q F r => k m S2 v H' φ2 fs2 fm q ((A1.trans A2).trans (F.aft R2 A2.ndS)) r (F.sto R2)
      | _ => exact q1.elim

/-! ### x[k] = e, x[j][k] = e -/
theorem ixN_lt {n : Nat} {i : Int} {j : Nat} (h : ixN n i = some j) : j < n := by
  unfold ixN at h
  split at h
  · split at h
    · cases h; omega
    · cases h
  · split at h
    · cases h; omega
    · cases h
def fSet0 (i : Nat) (tk t : FE) : FS := fun P ρ S => t ρ S (fun m S1 => ∃ ms, ρ[i]? = some (some (.lst ms)) ∧ tk ρ S1 (fun mk S2 => ∃ kk d, mk = .dat (.int kk) ∧ ixN ms.length kk = some d ∧ P.nx (ρ.set i (some (.lst (ms.set d m)))) S2) fun x S' => P.ex x ρ S') fun x S' => P.ex x ρ S'
theorem lSet0 {D : Ends} {σ : St} {H : Hp} {i : Nat} (h : LS T W (fSet0 i tk t) D σ H) : tAsg (LE T W t) (gSub (tVar i) (LB T W tk) rSetL) D σ H := by
  obtain ⟨ρ, S, φ, fe, fs, P, G, w, k⟩ := h
  refine ⟨ρ, S, φ, fe, fs, _, _, G, w, k.wx G, fun m S1 y H1 φ1 fs1 fm q1 A1 r1 R1 => ?_⟩
  have G1 := A1.good G R1
  obtain ⟨ms, hm, q1⟩ := q1
  obtain ⟨v, g, f1, f2, hv, r, e, wr⟩ := G1.env.at' hm
  have B1 : AftS φ fe fs H φ1 (fm ++ fe) fs1 H1 := A1.s
  have k1 := k.aft (B1.sub fun a z => List.mem_append_right fm z)
  refine ⟨v, hv, ρ, S1, φ1, fe, fs1, _, _, G1, q1, k1.wx G1, fun m2 S2 v2 H2 φ2 fs2 fm2 q2 A2 r2 d2 R2 => ?_⟩
  obtain ⟨kk, d, rfl, hd, q2⟩ := q2
  have G2 := A2.good G1 R2
  have ry := A2.rep R1 r1 A1.disj
  have A12 := A1.both A2 r1.own'
  rw [List.append_nil] at A12
  cases r2 with
  | dat r2 =>
    cases r2 with
    | int =>
      obtain ⟨v', g', f1', f2', hv', r', e', wr'⟩ := G2.env.at' hm
      rw [hv] at hv'
      cases hv'
      cases r' with
      | @lst a vs ms f hH rs =>
        have ap := A12.apart G.disj (fun b hb => by obtain ⟨zs, q⟩ := G.env.own b hb; rw [q]; exact fun z => nomatch z)
        have dj : ∀ b ∈ fm, b ∉ fe ++ (fs2 ++ φ2.ads) := fun b hb hc => by
          rcases List.mem_append.mp hc with hc | hc
          · exact ap b hc (List.mem_append_left _ hb)
          · exact A12.disj b hb hc
        have nde := (List.nodup_append.mp G2.nd).1
        have n1 := List.nodup_append.mp (e' ▸ nde)
        have n2 := (List.nodup_append.mp n1.2.1).1
        have afe : ∀ b ∈ a :: f, b ∈ fe := fun b hb => by rw [e']; exact List.mem_append_right _ (List.mem_append_left _ hb)
        have nda := List.nodup_cons.mp n2
        have ndf : (fm ++ f).Nodup := List.nodup_append.mpr ⟨(List.nodup_append.mp A1.nd).1, nda.2, fun b hb c hc z => by
          subst z
          exact dj b hb (List.mem_append_left _ (afe b (List.mem_cons_of_mem _ hc)))⟩
        have ex : Ext H2 (upd H2 a (.lst (vs.set d y))) := upd_ext hH
        have na : a ∉ f ++ fm := fun z => by
          rcases List.mem_append.mp z with z | z
          · exact nda.1 z
          · exact dj a z (List.mem_append_left _ (afe a List.mem_cons_self))
        have kp : ∀ b zs, b ∈ f ++ fm → H2 b = some (.lst zs) → upd H2 a (.lst (vs.set d y)) b = some (.lst zs) := fun b zs hb q => by
          rw [upd_ne fun z => na (by rw [← z]; exact hb)]; exact q
        obtain ⟨f', h1, h2, h3⟩ := Reps.set (ry.ext ex (Pre.refl _) fun b zs hb => kp b zs (List.mem_append_right _ hb)) (rs.ext ex (Pre.refl _) fun b zs hb => kp b zs (List.mem_append_left _ hb)) ndf (ixN_lt hd)
        have rr : Rep T φ2 (upd H2 a (.lst (vs.set d y))) (.ref a) (.lst (ms.set d m)) (a :: f') := .lst upd_same h1
        have hsub : ∀ b ∈ a :: f', b ∈ (a :: f) ++ fm := fun b hb => by
          rcases List.mem_cons.mp hb with z | z
          · rw [z]; exact List.mem_append_left _ List.mem_cons_self
          · rcases List.mem_append.mp (h2 b z) with z | z
            · exact List.mem_append_right _ z
            · exact List.mem_append_left _ (List.mem_cons_of_mem _ z)
        have nf : (a :: f').Nodup := List.nodup_cons.mpr ⟨fun z => na (by
          rcases List.mem_append.mp (h2 a z) with z | z
          · exact List.mem_append_right _ z
          · exact List.mem_append_left _ z), h3⟩
        obtain ⟨G3, A3⟩ := Good.wr (fm := fm) G2 e' List.mem_cons_self hH wr' rr hsub nf dj
        refine ⟨a, vs, kk, d, rfl, rfl, hH, by rw [rs.len]; exact hd, ?_⟩
        exact k.nx _ S2 σ _ φ2 _ fs2 q2 (A12.s.trans A3) G3
def fSet1 (i : Nat) (tj tk t : FE) : FS := fun P ρ S => t ρ S (fun m S1 => ∃ ms, ρ[i]? = some (some (.lst ms)) ∧ tj ρ S1 (fun mj S2 => ∃ kj c, mj = .dat (.int kj) ∧ ixN ms.length kj = some c ∧ ∃ ns, ms[c]? = some (.lst ns) ∧
  tk ρ S2 (fun mk S3 => ∃ kk d, mk = .dat (.int kk) ∧ ixN ns.length kk = some d ∧ P.nx (ρ.set i (some (.lst (ms.set c (.lst (ns.set d m)))))) S3) fun x S' => P.ex x ρ S') fun x S' => P.ex x ρ S') fun x S' => P.ex x ρ S'
theorem lSet1 {D : Ends} {σ : St} {H : Hp} {i : Nat} (hK : X.K = T.K) (h : LS T W (fSet1 i tj tk t) D σ H) : tAsg (LE T W t) (gSub (tOp (rIx X.K) (tVar i) (LB T W tj)) (LB T W tk) rSetL) D σ H := by
  obtain ⟨ρ, S, φ, fe, fs, P, G, w, k⟩ := h
  refine ⟨ρ, S, φ, fe, fs, _, _, G, w, k.wx G, fun m S1 y H1 φ1 fs1 fm q1 A1 r1 R1 => ?_⟩
  have G1 := A1.good G R1
  obtain ⟨ms, hm, q1⟩ := q1
  obtain ⟨v, g, f1, f2, hv, r, e, wr⟩ := G1.env.at' hm
  have k1 := k.aft ((A1.s (fe := fe)).sub fun a z => List.mem_append_right fm z)
  refine ⟨v, hv, ρ, S1, φ1, fe, fs1, _, _, G1, q1, k1.wx G1, fun mj S2 vj H2 φ2 fs2 fmj q2 A2 rj dj2 R2 => ?_⟩
  obtain ⟨kj, c, rfl, hc, ns, hns, q2⟩ := q2
  have G2 := A2.good G1 R2
  have k2 := k1.aft ((A2.s (fe := fe)).sub fun a z => z)
  cases rj with
  | dat rj =>
    cases rj with
    | int =>
      obtain ⟨v', g', f1', f2', hv', r', e', wr'⟩ := G2.env.at' hm
      rw [hv] at hv'
      cases hv'
      cases r' with
      | @lst a vs ms f hH rs =>
        obtain ⟨w2, g2, h21, h22, hw, rw2, ew, wrw⟩ := rs.at' hns
        rw [hK]
        refine .inl ⟨a, vs, kj, w2, rfl, rfl, SqL.of hH, by unfold atI; rw [rs.len, hc]; exact hw, ?_⟩
        refine ⟨ρ, S2, φ2, fe, fs2, _, _, G2, q2, k2.wx G2, fun m3 S3 v3 H3 φ3 fs3 fm3 q3 A3 r3 d3 R3 => ?_⟩
        obtain ⟨kk, d, rfl, hd, q3⟩ := q3
        have G3 := A3.good G2 R3
        have ry := (A2.trans A3).rep R1 r1 A1.disj
        have A13 := A1.both (A2.trans A3) r1.own'
        rw [List.append_nil] at A13
        cases r3 with
        | dat r3 =>
          cases r3 with
          | int =>
            obtain ⟨v'', g'', f1'', f2'', hv'', r'', e'', wr''⟩ := G3.env.at' hm
            rw [hv] at hv''
            cases hv''
            cases r'' with
            | @lst a' vs3 ms3 f3 hH3 rs3 =>
              have hHa : H3 a = some (.lst vs) := A3.keep a _ (G2.disj a (by rw [e']; exact List.mem_append_right _ (List.mem_append_left _ List.mem_cons_self))) hH
              rw [hHa] at hH3
              cases hH3
              obtain ⟨w3, g3, h31, h32, hw3, rw3, ew3, wrw3⟩ := rs3.at' hns
              rw [hw] at hw3
              cases hw3
              cases rw3 with
              | @lst b us ns fb hHb rsb =>
                have ap := A13.apart G.disj (fun b hb => by obtain ⟨zs, q⟩ := G.env.own b hb; rw [q]; exact fun z => nomatch z)
                have dj : ∀ b ∈ fm, b ∉ fe ++ (fs3 ++ φ3.ads) := fun b hb hc => by
                  rcases List.mem_append.mp hc with hc | hc
                  · exact ap b hc (List.mem_append_left _ hb)
                  · exact A13.disj b hb hc
                have nde := (List.nodup_append.mp G3.nd).1
                have n1 := List.nodup_append.mp (e'' ▸ nde)
                have n2 := (List.nodup_append.mp n1.2.1).1
                have afe : ∀ b ∈ a :: f3, b ∈ fe := fun b hb => by rw [e'']; exact List.mem_append_right _ (List.mem_append_left _ hb)
                have nda := List.nodup_cons.mp n2
                have n3 := List.nodup_append.mp (ew3 ▸ nda.2)
                have n4 := List.nodup_append.mp n3.2.1
                have ndb := List.nodup_cons.mp n4.1
                have bf3 : ∀ z ∈ b :: fb, z ∈ f3 := fun z hz => by rw [ew3]; exact List.mem_append_right _ (List.mem_append_left _ hz)
                have ndf : (fm ++ fb).Nodup := List.nodup_append.mpr ⟨(List.nodup_append.mp A1.nd).1, ndb.2, fun p hp q hq z => by
                  subst z
                  exact dj p hp (List.mem_append_left _ (afe p (List.mem_cons_of_mem _ (bf3 p (List.mem_cons_of_mem _ hq)))))⟩
                have ex : Ext H3 (upd H3 b (.lst (us.set d y))) := upd_ext hHb
                have nb : b ∉ fb ++ fm := fun z => by
                  rcases List.mem_append.mp z with z | z
                  · exact ndb.1 z
                  · exact dj b z (List.mem_append_left _ (afe b (List.mem_cons_of_mem _ (bf3 b List.mem_cons_self))))
                have kp : ∀ p zs, p ≠ b → H3 p = some (.lst zs) → upd H3 b (.lst (us.set d y)) p = some (.lst zs) := fun p zs hp q => by rw [upd_ne hp]; exact q
                obtain ⟨f', h1, h2, h3⟩ := Reps.set (ry.ext ex (Pre.refl _) fun p zs hp => kp p zs fun z => nb (by rw [← z]; exact List.mem_append_right _ hp)) (rsb.ext ex (Pre.refl _) fun p zs hp => kp p zs fun z => nb (by rw [← z]; exact List.mem_append_left _ hp)) ndf (ixN_lt hd)
                have rrb : Rep T φ3 (upd H3 b (.lst (us.set d y))) (.ref b) (.lst (ns.set d m)) (b :: f') := .lst upd_same h1
                have nbf : b ∉ f' := fun z => nb (by
                  rcases List.mem_append.mp (h2 b z) with z | z
                  · exact List.mem_append_right _ z
                  · exact List.mem_append_left _ z)
                have rra := wrw3 φ3 _ (.lst (ns.set d m)) (b :: f') ex (Pre.refl _) (fun p zs hp => kp p zs fun z => by
                  subst z
                  rcases List.mem_append.mp hp with hp | hp
                  · exact n3.2.2 p hp p (List.mem_append_left _ List.mem_cons_self) rfl
                  · exact n4.2.2 p List.mem_cons_self p hp rfl) rrb
                have nab : a ≠ b := fun z => nda.1 (by rw [z]; exact bf3 b List.mem_cons_self)
                have rr : Rep T φ3 (upd H3 b (.lst (us.set d y))) (.ref a) (.lst (ms.set c (.lst (ns.set d m)))) (a :: (h31 ++ ((b :: f') ++ h32))) := .lst (by rw [upd_ne nab]; exact hHa) rra
                have fsub : ∀ p ∈ f', p ∈ fb ++ fm := fun p hp => by
                  rcases List.mem_append.mp (h2 p hp) with z | z
                  · exact List.mem_append_right _ z
                  · exact List.mem_append_left _ z
                have hsub : ∀ p ∈ a :: (h31 ++ ((b :: f') ++ h32)), p ∈ (a :: f3) ++ fm := fun p hp => by
                  rw [ew3]
                  simp only [List.mem_cons, List.mem_append] at hp ⊢
                  rcases hp with z | z | (z | z) | z
                  · exact .inl (.inl z)
                  · exact .inl (.inr (.inl z))
                  · exact .inl (.inr (.inr (.inl (.inl z))))
                  · rcases List.mem_append.mp (fsub p z) with z | z
                    · exact .inl (.inr (.inr (.inl (.inr z))))
                    · exact .inr z
                  · exact .inl (.inr (.inr (.inr z)))
                have fmf : ∀ p ∈ fm, p ∉ a :: f3 := fun p hp z => dj p hp (List.mem_append_left _ (afe p z))
                have nf : (a :: (h31 ++ ((b :: f') ++ h32))).Nodup := by
                  have in3 : ∀ p, p ∈ h31 ∨ p ∈ h32 → p ∈ f3 := fun p hp => by
                    rw [ew3]
                    rcases hp with z | z
                    · exact List.mem_append_left _ z
                    · exact List.mem_append_right _ (List.mem_append_right _ z)
                  refine List.nodup_cons.mpr ⟨fun z => ?_, List.nodup_append.mpr ⟨n3.1, List.nodup_append.mpr ⟨List.nodup_cons.mpr ⟨nbf, h3⟩, n4.2.1, fun p hp q hq z => ?_⟩, fun p hp q hq z => ?_⟩⟩
                  · rcases List.mem_append.mp z with z | z
                    · exact nda.1 (in3 a (.inl z))
                    · rcases List.mem_append.mp z with z | z
                      · rcases List.mem_cons.mp z with z | z
                        · exact nab z
                        · rcases List.mem_append.mp (fsub a z) with z | z
                          · exact nda.1 (bf3 a (List.mem_cons_of_mem _ z))
                          · exact fmf a z List.mem_cons_self
                      · exact nda.1 (in3 a (.inr z))
                  · subst z
                    rcases List.mem_cons.mp hp with z | z
                    · exact n4.2.2 p (by rw [z]; exact List.mem_cons_self) p hq rfl
                    · rcases List.mem_append.mp (fsub p z) with z | z
                      · exact n4.2.2 p (List.mem_cons_of_mem _ z) p hq rfl
                      · exact fmf p z (List.mem_cons_of_mem _ (in3 p (.inr hq)))
                  · subst z
                    rcases List.mem_append.mp hq with hq | hq
                    · rcases List.mem_cons.mp hq with z | z
                      · exact n3.2.2 p hp p (List.mem_append_left _ (by rw [z]; exact List.mem_cons_self)) rfl
                      · rcases List.mem_append.mp (fsub p z) with z | z
                        · exact n3.2.2 p hp p (List.mem_append_left _ (List.mem_cons_of_mem _ z)) rfl
                        · exact fmf p z (List.mem_cons_of_mem _ (in3 p (.inl hp)))
                    · exact n3.2.2 p hp p (List.mem_append_right _ hq) rfl
                obtain ⟨G4, A4⟩ := Good.wr (fm := fm) G3 e'' (List.mem_cons_of_mem _ (bf3 b List.mem_cons_self)) hHb wr'' rr hsub nf dj
                refine ⟨b, us, kk, d, rfl, rfl, hHb, by rw [rsb.len]; exact hd, ?_⟩
                exact k.nx _ S3 σ _ φ3 _ fs3 q3 (A13.s.trans A4) G4
theorem fs_set0 {i : Nat} {ex ek : Expr} {p1 : Pos} (he : PE X e (LE T W t)) (hx : PE X ex (tVar i)) (hk : PE X ek (LB T W tk)) (hs : swapsWithSole [.Subscript ex ek p1] e pos.line X.env = pure false := by rfl) (hw : swappedStores [.Subscript ex ek p1] e X.env = pure none := by rfl)
    (h1 : (assignEach [.Subscript ex ek p1] X.env).map (·.2) = [assign (.Subscript ex ek p1) X.env] := by rfl)
    (ha : ∀ v, assign (.Subscript ex ek p1) X.env v = (do
      let ov ← holding [v] (eval ex X.env)
      let iv ← holding [v, ov] (eval ek X.env)
      standAt p1
      holding [v, ov, iv] (setItem ov iv v)
      release [v, ov, iv] []) := by intro _; rfl) : PS X (.Assign [.Subscript ex ek p1] e pos) (LS T W (fSet0 i tk t)) :=
  PS.weak (ps_asg he (pg_sub hx hk set_list ha) hs hw h1) fun D σ H h => lSet0 h
theorem fs_set1 {i : Nat} {ex ek : Expr} {p1 p2 : Pos} (hK : X.K = T.K) (he : PE X e (LE T W t)) (hx : PE X ex (tVar i)) (hj : PE X ej (LB T W tj)) (hsj : PlainIx ej) (hk : PE X ek (LB T W tk)) (hs : swapsWithSole [.Subscript (.Subscript ex ej p2) ek p1] e pos.line X.env = pure false := by rfl) (hw : swappedStores [.Subscript (.Subscript ex ej p2) ek p1] e X.env = pure none := by rfl)
    (h1 : (assignEach [.Subscript (.Subscript ex ej p2) ek p1] X.env).map (·.2) = [assign (.Subscript (.Subscript ex ej p2) ek p1) X.env] := by rfl)
    (ha : ∀ v, assign (.Subscript (.Subscript ex ej p2) ek p1) X.env v = (do
      let ov ← holding [v] (eval (.Subscript ex ej p2) X.env)
      let iv ← holding [v, ov] (eval ek X.env)
      standAt p1
      holding [v, ov, iv] (setItem ov iv v)
      release [v, ov, iv] []) := by intro _; rfl) : PS X (.Assign [.Subscript (.Subscript ex ej p2) ek p1] e pos) (LS T W (fSet1 i tj tk t)) :=
  PS.weak (ps_asg he (pg_sub (pe_ix ix_seq hx hj hsj) hk set_list ha) hs hw h1) fun D σ H h => lSet1 hK h
end
end L2.Fn
/-! Fn, part H: defs as they are called; what the top's names hold. -/
namespace L2.Fn
open PySem PySem.Spec PyProof.Rows

/-- the def x of the text may be called: its level, its parameters, its reading -/
def Cal (P : Program) (w : World) (K : PySem.W.Frag) (mg : Str → Option Value) (base : Heap) (x : Str) (lvl : Nat) (ps : List Str) (wf : FF) : Prop :=
  ∃ (f : Addr) (fd : FuncData), FnOk P w K mg base (L2.CX P w) lvl f fd ps (LF ⟨K, mg⟩ wf) ∧ mg x = some (.ref f) ∧ PySem.W.keepIn K (.ref f) = true ∧ Binds K fd ps []
/-- where a def stands -/
def DefAt (K : PySem.W.Frag) (mg : Str → Option Value) (x : Str) (st : Stmt) (ps : List Str) : Prop :=
  ∃ (f : Addr) (fd : FuncData), Fun K x x st f fd ∧ mg x = some (.ref f) ∧ Binds K fd ps []
/-- what a name of the top holds -/
def GlobD (T : Top) (x : Str) (d : D) : Prop := ∃ v u, T.mg x = some u ∧ RelV v u ∧ ∀ φ H, FD T φ H v d
theorem FD.str' {T : Top} {φ : Ob} {H : Hp} {x : Str} {s : List Nat} (h : x = ⟨s.toArray⟩) : FD T φ H (.str x) (.str s) := by rw [h]; exact .str s
theorem cal_mk {P : Program} {w : World} {K : PySem.W.Frag} {mg : Str → Option Value} {base : Heap} {x : Str} {st : Stmt} {N ps : List Str} {k : Nat} {r : FS} (F : DefAt K mg x st ps) (S : FnScope N ps (defScope st))
    (hb : ∀ (f : Addr) (cdv : Value) (A : Around) (outer : List Env) (s : Shared) (H : Hp) (E : XK), Room k (A.deeper (envOfC x (defScope st) s.heap.objs.size f cdv)) →
      PSs (cxOf (L2.CX P w) P w K mg base N x (defScope st) f cdv A outer s H E) (defBody st) (LS ⟨K, mg⟩ (fun c d _ H' => E c d H') r)) : Cal P w K mg base x (k + 1) ps (mkW N.length ps.length r) := by
  obtain ⟨f, fd, F, hm, b⟩ := F
  exact ⟨f, fd, fn_ok F S (hb f), hm, F.kp, b⟩
section
variable {X : Cx} {W : WX} {e : Expr} {pos p : Pos} {es : List Expr} {x : Str} {k : Nat} {ps : List Str} {wf : FF} {u : FA}
theorem fe_cal (C : Cal X.prog X.w X.K X.mg X.base x k ps wf) (hr : Room k X.A) (hg : Gl X x) (tk : Takes X W) (ha : PA X (e :: es) (LAB ⟨X.K, X.mg⟩ W u)) (hdb : (x == ("__debug__" : Str)) = false := by decide)
    (he : starEach (e :: es) X.env = (false, eval e X.env) :: starEach es X.env := by rfl) (hpl : (backTo pos (starEach es X.env)).any (·.1) = false := by rfl) : PE X (.Call (.Name x p) (e :: es) [] pos) (LE ⟨X.K, X.mg⟩ W (fCall wf u)) := by
  obtain ⟨f, fd, F, hm, hk, hb⟩ := C
  exact fe_call F hr hg hm hk hb tk ha hdb he hpl
theorem fe_cal0 (C : Cal X.prog X.w X.K X.mg X.base x k ps wf) (hr : Room k X.A) (hg : Gl X x) (tk : Takes X W) (hdb : (x == ("__debug__" : Str)) = false := by decide) : PE X (.Call (.Name x p) [] [] pos) (LE ⟨X.K, X.mg⟩ W (fCall wf fNil)) := by
  obtain ⟨f, fd, F, hm, hk, hb⟩ := C
  have h : PE X (.Call (.Name x p) [] [] pos) (tCallS (LF ⟨X.K, X.mg⟩ wf) (WE W) tNil) := by
    refine ⟨fun pins s σ H Q I h => ?_⟩
    refine wpAny_Call_Name_kw (ld_glob I hg hm ?_ hdb)
    exact PySem.W.callWith_K0 I.kIn hk (run_fnS (us := []) F hr hb (passAt tk σ) I .nil h)
  refine PE.weak h fun σ H Q ⟨ρ, S, φ, fe, fs, E, Qm, G, ⟨ds, e, w⟩, hx, k⟩ => ?_
  have e1 : ds = [] := by cases ds with
    | nil => rfl
    | cons d ds => cases e
  subst e1
  exact ⟨[], S, φ, fs, E, Qm, .nil, G.sto, G.ndS, w, fun y S' c d H' φ' fs' z A2 rx R2 => hx y S' c d H' φ' fs' z A2 rx R2, fun m S2 v H2 φ2 fs2 fm q A2 r R2 => k m S2 v H2 φ2 fs2 fm q A2 r R2⟩
theorem fe_glob {d : D} (h : GlobD ⟨X.K, X.mg⟩ x d) (hg : Gl X x) (hd : (x == ("__debug__" : Str)) = false := by decide) : PE X (.Name x pos) (LE ⟨X.K, X.mg⟩ W (fC d)) := by
  obtain ⟨v, u, hm, r, q⟩ := h
  exact fe_c (pe_glob hg hm r hd) q
end
/-! ### the law's end -/
theorem NoLists.of {K : PySem.W.Frag} (h : (K.all fun p => match p.2.cls with
    | .type n => n != "list"
    | _ => true) = true) : NoLists K := fun a o e hc => by
  have mem : (a, o) ∈ K := by
    have : ∀ (l : List (Addr × Obj)), l.lookup a = some o → (a, o) ∈ l := by
      intro l
      induction l with
      | nil => intro h; cases h
      | cons p l ih =>
        intro h
        obtain ⟨b, u⟩ := p
        rw [List.lookup_cons] at h
        by_cases q : a = b
        · subst q
          simp at h
          subst h
          exact List.mem_cons_self
        · have : (a == b) = false := by simpa using q
          rw [this] at h
          exact List.mem_cons_of_mem _ (ih h)
    exact this K e
  have := List.all_eq_true.mp h _ mem
  simp [hc] at this
theorem law_S {K : PySem.W.Frag} {mg : Str → Option Value} {wf : FF} {n : Nat} (h : ∀ ns : List Int, ns.length ≤ n → wf [.lst (ns.map .int)] [] (fun m _ => m = .dat (.bl true)) fun _ _ => False)
    (H : Hp) (a : Addr) (ns : List Int) (hl : ns.length ≤ n) (hO : Only H) (hS : SqL K H a (ns.map V.int)) : LF ⟨K, mg⟩ wf [.ref a] H (fun v _ => v = .bl true) fun _ _ _ => False := by
  have fz : FzL ⟨K, mg⟩ H a (ns.map V.int) := by
    rcases hS with (hS | ⟨o, hS⟩) | hS
    · rcases hO a with q | ⟨_, _, q⟩ <;> rw [hS] at q <;> cases q
    · exact .inl ⟨o, hS⟩
    · exact .inr hS
  have fd : ∀ l : List Int, FDs ⟨K, mg⟩ [] H (l.map V.int) (l.map D.int) := by
    intro l
    induction l with
    | nil => exact .nil
    | cons x l ih => exact .cons (.int x) ih
  refine ⟨[.lst (ns.map .int)], [], [], [], _, _, .cons (.lst fz (fd ns)) .nil, .nil, List.nodup_nil, h ns hl, fun _ _ _ _ _ _ _ z => z.elim, fun m S' v H' φ' fs' fm q A r R => ?_⟩
  subst q
  cases r with
  | dat r =>
    cases r
    rfl
/-- the law's promise, whatever the top's names hold -/
def LFa (K : PySem.W.Frag) (wf : FF) : Sp := fun vs H Q E => ∀ mg : Str → Option Value, LF ⟨K, mg⟩ wf vs H Q E
theorem law_C {P : Program} {w : World} {H : Hp} {s : Shared} {e : Value} {s' : Shared} (h : L2.CX P w [] H s (fun _ _ _ => False) e s') : False := by
  obtain ⟨_, _, _, _, _, _, _, _, _, _, _, _, z⟩ := h
  exact z.elim
/-- the law's row from its def's promise: sp hangs on the written part alone, errors leave as CX tells -/
theorem row_of {l : PySem.W.OpenLaw} {n k : Nat} {q : Program} {lo : List Str} {XP : (Str → Option Value) → Heap → Prop} {YP : World → Heap → Prop} {d : DefRec} {K : Params → PySem.W.Frag} {sp : PySem.W.Frag → Sp} {x : Str}
    (h1 : l.most = some n) (h2 : n ≤ sizeLine) (h3 : d.params.defaults = []) (h4 : Room k callerA)
    (h5 : ∀ (w : World) (h : Heap), YP w h → (K w.params).In h)
    (F : ∀ (w : World) (mg : Str → Option Value) (fa : Addr) (h : Heap), (K w.params).In h → h.Ns mainGlobals mg → mg d.name = some (.ref fa) → ∃ fd : FuncData, (∀ (s : Shared) (u : Value), BindsTo s fd ⟨[u], []⟩ [(x, u)]) ∧
        ∀ base : Heap, (K w.params).In base → base.Ns mainGlobals mg → FnOk l.prog w (K w.params) mg base (L2.CX l.prog w) k fa fd [x] (sp (K w.params)))
    (S : ∀ (K : PySem.W.Frag) (H : Hp) (a : Addr) (ns : List Int), ns.length ≤ n → Only H → SqL K H a (ns.map V.int) → sp K [.ref a] H (fun v _ => v = .bl true) fun _ _ _ => False) :
    PySem.W.WalkO q lo XP YP l.row.toRowW d [] (fun f vs => PySem.call f vs) :=
  walk_of (K := K) (CX := fun w => L2.CX l.prog w) (sp := fun w => sp (K w.params)) h1 h2 h3 h4 h5 F (fun w H a ns e1 e2 e3 => S (K w.params) H a ns e1 e2 e3) fun _ _ _ _ _ h => law_C h
end L2.Fn
/-! Fn, part P: tools for the readings, in plain Lean. -/
namespace L2.Fn
open PySem

theorem forW_by {g : FG} {b : FS} {P : EndP} {ds : List D} {ρ : Ev} {S : Sto} (I : List D → Ev → Sto → Prop) (h0 : I ds ρ S) (hd : ∀ ρ S, I [] ρ S → P.nx ρ S)
    (hs : ∀ d ds ρ S, (∀ ρ' S', I ds ρ' S' → forW g b P ds ρ' S') → I (d :: ds) ρ S → g (.dat d) ρ fun ρ1 => b { P with nx := forW g b P ds, ct := forW g b P ds, bk := P.nx } ρ1 S) : forW g b P ds ρ S := by
  induction ds generalizing ρ S with
  | nil => exact hd ρ S h0
  | cons d ds ih => exact hs d ds ρ S (fun ρ' S' h => ih h) h0
theorem compW_by {g : FG} {c : FT} {t : FE} {vs : List Nat} {ρ : Ev} {Q : WP} {ds : List D} {acc : List M} {S : Sto} (I : List D → List M → Sto → Prop) (h0 : I ds acc S) (hd : ∀ acc S, I [] acc S → Q (.lst acc) S)
    (hs : ∀ d ds acc S, (∀ acc' S', I ds acc' S' → compW g c t vs ρ Q ds acc' S') → I (d :: ds) acc S → g (.dat d) (wipeE ρ vs) fun ρ1 => c ρ1 S (fun b S2 => if b = true then t ρ1 S2 (fun m S3 => acc.length < sizeLine ∧ compW g c t vs ρ Q ds (acc ++ [m]) S3) noX else compW g c t vs ρ Q ds acc S2) noX) :
    compW g c t vs ρ Q ds acc S := by
  induction ds generalizing acc S with
  | nil => exact hd acc S h0
  | cons d ds ih => exact hs d ds acc S (fun acc' S' h => ih h) h0
theorem ex_nil {p : List D → Prop} : (∃ ds, [] = List.map M.dat ds ∧ p ds) ↔ p [] := by
  constructor
  · rintro ⟨ds, e, h⟩
    cases ds with
    | nil => exact h
    | cons => cases e
  · exact fun h => ⟨[], rfl, h⟩
theorem ex_cons {a : D} {l : List M} {p : List D → Prop} : (∃ ds, M.dat a :: l = List.map M.dat ds ∧ p ds) ↔ ∃ ds, l = List.map M.dat ds ∧ p (a :: ds) := by
  constructor
  · rintro ⟨ds, e, h⟩
    cases ds with
    | nil => cases e
    | cons d ds =>
      injection e with e1 e2
      injection e1 with e1
      subst e1
      exact ⟨ds, e2, h⟩
  · rintro ⟨ds, e, h⟩
    exact ⟨a :: ds, by rw [e]; rfl, h⟩
theorem map_dat_inj : ∀ {a b : List D}, a.map M.dat = b.map M.dat → a = b
  | [], [], _ => rfl
  | [], _ :: _, h => by cases h
  | _ :: _, [], h => by cases h
  | x :: a, y :: b, h => by injection h with h1 h2; injection h1 with h1; rw [h1, map_dat_inj h2]
theorem ex_map {l : List D} {p : List D → Prop} : (∃ ds, List.map M.dat l = List.map M.dat ds ∧ p ds) ↔ p l := ⟨fun ⟨ds, e, h⟩ => by rw [map_dat_inj e]; exact h, fun h => ⟨l, rfl, h⟩⟩
theorem toD_lst (l : List D) : (M.lst (l.map M.dat)).toD = .lst l := by rw [M.toD, M.toDs_dat]
theorem toD_dat (d : D) : (M.dat d).toD = d := rfl
theorem dats_nil : dats [] = some [] := rfl
theorem dats_cons (d : D) (r : List M) : dats (.dat d :: r) = (dats r).map (d :: ·) := rfl
theorem ld_l (l : List M) : (M.lst l).ld = dats l := rfl
theorem ex_some {α : Type} {a : α} {p : α → Prop} : (∃ x, some a = some x ∧ p x) ↔ p a := ⟨fun ⟨x, e, h⟩ => by cases e; exact h, fun h => ⟨a, rfl, h⟩⟩
theorem ex_eq {α : Type} {a : α} {p : α → Prop} : (∃ x, a = x ∧ p x) ↔ p a := ⟨fun ⟨x, e, h⟩ => by cases e; exact h, fun h => ⟨a, rfl, h⟩⟩
theorem atI_n {α : Type} {xs : List α} {j : Nat} {v : α} (h : xs[j]? = some v) : atI xs (j : Int) = some v := atI_nat h
theorem atI_i {α : Type} {xs : List α} {i : Int} {v : α} (h0 : 0 ≤ i) (h : xs[i.toNat]? = some v) : atI xs i = some v := by
  have := atI_nat h
  rwa [Int.toNat_of_nonneg h0] at this
theorem small_line {n : Nat} (h : n ≤ 16000000) : n ≤ sizeLine := Nat.le_trans h (by decide)
theorem small_line' {n : Nat} (h : n ≤ 16000000) : n < sizeLine := Nat.lt_of_le_of_lt h (by decide)
theorem cmul {i j : Int} (h1 : i.natAbs < 2 ^ 200) (h2 : j.natAbs < 2 ^ 200) : CMulW i j := wide_mul h1 h2 (by decide) (by decide) (by decide)
theorem nat_big {i : Int} (h0 : -(10 ^ 40) < i) (h : i < 10 ^ 40) : i.natAbs < 2 ^ 200 := by
  have : i.natAbs < 10 ^ 40 := by omega
  exact Nat.lt_of_lt_of_le this (by decide)
theorem cmulS {i j : Int} (h1 : -(10 ^ 40) < i) (h2 : i < 10 ^ 40) (h3 : -(10 ^ 40) < j) (h4 : j < 10 ^ 40) : CMulW i j := cmul (nat_big h1 h2) (nat_big h3 h4)
theorem kitI {b : Bool} {a n : String} (h : kitB a n = some b) {p : Bool → Prop} : (∃ c, kitB a n = some c ∧ p c) ↔ p b := ⟨fun ⟨c, e, q⟩ => by rw [h] at e; cases e; exact q, fun q => ⟨b, h, q⟩⟩
theorem isi_int_int : kitB "int" "int" = some true := by decide +kernel
theorem isi_int_bool : kitB "int" "bool" = some false := by decide +kernel
theorem isi_str_str : kitB "str" "str" = some true := by decide +kernel
theorem isi_tup_tup : kitB "tuple" "tuple" = some true := by decide +kernel
theorem isi_str_tup : kitB "str" "tuple" = some false := by decide +kernel
theorem isi_int_tup : kitB "int" "tuple" = some false := by decide +kernel
theorem isi_int_str : kitB "int" "str" = some false := by decide +kernel
theorem isi_bool_int : kitB "bool" "int" = some true := by decide +kernel
theorem isi_bool_bool : kitB "bool" "bool" = some true := by decide +kernel
theorem isi_str_int : kitB "str" "int" = some false := by decide +kernel
theorem isi_str_bool : kitB "str" "bool" = some false := by decide +kernel
theorem isi_tup_str : kitB "tuple" "str" = some false := by decide +kernel
theorem isi_tup_int : kitB "tuple" "int" = some false := by decide +kernel
theorem isi_tup_bool : kitB "tuple" "bool" = some false := by decide +kernel
/-- texts of one sign each -/
theorem signs_of (cs : List Nat) : textsOf (cs.map fun c => D.str [c]) = some (cs.map fun c => [c]) := by
  induction cs with
  | nil => rfl
  | cons c cs ih => rw [List.map_cons, textsOf, ih]; rfl
theorem sum_ones (cs : List Nat) : ((cs.map fun c => [c]).map List.length).sum = cs.length := by
  induction cs with
  | nil => rfl
  | cons c cs ih => simp at ih ⊢; omega
theorem joinL_signs : ∀ cs : List Nat, TL.joinL [] (cs.map fun c => [c]) = cs
  | [] => rfl
  | [c] => rfl
  | c :: d :: r => by
    have := joinL_signs (d :: r)
    simp [TL.joinL] at this ⊢
    exact this
theorem join_signs {cs : List Nat} {Q : M → Prop} (hl : cs.length ≤ 16000000) (h : Q (.dat (.str cs))) : oJoin [] [.lst ((cs.map fun c => D.str [c]).map M.dat)] Q :=
  ⟨_, ld_lst _, _, signs_of cs, by rw [sum_ones]; simp; omega, by rw [joinL_signs]; exact h⟩
theorem joinL_flat : ∀ ps : List (List Nat), TL.joinL [] ps = ps.flatten
  | [] => rfl
  | [p] => by simp [TL.joinL]
  | p :: q :: r => by
    have := joinL_flat (q :: r)
    simp [TL.joinL] at this ⊢
    exact this
theorem texts_of (ps : List (List Nat)) : textsOf (ps.map D.str) = some ps := by
  induction ps with
  | nil => rfl
  | cons c cs ih => rw [List.map_cons, textsOf, ih]; rfl
theorem join_texts {ps : List (List Nat)} {Q : M → Prop} (hl : ps.flatten.length ≤ 16000000) (h : Q (.dat (.str ps.flatten))) : oJoin [] [.lst ((ps.map D.str).map M.dat)] Q :=
  ⟨_, ld_lst _, _, texts_of ps, by rw [← List.length_flatten]; simp at hl ⊢; omega, by rw [joinL_flat]; exact h⟩
/-- an item of a list of ints, of a text -/
theorem int_at {ds : List Int} {i : Int} (h0 : 0 ≤ i) (h1 : i < ds.length) : atI (ds.map D.int) i = some (.int ds[i.toNat]!) := by
  have hlt : i.toNat < ds.length := by omega
  exact atI_i h0 (by rw [List.getElem?_map, List.getElem?_eq_getElem hlt]; simp [hlt])
theorem get_of {ds : List Int} {p : Int → Prop} (h : ∀ d ∈ ds, p d) {j : Nat} (hj : j < ds.length) : p ds[j]! := by
  have : ds[j]! = ds[j] := by simp [hj]
  rw [this]
  exact h _ (List.getElem_mem hj)
theorem sign_at {s : List Nat} {i : Int} (h0 : 0 ≤ i) (h1 : i < s.length) : ∃ c, atI s i = some c := ⟨s[i.toNat]'(by omega), atI_i h0 (List.getElem?_eq_getElem _)⟩
/-- the walk over a range: behind k turns -/
theorem rng_step {lo : Int} {n k : Nat} {d : D} {l : List D} (e : d :: l = (rng lo n).drop k) : k < n ∧ d = .int (lo + k) ∧ l = (rng lo n).drop (k + 1) := by
  have hlt : k < n := by
    have := congrArg List.length e
    simp [rng] at this
    omega
  rw [List.drop_eq_getElem_cons (by simpa [rng] using hlt)] at e
  injection e with e1 e2
  exact ⟨hlt, by rw [e1]; simp [rng], e2⟩
theorem rng_end {lo : Int} {n k : Nat} (hk : k ≤ n) (e : [] = (rng lo n).drop k) : k = n := by
  have := congrArg List.length e
  simp [rng] at this
  omega
/-! ### slices and items by numbers -/
theorem atI_0 {α : Type} (xs : List α) : atI xs (0 : Int) = xs[0]? := by
  cases xs with
  | nil => rfl
  | cons x l => exact atI_n (j := 0) rfl
theorem atI_nat' {α : Type} (xs : List α) (n : Nat) : atI xs (n : Int) = xs[n]? := by
  cases h : xs[n]? with
  | some v => exact atI_n h
  | none =>
    have hn : xs.length ≤ n := List.getElem?_eq_none_iff.mp h
    unfold atI ixN
    rw [if_pos (by omega), if_neg (by omega)]
    rfl
theorem atI_1 {α : Type} (xs : List α) : atI xs (1 : Int) = xs[1]? := atI_nat' xs 1
theorem atI_2 {α : Type} (xs : List α) : atI xs (2 : Int) = xs[2]? := atI_nat' xs 2
theorem atI_3 {α : Type} (xs : List α) : atI xs (3 : Int) = xs[3]? := atI_nat' xs 3
theorem atI_4 {α : Type} (xs : List α) : atI xs (4 : Int) = xs[4]? := atI_nat' xs 4
theorem atI_5 {α : Type} (xs : List α) : atI xs (5 : Int) = xs[5]? := atI_nat' xs 5
theorem atI_6 {α : Type} (xs : List α) : atI xs (6 : Int) = xs[6]? := atI_nat' xs 6
theorem atI_7 {α : Type} (xs : List α) : atI xs (7 : Int) = xs[7]? := atI_nat' xs 7
theorem atI_mem {α : Type} {xs : List α} {i : Int} (h0 : 0 ≤ i) (h1 : i < xs.length) : ∃ x, atI xs i = some x ∧ x ∈ xs :=
  ⟨xs[i.toNat]'(by omega), atI_i h0 (List.getElem?_eq_getElem _), List.getElem_mem _⟩
theorem sIx_pos (n d : Nat) {i : Int} (h : 0 ≤ i) : HT.sIx n d (some i) = min i.toNat n := by
  have := HT.sIx_nat n d i.toNat
  rwa [Int.toNat_of_nonneg h] at this
theorem cut_from {α : Type} (xs : List α) {i : Int} (h : 0 ≤ i) : cutN xs (some i) none = xs.drop i.toNat := by
  unfold cutN
  rw [sIx_pos _ _ h, HT.sIx_none]
  by_cases hi : i.toNat ≤ xs.length
  · rw [Nat.min_eq_left hi, List.take_of_length_le (by rw [List.length_drop]; omega)]
  · rw [Nat.min_eq_right (by omega), List.drop_of_length_le (Nat.le_refl _), List.drop_of_length_le (by omega)]
    simp
theorem cut_mid {α : Type} (xs : List α) {i j : Int} (h : 0 ≤ i) (h' : 0 ≤ j) : cutN xs (some i) (some j) = (xs.take j.toNat).drop i.toNat := by
  unfold cutN
  rw [sIx_pos _ _ h, sIx_pos _ _ h']
  apply List.ext_getElem?
  intro k
  rw [List.getElem?_take, List.getElem?_drop, List.getElem?_drop, List.getElem?_take]
  by_cases h1 : i.toNat ≤ xs.length
  · rw [Nat.min_eq_left h1]
    by_cases h2 : k < min j.toNat xs.length - i.toNat
    · rw [if_pos h2, if_pos (by omega)]
    · rw [if_neg h2]
      by_cases h3 : i.toNat + k < j.toNat
      · rw [if_pos h3, List.getElem?_eq_none (by omega)]
      · rw [if_neg h3]
  · rw [if_neg (by omega)]
    by_cases h3 : i.toNat + k < j.toNat
    · rw [if_pos h3, List.getElem?_eq_none (by omega)]
    · rw [if_neg h3]
theorem toD_rows {α : Type} (g : α → List D) (l : List α) : (M.lst (l.map fun t => M.lst ((g t).map M.dat))).toD = .lst (l.map fun t => .lst (g t)) := by
  rw [M.toD, M.toDs_eq, List.map_map]
  congr 1
  exact List.map_congr_left fun t _ => toD_lst (g t)
theorem flat_one {α : Type} (n : Nat) (x : α) : (List.replicate n [x]).flatten = List.replicate n x := by
  induction n with
  | zero => rfl
  | succ n ih => rw [List.replicate_succ, List.flatten_cons, ih]; rfl
theorem map_rep_int (n : Nat) (z : Int) : List.replicate n (D.int z) = (List.replicate n z).map D.int := by simp
end L2.Fn
namespace K65
open PySem PySem.Spec PyProof.Rows L2 L2.Fn

def topS (i : Nat) : Stmt := PySem.Challenge.pw_plainbehind_k65_tokens.main.body.getD i (.Pass ⟨0, 0, 0, 0⟩)
def gv_SMALL : D := .str [97, 98, 99, 100, 101, 102, 103, 104, 105, 106, 107, 108, 109, 110, 111, 112, 113, 114, 115, 116, 117, 118, 119, 120, 121, 122]
def gv_FIGURES : D := .str [48, 49, 50, 51, 52, 53, 54, 55, 56, 57]
def gv_SIGNS : D := .tup [.str [45, 62], .str [40], .str [41], .str [44], .str [58], .str [43], .str [45], .str [42], .str [94], .str [62], .str [47], .str [63]]
def gv_LONGEST_WORD : D := .int (20)
def gv_LONGEST_NUMERAL : D := .int (40)
def r_run_length_1 : FS := (fRetV 4)
def r_run_length_2 : FS := (fSeq (fWhile (fAnd (fBl (fBin oLt (fBin oAdd (fVar 1) (fVar 4)) (fVar 2))) (fBl (fBin (oIn false) (fBin oIx (fVar 0) (fBin oAdd (fVar 1) (fVar 4))) (fVar 3)))) (fAsg (fBin oAdd (fVar 4) (fC (.int 1))) (gN 4)))
    r_run_length_1)
def r_run_length : FS := (fSeq (fAsg (fC (.int 0)) (gN 4))
    r_run_length_2)
def w_run_length : FF := mkW 5 4 r_run_length
def r_token_sort_1 : FS := (fRet (fC (.str [110, 117, 109, 101, 114, 97, 108])))
def r_token_sort_2 : FS := (fRet (fIf (fBl (fBin (oIn false) (fVar 0) (fC (gv_SIGNS)))) (fC (.str [115, 105, 103, 110])) (fC (.str [98, 97, 100]))))
def r_token_sort_3 : FS := (fSeq (fIfS (fBl (fBin (oIn false) (fBin oIx (fVar 0) (fC (.int 0))) (fC (gv_FIGURES)))) (fSeq (fIfS (fOr (fBl (fBin oGt (fCB oLen (fCons (fVar 0) fNil)) (fC (gv_LONGEST_NUMERAL)))) (fAnd (fBl (fBin oGt (fCB oLen (fCons (fVar 0) fNil)) (fC (.int 1)))) (fBl (fBin oEq (fBin oIx (fVar 0) (fC (.int 0))) (fC (.str [48])))))) (fRet (fC (.str [98, 97, 100]))) fNext)
    r_token_sort_1) fNext)
    r_token_sort_2)
def r_token_sort : FS := (fSeq (fIfS (fBl (fBin (oIn false) (fBin oIx (fVar 0) (fC (.int 0))) (fC (gv_SMALL)))) (fRet (fIf (fBl (fBin oLe (fCB oLen (fCons (fVar 0) fNil)) (fC (gv_LONGEST_WORD)))) (fC (.str [119, 111, 114, 100])) (fC (.str [98, 97, 100])))) fNext)
    r_token_sort_3)
def w_token_sort : FF := mkW 1 1 r_token_sort
def r__law_whole : FS := (fRet (fAndV (fIsi (fVar 0) "int") (fNotV (fIsi (fVar 0) "bool"))))
def w__law_whole : FF := mkW 1 1 r__law_whole
def r__law_cell_1 : FS := (fRet (fBin oMod (fCB oIntC (fCons (fBin oMul (fBin oMul (fBin oAdd (fVar 2) (fC (.int 7))) (fBin oAdd (fVar 1) (fC (.int 3)))) (fC (.int 69621))) fNil)) (fC (.int 2147483647))))
def r__law_cell_2 : FS := (fSeq (fFor (fWalk (fVar 0)) (gN 3) (fAsg (fBin oMod (fCB oIntC (fCons (fBin oAdd (fBin oMul (fVar 2) (fC (.int 31))) (fBin oMod (fCB oIntC (fCons (fVar 3) fNil)) (fC (.int 1000003)))) fNil)) (fC (.int 1000003))) (gN 2)))
    r__law_cell_1)
def r__law_cell_3 : FS := (fSeq (fAsg (fC (.int 17)) (gN 2))
    r__law_cell_2)
def r__law_cell : FS := (fSeq (fIfS (fBl (fBin oLt (fVar 1) (fCB oLen (fCons (fVar 0) fNil)))) (fRet (fDat (fBin oIx (fVar 0) (fVar 1)))) fNext)
    r__law_cell_3)
def w__law_cell : FF := mkW 4 2 r__law_cell
def r__law_digits_1 : FS := (fAsg (fBin oFDiv (fCB oIntC (fCons (fVar 3) fNil)) (fVar 6)) (gN 3))
def r__law_digits_2 : FS := (fRetV 2)
def r__law_digits_3 : FS := (fSeq (fFor (fWalk (fVar 1)) (gN 6) (fSeq (fApp 2 (fBin oMod (fCB oIntC (fCons (fVar 3) fNil)) (fVar 6)))
    r__law_digits_1))
    r__law_digits_2)
def r__law_digits_4 : FS := (fApp 2 (fBin oMod (fBin oFDiv (fVar 7) (fC (.int 19))) (fBin oIx (fVar 1) (fVar 5))))
def r__law_digits_5 : FS := (fSeq (fAsg (fBin oMod (fCB oIntC (fCons (fBin oMul (fVar 4) (fBin oAdd (fBin oFDiv (fVar 4) (fC (.int 65537))) (fC (.int 3)))) fNil)) (fC (.int 2147483629))) (gN 7))
    r__law_digits_4)
def r__law_digits_6 : FS := (fRetV 2)
def r__law_digits_7 : FS := (fSeq (fFor (fRng oR1 (fCons (fCB oLen (fCons (fVar 1) fNil)) fNil)) (gN 5) (fSeq (fAsg (fBin oMod (fCB oIntC (fCons (fBin oAdd (fBin oAdd (fBin oMul (fVar 4) (fC (.int 48271))) (fBin oMul (fC (.int 974711)) (fVar 5))) (fC (.int 12345))) fNil)) (fC (.int 2147483647))) (gN 4))
    r__law_digits_5))
    r__law_digits_6)
def r__law_digits_8 : FS := (fSeq (fAsg (fBin oMod (fCB oIntC (fCons (fVar 3) fNil)) (fC (.int 2147483629))) (gN 4))
    r__law_digits_7)
def r__law_digits_9 : FS := (fSeq (fIfS (fBl (fBin oGe (fVar 3) (fBin oPow (fC (.int 10)) (fC (.int 18))))) (fSeq (fAsg (fBin oSub (fVar 3) (fBin oPow (fC (.int 10)) (fC (.int 18)))) (gN 3))
    r__law_digits_3) fNext)
    r__law_digits_8)
def r__law_digits_10 : FS := (fSeq (fAsg (fCB oIntC (fCons (fVar 0) fNil)) (gN 3))
    r__law_digits_9)
def r__law_digits : FS := (fSeq (fAsg (fLst fNil) (gN 2))
    r__law_digits_10)
def w__law_digits : FF := mkW 8 2 r__law_digits
def r__law_alphabet_1 : FS := (fRet (fBin oAdd (fVar 0) (fC (.str [97, 98, 99, 100, 101, 102, 103, 104, 105, 106, 107, 108, 109, 110, 111, 112, 113, 114, 115, 116, 117, 118, 119, 120, 121, 122, 123, 124, 125, 126]))))
def r__law_alphabet : FS := (fSeq (fAsg (fC (.str [32, 33, 34, 35, 36, 38, 39, 40, 41, 42, 43, 44, 45, 46, 47, 48, 49, 50, 51, 52, 53, 54, 55, 56, 57, 58, 59, 60, 61, 62, 63, 64, 65, 66, 67, 68, 69, 70, 71, 72, 73, 74, 75, 76, 77, 78, 79, 80, 81, 82, 83, 84, 85, 86, 87, 88, 89, 90, 91, 92, 93, 94, 95, 96])) (gN 0))
    r__law_alphabet_1)
def w__law_alphabet : FF := mkW 1 0 r__law_alphabet
def r__law_small : FS := (fRet (fC (.str [97, 98, 99, 100, 101, 102, 103, 104, 105, 106, 107, 108, 109, 110, 111, 112, 113, 114, 115, 116, 117, 118, 119, 120, 121, 122, 48, 49, 50, 51, 52, 53, 54, 55, 56, 57])))
def w__law_small : FF := mkW 0 0 r__law_small
def r__law_figures : FS := (fRet (fM1 oJoin (fC (.str [])) (fCons (fComp (fRng oR1 (fCons (fVar 1) fNil)) (gN 2) fYes (fDat (fBin oIx (fC (.str [48, 49, 50, 51, 52, 53, 54, 55, 56, 57])) (fBin oMod (fCB oIntC (fCons (fBin oIx (fVar 0) (fVar 2)) fNil)) (fC (.int 10))))) [2]) fNil)))
def w__law_figures : FF := mkW 3 2 r__law_figures
def r_token_length_1 : FS := (fRet (fC (.int 1)))
def r_token_length_2 : FS := (fSeq (fIfS (fAnd (fBl (fBin oLt (fBin oAdd (fVar 1) (fC (.int 1))) (fVar 2))) (fBl (fBin oEq (fSl (fVar 0) (fPart (fVar 1)) (fPart (fBin oAdd (fVar 1) (fC (.int 2))))) (fC (.str [45, 62]))))) (fRet (fC (.int 2))) fNext)
    r_token_length_1)
def r_token_length_3 : FS := (fSeq (fIfS (fBl (fBin (oIn false) (fBin oIx (fVar 0) (fVar 1)) (fC (gv_FIGURES)))) (fRet (fCall w_run_length (fCons (fVar 0) (fCons (fVar 1) (fCons (fVar 2) (fCons (fC (gv_FIGURES)) fNil)))))) fNext)
    r_token_length_2)
def r_token_length : FS := (fSeq (fIfS (fBl (fBin (oIn false) (fBin oIx (fVar 0) (fVar 1)) (fC (gv_SMALL)))) (fRet (fCall w_run_length (fCons (fVar 0) (fCons (fVar 1) (fCons (fVar 2) (fCons (fBin oAdd (fC (gv_SMALL)) (fC (gv_FIGURES))) fNil)))))) fNext)
    r_token_length_3)
def w_token_length : FF := mkW 3 3 r_token_length
def r__law_word_1 : FS := (fRet (fBin oAdd (fBin oIx (fVar 2) (fBin oMod (fCB oIntC (fCons (fBin oIx (fVar 0) (fC (.int 0))) fNil)) (fC (.int 26)))) (fM1 oJoin (fC (.str [])) (fCons (fComp (fRng oR2 (fCons (fC (.int 1)) (fCons (fVar 1) fNil))) (gN 3) fYes (fDat (fBin oIx (fVar 2) (fBin oIx (fVar 0) (fVar 3)))) [3]) fNil))))
def r__law_word : FS := (fSeq (fAsg (fCall w__law_small fNil) (gN 2))
    r__law_word_1)
def w__law_word : FF := mkW 4 2 r__law_word
def r__law_sort_1 : FS := (fRet (fC (.str [110, 117, 109, 101, 114, 97, 108])))
def r__law_sort_2 : FS := (fRet (fDat (fBin oIx (fLst (fCons (fC (.str [98, 97, 100])) (fCons (fC (.str [115, 105, 103, 110])) fNil))) (fCB oIntC (fCons (fOrV (fBin oEq (fVar 0) (fC (.str [45, 62]))) (fBin (oIn false) (fVar 0) (fC (.str [40, 41, 44, 58, 43, 45, 42, 94, 62, 47, 63])))) fNil)))))
def r__law_sort_3 : FS := (fSeq (fIfS (fBl (fBin (oIn false) (fBin oIx (fVar 0) (fC (.int 0))) (fCall w__law_small fNil))) (fRet (fDat (fBin oIx (fLst (fCons (fC (.str [98, 97, 100])) (fCons (fC (.str [119, 111, 114, 100])) fNil))) (fCB oIntC (fCons (fBin oLt (fCB oLen (fCons (fVar 0) fNil)) (fC (.int 21))) fNil))))) fNext)
    r__law_sort_2)
def r__law_sort : FS := (fSeq (fIfS (fBl (fBin (oIn false) (fBin oIx (fVar 0) (fC (.int 0))) (fC (.str [48, 49, 50, 51, 52, 53, 54, 55, 56, 57])))) (fSeq (fIfS (fOr (fBl (fBin oGt (fCB oLen (fCons (fVar 0) fNil)) (fC (.int 40)))) (fAnd (fBl (fBin oEq (fBin oIx (fVar 0) (fC (.int 0))) (fC (.str [48])))) (fBl (fBin oNe (fVar 0) (fC (.str [48])))))) (fRet (fC (.str [98, 97, 100]))) fNext)
    r__law_sort_1) fNext)
    r__law_sort_3)
def w__law_sort : FF := mkW 1 1 r__law_sort
def r_tokens_1 : FS := (fApp 3 (fTup (fCons (fCall w_token_sort (fCons (fVar 6) fNil)) (fCons (fDat (fVar 6)) (fCons (fDat (fVar 4)) fNil)))))
def r_tokens_2 : FS := (fSeq (fAsg (fFrz (fSl (fVar 0) (fPart (fVar 4)) (fPart (fBin oAdd (fVar 4) (fVar 5))))) (gN 6))
    r_tokens_1)
def r_tokens_3 : FS := (fAsg (fBin oAdd (fVar 4) (fVar 5)) (gN 4))
def r_tokens_4 : FS := (fSeq (fIfS (fBl (fBin oNe (fBin oIx (fVar 0) (fVar 4)) (fC (.str [32])))) (fSeq (fAsg (fCall w_token_length (fCons (fVar 0) (fCons (fVar 4) (fCons (fVar 2) fNil)))) (gN 5))
    r_tokens_2) fNext)
    r_tokens_3)
def r_tokens_5 : FS := (fRet (fCB oTupC (fCons (fVar 3) fNil)))
def r_tokens_6 : FS := (fSeq (fWhile (fBl (fBin oLt (fVar 4) (fVar 2))) (fSeq (fAsg (fC (.int 1)) (gN 5))
    r_tokens_4))
    r_tokens_5)
def r_tokens_7 : FS := (fSeq (fAsg (fDat (fVar 1)) (gN 4))
    r_tokens_6)
def r_tokens : FS := (fSeq (fAsg (fLst fNil) (gN 3))
    r_tokens_7)
def w_tokens : FF := mkW 7 3 r_tokens
def r__law_piece_1 : FS := (fRet (fDat (fBin oIx (fLst (fCons (fBin oAdd (fCall w__law_word (fCons (fVar 4) (fCons (fBin oAdd (fC (.int 1)) (fBin oMod (fVar 3) (fC (.int 4)))) fNil))) (fBin oIx (fC (.str [65, 66, 88, 89, 90, 95])) (fBin oMod (fBin oIx (fVar 1) (fC (.int 2))) (fC (.int 6))))) (fCons (fC (.str [10])) fNil))) (fBin oMod (fVar 3) (fC (.int 2))))))
def r__law_piece_2 : FS := (fSeq (fIfS (fBl (fBin oEq (fVar 2) (fC (.int 10)))) (fRet (fDat (fBin oIx (fLst (fCons (fC (.str [32])) (fCons (fC (.str [32, 32])) (fCons (fC (.str [32, 32, 32])) (fCons (fC (.str [32])) fNil))))) (fBin oMod (fVar 3) (fC (.int 4)))))) fNext)
    r__law_piece_1)
def r__law_piece_3 : FS := (fSeq (fIfS (fBl (fBin oEq (fVar 2) (fC (.int 9)))) (fRet (fDat (fBin oIx (fLst (fCons (fC (.str [45, 45, 62])) (fCons (fC (.str [45, 62, 62])) (fCons (fC (.str [45, 32, 62])) (fCons (fC (.str [62, 45])) (fCons (fC (.str [45, 45])) (fCons (fC (.str [45, 62, 45])) (fCons (fC (.str [45, 62, 32, 45, 62])) (fCons (fC (.str [62, 45, 62])) fNil))))))))) (fBin oMod (fVar 3) (fC (.int 8)))))) fNext)
    r__law_piece_2)
def r__law_piece_4 : FS := (fSeq (fIfS (fBl (fBin oEq (fVar 2) (fC (.int 8)))) (fRet (fDat (fBin oIx (fLst (fCons (fC (.str [45, 62])) (fCons (fC (.str [40])) (fCons (fC (.str [41])) (fCons (fC (.str [44])) (fCons (fC (.str [58])) (fCons (fC (.str [43])) (fCons (fC (.str [45])) (fCons (fC (.str [42])) (fCons (fC (.str [94])) (fCons (fC (.str [62])) (fCons (fC (.str [47])) (fCons (fC (.str [63])) fNil))))))))))))) (fBin oMod (fVar 3) (fC (.int 12)))))) fNext)
    r__law_piece_3)
def r__law_piece_5 : FS := (fSeq (fIfS (fBl (fBin oEq (fVar 2) (fC (.int 7)))) (fRet (fBin oAdd (fC (.str [48])) (fCall w__law_figures (fCons (fVar 4) (fCons (fBin oMod (fVar 3) (fC (.int 3))) fNil))))) fNext)
    r__law_piece_4)
def r__law_piece_6 : FS := (fSeq (fIfS (fBl (fBin oEq (fVar 2) (fC (.int 6)))) (fRet (fBin oAdd (fCB oStrI (fCons (fBin oAdd (fC (.int 1)) (fBin oMod (fBin oIx (fVar 1) (fC (.int 2))) (fC (.int 9)))) fNil)) (fCall w__law_figures (fCons (fVar 4) (fCons (fBin oAdd (fC (.int 38)) (fBin oMod (fVar 3) (fC (.int 4)))) fNil))))) fNext)
    r__law_piece_5)
def r__law_piece_7 : FS := (fSeq (fIfS (fBl (fBin oEq (fVar 2) (fC (.int 5)))) (fRet (fCall w__law_word (fCons (fVar 4) (fCons (fBin oAdd (fC (.int 19)) (fBin oMod (fVar 3) (fC (.int 4)))) fNil)))) fNext)
    r__law_piece_6)
def r__law_piece_8 : FS := (fSeq (fIfS (fBl (fBin oEq (fVar 2) (fC (.int 4)))) (fRet (fCall w__law_figures (fCons (fVar 4) (fCons (fBin oAdd (fC (.int 1)) (fVar 3)) fNil)))) fNext)
    r__law_piece_7)
def r__law_piece_9 : FS := (fSeq (fIfS (fBl (fBin oEq (fVar 2) (fC (.int 3)))) (fRet (fCall w__law_word (fCons (fVar 4) (fCons (fBin oAdd (fC (.int 1)) (fBin oMod (fVar 3) (fC (.int 3)))) fNil)))) fNext)
    r__law_piece_8)
def r__law_piece_10 : FS := (fSeq (fIfS (fBl (fBin oEq (fVar 2) (fC (.int 2)))) (fRet (fCall w__law_word (fCons (fVar 4) (fCons (fBin oAdd (fC (.int 1)) (fBin oMod (fVar 3) (fC (.int 24)))) fNil)))) fNext)
    r__law_piece_9)
def r__law_piece_11 : FS := (fSeq (fIfS (fBl (fBin oLe (fVar 2) (fC (.int 1)))) (fRet (fDat (fBin oIx (fCall w__law_alphabet fNil) (fBin oIx (fVar 1) (fC (.int 2)))))) fNext)
    r__law_piece_10)
def r__law_piece_12 : FS := (fSeq (fAsg (fFrz (fSl (fVar 1) (fPart (fC (.int 3))) fNoP)) (gN 4))
    r__law_piece_11)
def r__law_piece_13 : FS := (fSeq (fAsg (fDat (fBin oIx (fVar 1) (fC (.int 1)))) (gN 3))
    r__law_piece_12)
def r__law_piece_14 : FS := (fSeq (fAsg (fDat (fBin oIx (fVar 1) (fC (.int 0)))) (gN 2))
    r__law_piece_13)
def r__law_piece : FS := (fSeq (fAsg (fFrz (fCall w__law_digits (fCons (fVar 0) (fCons (fFrz (fBin oCat (fLst (fCons (fC (.int 12)) (fCons (fC (.int 45)) (fCons (fC (.int 94)) fNil)))) (fBin oRep (fLst (fCons (fC (.int 36)) fNil)) (fC (.int 45))))) fNil)))) (gN 1))
    r__law_piece_14)
def w__law_piece : FF := mkW 5 1 r__law_piece
def r__law_due_1 : FS := (fAsg (fC (.str [])) (gN 5))
def r__law_due_2 : FS := (fIfS (fBl (fBin (oIn false) (fVar 7) (fC (.str [48, 49, 50, 51, 52, 53, 54, 55, 56, 57])))) (fAsg (fC (.str [110, 117, 109, 101, 114, 97, 108])) (gN 5)) (fIfS (fBl (fBin (oIn false) (fVar 7) (fVar 3))) (fAsg (fC (.str [119, 111, 114, 100])) (gN 5)) (fIfS (fBl (fBin oEq (fVar 7) (fC (.str [45])))) (fAsg (fC (.str [109, 105, 110, 117, 115])) (gN 5)) fNext)))
def r__law_due_3 : FS := (fIfS (fBl (fBin oNe (fVar 7) (fC (.str [32])))) (fSeq (fApp 4 (fLst (fCons (fDat (fVar 7)) (fCons (fDat (fVar 6)) fNil))))
    r__law_due_2) fNext)
def r__law_due_4 : FS := (fIfS (fOr (fAnd (fBl (fBin oEq (fVar 5) (fC (.str [119, 111, 114, 100])))) (fBl (fBin (oIn false) (fVar 7) (fVar 3)))) (fAnd (fBl (fBin oEq (fVar 5) (fC (.str [110, 117, 109, 101, 114, 97, 108])))) (fBl (fBin (oIn false) (fVar 7) (fC (.str [48, 49, 50, 51, 52, 53, 54, 55, 56, 57])))))) (fSet1 4 (fBin oSub (fCB oLen (fCons (fVar 4) fNil)) (fC (.int 1))) (fC (.int 0)) (fBin oAdd (fBin oIx (fBin oIx (fVar 4) (fBin oSub (fCB oLen (fCons (fVar 4) fNil)) (fC (.int 1)))) (fC (.int 0))) (fVar 7))) (fIfS (fAnd (fBl (fBin oEq (fVar 5) (fC (.str [109, 105, 110, 117, 115])))) (fBl (fBin oEq (fVar 7) (fC (.str [62]))))) (fSeq (fSet1 4 (fBin oSub (fCB oLen (fCons (fVar 4) fNil)) (fC (.int 1))) (fC (.int 0)) (fC (.str [45, 62])))
    r__law_due_1) (fSeq (fAsg (fC (.str [])) (gN 5))
    r__law_due_3)))
def r__law_due_5 : FS := (fFz 4 (fRet (fComp (fWalk (fVar 4)) (gN 8) fYes (fTup (fCons (fCall w__law_sort (fCons (fBin oIx (fVar 8) (fC (.int 0))) fNil)) (fCons (fDat (fBin oIx (fVar 8) (fC (.int 0)))) (fCons (fDat (fBin oIx (fVar 8) (fC (.int 1)))) fNil)))) [8])))
def r__law_due_6 : FS := (fSeq (fFor (fRng oR2 (fCons (fVar 1) (fCons (fVar 2) fNil))) (gN 6) (fSeq (fAsg (fDat (fBin oIx (fVar 0) (fVar 6))) (gN 7))
    r__law_due_4))
    r__law_due_5)
def r__law_due_7 : FS := (fSeq (fAsg (fC (.str [])) (gN 5))
    r__law_due_6)
def r__law_due_8 : FS := (fSeq (fAsg (fLst fNil) (gN 4))
    r__law_due_7)
def r__law_due : FS := (fSeq (fAsg (fCall w__law_small fNil) (gN 3))
    r__law_due_8)
def w__law_due : FF := mkW 9 3 r__law_due
def r__law_right_1 : FS := (fIfS (fOr (fBl (fBin oNe (fBin oIx (fVar 6) (fC (.int 0))) (fBin oIx (fBin oIx (fVar 3) (fVar 5)) (fC (.int 0))))) (fOr (fBl (fBin oNe (fBin oIx (fVar 6) (fC (.int 1))) (fBin oIx (fBin oIx (fVar 3) (fVar 5)) (fC (.int 1))))) (fBl (fBin oNe (fBin oIx (fVar 6) (fC (.int 2))) (fBin oIx (fBin oIx (fVar 3) (fVar 5)) (fC (.int 2))))))) (fRet (fC (.bl false))) fNext)
def r__law_right_2 : FS := (fSeq (fIfS (fOr (fNot (fTru (fIsi (fBin oIx (fVar 6) (fC (.int 0))) "str"))) (fOr (fNot (fTru (fIsi (fBin oIx (fVar 6) (fC (.int 1))) "str"))) (fNot (fTru (fCall w__law_whole (fCons (fBin oIx (fVar 6) (fC (.int 2))) fNil)))))) (fRet (fC (.bl false))) fNext)
    r__law_right_1)
def r__law_right_3 : FS := (fSeq (fIfS (fOr (fNot (fTru (fIsi (fVar 6) "tuple"))) (fBl (fBin oNe (fCB oLen (fCons (fVar 6) fNil)) (fC (.int 3))))) (fRet (fC (.bl false))) fNext)
    r__law_right_2)
def r__law_right_4 : FS := (fRet (fC (.bl true)))
def r__law_right_5 : FS := (fSeq (fFor (fRng oR1 (fCons (fCB oLen (fCons (fVar 3) fNil)) fNil)) (gN 5) (fSeq (fAsg (fDat (fBin oIx (fVar 4) (fVar 5))) (gN 6))
    r__law_right_3))
    r__law_right_4)
def r__law_right_6 : FS := (fSeq (fIfS (fOr (fNot (fTru (fIsi (fVar 4) "tuple"))) (fBl (fBin oNe (fCB oLen (fCons (fVar 4) fNil)) (fCB oLen (fCons (fVar 3) fNil))))) (fRet (fC (.bl false))) fNext)
    r__law_right_5)
def r__law_right_7 : FS := (fSeq (fAsg (fCall w_tokens (fCons (fVar 0) (fCons (fVar 1) (fCons (fVar 2) fNil)))) (gN 4))
    r__law_right_6)
def r__law_right : FS := (fSeq (fAsg (fFrz (fCall w__law_due (fCons (fVar 0) (fCons (fVar 1) (fCons (fVar 2) fNil))))) (gN 3))
    r__law_right_7)
def w__law_right : FF := mkW 7 3 r__law_right
def r_law_1 : FS := (fAsg (fBin oAdd (fVar 4) (fBin oMod (fCB oIntC (fCons (fBin oIx (fVar 1) (fC (.int 4))) fNil)) (fBin oSub (fBin oAdd (fCB oLen (fCons (fVar 3) fNil)) (fC (.int 1))) (fVar 4)))) (gN 5))
def r_law_2 : FS := (fRet (fAndV (fCall w__law_right (fCons (fVar 3) (fCons (fVar 4) (fCons (fVar 5) fNil)))) (fCall w__law_right (fCons (fVar 3) (fCons (fVar 4) (fCons (fVar 4) fNil))))))
def r_law_3 : FS := (fSeq (fIfS (fOr (fNot (fTru (fCall w__law_right (fCons (fVar 3) (fCons (fVar 4) (fCons (fVar 5) fNil)))))) (fNot (fTru (fCall w__law_right (fCons (fVar 3) (fCons (fVar 6) (fCons (fVar 7) fNil))))))) (fRet (fC (.bl false))) fNext)
    r_law_2)
def r_law_4 : FS := (fSeq (fIfS (fBl (fBin oLt (fVar 7) (fC (.int 0)))) (fAsg (fCB oLen (fCons (fVar 3) fNil)) (gN 7)) fNext)
    r_law_3)
def r_law_5 : FS := (fSeq (fAsg (fM1 oFind3 (fVar 3) (fCons (fC (.str [10])) (fCons (fVar 4) fNil))) (gN 7))
    r_law_4)
def r_law_6 : FS := (fSeq (fAsg (fBin oAdd (fM1 oRFind4 (fVar 3) (fCons (fC (.str [10])) (fCons (fC (.int 0)) (fCons (fVar 4) fNil)))) (fC (.int 1))) (gN 6))
    r_law_5)
def r_law_7 : FS := (fSeq (fIfS (fBl (fBin (oIn false) (fC (.str [10])) (fSl (fVar 3) (fPart (fVar 4)) (fPart (fVar 5))))) (fAsg (fM1 oFind3 (fVar 3) (fCons (fC (.str [10])) (fCons (fVar 4) fNil))) (gN 5)) fNext)
    r_law_6)
def r_law_8 : FS := (fSeq (fIfS (fBl (fBin oEq (fBin oIx (fVar 1) (fC (.int 2))) (fC (.int 1)))) (fSeq (fAsg (fBin oMod (fCB oIntC (fCons (fBin oIx (fVar 1) (fC (.int 3))) fNil)) (fBin oAdd (fCB oLen (fCons (fVar 3) fNil)) (fC (.int 1)))) (gN 4))
    r_law_1) fNext)
    r_law_7)
def r_law_9 : FS := (fSeq (fAsg (fCB oLen (fCons (fVar 3) fNil)) (gN 5))
    r_law_8)
def r_law_10 : FS := (fSeq (fAsg (fC (.int 0)) (gN 4))
    r_law_9)
def r_law_11 : FS := (fSeq (fAsg (fM1 oJoin (fC (.str [])) (fCons (fComp (fRng oR1 (fCons (fVar 2) fNil)) (gN 8) fYes (fCall w__law_piece (fCons (fCall w__law_cell (fCons (fVar 0) (fCons (fBin oAdd (fC (.int 1)) (fVar 8)) fNil))) fNil)) [8]) fNil)) (gN 3))
    r_law_10)
def r_law_12 : FS := (fSeq (fAsg (fDat (fBin oIx (fLst (fCons (fBin oAdd (fC (.int 1)) (fBin oIx (fVar 1) (fC (.int 1)))) (fCons (fC (.int 0)) fNil))) (fCB oIntC (fCons (fBin oEq (fBin oIx (fVar 1) (fC (.int 0))) (fC (.int 5))) fNil)))) (gN 2))
    r_law_11)
def r_law : FS := (fSeq (fAsg (fFrz (fCall w__law_digits (fCons (fCall w__law_cell (fCons (fVar 0) (fCons (fC (.int 0)) fNil))) (fCons (fFrz (fLst (fCons (fC (.int 16)) (fCons (fC (.int 40)) (fCons (fC (.int 2)) (fCons (fC (.int 2000)) (fCons (fC (.int 2000)) fNil))))))) fNil)))) (gN 1))
    r_law_12)
def w_law : FF := mkW 9 1 r_law
section
variable {P : Program} {w : World} {K : PySem.W.Frag} {mg : Str → Option Value} {base : Heap}
abbrev st_run_length : Stmt := topS 6
theorem sc_run_length : FnScope ["text", "at", "end", "chars", "size"] ["text", "at", "end", "chars"] (defScope st_run_length) := ⟨rfl, rfl, rfl, by decide +kernel, rfl, by decide +kernel, by decide +kernel⟩
theorem ok_run_length (F : DefAt K mg "run_length" st_run_length ["text", "at", "end", "chars"]) : Cal P w K mg base "run_length" 1 ["text", "at", "end", "chars"] w_run_length := by
  refine cal_mk (r := r_run_length) F sc_run_length fun f cdv A outer s H E hr => ?_
  exact (fs_cons (fs_set (i := 4) sc_run_length.nd rfl (by first | exact Or.inl rfl | exact Or.inr rfl) (fe_c pe_int fun _ _ => .int _))
    (fs_cons (fs_while (passes_of rfl) (PW.pt (fw_and (ft_cmp op_lt o_lt (fe_lb (fe_op op_addA o_add (fe_var (pv 1)) (fe_var (pv 4)))) (fe_var (pv 2)) (nomark _)) (fw_one_and (ft_cmp op_inA (o_in (neg := false)) (fb_ix ix_seq o_ix (fe_var (pv 0)) (fe_lb (fe_op op_addA o_add (fe_var (pv 1)) (fe_var (pv 4)))) (fun _ _ => rfl)) (fe_var (pv 3)) (by rfl))))) (fs_one (fs_set (i := 4) sc_run_length.nd rfl (by first | exact Or.inl rfl | exact Or.inr rfl) (fe_op op_addA o_add (fe_var (pv 4)) (fe_lb (fe_c pe_int fun _ _ => .int _))))))
    (fs_one (fs_retV (i := 4) (pv 4)))))
abbrev st_token_sort : Stmt := topS 8
theorem sc_token_sort : FnScope ["token"] ["token"] (defScope st_token_sort) := ⟨rfl, rfl, rfl, by decide +kernel, rfl, by decide +kernel, by decide +kernel⟩
theorem ok_token_sort (F : DefAt K mg "token_sort" st_token_sort ["token"]) (z_len : mg "len" = none) (g_SMALL : GlobD ⟨K, mg⟩ "SMALL" gv_SMALL) (g_LONGEST_WORD : GlobD ⟨K, mg⟩ "LONGEST_WORD" gv_LONGEST_WORD) (g_FIGURES : GlobD ⟨K, mg⟩ "FIGURES" gv_FIGURES) (g_LONGEST_NUMERAL : GlobD ⟨K, mg⟩ "LONGEST_NUMERAL" gv_LONGEST_NUMERAL) (g_SIGNS : GlobD ⟨K, mg⟩ "SIGNS" gv_SIGNS) : Cal P w K mg base "token_sort" 1 ["token"] w_token_sort := by
  refine cal_mk (r := r_token_sort) F sc_token_sort fun f cdv A outer s H E hr => ?_
  exact (fs_cons (fs_if (ft_cmp op_inA (o_in (neg := false)) (fb_ix ix_seq o_ix (fe_var (pv 0)) (fe_lb (fe_c pe_int fun _ _ => .int _)) (fun _ _ => rfl)) (fe_lb (fe_glob g_SMALL (by rfl))) (by rfl)) (fs_one (fs_ret (fe_if (ft_cmp op_le o_le (fe_lb (fe_callB call_len o_len (by rfl) z_len (by decide +kernel) (fb_cons (fe_var (pv 0)) fb_nil))) (fe_lb (fe_glob g_LONGEST_WORD (by rfl))) (nomark _)) (fe_c pe_str fun _ _ => FD.str' (by decide +kernel)) (fe_c pe_str fun _ _ => FD.str' (by decide +kernel))))) fs_nil)
    (fs_cons (fs_if (ft_cmp op_inA (o_in (neg := false)) (fb_ix ix_seq o_ix (fe_var (pv 0)) (fe_lb (fe_c pe_int fun _ _ => .int _)) (fun _ _ => rfl)) (fe_lb (fe_glob g_FIGURES (by rfl))) (by rfl)) (fs_cons (fs_if (PW.pt (fw_or (ft_cmp op_gt o_gt (fe_lb (fe_callB call_len o_len (by rfl) z_len (by decide +kernel) (fb_cons (fe_var (pv 0)) fb_nil))) (fe_lb (fe_glob g_LONGEST_NUMERAL (by rfl))) (nomark _)) (fw_one_or (PW.pt (fw_and (ft_cmp op_gt o_gt (fe_lb (fe_callB call_len o_len (by rfl) z_len (by decide +kernel) (fb_cons (fe_var (pv 0)) fb_nil))) (fe_lb (fe_c pe_int fun _ _ => .int _)) (nomark _)) (fw_one_and (ft_cmp op_eq o_eq (fb_ix ix_seq o_ix (fe_var (pv 0)) (fe_lb (fe_c pe_int fun _ _ => .int _)) (fun _ _ => rfl)) (fe_lb (fe_c pe_str fun _ _ => FD.str' (by decide +kernel))) (nomark _)))))))) (fs_one (fs_ret (fe_c pe_str fun _ _ => FD.str' (by decide +kernel)))) fs_nil)
    (fs_one (fs_ret (fe_c pe_str fun _ _ => FD.str' (by decide +kernel))))) fs_nil)
    (fs_one (fs_ret (fe_if (ft_cmp op_inA (o_in (neg := false)) (fe_var (pv 0)) (fe_lb (fe_glob g_SIGNS (by rfl))) (by rfl)) (fe_c pe_str fun _ _ => FD.str' (by decide +kernel)) (fe_c pe_str fun _ _ => FD.str' (by decide +kernel)))))))
abbrev st__law_whole : Stmt := topS 11
theorem sc__law_whole : FnScope ["value"] ["value"] (defScope st__law_whole) := ⟨rfl, rfl, rfl, by decide +kernel, rfl, by decide +kernel, by decide +kernel⟩
theorem ok__law_whole (F : DefAt K mg "_law_whole" st__law_whole ["value"]) (z_bool : mg "bool" = none) (z_isinstance : mg "isinstance" = none) (z_int : mg "int" = none) : Cal P w K mg base "_law_whole" 1 ["value"] w__law_whole := by
  refine cal_mk (r := r__law_whole) F sc__law_whole fun f cdv A outer s H E hr => ?_
  exact (fs_one (fs_ret (fe_and (op := .And) (fe_isi rfl (fe_var (pv 0)) (pe_bltn (by rfl) z_int (by decide +kernel) rfl) (by rfl) z_isinstance) (fe_one (fe_not (fe_isi rfl (fe_var (pv 0)) (pe_bltn (by rfl) z_bool (by decide +kernel) rfl) (by rfl) z_isinstance))))))
abbrev st__law_cell : Stmt := topS 12
theorem sc__law_cell : FnScope ["script", "k", "seed", "cell"] ["script", "k"] (defScope st__law_cell) := ⟨rfl, rfl, rfl, by decide +kernel, rfl, by decide +kernel, by decide +kernel⟩
theorem ok__law_cell (F : DefAt K mg "_law_cell" st__law_cell ["script", "k"]) (z_len : mg "len" = none) (z_int : mg "int" = none) : Cal P w K mg base "_law_cell" 1 ["script", "k"] w__law_cell := by
  refine cal_mk (r := r__law_cell) F sc__law_cell fun f cdv A outer s H E hr => ?_
  exact (fs_cons (fs_if (ft_cmp op_lt o_lt (fe_var (pv 1)) (fe_lb (fe_callB call_len o_len (by rfl) z_len (by decide +kernel) (fb_cons (fe_var (pv 0)) fb_nil))) (nomark _)) (fs_one (fs_ret (fe_dat (fb_ix ix_seq o_ix (fe_var (pv 0)) (fe_var (pv 1)) (fun _ _ => rfl))))) fs_nil)
    (fs_cons (fs_set (i := 2) sc__law_cell.nd rfl (by first | exact Or.inl rfl | exact Or.inr rfl) (fe_c pe_int fun _ _ => .int _))
    (fs_cons (fs_for (vs := [3]) (passes_of rfl) rfl (fi_any rfl (fe_var (pv 0))) (fg_name (pg_name (i := 3) sc__law_cell.nd rfl (by first | exact Or.inl rfl | exact Or.inr rfl))) (fs_one (fs_set (i := 2) sc__law_cell.nd rfl (by first | exact Or.inl rfl | exact Or.inr rfl) (fe_op op_mod o_mod (fe_lb (fe_callTy call_int1 o_intC (by rfl) z_int (by decide +kernel) (fb_cons (fe_lb (fe_op op_addA o_add (fe_lb (fe_op op_mulW o_mul (fe_var (pv 2)) (fe_lb (fe_c pe_int fun _ _ => .int _)))) (fe_lb (fe_op op_mod o_mod (fe_lb (fe_callTy call_int1 o_intC (by rfl) z_int (by decide +kernel) (fb_cons (fe_var (pv 3)) fb_nil))) (fe_lb (fe_c pe_int fun _ _ => .int _)))))) fb_nil))) (fe_lb (fe_c pe_int fun _ _ => .int _))))))
    (fs_one (fs_ret (fe_op op_mod o_mod (fe_lb (fe_callTy call_int1 o_intC (by rfl) z_int (by decide +kernel) (fb_cons (fe_lb (fe_op op_mulW o_mul (fe_lb (fe_op op_mulW o_mul (fe_lb (fe_op op_addA o_add (fe_var (pv 2)) (fe_lb (fe_c pe_int fun _ _ => .int _)))) (fe_lb (fe_op op_addA o_add (fe_var (pv 1)) (fe_lb (fe_c pe_int fun _ _ => .int _)))))) (fe_lb (fe_c pe_int fun _ _ => .int _)))) fb_nil))) (fe_lb (fe_c pe_int fun _ _ => .int _))))))))
abbrev st__law_digits : Stmt := topS 13
theorem sc__law_digits : FnScope ["cell", "sizes", "row", "rest", "seed", "k", "size", "twice"] ["cell", "sizes"] (defScope st__law_digits) := ⟨rfl, rfl, rfl, by decide +kernel, rfl, by decide +kernel, by decide +kernel⟩
theorem ok__law_digits (F : DefAt K mg "_law_digits" st__law_digits ["cell", "sizes"]) (z_int : mg "int" = none) (z_len : mg "len" = none) (z_range : mg "range" = none) : Cal P w K mg base "_law_digits" 1 ["cell", "sizes"] w__law_digits := by
  refine cal_mk (r := r__law_digits) F sc__law_digits fun f cdv A outer s H E hr => ?_
  exact (fs_cons (fs_set (i := 2) sc__law_digits.nd rfl (by first | exact Or.inl rfl | exact Or.inr rfl) (fe_lst fa_nil))
    (fs_cons (fs_set (i := 3) sc__law_digits.nd rfl (by first | exact Or.inl rfl | exact Or.inr rfl) (fe_callTy call_int1 o_intC (by rfl) z_int (by decide +kernel) (fb_cons (fe_var (pv 0)) fb_nil)))
    (fs_cons (fs_if (ft_cmp op_ge o_ge (fe_var (pv 3)) (fe_lb (fe_op op_pow o_pow (fe_lb (fe_c pe_int fun _ _ => .int _)) (fe_lb (fe_c pe_int fun _ _ => .int _)))) (nomark _)) (fs_cons (fs_set (i := 3) sc__law_digits.nd rfl (by first | exact Or.inl rfl | exact Or.inr rfl) (fe_op op_sub o_sub (fe_var (pv 3)) (fe_lb (fe_op op_pow o_pow (fe_lb (fe_c pe_int fun _ _ => .int _)) (fe_lb (fe_c pe_int fun _ _ => .int _))))))
    (fs_cons (fs_for (vs := [6]) (passes_of rfl) rfl (fi_any rfl (fe_var (pv 1))) (fg_name (pg_name (i := 6) sc__law_digits.nd rfl (by first | exact Or.inl rfl | exact Or.inr rfl))) (fs_cons (fs_append (i := 2) rfl (pv 2) (fe_op op_mod o_mod (fe_lb (fe_callTy call_int1 o_intC (by rfl) z_int (by decide +kernel) (fb_cons (fe_var (pv 3)) fb_nil))) (fe_var (pv 6))))
    (fs_one (fs_set (i := 3) sc__law_digits.nd rfl (by first | exact Or.inl rfl | exact Or.inr rfl) (fe_op op_fdivW o_fdiv (fe_lb (fe_callTy call_int1 o_intC (by rfl) z_int (by decide +kernel) (fb_cons (fe_var (pv 3)) fb_nil))) (fe_var (pv 6)))))))
    (fs_one (fs_retV (i := 2) (pv 2))))) fs_nil)
    (fs_cons (fs_set (i := 4) sc__law_digits.nd rfl (by first | exact Or.inl rfl | exact Or.inr rfl) (fe_op op_mod o_mod (fe_lb (fe_callTy call_int1 o_intC (by rfl) z_int (by decide +kernel) (fb_cons (fe_var (pv 3)) fb_nil))) (fe_lb (fe_c pe_int fun _ _ => .int _))))
    (fs_cons (fs_for (vs := [5]) (passes_of rfl) rfl (fi_rng1 (by rfl) z_range (fb_cons (fe_lb (fe_callB call_len o_len (by rfl) z_len (by decide +kernel) (fb_cons (fe_var (pv 1)) fb_nil))) fb_nil)) (fg_name (pg_name (i := 5) sc__law_digits.nd rfl (by first | exact Or.inl rfl | exact Or.inr rfl))) (fs_cons (fs_set (i := 4) sc__law_digits.nd rfl (by first | exact Or.inl rfl | exact Or.inr rfl) (fe_op op_mod o_mod (fe_lb (fe_callTy call_int1 o_intC (by rfl) z_int (by decide +kernel) (fb_cons (fe_lb (fe_op op_addA o_add (fe_lb (fe_op op_addA o_add (fe_lb (fe_op op_mulW o_mul (fe_var (pv 4)) (fe_lb (fe_c pe_int fun _ _ => .int _)))) (fe_lb (fe_op op_mulW o_mul (fe_lb (fe_c pe_int fun _ _ => .int _)) (fe_var (pv 5)))))) (fe_lb (fe_c pe_int fun _ _ => .int _)))) fb_nil))) (fe_lb (fe_c pe_int fun _ _ => .int _))))
    (fs_cons (fs_set (i := 7) sc__law_digits.nd rfl (by first | exact Or.inl rfl | exact Or.inr rfl) (fe_op op_mod o_mod (fe_lb (fe_callTy call_int1 o_intC (by rfl) z_int (by decide +kernel) (fb_cons (fe_lb (fe_op op_mulW o_mul (fe_var (pv 4)) (fe_lb (fe_op op_addA o_add (fe_lb (fe_op op_fdivW o_fdiv (fe_var (pv 4)) (fe_lb (fe_c pe_int fun _ _ => .int _)))) (fe_lb (fe_c pe_int fun _ _ => .int _)))))) fb_nil))) (fe_lb (fe_c pe_int fun _ _ => .int _))))
    (fs_one (fs_append (i := 2) rfl (pv 2) (fe_op op_mod o_mod (fe_lb (fe_op op_fdivW o_fdiv (fe_var (pv 7)) (fe_lb (fe_c pe_int fun _ _ => .int _)))) (fb_ix ix_seq o_ix (fe_var (pv 1)) (fe_var (pv 5)) (fun _ _ => rfl))))))))
    (fs_one (fs_retV (i := 2) (pv 2))))))))
abbrev st__law_alphabet : Stmt := topS 14
theorem sc__law_alphabet : FnScope ["chars"] [] (defScope st__law_alphabet) := ⟨rfl, rfl, rfl, by decide +kernel, rfl, by decide +kernel, by decide +kernel⟩
theorem ok__law_alphabet (F : DefAt K mg "_law_alphabet" st__law_alphabet []) : Cal P w K mg base "_law_alphabet" 1 [] w__law_alphabet := by
  refine cal_mk (r := r__law_alphabet) F sc__law_alphabet fun f cdv A outer s H E hr => ?_
  exact (fs_cons (fs_set (i := 0) sc__law_alphabet.nd rfl (by first | exact Or.inl rfl | exact Or.inr rfl) (fe_c pe_str fun _ _ => FD.str' (by decide +kernel)))
    (fs_one (fs_ret (fe_op op_addA o_add (fe_var (pv 0)) (fe_lb (fe_c pe_str fun _ _ => FD.str' (by decide +kernel)))))))
abbrev st__law_small : Stmt := topS 15
theorem sc__law_small : FnScope [] [] (defScope st__law_small) := ⟨rfl, rfl, rfl, by decide +kernel, rfl, by decide +kernel, by decide +kernel⟩
theorem ok__law_small (F : DefAt K mg "_law_small" st__law_small []) : Cal P w K mg base "_law_small" 1 [] w__law_small := by
  refine cal_mk (r := r__law_small) F sc__law_small fun f cdv A outer s H E hr => ?_
  exact (fs_one (fs_ret (fe_c pe_str fun _ _ => FD.str' (by decide +kernel))))
abbrev st__law_figures : Stmt := topS 17
theorem sc__law_figures : FnScope ["row", "size", "k"] ["row", "size"] (defScope st__law_figures) := ⟨rfl, rfl, rfl, by decide +kernel, rfl, by decide +kernel, by decide +kernel⟩
theorem ok__law_figures (F : DefAt K mg "_law_figures" st__law_figures ["row", "size"]) (z_range : mg "range" = none) (z_int : mg "int" = none) : Cal P w K mg base "_law_figures" 1 ["row", "size"] w__law_figures := by
  refine cal_mk (r := r__law_figures) F sc__law_figures fun f cdv A outer s H E hr => ?_
  exact (fs_one (fs_ret (fe_join rfl (fe_lb (fe_c pe_str fun _ _ => FD.str' (by decide +kernel))) (fe_lb (fe_lc (own := [("k", 2)]) rfl sc__law_figures.nd (fi_rng1 (by rfl) z_range (fb_cons (fe_var (pv 1)) fb_nil)) (blkOk_by (own := [("k", 2)]) (N := ["row", "size", "k"]) (sc := defScope st__law_figures) (by decide +kernel)) (fun _ _ _ _ _ => (fg_name (pg_name (i := 2) sc__law_figures.nd rfl (by first | exact Or.inl rfl | exact Or.inr rfl)))) (fun _ _ _ _ _ => fts_nil) (fun _ _ _ _ _ => (fe_dat (fb_ix ix_seq o_ix (fe_lb (fe_c pe_str fun _ _ => FD.str' (by decide +kernel))) (fe_lb (fe_op op_mod o_mod (fe_lb (fe_callTy call_int1 o_intC (by rfl) z_int (by decide +kernel) (fb_cons (fb_ix ix_seq o_ix (fe_var (pv 0)) (fe_var (pv 2)) (fun _ _ => rfl)) fb_nil))) (fe_lb (fe_c pe_int fun _ _ => .int _)))) (fun _ _ => rfl)))))))))
abbrev st_token_length : Stmt := topS 7
theorem sc_token_length : FnScope ["text", "at", "end"] ["text", "at", "end"] (defScope st_token_length) := ⟨rfl, rfl, rfl, by decide +kernel, rfl, by decide +kernel, by decide +kernel⟩
theorem ok_token_length (F : DefAt K mg "token_length" st_token_length ["text", "at", "end"]) (c_run_length : Cal P w K mg base "run_length" 1 ["text", "at", "end", "chars"] w_run_length) (g_SMALL : GlobD ⟨K, mg⟩ "SMALL" gv_SMALL) (g_FIGURES : GlobD ⟨K, mg⟩ "FIGURES" gv_FIGURES) : Cal P w K mg base "token_length" 2 ["text", "at", "end"] w_token_length := by
  refine cal_mk (r := r_token_length) F sc_token_length fun f cdv A outer s H E hr => ?_
  exact (fs_cons (fs_if (ft_cmp op_inA (o_in (neg := false)) (fb_ix ix_seq o_ix (fe_var (pv 0)) (fe_var (pv 1)) (fun _ _ => rfl)) (fe_lb (fe_glob g_SMALL (by rfl))) (by rfl)) (fs_one (fs_ret (fe_cal c_run_length (hr.mono (by decide)) (by rfl) (takes_of rfl rfl rfl rfl) (fb_cons (fe_var (pv 0)) (fb_cons (fe_var (pv 1)) (fb_cons (fe_var (pv 2)) (fb_cons (fe_lb (fe_op op_addA o_add (fe_lb (fe_glob g_SMALL (by rfl))) (fe_lb (fe_glob g_FIGURES (by rfl))))) fb_nil))))))) fs_nil)
    (fs_cons (fs_if (ft_cmp op_inA (o_in (neg := false)) (fb_ix ix_seq o_ix (fe_var (pv 0)) (fe_var (pv 1)) (fun _ _ => rfl)) (fe_lb (fe_glob g_FIGURES (by rfl))) (by rfl)) (fs_one (fs_ret (fe_cal c_run_length (hr.mono (by decide)) (by rfl) (takes_of rfl rfl rfl rfl) (fb_cons (fe_var (pv 0)) (fb_cons (fe_var (pv 1)) (fb_cons (fe_var (pv 2)) (fb_cons (fe_lb (fe_glob g_FIGURES (by rfl))) fb_nil))))))) fs_nil)
    (fs_cons (fs_if (PW.pt (fw_and (ft_cmp op_lt o_lt (fe_lb (fe_op op_addA o_add (fe_var (pv 1)) (fe_lb (fe_c pe_int fun _ _ => .int _)))) (fe_var (pv 2)) (nomark _)) (fw_one_and (ft_cmp op_eq o_eq (fe_lb (fe_slice rfl (fe_var (pv 0)) (fo_some (fe_var (pv 1))) (fo_some (fe_lb (fe_op op_addA o_add (fe_var (pv 1)) (fe_lb (fe_c pe_int fun _ _ => .int _))))))) (fe_lb (fe_c pe_str fun _ _ => FD.str' (by decide +kernel))) (nomark _))))) (fs_one (fs_ret (fe_c pe_int fun _ _ => .int _))) fs_nil)
    (fs_one (fs_ret (fe_c pe_int fun _ _ => .int _))))))
abbrev st__law_word : Stmt := topS 16
theorem sc__law_word : FnScope ["row", "size", "small", "k"] ["row", "size"] (defScope st__law_word) := ⟨rfl, rfl, rfl, by decide +kernel, rfl, by decide +kernel, by decide +kernel⟩
theorem ok__law_word (F : DefAt K mg "_law_word" st__law_word ["row", "size"]) (c__law_small : Cal P w K mg base "_law_small" 1 [] w__law_small) (z_int : mg "int" = none) (z_range : mg "range" = none) : Cal P w K mg base "_law_word" 2 ["row", "size"] w__law_word := by
  refine cal_mk (r := r__law_word) F sc__law_word fun f cdv A outer s H E hr => ?_
  exact (fs_cons (fs_set (i := 2) sc__law_word.nd rfl (by first | exact Or.inl rfl | exact Or.inr rfl) (fe_cal0 c__law_small (hr.mono (by decide)) (by rfl) (takes_of rfl rfl rfl rfl)))
    (fs_one (fs_ret (fe_op op_addA o_add (fb_ix ix_seq o_ix (fe_var (pv 2)) (fe_lb (fe_op op_mod o_mod (fe_lb (fe_callTy call_int1 o_intC (by rfl) z_int (by decide +kernel) (fb_cons (fb_ix ix_seq o_ix (fe_var (pv 0)) (fe_lb (fe_c pe_int fun _ _ => .int _)) (fun _ _ => rfl)) fb_nil))) (fe_lb (fe_c pe_int fun _ _ => .int _)))) (fun _ _ => rfl)) (fe_lb (fe_join rfl (fe_lb (fe_c pe_str fun _ _ => FD.str' (by decide +kernel))) (fe_lb (fe_lc (own := [("k", 3)]) rfl sc__law_word.nd (fi_rng2 (by rfl) z_range (fb_cons (fe_lb (fe_c pe_int fun _ _ => .int _)) (fb_cons (fe_var (pv 1)) fb_nil))) (blkOk_by (own := [("k", 3)]) (N := ["row", "size", "small", "k"]) (sc := defScope st__law_word) (by decide +kernel)) (fun _ _ _ _ _ => (fg_name (pg_name (i := 3) sc__law_word.nd rfl (by first | exact Or.inl rfl | exact Or.inr rfl)))) (fun _ _ _ _ _ => fts_nil) (fun _ _ _ _ _ => (fe_dat (fb_ix ix_seq o_ix (fe_var (pv 2)) (fb_ix ix_seq o_ix (fe_var (pv 0)) (fe_var (pv 3)) (fun _ _ => rfl)) (fun _ _ => rfl))))))))))))
abbrev st__law_sort : Stmt := topS 20
theorem sc__law_sort : FnScope ["word"] ["word"] (defScope st__law_sort) := ⟨rfl, rfl, rfl, by decide +kernel, rfl, by decide +kernel, by decide +kernel⟩
theorem ok__law_sort (F : DefAt K mg "_law_sort" st__law_sort ["word"]) (c__law_small : Cal P w K mg base "_law_small" 1 [] w__law_small) (z_len : mg "len" = none) (z_int : mg "int" = none) : Cal P w K mg base "_law_sort" 2 ["word"] w__law_sort := by
  refine cal_mk (r := r__law_sort) F sc__law_sort fun f cdv A outer s H E hr => ?_
  exact (fs_cons (fs_if (ft_cmp op_inA (o_in (neg := false)) (fb_ix ix_seq o_ix (fe_var (pv 0)) (fe_lb (fe_c pe_int fun _ _ => .int _)) (fun _ _ => rfl)) (fe_lb (fe_c pe_str fun _ _ => FD.str' (by decide +kernel))) (by rfl)) (fs_cons (fs_if (PW.pt (fw_or (ft_cmp op_gt o_gt (fe_lb (fe_callB call_len o_len (by rfl) z_len (by decide +kernel) (fb_cons (fe_var (pv 0)) fb_nil))) (fe_lb (fe_c pe_int fun _ _ => .int _)) (nomark _)) (fw_one_or (PW.pt (fw_and (ft_cmp op_eq o_eq (fb_ix ix_seq o_ix (fe_var (pv 0)) (fe_lb (fe_c pe_int fun _ _ => .int _)) (fun _ _ => rfl)) (fe_lb (fe_c pe_str fun _ _ => FD.str' (by decide +kernel))) (nomark _)) (fw_one_and (ft_cmp op_ne o_ne (fe_var (pv 0)) (fe_lb (fe_c pe_str fun _ _ => FD.str' (by decide +kernel))) (nomark _)))))))) (fs_one (fs_ret (fe_c pe_str fun _ _ => FD.str' (by decide +kernel)))) fs_nil)
    (fs_one (fs_ret (fe_c pe_str fun _ _ => FD.str' (by decide +kernel))))) fs_nil)
    (fs_cons (fs_if (ft_cmp op_inA (o_in (neg := false)) (fb_ix ix_seq o_ix (fe_var (pv 0)) (fe_lb (fe_c pe_int fun _ _ => .int _)) (fun _ _ => rfl)) (fe_lb (fe_cal0 c__law_small (hr.mono (by decide)) (by rfl) (takes_of rfl rfl rfl rfl))) (by rfl)) (fs_one (fs_ret (fe_dat (fb_ix ix_seq o_ix (fe_lb (fe_lst (fa_cons (fe_c pe_str fun _ _ => FD.str' (by decide +kernel)) (fa_cons (fe_c pe_str fun _ _ => FD.str' (by decide +kernel)) fa_nil)))) (fe_lb (fe_callTy call_int1 o_intC (by rfl) z_int (by decide +kernel) (fb_cons (fe_lb (fe_cmp op_lt o_lt (fe_lb (fe_callB call_len o_len (by rfl) z_len (by decide +kernel) (fb_cons (fe_var (pv 0)) fb_nil))) (fe_lb (fe_c pe_int fun _ _ => .int _)) (nomark _))) fb_nil))) (fun _ _ => rfl))))) fs_nil)
    (fs_one (fs_ret (fe_dat (fb_ix ix_seq o_ix (fe_lb (fe_lst (fa_cons (fe_c pe_str fun _ _ => FD.str' (by decide +kernel)) (fa_cons (fe_c pe_str fun _ _ => FD.str' (by decide +kernel)) fa_nil)))) (fe_lb (fe_callTy call_int1 o_intC (by rfl) z_int (by decide +kernel) (fb_cons (fe_lb (fe_or (op := .And) (fe_cmp op_eq o_eq (fe_var (pv 0)) (fe_lb (fe_c pe_str fun _ _ => FD.str' (by decide +kernel))) (nomark _)) (fe_one (fe_cmp op_inA (o_in (neg := false)) (fe_var (pv 0)) (fe_lb (fe_c pe_str fun _ _ => FD.str' (by decide +kernel))) (by rfl))))) fb_nil))) (fun _ _ => rfl)))))))
abbrev st_tokens : Stmt := topS 9
theorem sc_tokens : FnScope ["text", "start", "end", "found", "at", "size", "token"] ["text", "start", "end"] (defScope st_tokens) := ⟨rfl, rfl, rfl, by decide +kernel, rfl, by decide +kernel, by decide +kernel⟩
theorem ok_tokens (F : DefAt K mg "tokens" st_tokens ["text", "start", "end"]) (c_token_length : Cal P w K mg base "token_length" 2 ["text", "at", "end"] w_token_length) (c_token_sort : Cal P w K mg base "token_sort" 1 ["token"] w_token_sort) (z_tuple : mg "tuple" = none) : Cal P w K mg base "tokens" 3 ["text", "start", "end"] w_tokens := by
  refine cal_mk (r := r_tokens) F sc_tokens fun f cdv A outer s H E hr => ?_
  exact (fs_cons (fs_set (i := 3) sc_tokens.nd rfl (by first | exact Or.inl rfl | exact Or.inr rfl) (fe_lst fa_nil))
    (fs_cons (fs_set (i := 4) sc_tokens.nd rfl (by first | exact Or.inl rfl | exact Or.inr rfl) (fe_dat (fe_var (pv 1))))
    (fs_cons (fs_while (passes_of rfl) (ft_cmp op_lt o_lt (fe_var (pv 4)) (fe_var (pv 2)) (nomark _)) (fs_cons (fs_set (i := 5) sc_tokens.nd rfl (by first | exact Or.inl rfl | exact Or.inr rfl) (fe_c pe_int fun _ _ => .int _))
    (fs_cons (fs_if (ft_cmp op_ne o_ne (fb_ix ix_seq o_ix (fe_var (pv 0)) (fe_var (pv 4)) (fun _ _ => rfl)) (fe_lb (fe_c pe_str fun _ _ => FD.str' (by decide +kernel))) (nomark _)) (fs_cons (fs_set (i := 5) sc_tokens.nd rfl (by first | exact Or.inl rfl | exact Or.inr rfl) (fe_cal c_token_length (hr.mono (by decide)) (by rfl) (takes_of rfl rfl rfl rfl) (fb_cons (fe_var (pv 0)) (fb_cons (fe_var (pv 4)) (fb_cons (fe_var (pv 2)) fb_nil)))))
    (fs_cons (fs_set (i := 6) sc_tokens.nd rfl (by first | exact Or.inl rfl | exact Or.inr rfl) (fe_frz (fe_slice rfl (fe_var (pv 0)) (fo_some (fe_var (pv 4))) (fo_some (fe_lb (fe_op op_addA o_add (fe_var (pv 4)) (fe_var (pv 5))))))))
    (fs_one (fs_append (i := 3) rfl (pv 3) (fe_tup (fa_cons (fe_cal c_token_sort (hr.mono (by decide)) (by rfl) (takes_of rfl rfl rfl rfl) (fb_cons (fe_var (pv 6)) fb_nil)) (fa_cons (fe_dat (fe_var (pv 6))) (fa_cons (fe_dat (fe_var (pv 4))) fa_nil)))))))) fs_nil)
    (fs_one (fs_set (i := 4) sc_tokens.nd rfl (by first | exact Or.inl rfl | exact Or.inr rfl) (fe_op op_addA o_add (fe_var (pv 4)) (fe_var (pv 5))))))))
    (fs_one (fs_ret (fe_callTy call_tuple_of o_tupC (by rfl) z_tuple (by decide +kernel) (fb_cons (fe_var (pv 3)) fb_nil)))))))
abbrev st__law_piece : Stmt := topS 18
theorem sc__law_piece : FnScope ["cell", "row", "sort", "size", "rest"] ["cell"] (defScope st__law_piece) := ⟨rfl, rfl, rfl, by decide +kernel, rfl, by decide +kernel, by decide +kernel⟩
theorem ok__law_piece (F : DefAt K mg "_law_piece" st__law_piece ["cell"]) (c__law_digits : Cal P w K mg base "_law_digits" 1 ["cell", "sizes"] w__law_digits) (c__law_alphabet : Cal P w K mg base "_law_alphabet" 1 [] w__law_alphabet) (c__law_word : Cal P w K mg base "_law_word" 2 ["row", "size"] w__law_word) (c__law_figures : Cal P w K mg base "_law_figures" 1 ["row", "size"] w__law_figures) (z_str : mg "str" = none) (hNL : NoLists K) : Cal P w K mg base "_law_piece" 3 ["cell"] w__law_piece := by
  refine cal_mk (r := r__law_piece) F sc__law_piece fun f cdv A outer s H E hr => ?_
  exact (fs_cons (fs_set (i := 1) sc__law_piece.nd rfl (by first | exact Or.inl rfl | exact Or.inr rfl) (fe_frz (fe_cal c__law_digits (hr.mono (by decide)) (by rfl) (takes_of rfl rfl rfl rfl) (fb_cons (fe_var (pv 0)) (fb_cons (fe_lb (fe_frz (fe_op op_catR (o_cat hNL) (fe_lb (fe_lst (fa_cons (fe_c pe_int fun _ _ => .int _) (fa_cons (fe_c pe_int fun _ _ => .int _) (fa_cons (fe_c pe_int fun _ _ => .int _) fa_nil))))) (fe_lb (fe_op op_rep o_rep (fe_lb (fe_lst (fa_cons (fe_c pe_int fun _ _ => .int _) fa_nil))) (fe_lb (fe_c pe_int fun _ _ => .int _))))))) fb_nil)))))
    (fs_cons (fs_set (i := 2) sc__law_piece.nd rfl (by first | exact Or.inl rfl | exact Or.inr rfl) (fe_dat (fb_ix ix_seq o_ix (fe_var (pv 1)) (fe_lb (fe_c pe_int fun _ _ => .int _)) (fun _ _ => rfl))))
    (fs_cons (fs_set (i := 3) sc__law_piece.nd rfl (by first | exact Or.inl rfl | exact Or.inr rfl) (fe_dat (fb_ix ix_seq o_ix (fe_var (pv 1)) (fe_lb (fe_c pe_int fun _ _ => .int _)) (fun _ _ => rfl))))
    (fs_cons (fs_set (i := 4) sc__law_piece.nd rfl (by first | exact Or.inl rfl | exact Or.inr rfl) (fe_frz (fe_slice rfl (fe_var (pv 1)) (fo_some (fe_lb (fe_c pe_int fun _ _ => .int _))) fo_none)))
    (fs_cons (fs_if (ft_cmp op_le o_le (fe_var (pv 2)) (fe_lb (fe_c pe_int fun _ _ => .int _)) (nomark _)) (fs_one (fs_ret (fe_dat (fb_ix ix_seq o_ix (fe_lb (fe_cal0 c__law_alphabet (hr.mono (by decide)) (by rfl) (takes_of rfl rfl rfl rfl))) (fb_ix ix_seq o_ix (fe_var (pv 1)) (fe_lb (fe_c pe_int fun _ _ => .int _)) (fun _ _ => rfl)) (fun _ _ => rfl))))) fs_nil)
    (fs_cons (fs_if (ft_cmp op_eq o_eq (fe_var (pv 2)) (fe_lb (fe_c pe_int fun _ _ => .int _)) (nomark _)) (fs_one (fs_ret (fe_cal c__law_word (hr.mono (by decide)) (by rfl) (takes_of rfl rfl rfl rfl) (fb_cons (fe_var (pv 4)) (fb_cons (fe_lb (fe_op op_addA o_add (fe_lb (fe_c pe_int fun _ _ => .int _)) (fe_lb (fe_op op_mod o_mod (fe_var (pv 3)) (fe_lb (fe_c pe_int fun _ _ => .int _)))))) fb_nil))))) fs_nil)
    (fs_cons (fs_if (ft_cmp op_eq o_eq (fe_var (pv 2)) (fe_lb (fe_c pe_int fun _ _ => .int _)) (nomark _)) (fs_one (fs_ret (fe_cal c__law_word (hr.mono (by decide)) (by rfl) (takes_of rfl rfl rfl rfl) (fb_cons (fe_var (pv 4)) (fb_cons (fe_lb (fe_op op_addA o_add (fe_lb (fe_c pe_int fun _ _ => .int _)) (fe_lb (fe_op op_mod o_mod (fe_var (pv 3)) (fe_lb (fe_c pe_int fun _ _ => .int _)))))) fb_nil))))) fs_nil)
    (fs_cons (fs_if (ft_cmp op_eq o_eq (fe_var (pv 2)) (fe_lb (fe_c pe_int fun _ _ => .int _)) (nomark _)) (fs_one (fs_ret (fe_cal c__law_figures (hr.mono (by decide)) (by rfl) (takes_of rfl rfl rfl rfl) (fb_cons (fe_var (pv 4)) (fb_cons (fe_lb (fe_op op_addA o_add (fe_lb (fe_c pe_int fun _ _ => .int _)) (fe_var (pv 3)))) fb_nil))))) fs_nil)
    (fs_cons (fs_if (ft_cmp op_eq o_eq (fe_var (pv 2)) (fe_lb (fe_c pe_int fun _ _ => .int _)) (nomark _)) (fs_one (fs_ret (fe_cal c__law_word (hr.mono (by decide)) (by rfl) (takes_of rfl rfl rfl rfl) (fb_cons (fe_var (pv 4)) (fb_cons (fe_lb (fe_op op_addA o_add (fe_lb (fe_c pe_int fun _ _ => .int _)) (fe_lb (fe_op op_mod o_mod (fe_var (pv 3)) (fe_lb (fe_c pe_int fun _ _ => .int _)))))) fb_nil))))) fs_nil)
    (fs_cons (fs_if (ft_cmp op_eq o_eq (fe_var (pv 2)) (fe_lb (fe_c pe_int fun _ _ => .int _)) (nomark _)) (fs_one (fs_ret (fe_op op_addA o_add (fe_lb (fe_callTy call_str_int o_strI (by rfl) z_str (by decide +kernel) (fb_cons (fe_lb (fe_op op_addA o_add (fe_lb (fe_c pe_int fun _ _ => .int _)) (fe_lb (fe_op op_mod o_mod (fb_ix ix_seq o_ix (fe_var (pv 1)) (fe_lb (fe_c pe_int fun _ _ => .int _)) (fun _ _ => rfl)) (fe_lb (fe_c pe_int fun _ _ => .int _)))))) fb_nil))) (fe_lb (fe_cal c__law_figures (hr.mono (by decide)) (by rfl) (takes_of rfl rfl rfl rfl) (fb_cons (fe_var (pv 4)) (fb_cons (fe_lb (fe_op op_addA o_add (fe_lb (fe_c pe_int fun _ _ => .int _)) (fe_lb (fe_op op_mod o_mod (fe_var (pv 3)) (fe_lb (fe_c pe_int fun _ _ => .int _)))))) fb_nil))))))) fs_nil)
    (fs_cons (fs_if (ft_cmp op_eq o_eq (fe_var (pv 2)) (fe_lb (fe_c pe_int fun _ _ => .int _)) (nomark _)) (fs_one (fs_ret (fe_op op_addA o_add (fe_lb (fe_c pe_str fun _ _ => FD.str' (by decide +kernel))) (fe_lb (fe_cal c__law_figures (hr.mono (by decide)) (by rfl) (takes_of rfl rfl rfl rfl) (fb_cons (fe_var (pv 4)) (fb_cons (fe_lb (fe_op op_mod o_mod (fe_var (pv 3)) (fe_lb (fe_c pe_int fun _ _ => .int _)))) fb_nil))))))) fs_nil)
    (fs_cons (fs_if (ft_cmp op_eq o_eq (fe_var (pv 2)) (fe_lb (fe_c pe_int fun _ _ => .int _)) (nomark _)) (fs_one (fs_ret (fe_dat (fb_ix ix_seq o_ix (fe_lb (fe_lst (fa_cons (fe_c pe_str fun _ _ => FD.str' (by decide +kernel)) (fa_cons (fe_c pe_str fun _ _ => FD.str' (by decide +kernel)) (fa_cons (fe_c pe_str fun _ _ => FD.str' (by decide +kernel)) (fa_cons (fe_c pe_str fun _ _ => FD.str' (by decide +kernel)) (fa_cons (fe_c pe_str fun _ _ => FD.str' (by decide +kernel)) (fa_cons (fe_c pe_str fun _ _ => FD.str' (by decide +kernel)) (fa_cons (fe_c pe_str fun _ _ => FD.str' (by decide +kernel)) (fa_cons (fe_c pe_str fun _ _ => FD.str' (by decide +kernel)) (fa_cons (fe_c pe_str fun _ _ => FD.str' (by decide +kernel)) (fa_cons (fe_c pe_str fun _ _ => FD.str' (by decide +kernel)) (fa_cons (fe_c pe_str fun _ _ => FD.str' (by decide +kernel)) (fa_cons (fe_c pe_str fun _ _ => FD.str' (by decide +kernel)) fa_nil)))))))))))))) (fe_lb (fe_op op_mod o_mod (fe_var (pv 3)) (fe_lb (fe_c pe_int fun _ _ => .int _)))) (fun _ _ => rfl))))) fs_nil)
    (fs_cons (fs_if (ft_cmp op_eq o_eq (fe_var (pv 2)) (fe_lb (fe_c pe_int fun _ _ => .int _)) (nomark _)) (fs_one (fs_ret (fe_dat (fb_ix ix_seq o_ix (fe_lb (fe_lst (fa_cons (fe_c pe_str fun _ _ => FD.str' (by decide +kernel)) (fa_cons (fe_c pe_str fun _ _ => FD.str' (by decide +kernel)) (fa_cons (fe_c pe_str fun _ _ => FD.str' (by decide +kernel)) (fa_cons (fe_c pe_str fun _ _ => FD.str' (by decide +kernel)) (fa_cons (fe_c pe_str fun _ _ => FD.str' (by decide +kernel)) (fa_cons (fe_c pe_str fun _ _ => FD.str' (by decide +kernel)) (fa_cons (fe_c pe_str fun _ _ => FD.str' (by decide +kernel)) (fa_cons (fe_c pe_str fun _ _ => FD.str' (by decide +kernel)) fa_nil)))))))))) (fe_lb (fe_op op_mod o_mod (fe_var (pv 3)) (fe_lb (fe_c pe_int fun _ _ => .int _)))) (fun _ _ => rfl))))) fs_nil)
    (fs_cons (fs_if (ft_cmp op_eq o_eq (fe_var (pv 2)) (fe_lb (fe_c pe_int fun _ _ => .int _)) (nomark _)) (fs_one (fs_ret (fe_dat (fb_ix ix_seq o_ix (fe_lb (fe_lst (fa_cons (fe_c pe_str fun _ _ => FD.str' (by decide +kernel)) (fa_cons (fe_c pe_str fun _ _ => FD.str' (by decide +kernel)) (fa_cons (fe_c pe_str fun _ _ => FD.str' (by decide +kernel)) (fa_cons (fe_c pe_str fun _ _ => FD.str' (by decide +kernel)) fa_nil)))))) (fe_lb (fe_op op_mod o_mod (fe_var (pv 3)) (fe_lb (fe_c pe_int fun _ _ => .int _)))) (fun _ _ => rfl))))) fs_nil)
    (fs_one (fs_ret (fe_dat (fb_ix ix_seq o_ix (fe_lb (fe_lst (fa_cons (fe_op op_addA o_add (fe_lb (fe_cal c__law_word (hr.mono (by decide)) (by rfl) (takes_of rfl rfl rfl rfl) (fb_cons (fe_var (pv 4)) (fb_cons (fe_lb (fe_op op_addA o_add (fe_lb (fe_c pe_int fun _ _ => .int _)) (fe_lb (fe_op op_mod o_mod (fe_var (pv 3)) (fe_lb (fe_c pe_int fun _ _ => .int _)))))) fb_nil)))) (fb_ix ix_seq o_ix (fe_lb (fe_c pe_str fun _ _ => FD.str' (by decide +kernel))) (fe_lb (fe_op op_mod o_mod (fb_ix ix_seq o_ix (fe_var (pv 1)) (fe_lb (fe_c pe_int fun _ _ => .int _)) (fun _ _ => rfl)) (fe_lb (fe_c pe_int fun _ _ => .int _)))) (fun _ _ => rfl))) (fa_cons (fe_c pe_str fun _ _ => FD.str' (by decide +kernel)) fa_nil)))) (fe_lb (fe_op op_mod o_mod (fe_var (pv 3)) (fe_lb (fe_c pe_int fun _ _ => .int _)))) (fun _ _ => rfl)))))))))))))))))))
abbrev st__law_due : Stmt := topS 19
theorem sc__law_due : FnScope ["text", "start", "end", "small", "found", "going", "at", "char", "row"] ["text", "start", "end"] (defScope st__law_due) := ⟨rfl, rfl, rfl, by decide +kernel, rfl, by decide +kernel, by decide +kernel⟩
theorem ok__law_due (F : DefAt K mg "_law_due" st__law_due ["text", "start", "end"]) (c__law_small : Cal P w K mg base "_law_small" 1 [] w__law_small) (c__law_sort : Cal P w K mg base "_law_sort" 2 ["word"] w__law_sort) (z_range : mg "range" = none) (z_len : mg "len" = none) : Cal P w K mg base "_law_due" 3 ["text", "start", "end"] w__law_due := by
  refine cal_mk (r := r__law_due) F sc__law_due fun f cdv A outer s H E hr => ?_
  exact (fs_cons (fs_set (i := 3) sc__law_due.nd rfl (by first | exact Or.inl rfl | exact Or.inr rfl) (fe_cal0 c__law_small (hr.mono (by decide)) (by rfl) (takes_of rfl rfl rfl rfl)))
    (fs_cons (fs_set (i := 4) sc__law_due.nd rfl (by first | exact Or.inl rfl | exact Or.inr rfl) (fe_lst fa_nil))
    (fs_cons (fs_set (i := 5) sc__law_due.nd rfl (by first | exact Or.inl rfl | exact Or.inr rfl) (fe_c pe_str fun _ _ => FD.str' (by decide +kernel)))
    (fs_cons (fs_for (vs := [6]) (passes_of rfl) rfl (fi_rng2 (by rfl) z_range (fb_cons (fe_var (pv 1)) (fb_cons (fe_var (pv 2)) fb_nil))) (fg_name (pg_name (i := 6) sc__law_due.nd rfl (by first | exact Or.inl rfl | exact Or.inr rfl))) (fs_cons (fs_set (i := 7) sc__law_due.nd rfl (by first | exact Or.inl rfl | exact Or.inr rfl) (fe_dat (fb_ix ix_seq o_ix (fe_var (pv 0)) (fe_var (pv 6)) (fun _ _ => rfl))))
    (fs_one (fs_if (PW.pt (fw_or (PW.pt (fw_and (ft_cmp op_eq o_eq (fe_var (pv 5)) (fe_lb (fe_c pe_str fun _ _ => FD.str' (by decide +kernel))) (nomark _)) (fw_one_and (ft_cmp op_inA (o_in (neg := false)) (fe_var (pv 7)) (fe_var (pv 3)) (by rfl))))) (fw_one_or (PW.pt (fw_and (ft_cmp op_eq o_eq (fe_var (pv 5)) (fe_lb (fe_c pe_str fun _ _ => FD.str' (by decide +kernel))) (nomark _)) (fw_one_and (ft_cmp op_inA (o_in (neg := false)) (fe_var (pv 7)) (fe_lb (fe_c pe_str fun _ _ => FD.str' (by decide +kernel))) (by rfl)))))))) (fs_one (fs_set1 (i := 4) rfl (fe_op op_addA o_add (fb_ix ix_seq o_ix (fb_ix ix_seq o_ix (fe_var (pv 4)) (fe_lb (fe_op op_sub o_sub (fe_lb (fe_callB call_len o_len (by rfl) z_len (by decide +kernel) (fb_cons (fe_var (pv 4)) fb_nil))) (fe_lb (fe_c pe_int fun _ _ => .int _)))) (fun _ _ => rfl)) (fe_lb (fe_c pe_int fun _ _ => .int _)) (fun _ _ => rfl)) (fe_var (pv 7))) (pv 4) (fe_lb (fe_op op_sub o_sub (fe_lb (fe_callB call_len o_len (by rfl) z_len (by decide +kernel) (fb_cons (fe_var (pv 4)) fb_nil))) (fe_lb (fe_c pe_int fun _ _ => .int _)))) (fun _ _ => rfl) (fe_lb (fe_c pe_int fun _ _ => .int _)))) (fs_one (fs_if (PW.pt (fw_and (ft_cmp op_eq o_eq (fe_var (pv 5)) (fe_lb (fe_c pe_str fun _ _ => FD.str' (by decide +kernel))) (nomark _)) (fw_one_and (ft_cmp op_eq o_eq (fe_var (pv 7)) (fe_lb (fe_c pe_str fun _ _ => FD.str' (by decide +kernel))) (nomark _))))) (fs_cons (fs_set1 (i := 4) rfl (fe_c pe_str fun _ _ => FD.str' (by decide +kernel)) (pv 4) (fe_lb (fe_op op_sub o_sub (fe_lb (fe_callB call_len o_len (by rfl) z_len (by decide +kernel) (fb_cons (fe_var (pv 4)) fb_nil))) (fe_lb (fe_c pe_int fun _ _ => .int _)))) (fun _ _ => rfl) (fe_lb (fe_c pe_int fun _ _ => .int _)))
    (fs_one (fs_set (i := 5) sc__law_due.nd rfl (by first | exact Or.inl rfl | exact Or.inr rfl) (fe_c pe_str fun _ _ => FD.str' (by decide +kernel))))) (fs_cons (fs_set (i := 5) sc__law_due.nd rfl (by first | exact Or.inl rfl | exact Or.inr rfl) (fe_c pe_str fun _ _ => FD.str' (by decide +kernel)))
    (fs_one (fs_if (ft_cmp op_ne o_ne (fe_var (pv 7)) (fe_lb (fe_c pe_str fun _ _ => FD.str' (by decide +kernel))) (nomark _)) (fs_cons (fs_append (i := 4) rfl (pv 4) (fe_lst (fa_cons (fe_dat (fe_var (pv 7))) (fa_cons (fe_dat (fe_var (pv 6))) fa_nil))))
    (fs_one (fs_if (ft_cmp op_inA (o_in (neg := false)) (fe_var (pv 7)) (fe_lb (fe_c pe_str fun _ _ => FD.str' (by decide +kernel))) (by rfl)) (fs_one (fs_set (i := 5) sc__law_due.nd rfl (by first | exact Or.inl rfl | exact Or.inr rfl) (fe_c pe_str fun _ _ => FD.str' (by decide +kernel)))) (fs_one (fs_if (ft_cmp op_inA (o_in (neg := false)) (fe_var (pv 7)) (fe_var (pv 3)) (by rfl)) (fs_one (fs_set (i := 5) sc__law_due.nd rfl (by first | exact Or.inl rfl | exact Or.inr rfl) (fe_c pe_str fun _ _ => FD.str' (by decide +kernel)))) (fs_one (fs_if (ft_cmp op_eq o_eq (fe_var (pv 7)) (fe_lb (fe_c pe_str fun _ _ => FD.str' (by decide +kernel))) (nomark _)) (fs_one (fs_set (i := 5) sc__law_due.nd rfl (by first | exact Or.inl rfl | exact Or.inr rfl) (fe_c pe_str fun _ _ => FD.str' (by decide +kernel)))) fs_nil))))))) fs_nil)))))))))
    (fs_fz (i := 4) (fs_one (fs_ret (fe_lc (own := [("row", 8)]) rfl sc__law_due.nd (fi_any rfl (fe_var (pv 4))) (blkOk_by (own := [("row", 8)]) (N := ["text", "start", "end", "small", "found", "going", "at", "char", "row"]) (sc := defScope st__law_due) (by decide +kernel)) (fun _ _ _ _ _ => (fg_name (pg_name (i := 8) sc__law_due.nd rfl (by first | exact Or.inl rfl | exact Or.inr rfl)))) (fun _ _ _ _ _ => fts_nil) (fun _ _ _ _ _ => (fe_tup (fa_cons (fe_cal c__law_sort (hr.mono (by decide)) (by rfl) takes0 (fb_cons (fb_ix ix_seq o_ix (fe_var (pv 8)) (fe_lb (fe_c pe_int fun _ _ => .int _)) (fun _ _ => rfl)) fb_nil)) (fa_cons (fe_dat (fb_ix ix_seq o_ix (fe_var (pv 8)) (fe_lb (fe_c pe_int fun _ _ => .int _)) (fun _ _ => rfl))) (fa_cons (fe_dat (fb_ix ix_seq o_ix (fe_var (pv 8)) (fe_lb (fe_c pe_int fun _ _ => .int _)) (fun _ _ => rfl))) fa_nil)))))))))))))
abbrev st__law_right : Stmt := topS 21
theorem sc__law_right : FnScope ["text", "start", "end", "due", "told", "k", "row"] ["text", "start", "end"] (defScope st__law_right) := ⟨rfl, rfl, rfl, by decide +kernel, rfl, by decide +kernel, by decide +kernel⟩
theorem ok__law_right (F : DefAt K mg "_law_right" st__law_right ["text", "start", "end"]) (c__law_due : Cal P w K mg base "_law_due" 3 ["text", "start", "end"] w__law_due) (c_tokens : Cal P w K mg base "tokens" 3 ["text", "start", "end"] w_tokens) (c__law_whole : Cal P w K mg base "_law_whole" 1 ["value"] w__law_whole) (z_len : mg "len" = none) (z_tuple : mg "tuple" = none) (z_isinstance : mg "isinstance" = none) (z_range : mg "range" = none) (z_str : mg "str" = none) : Cal P w K mg base "_law_right" 4 ["text", "start", "end"] w__law_right := by
  refine cal_mk (r := r__law_right) F sc__law_right fun f cdv A outer s H E hr => ?_
  exact (fs_cons (fs_set (i := 3) sc__law_right.nd rfl (by first | exact Or.inl rfl | exact Or.inr rfl) (fe_frz (fe_cal c__law_due (hr.mono (by decide)) (by rfl) (takes_of rfl rfl rfl rfl) (fb_cons (fe_var (pv 0)) (fb_cons (fe_var (pv 1)) (fb_cons (fe_var (pv 2)) fb_nil))))))
    (fs_cons (fs_set (i := 4) sc__law_right.nd rfl (by first | exact Or.inl rfl | exact Or.inr rfl) (fe_cal c_tokens (hr.mono (by decide)) (by rfl) (takes_of rfl rfl rfl rfl) (fb_cons (fe_var (pv 0)) (fb_cons (fe_var (pv 1)) (fb_cons (fe_var (pv 2)) fb_nil)))))
    (fs_cons (fs_if (PW.pt (fw_or (ft_not (ft_val rfl (fe_lb (fe_isi rfl (fe_var (pv 4)) (pe_bltn (by rfl) z_tuple (by decide +kernel) rfl) (by rfl) z_isinstance)))) (fw_one_or (ft_cmp op_ne o_ne (fe_lb (fe_callB call_len o_len (by rfl) z_len (by decide +kernel) (fb_cons (fe_var (pv 4)) fb_nil))) (fe_lb (fe_callB call_len o_len (by rfl) z_len (by decide +kernel) (fb_cons (fe_var (pv 3)) fb_nil))) (nomark _))))) (fs_one (fs_ret (fe_c pe_bl fun _ _ => .bl _))) fs_nil)
    (fs_cons (fs_for (vs := [5]) (passes_of rfl) rfl (fi_rng1 (by rfl) z_range (fb_cons (fe_lb (fe_callB call_len o_len (by rfl) z_len (by decide +kernel) (fb_cons (fe_var (pv 3)) fb_nil))) fb_nil)) (fg_name (pg_name (i := 5) sc__law_right.nd rfl (by first | exact Or.inl rfl | exact Or.inr rfl))) (fs_cons (fs_set (i := 6) sc__law_right.nd rfl (by first | exact Or.inl rfl | exact Or.inr rfl) (fe_dat (fb_ix ix_seq o_ix (fe_var (pv 4)) (fe_var (pv 5)) (fun _ _ => rfl))))
    (fs_cons (fs_if (PW.pt (fw_or (ft_not (ft_val rfl (fe_lb (fe_isi rfl (fe_var (pv 6)) (pe_bltn (by rfl) z_tuple (by decide +kernel) rfl) (by rfl) z_isinstance)))) (fw_one_or (ft_cmp op_ne o_ne (fe_lb (fe_callB call_len o_len (by rfl) z_len (by decide +kernel) (fb_cons (fe_var (pv 6)) fb_nil))) (fe_lb (fe_c pe_int fun _ _ => .int _)) (nomark _))))) (fs_one (fs_ret (fe_c pe_bl fun _ _ => .bl _))) fs_nil)
    (fs_cons (fs_if (PW.pt (fw_or (ft_not (ft_val rfl (fe_lb (fe_isi rfl (fb_ix ix_seq o_ix (fe_var (pv 6)) (fe_lb (fe_c pe_int fun _ _ => .int _)) (fun _ _ => rfl)) (pe_bltn (by rfl) z_str (by decide +kernel) rfl) (by rfl) z_isinstance)))) (fw_or (ft_not (ft_val rfl (fe_lb (fe_isi rfl (fb_ix ix_seq o_ix (fe_var (pv 6)) (fe_lb (fe_c pe_int fun _ _ => .int _)) (fun _ _ => rfl)) (pe_bltn (by rfl) z_str (by decide +kernel) rfl) (by rfl) z_isinstance)))) (fw_one_or (ft_not (ft_val rfl (fe_lb (fe_cal c__law_whole (hr.mono (by decide)) (by rfl) (takes_of rfl rfl rfl rfl) (fb_cons (fb_ix ix_seq o_ix (fe_var (pv 6)) (fe_lb (fe_c pe_int fun _ _ => .int _)) (fun _ _ => rfl)) fb_nil))))))))) (fs_one (fs_ret (fe_c pe_bl fun _ _ => .bl _))) fs_nil)
    (fs_one (fs_if (PW.pt (fw_or (ft_cmp op_ne o_ne (fb_ix ix_seq o_ix (fe_var (pv 6)) (fe_lb (fe_c pe_int fun _ _ => .int _)) (fun _ _ => rfl)) (fb_ix ix_seq o_ix (fb_ix ix_seq o_ix (fe_var (pv 3)) (fe_var (pv 5)) (fun _ _ => rfl)) (fe_lb (fe_c pe_int fun _ _ => .int _)) (fun _ _ => rfl)) (nomark _)) (fw_or (ft_cmp op_ne o_ne (fb_ix ix_seq o_ix (fe_var (pv 6)) (fe_lb (fe_c pe_int fun _ _ => .int _)) (fun _ _ => rfl)) (fb_ix ix_seq o_ix (fb_ix ix_seq o_ix (fe_var (pv 3)) (fe_var (pv 5)) (fun _ _ => rfl)) (fe_lb (fe_c pe_int fun _ _ => .int _)) (fun _ _ => rfl)) (nomark _)) (fw_one_or (ft_cmp op_ne o_ne (fb_ix ix_seq o_ix (fe_var (pv 6)) (fe_lb (fe_c pe_int fun _ _ => .int _)) (fun _ _ => rfl)) (fb_ix ix_seq o_ix (fb_ix ix_seq o_ix (fe_var (pv 3)) (fe_var (pv 5)) (fun _ _ => rfl)) (fe_lb (fe_c pe_int fun _ _ => .int _)) (fun _ _ => rfl)) (nomark _)))))) (fs_one (fs_ret (fe_c pe_bl fun _ _ => .bl _))) fs_nil))))))
    (fs_one (fs_ret (fe_c pe_bl fun _ _ => .bl _)))))))
abbrev st_law : Stmt := topS 22
theorem sc_law : FnScope ["script", "row", "many", "text", "start", "end", "left", "right", "k"] ["script"] (defScope st_law) := ⟨rfl, rfl, rfl, by decide +kernel, rfl, by decide +kernel, by decide +kernel⟩
theorem ok_law {f : Addr} {fd : FuncData} (F : Fun K "law" "law" st_law f fd) (c__law_cell : Cal P w K mg base "_law_cell" 1 ["script", "k"] w__law_cell) (c__law_digits : Cal P w K mg base "_law_digits" 1 ["cell", "sizes"] w__law_digits) (c__law_piece : Cal P w K mg base "_law_piece" 3 ["cell"] w__law_piece) (c__law_right : Cal P w K mg base "_law_right" 4 ["text", "start", "end"] w__law_right) (z_int : mg "int" = none) (z_range : mg "range" = none) (z_len : mg "len" = none) : FnOk P w K mg base (L2.CX P w) 5 f fd ["script"] (LF ⟨K, mg⟩ w_law) := by
  refine fn_ok (r := r_law) F sc_law fun cdv A outer s H E hr => ?_
  exact (fs_cons (fs_set (i := 1) sc_law.nd rfl (by first | exact Or.inl rfl | exact Or.inr rfl) (fe_frz (fe_cal c__law_digits (hr.mono (by decide)) (by rfl) (takes_of rfl rfl rfl rfl) (fb_cons (fe_lb (fe_cal c__law_cell (hr.mono (by decide)) (by rfl) (takes_of rfl rfl rfl rfl) (fb_cons (fe_var (pv 0)) (fb_cons (fe_lb (fe_c pe_int fun _ _ => .int _)) fb_nil)))) (fb_cons (fe_lb (fe_frz (fe_lst (fa_cons (fe_c pe_int fun _ _ => .int _) (fa_cons (fe_c pe_int fun _ _ => .int _) (fa_cons (fe_c pe_int fun _ _ => .int _) (fa_cons (fe_c pe_int fun _ _ => .int _) (fa_cons (fe_c pe_int fun _ _ => .int _) fa_nil)))))))) fb_nil)))))
    (fs_cons (fs_set (i := 2) sc_law.nd rfl (by first | exact Or.inl rfl | exact Or.inr rfl) (fe_dat (fb_ix ix_seq o_ix (fe_lb (fe_lst (fa_cons (fe_op op_addA o_add (fe_lb (fe_c pe_int fun _ _ => .int _)) (fb_ix ix_seq o_ix (fe_var (pv 1)) (fe_lb (fe_c pe_int fun _ _ => .int _)) (fun _ _ => rfl))) (fa_cons (fe_c pe_int fun _ _ => .int _) fa_nil)))) (fe_lb (fe_callTy call_int1 o_intC (by rfl) z_int (by decide +kernel) (fb_cons (fe_lb (fe_cmp op_eq o_eq (fb_ix ix_seq o_ix (fe_var (pv 1)) (fe_lb (fe_c pe_int fun _ _ => .int _)) (fun _ _ => rfl)) (fe_lb (fe_c pe_int fun _ _ => .int _)) (nomark _))) fb_nil))) (fun _ _ => rfl))))
    (fs_cons (fs_set (i := 3) sc_law.nd rfl (by first | exact Or.inl rfl | exact Or.inr rfl) (fe_join rfl (fe_lb (fe_c pe_str fun _ _ => FD.str' (by decide +kernel))) (fe_lb (fe_lc (own := [("k", 8)]) rfl sc_law.nd (fi_rng1 (by rfl) z_range (fb_cons (fe_var (pv 2)) fb_nil)) (blkOk_by (own := [("k", 8)]) (N := ["script", "row", "many", "text", "start", "end", "left", "right", "k"]) (sc := defScope st_law) (by decide +kernel)) (fun _ _ _ _ _ => (fg_name (pg_name (i := 8) sc_law.nd rfl (by first | exact Or.inl rfl | exact Or.inr rfl)))) (fun _ _ _ _ _ => fts_nil) (fun _ _ _ _ _ => (fe_cal c__law_piece (hr.mono (by decide)) (by rfl) takes0 (fb_cons (fe_lb (fe_cal c__law_cell (hr.mono (by decide)) (by rfl) takes0 (fb_cons (fe_var (pv 0)) (fb_cons (fe_lb (fe_op op_addA o_add (fe_lb (fe_c pe_int fun _ _ => .int _)) (fe_var (pv 8)))) fb_nil)))) fb_nil)))))))
    (fs_cons (fs_set (i := 4) sc_law.nd rfl (by first | exact Or.inl rfl | exact Or.inr rfl) (fe_c pe_int fun _ _ => .int _))
    (fs_cons (fs_set (i := 5) sc_law.nd rfl (by first | exact Or.inl rfl | exact Or.inr rfl) (fe_callB call_len o_len (by rfl) z_len (by decide +kernel) (fb_cons (fe_var (pv 3)) fb_nil)))
    (fs_cons (fs_if (ft_cmp op_eq o_eq (fb_ix ix_seq o_ix (fe_var (pv 1)) (fe_lb (fe_c pe_int fun _ _ => .int _)) (fun _ _ => rfl)) (fe_lb (fe_c pe_int fun _ _ => .int _)) (nomark _)) (fs_cons (fs_set (i := 4) sc_law.nd rfl (by first | exact Or.inl rfl | exact Or.inr rfl) (fe_op op_mod o_mod (fe_lb (fe_callTy call_int1 o_intC (by rfl) z_int (by decide +kernel) (fb_cons (fb_ix ix_seq o_ix (fe_var (pv 1)) (fe_lb (fe_c pe_int fun _ _ => .int _)) (fun _ _ => rfl)) fb_nil))) (fe_lb (fe_op op_addA o_add (fe_lb (fe_callB call_len o_len (by rfl) z_len (by decide +kernel) (fb_cons (fe_var (pv 3)) fb_nil))) (fe_lb (fe_c pe_int fun _ _ => .int _))))))
    (fs_one (fs_set (i := 5) sc_law.nd rfl (by first | exact Or.inl rfl | exact Or.inr rfl) (fe_op op_addA o_add (fe_var (pv 4)) (fe_lb (fe_op op_mod o_mod (fe_lb (fe_callTy call_int1 o_intC (by rfl) z_int (by decide +kernel) (fb_cons (fb_ix ix_seq o_ix (fe_var (pv 1)) (fe_lb (fe_c pe_int fun _ _ => .int _)) (fun _ _ => rfl)) fb_nil))) (fe_lb (fe_op op_sub o_sub (fe_lb (fe_op op_addA o_add (fe_lb (fe_callB call_len o_len (by rfl) z_len (by decide +kernel) (fb_cons (fe_var (pv 3)) fb_nil))) (fe_lb (fe_c pe_int fun _ _ => .int _)))) (fe_var (pv 4)))))))))) fs_nil)
    (fs_cons (fs_if (ft_cmp op_inA (o_in (neg := false)) (fe_lb (fe_c pe_str fun _ _ => FD.str' (by decide +kernel))) (fe_lb (fe_slice rfl (fe_var (pv 3)) (fo_some (fe_var (pv 4))) (fo_some (fe_var (pv 5))))) (by rfl)) (fs_one (fs_set (i := 5) sc_law.nd rfl (by first | exact Or.inl rfl | exact Or.inr rfl) (fe_strM PySem.F.slot_str_find PySem.F.type_str_find mt_find3 o_find3 (fe_var (pv 3)) (fb_cons (fe_lb (fe_c pe_str fun _ _ => FD.str' (by decide +kernel))) (fb_cons (fe_var (pv 4)) fb_nil))))) fs_nil)
    (fs_cons (fs_set (i := 6) sc_law.nd rfl (by first | exact Or.inl rfl | exact Or.inr rfl) (fe_op op_addA o_add (fe_lb (fe_strM PySem.F.slot_str_rfind PySem.F.type_str_rfind mt_rfind4 o_rfind4 (fe_var (pv 3)) (fb_cons (fe_lb (fe_c pe_str fun _ _ => FD.str' (by decide +kernel))) (fb_cons (fe_lb (fe_c pe_int fun _ _ => .int _)) (fb_cons (fe_var (pv 4)) fb_nil))))) (fe_lb (fe_c pe_int fun _ _ => .int _))))
    (fs_cons (fs_set (i := 7) sc_law.nd rfl (by first | exact Or.inl rfl | exact Or.inr rfl) (fe_strM PySem.F.slot_str_find PySem.F.type_str_find mt_find3 o_find3 (fe_var (pv 3)) (fb_cons (fe_lb (fe_c pe_str fun _ _ => FD.str' (by decide +kernel))) (fb_cons (fe_var (pv 4)) fb_nil))))
    (fs_cons (fs_if (ft_cmp op_lt o_lt (fe_var (pv 7)) (fe_lb (fe_c pe_int fun _ _ => .int _)) (nomark _)) (fs_one (fs_set (i := 7) sc_law.nd rfl (by first | exact Or.inl rfl | exact Or.inr rfl) (fe_callB call_len o_len (by rfl) z_len (by decide +kernel) (fb_cons (fe_var (pv 3)) fb_nil)))) fs_nil)
    (fs_cons (fs_if (PW.pt (fw_or (ft_not (ft_val rfl (fe_lb (fe_cal c__law_right (hr.mono (by decide)) (by rfl) (takes_of rfl rfl rfl rfl) (fb_cons (fe_var (pv 3)) (fb_cons (fe_var (pv 4)) (fb_cons (fe_var (pv 5)) fb_nil))))))) (fw_one_or (ft_not (ft_val rfl (fe_lb (fe_cal c__law_right (hr.mono (by decide)) (by rfl) (takes_of rfl rfl rfl rfl) (fb_cons (fe_var (pv 3)) (fb_cons (fe_var (pv 6)) (fb_cons (fe_var (pv 7)) fb_nil)))))))))) (fs_one (fs_ret (fe_c pe_bl fun _ _ => .bl _))) fs_nil)
    (fs_one (fs_ret (fe_and (op := .And) (fe_cal c__law_right (hr.mono (by decide)) (by rfl) (takes_of rfl rfl rfl rfl) (fb_cons (fe_var (pv 3)) (fb_cons (fe_var (pv 4)) (fb_cons (fe_var (pv 5)) fb_nil)))) (fe_one (fe_cal c__law_right (hr.mono (by decide)) (by rfl) (takes_of rfl rfl rfl rfl) (fb_cons (fe_var (pv 3)) (fb_cons (fe_var (pv 4)) (fb_cons (fe_var (pv 4)) fb_nil)))))))))))))))))))
end
end K65
namespace K65
open PySem L2 L2.Fn
local macro_rules | `(tactic| walk_at "fx") => `(tactic| try simp only [mkW, fSeq, fAsg, gN, fC, fVar, fBin, fDat, fFrz, oAdd, oInt0, oInt, oIx, fIfS, fTru, oTru, fBl, fNot, fAnd, fOr, fNext, fRet, fRetV, fRetN, fLst, fTup, fNil, fCons, fCB, oLen, oIntC, oStrI, oTupC, oLstC, fApp, fSl, fPart, fNoP, oSl, fIf, fAndV, fOrV, fNotV, fIsi, M.ty, fM1, oIn, oEq, oNe, eqF, fDrop, fFor, fWalk, oWalk, fRng, oR1, oR2, fCall, fComp, fYes, wipeE, oCat, oRep,
  List.length_cons, List.length_nil, List.map_cons, List.map_nil, List.cons_append, List.nil_append, List.append_nil, blanks, List.getElem?_cons_zero, List.getElem?_cons_succ, List.set_cons_zero, List.set_cons_succ, Option.some.injEq, exists_eq_left', true_and, and_true, Nat.reduceSub, Nat.reduceAdd, Nat.reduceLT, Nat.lt_add_one, M.dat.injEq, D.bl.injEq, D.int.injEq, Nat.zero_lt_succ, Nat.succ_lt_succ_iff, Nat.zero_lt_one, exists_eq_left, List.getElem?_nil, Bool.false_bne, Bool.false_xor, decide_eq_true_eq,
  ex_nil, ex_cons, ex_map, toD_lst, toD_dat, dats_nil, dats_cons, ld_l, ld_dat, ld_lst, Option.map_some, ex_some, kitI isi_int_int, kitI isi_int_bool, kitI isi_str_str, kitI isi_tup_tup, M.lst.injEq, List.length_map, Bool.not_true, Bool.not_false, Bool.false_eq_true, if_true, if_false, reduceIte, endOf_nx, endOf_rt, endOf_ex])
local macro_rules | `(tactic| walk_at "U run_length") => `(tactic| simp only [w_run_length, r_run_length, r_run_length_1, r_run_length_2])
local macro_rules | `(tactic| walk_at "U token_sort") => `(tactic| simp only [w_token_sort, r_token_sort, r_token_sort_1, r_token_sort_2, r_token_sort_3])
local macro_rules | `(tactic| walk_at "U _law_whole") => `(tactic| simp only [w__law_whole, r__law_whole])
local macro_rules | `(tactic| walk_at "U _law_cell") => `(tactic| simp only [w__law_cell, r__law_cell, r__law_cell_1, r__law_cell_2, r__law_cell_3])
local macro_rules | `(tactic| walk_at "U _law_digits") => `(tactic| simp only [w__law_digits, r__law_digits, r__law_digits_1, r__law_digits_2, r__law_digits_3, r__law_digits_4, r__law_digits_5, r__law_digits_6, r__law_digits_7, r__law_digits_8, r__law_digits_9, r__law_digits_10])
local macro_rules | `(tactic| walk_at "U _law_alphabet") => `(tactic| simp only [w__law_alphabet, r__law_alphabet, r__law_alphabet_1])
local macro_rules | `(tactic| walk_at "U _law_small") => `(tactic| simp only [w__law_small, r__law_small])
local macro_rules | `(tactic| walk_at "U _law_figures") => `(tactic| simp only [w__law_figures, r__law_figures])
local macro_rules | `(tactic| walk_at "U token_length") => `(tactic| simp only [w_token_length, r_token_length, r_token_length_1, r_token_length_2, r_token_length_3])
local macro_rules | `(tactic| walk_at "U _law_word") => `(tactic| simp only [w__law_word, r__law_word, r__law_word_1])
local macro_rules | `(tactic| walk_at "U _law_sort") => `(tactic| simp only [w__law_sort, r__law_sort, r__law_sort_1, r__law_sort_2, r__law_sort_3])
local macro_rules | `(tactic| walk_at "U tokens") => `(tactic| simp only [w_tokens, r_tokens, r_tokens_1, r_tokens_2, r_tokens_3, r_tokens_4, r_tokens_5, r_tokens_6, r_tokens_7])
local macro_rules | `(tactic| walk_at "U _law_piece") => `(tactic| simp only [w__law_piece, r__law_piece, r__law_piece_1, r__law_piece_2, r__law_piece_3, r__law_piece_4, r__law_piece_5, r__law_piece_6, r__law_piece_7, r__law_piece_8, r__law_piece_9, r__law_piece_10, r__law_piece_11, r__law_piece_12, r__law_piece_13, r__law_piece_14])
local macro_rules | `(tactic| walk_at "U _law_due") => `(tactic| simp only [w__law_due, r__law_due, r__law_due_1, r__law_due_2, r__law_due_3, r__law_due_4, r__law_due_5, r__law_due_6, r__law_due_7, r__law_due_8])
local macro_rules | `(tactic| walk_at "U _law_right") => `(tactic| simp only [w__law_right, r__law_right, r__law_right_1, r__law_right_2, r__law_right_3, r__law_right_4, r__law_right_5, r__law_right_6, r__law_right_7])
local macro_rules | `(tactic| walk_at "U law") => `(tactic| simp only [w_law, r_law, r_law_1, r_law_2, r_law_3, r_law_4, r_law_5, r_law_6, r_law_7, r_law_8, r_law_9, r_law_10, r_law_11, r_law_12])
/-- so many digits, each below its size -/
def Digs (ds sizes : List Int) : Prop := ds.length = sizes.length ∧ ∀ (i : Nat) (d z : Int), ds[i]? = some d → sizes[i]? = some z → 0 ≤ d ∧ d < z
theorem digs_snoc {ds zs : List Int} {d z : Int} (h : Digs ds zs) (h0 : 0 ≤ d) (h1 : d < z) : Digs (ds ++ [d]) (zs ++ [z]) := by
  refine ⟨by simp [h.1], fun i a b ha hb => ?_⟩
  by_cases hi : i < ds.length
  · rw [List.getElem?_append_left hi] at ha
    rw [List.getElem?_append_left (by rw [← h.1]; exact hi)] at hb
    exact h.2 i a b ha hb
  · have e : i = ds.length := by
      have := (List.getElem?_eq_some_iff.mp ha).1
      simp at this
      omega
    subst e
    rw [List.getElem?_append_right (Nat.le_refl _)] at ha
    rw [List.getElem?_append_right (by rw [h.1]; exact Nat.le_refl _)] at hb
    simp at ha
    rw [h.1] at hb
    simp at hb
    subst ha hb
    exact ⟨h0, h1⟩
theorem digits_ok (c : Int) (sizes : List Int) (S : Sto) (Q : WP) (E : XP) (hz : ∀ z ∈ sizes, 0 < z ∧ z.natAbs.log2 < 9000) (hl : sizes.length ≤ 1000)
    (h : ∀ ds, Digs ds sizes → Q (.lst ((ds.map D.int).map M.dat)) S) : w__law_digits [.int c, .lst (sizes.map D.int)] S Q E := by
  walk_at "U _law_digits"
  walk_at "fx"
  refine ⟨small_line (by decide), ⟨by decide, by decide, by decide⟩, ?_⟩
  by_cases hb : (10 : Int) ^ (18 : Int).toNat ≤ c
  · rw [if_pos (by simpa using hb)]
    refine ⟨⟨by decide, by decide, by decide⟩, ?_⟩
    refine forW_by (fun l ρ S' => S' = S ∧ ∃ (pre zs ds : List Int) (rest : Int) (x : Option M), pre ++ zs = sizes ∧ l = zs.map D.int ∧ Digs ds pre ∧ ρ = [some (.dat (.int c)), some (.dat (.lst (sizes.map D.int))), some (.lst ((ds.map D.int).map M.dat)), some (.dat (.int rest)), none, none, x, none])
      ⟨rfl, [], sizes, [], _, none, rfl, rfl, ⟨rfl, fun i a b ha _ => by simp at ha⟩, rfl⟩ ?_ ?_
    · rintro ρ S' ⟨rfl, pre, zs, ds, rest, x, e1, e2, hd, rfl⟩
      have : zs = [] := by simpa using e2.symm
      subst this
      rw [List.append_nil] at e1
      subst e1
      walk_at "fx"
      exact h ds hd
    · rintro d l ρ S' ih ⟨rfl, pre, zs, ds, rest, x, e1, e2, hd, rfl⟩
      cases zs with
      | nil => cases e2
      | cons z zs =>
        rw [List.map_cons] at e2
        injection e2 with e2 e3
        subst e2
        have hz' := hz z (by rw [← e1]; simp)
        walk_at "fx"
        refine ⟨small_line' (by have := hd.1; have := congrArg List.length e1; simp at this; omega), hz'.1, ⟨hz'.1, hz'.2⟩, ?_⟩
        refine ih _ _ ⟨rfl, pre ++ [z], zs, ds ++ [rest % z], rest / z, some (.dat (.int z)), by simpa using e1, e3, digs_snoc hd (Int.emod_nonneg _ (by omega)) (Int.emod_lt_of_pos _ hz'.1), ?_⟩
        simp
  · rw [if_neg (by simpa using hb)]
    refine ⟨by decide, by omega, by omega, ?_⟩
    refine forW_by (fun l ρ S' => S' = S ∧ ∃ (k : Nat) (ds : List Int) (seed : Int) (x y : Option M), l = (rng 0 sizes.length).drop k ∧ k ≤ sizes.length ∧ Digs ds (sizes.take k) ∧ 0 ≤ seed ∧ seed < 2147483647 ∧
      ρ = [some (.dat (.int c)), some (.dat (.lst (sizes.map D.int))), some (.lst ((ds.map D.int).map M.dat)), some (.dat (.int c)), some (.dat (.int seed)), x, none, y])
      ⟨rfl, 0, [], _, none, none, by simp, Nat.zero_le _, ⟨by simp, fun i a b ha _ => by simp at ha⟩, Int.emod_nonneg _ (by decide), Int.lt_trans (Int.emod_lt_of_pos _ (by decide)) (by decide), rfl⟩ ?_ ?_
    · rintro ρ S' ⟨rfl, k, ds, seed, x, y, e1, hk, hd, h0, h1, rfl⟩
      have e2 : k = sizes.length := by
        have := congrArg List.length e1
        simp [rng] at this
        omega
      subst e2
      rw [List.take_length] at hd
      walk_at "fx"
      exact h ds hd
    · rintro d l ρ S' ih ⟨rfl, k, ds, seed, x, y, e1, hk, hd, h0, h1, rfl⟩
      have hlt : k < sizes.length := by
        have := congrArg List.length e1
        simp [rng] at this
        omega
      have e2 : d = .int k ∧ l = (rng 0 sizes.length).drop (k + 1) := by
        rw [List.drop_eq_getElem_cons (by simpa [rng] using hlt)] at e1
        injection e1 with e1 e3
        exact ⟨by rw [e1]; simp [rng], e3⟩
      obtain ⟨rfl, rfl⟩ := e2
      walk_at "fx"
      have hz' := hz sizes[k] (List.getElem_mem hlt)
      have x1 := Int.emod_nonneg (seed * 48271 + 974711 * k + 12345) (show (2147483647 : Int) ≠ 0 by decide)
      have x2 := Int.emod_lt_of_pos (seed * 48271 + 974711 * k + 12345) (show (0 : Int) < 2147483647 by decide)
      generalize hs' : (seed * 48271 + 974711 * (k : Int) + 12345) % 2147483647 = seed' at x1 x2
      have x3 : seed' / 65537 < 40000 := Int.ediv_lt_of_lt_mul (by decide) (by omega)
      have x4 : 0 ≤ seed' / 65537 := Int.ediv_nonneg x1 (by decide)
      refine ⟨cmulS (by omega) (by omega) (by decide) (by decide), cmulS (by decide) (by decide) (by omega) (by omega), by decide, ⟨by decide, by decide⟩, cmulS (by omega) (by omega) (by omega) (by omega), by decide, ?_⟩
      generalize seed' * (seed' / 65537 + 3) % 2147483629 = tw
      refine ⟨small_line' (by have := hd.1; rw [List.length_take] at this; omega), ⟨by decide, by decide⟩, .int sizes[k], ?_, hz'.1, ?_⟩
      · exact atI_n (by rw [List.getElem?_map, List.getElem?_eq_getElem hlt]; rfl)
      · refine ih _ _ ⟨rfl, k + 1, ds ++ [tw / 19 % sizes[k]], seed', some (.dat (.int k)), some (.dat (.int tw)), rfl, hlt, ?_, x1, x2, by simp⟩
        rw [List.take_succ_eq_append_getElem hlt]
        exact digs_snoc hd (Int.emod_nonneg _ (by omega)) (Int.emod_lt_of_pos _ hz'.1)

theorem cell_ok (ns : List Int) (k : Int) (S : Sto) (Q : WP) (E : XP) (h0 : 0 ≤ k) (h1 : k < 1000000) (h : ∀ c : Int, Q (.dat (.int c)) S) : w__law_cell [.lst (ns.map D.int), .int k] S Q E := by
  walk_at "U _law_cell"
  walk_at "fx"
  by_cases hk : k < (ns.length : Int)
  · rw [if_pos (by simpa using hk)]
    have hlt : k.toNat < ns.length := by omega
    exact ⟨_, atI_i h0 (by rw [List.getElem?_map, List.getElem?_eq_getElem hlt]; rfl), h _⟩
  · rw [if_neg (by simpa using hk)]
    refine forW_by (fun l ρ S' => S' = S ∧ ∃ (zs : List Int) (seed : Int) (x : Option M), l = zs.map D.int ∧ 0 ≤ seed ∧ seed < 1000003 ∧ ρ = [some (.dat (.lst (ns.map D.int))), some (.dat (.int k)), some (.dat (.int seed)), x])
      ⟨rfl, ns, 17, none, rfl, by decide, by decide, rfl⟩ ?_ ?_
    · rintro ρ S' ⟨rfl, zs, seed, x, e, h2, h3, rfl⟩
      walk_at "fx"
      exact ⟨cmulS (by omega) (by omega) (by omega) (by omega), cmulS (by
        have : 0 ≤ (seed + 7) * (k + 3) := Int.mul_nonneg (by omega) (by omega)
        omega) (by
        have : (seed + 7) * (k + 3) ≤ 2000000 * 2000000 := Int.mul_le_mul (by omega) (by omega) (by omega) (by decide)
        omega) (by decide) (by decide), by decide, h _⟩
    · rintro d l ρ S' ih ⟨rfl, zs, seed, x, e, h2, h3, rfl⟩
      cases zs with
      | nil => cases e
      | cons z zs =>
        rw [List.map_cons] at e
        injection e with e1 e2
        subst e1
        walk_at "fx"
        refine ⟨cmulS (by omega) (by omega) (by decide) (by decide), by decide, by decide, ?_⟩
        exact ih _ _ ⟨rfl, zs, _, some (.dat (.int z)), e2, Int.emod_nonneg _ (by decide), Int.emod_lt_of_pos _ (by decide), rfl⟩
def smalls : List Nat := [97, 98, 99, 100, 101, 102, 103, 104, 105, 106, 107, 108, 109, 110, 111, 112, 113, 114, 115, 116, 117, 118, 119, 120, 121, 122, 48, 49, 50, 51, 52, 53, 54, 55, 56, 57]
theorem small_ok (S : Sto) (Q : WP) (E : XP) (h : Q (.dat (.str smalls)) S) : w__law_small [] S Q E := by
  walk_at "U _law_small"
  walk_at "fx"
  exact h
theorem alphabet_ok (S : Sto) (Q : WP) (E : XP) (h : ∀ s : List Nat, s.length = 94 → Q (.dat (.str s)) S) : w__law_alphabet [] S Q E := by
  walk_at "U _law_alphabet"
  walk_at "fx"
  exact ⟨small_line (by decide), h _ (by decide)⟩
theorem word_ok (ds : List Int) (size : Int) (S : Sto) (Q : WP) (E : XP) (hd : ∀ d ∈ ds, 0 ≤ d ∧ d < 36) (h1 : 1 ≤ size) (h2 : size ≤ ds.length) (h3 : ds.length ≤ 1000) (h : ∀ s : List Nat, s.length ≤ size → Q (.dat (.str s)) S) :
    w__law_word [.lst (ds.map D.int), .int size] S Q E := by
  walk_at "U _law_word"
  walk_at "fx"
  refine small_ok _ _ _ ?_
  walk_at "fx"
  refine ⟨.int ds[(0 : Int).toNat]!, int_at (by decide) (by omega), by decide, small_line (by decide), ?_⟩
  obtain ⟨c, hc⟩ := sign_at (s := smalls) (i := ds[(0 : Int).toNat]! % 26) (Int.emod_nonneg _ (by decide)) (Int.lt_trans (Int.emod_lt_of_pos _ (by decide)) (by decide))
  refine ⟨c, hc, by omega, ?_⟩
  refine compW_by (fun l acc S' => S' = S ∧ ∃ (k : Nat) (cs : List Nat), l = (rng 1 (size - 1).toNat).drop k ∧ k ≤ (size - 1).toNat ∧ acc = (cs.map fun c => D.str [c]).map M.dat ∧ cs.length = k) ⟨rfl, 0, [], rfl, Nat.zero_le _, rfl, rfl⟩ ?_ ?_
  · rintro acc S' ⟨rfl, k, cs, e, hk, rfl, hl⟩
    exact join_signs (by omega) ⟨small_line (by simp; omega), h _ (by simp; omega)⟩
  · rintro d l acc S' ih ⟨rfl, k, cs, e, hk, rfl, hl⟩
    obtain ⟨hlt, rfl, e2⟩ := rng_step e
    walk_at "fx"
    have hg := get_of hd (j := (1 + (k : Int)).toNat) (by omega)
    obtain ⟨c', hc'⟩ := sign_at (s := smalls) (i := ds[(1 + (k : Int)).toNat]!) hg.1 (Int.lt_of_lt_of_le hg.2 (by decide))
    refine ⟨_, int_at (by omega) (by omega), small_line (by decide), c', hc', small_line' (by omega), ih _ _ ⟨rfl, k + 1, cs ++ [c'], e2, hlt, by simp, by simp [hl]⟩⟩
theorem figures_ok (ds : List Int) (size : Int) (S : Sto) (Q : WP) (E : XP) (h1 : 0 ≤ size) (h2 : size ≤ ds.length) (h3 : ds.length ≤ 1000) (h : ∀ s : List Nat, s.length ≤ size → Q (.dat (.str s)) S) :
    w__law_figures [.lst (ds.map D.int), .int size] S Q E := by
  walk_at "U _law_figures"
  walk_at "fx"
  refine ⟨by omega, by omega, ?_⟩
  refine compW_by (fun l acc S' => S' = S ∧ ∃ (k : Nat) (cs : List Nat), l = (rng 0 size.toNat).drop k ∧ k ≤ size.toNat ∧ acc = (cs.map fun c => D.str [c]).map M.dat ∧ cs.length = k) ⟨rfl, 0, [], rfl, Nat.zero_le _, rfl, rfl⟩ ?_ ?_
  · rintro acc S' ⟨rfl, k, cs, e, hk, rfl, hl⟩
    exact join_signs (by omega) (h _ (by omega))
  · rintro d l acc S' ih ⟨rfl, k, cs, e, hk, rfl, hl⟩
    obtain ⟨hlt, rfl, e2⟩ := rng_step e
    walk_at "fx"
    obtain ⟨c', hc'⟩ := sign_at (s := [48, 49, 50, 51, 52, 53, 54, 55, 56, 57]) (i := ds[((0 : Int) + (k : Int)).toNat]! % 10) (Int.emod_nonneg _ (by decide)) (Int.lt_of_lt_of_le (Int.emod_lt_of_pos _ (by decide)) (by decide))
    refine ⟨_, int_at (by omega) (by omega), by decide, small_line (by decide), c', hc', small_line' (by omega), ih _ _ ⟨rfl, k + 1, cs ++ [c'], e2, hlt, by simp, by simp [hl]⟩⟩

theorem dec1 {i : Int} (h0 : 1 ≤ i) (h1 : i ≤ 9) : (decN i).length = 1 := by
  have : i = 1 ∨ i = 2 ∨ i = 3 ∨ i = 4 ∨ i = 5 ∨ i = 6 ∨ i = 7 ∨ i = 8 ∨ i = 9 := by omega
  rcases this with h | h | h | h | h | h | h | h | h <;> subst h <;> decide +kernel
theorem digs_cons {ds zs : List Int} {z : Int} (h : Digs ds (z :: zs)) : ∃ d r, ds = d :: r ∧ 0 ≤ d ∧ d < z ∧ Digs r zs := by
  cases ds with
  | nil => have := h.1; simp at this
  | cons d r =>
    have h0 := h.2 0 d z rfl rfl
    exact ⟨d, r, rfl, h0.1, h0.2, by have := h.1; simp at this; exact this, fun i a b ha hb => h.2 (i + 1) a b (by simpa using ha) (by simpa using hb)⟩
theorem digs_rep {ds : List Int} {n : Nat} {z : Int} (h : Digs ds (List.replicate n z)) : ds.length = n ∧ ∀ d ∈ ds, 0 ≤ d ∧ d < z := by
  have hl : ds.length = n := by have := h.1; simpa using this
  refine ⟨hl, fun d hd => ?_⟩
  obtain ⟨i, hi, e⟩ := List.getElem_of_mem hd
  exact h.2 i d z (by rw [List.getElem?_eq_getElem hi, e]) (by rw [List.getElem?_replicate, if_pos (by omega)])
theorem piece_ok (c : Int) (S : Sto) (Q : WP) (E : XP) (h : ∀ s : List Nat, s.length ≤ 60 → Q (.dat (.str s)) S) : w__law_piece [.int c] S Q E := by
  unfold w__law_piece r__law_piece
  walk_at "fx"
  rw [flat_one, dats_map]
  walk_at "fx"
  refine ⟨small_line (by decide), small_line (by decide), by decide, by decide, small_line (by decide), small_line (by decide), ?_⟩
  have e : [D.int 12, D.int 45, D.int 94] ++ List.replicate (Int.toNat 45) (D.int 36) = ([12, 45, 94] ++ List.replicate (Int.toNat 45) (36 : Int)).map D.int := by simp
  rw [List.cons_append, List.cons_append, List.cons_append, List.nil_append] at e
  rw [e]
  refine digits_ok _ _ _ _ _ (fun z hz => ?_) (by decide) fun ds hd => ?_
  · have : z = 12 ∨ z = 45 ∨ z = 94 ∨ z = 36 := by
      simp at hz
      omega
    rcases this with h | h | h | h <;> subst h <;> exact ⟨by decide, by decide⟩
  obtain ⟨d0, r, rfl, h1, h2, hd⟩ := digs_cons hd
  obtain ⟨d1, r, rfl, h3, h4, hd⟩ := digs_cons hd
  obtain ⟨d2, r, rfl, h5, h6, hd⟩ := digs_cons hd
  obtain ⟨hl, hr⟩ := digs_rep hd
  simp only [toD_lst]
  unfold r__law_piece_14
  walk_at "fx"
  simp only [atI_0, List.getElem?_cons_zero, ex_some]
  unfold r__law_piece_13
  walk_at "fx"
  simp only [atI_1, List.getElem?_cons_zero, List.getElem?_cons_succ, ex_some]
  unfold r__law_piece_12
  walk_at "fx"
  simp only [cut_from _ (show (0 : Int) ≤ 3 by decide), toD_lst]
  show r__law_piece_11 (endOf Q E) [some (.dat (.int c)), some (.dat (.lst ((d0 :: d1 :: d2 :: r).map D.int))), some (.dat (.int d0)), some (.dat (.int d1)), some (.dat (.lst (r.map D.int)))] S
  clear e
  have ll : r.length = 45 := hl
  unfold r__law_piece_11
  walk_at "fx"
  refine ite2 (fun g => ?_) fun g => ?_
  · refine alphabet_ok _ _ _ fun s hs => ?_
    obtain ⟨x, hx⟩ := sign_at (s := s) (i := d2) h5 (by omega)
    walk_at "fx"
    simp only [atI_2, List.getElem?_cons_zero, List.getElem?_cons_succ, ex_some]
    exact ⟨small_line (by omega), x, hx, h _ (by simp)⟩
  clear g
  unfold r__law_piece_10
  walk_at "fx"
  refine ite2 (fun g => ?_) fun g => ?_
  · exact ⟨by decide, word_ok _ _ _ _ _ hr (by omega) (by omega) (by omega) fun s hs => h s (by omega)⟩
  clear g
  unfold r__law_piece_9
  walk_at "fx"
  refine ite2 (fun g => ?_) fun g => ?_
  · exact ⟨by decide, word_ok _ _ _ _ _ hr (by omega) (by omega) (by omega) fun s hs => h s (by omega)⟩
  clear g
  unfold r__law_piece_8
  walk_at "fx"
  refine ite2 (fun g => ?_) fun g => ?_
  · exact figures_ok _ _ _ _ _ (by omega) (by omega) (by omega) fun s hs => h s (by omega)
  clear g
  unfold r__law_piece_7
  walk_at "fx"
  refine ite2 (fun g => ?_) fun g => ?_
  · exact ⟨by decide, word_ok _ _ _ _ _ hr (by omega) (by omega) (by omega) fun s hs => h s (by omega)⟩
  clear g
  unfold r__law_piece_6
  walk_at "fx"
  refine ite2 (fun g => ?_) fun g => ?_
  · simp only [atI_2, List.getElem?_cons_zero, List.getElem?_cons_succ, ex_some]
    walk_at "fx"
    have q : (decN (1 + d2 % 9)).length = 1 := dec1 (by omega) (by omega)
    refine ⟨by decide, ?_, by decide, figures_ok _ _ _ _ _ (by omega) (by omega) (by omega) fun s hs => ?_⟩
    · have : (1 + d2 % 9).natAbs < 2 ^ 100 := by omega
      exact Nat.lt_trans (PySem.Flt.log2_lt_of (by decide) this) (by decide)
    · exact ⟨small_line (by omega), h _ (by rw [List.length_append]; omega)⟩
  clear g
  unfold r__law_piece_5
  walk_at "fx"
  refine ite2 (fun g => ?_) fun g => ?_
  · refine ⟨by decide, figures_ok _ _ _ _ _ (by omega) (by omega) (by omega) fun s hs => ?_⟩
    walk_at "fx"
    exact ⟨small_line (by omega), h _ (by simp; omega)⟩
  clear g
  unfold r__law_piece_4
  walk_at "fx"
  refine ite2 (fun g => ?_) fun g => ?_
  · refine ⟨small_line (by decide), by decide, ?_⟩
    obtain ⟨x, hx, hm⟩ := atI_mem (xs := [M.dat (D.str [45, 62]), M.dat (D.str [40]), M.dat (D.str [41]), M.dat (D.str [44]), M.dat (D.str [58]), M.dat (D.str [43]), M.dat (D.str [45]), M.dat (D.str [42]), M.dat (D.str [94]), M.dat (D.str [62]), M.dat (D.str [47]), M.dat (D.str [63])]) (i := d1 % 12) (by omega) (by simp; omega)
    refine ⟨x, hx, ?_⟩
    simp only [List.mem_cons, List.not_mem_nil, or_false] at hm
    rcases hm with e | e | e | e | e | e | e | e | e | e | e | e <;> subst e <;> exact h _ (by decide)
  clear g
  unfold r__law_piece_3
  walk_at "fx"
  refine ite2 (fun g => ?_) fun g => ?_
  · refine ⟨small_line (by decide), by decide, ?_⟩
    obtain ⟨x, hx, hm⟩ := atI_mem (xs := [M.dat (D.str [45, 45, 62]), M.dat (D.str [45, 62, 62]), M.dat (D.str [45, 32, 62]), M.dat (D.str [62, 45]), M.dat (D.str [45, 45]), M.dat (D.str [45, 62, 45]), M.dat (D.str [45, 62, 32, 45, 62]), M.dat (D.str [62, 45, 62])]) (i := d1 % 8) (by omega) (by simp; omega)
    refine ⟨x, hx, ?_⟩
    simp only [List.mem_cons, List.not_mem_nil, or_false] at hm
    rcases hm with e | e | e | e | e | e | e | e <;> subst e <;> exact h _ (by decide)
  clear g
  unfold r__law_piece_2
  walk_at "fx"
  refine ite2 (fun g => ?_) fun g => ?_
  · refine ⟨small_line (by decide), by decide, ?_⟩
    obtain ⟨x, hx, hm⟩ := atI_mem (xs := [M.dat (D.str [32]), M.dat (D.str [32, 32]), M.dat (D.str [32, 32, 32]), M.dat (D.str [32])]) (i := d1 % 4) (by omega) (by simp; omega)
    refine ⟨x, hx, ?_⟩
    simp only [List.mem_cons, List.not_mem_nil, or_false] at hm
    rcases hm with e | e | e | e <;> subst e <;> exact h _ (by decide)
  clear g
  unfold r__law_piece_1
  walk_at "fx"
  refine ⟨by decide, word_ok _ _ _ _ _ hr (by omega) (by omega) (by omega) fun s hs => ?_⟩
  walk_at "fx"
  simp only [atI_2, List.getElem?_cons_zero, List.getElem?_cons_succ, ex_some]
  obtain ⟨x, hx⟩ := sign_at (s := [65, 66, 88, 89, 90, 95]) (i := d2 % 6) (by omega) (by simp; omega)
  walk_at "fx"
  refine ⟨by decide, small_line (by decide), x, hx, small_line (by simp; omega), small_line (by decide), by decide, ?_⟩
  obtain ⟨y, hy, hm⟩ := atI_mem (xs := [M.dat (D.str (s ++ [x])), M.dat (D.str [10])]) (i := d1 % 2) (by omega) (by simp; omega)
  refine ⟨y, hy, ?_⟩
  simp only [List.mem_cons, List.not_mem_nil, or_false] at hm
  rcases hm with e | e <;> subst e
  · exact h _ (by simp; omega)
  · exact h _ (by decide)
def LS : List Nat := [97, 98, 99, 100, 101, 102, 103, 104, 105, 106, 107, 108, 109, 110, 111, 112, 113, 114, 115, 116, 117, 118, 119, 120, 121, 122]
def DS : List Nat := [48, 49, 50, 51, 52, 53, 54, 55, 56, 57]
def SG : List Nat := [40, 41, 44, 58, 43, 45, 42, 94, 62, 47, 63]
theorem smalls_eq : smalls = LS ++ DS := rfl
theorem ls_ds {c : Nat} (h : c ∈ LS) : c ∉ DS := (show ∀ c ∈ LS, c ∉ DS by decide) c h
theorem run_length_ok (s cs : List Nat) (at' en : Nat) (S : Sto) (Q : WP) (E : XP) (hs : s.length ≤ 100000) (he : en ≤ s.length)
    (h : Q (.dat (.int (((s.take en).drop at').takeWhile (fun c => decide (c ∈ cs))).length)) S) :
    w_run_length [.str s, .int at', .int en, .str cs] S Q E := by
  walk_at "U run_length"
  walk_at "fx"
  refine ⟨fun n ρ S' => S' = S ∧ ∃ k : Nat, n = en - (at' + k) ∧ ρ = [some (.dat (.str s)), some (.dat (.int at')), some (.dat (.int en)), some (.dat (.str cs)), some (.dat (.int k))] ∧
    k + (((s.take en).drop (at' + k)).takeWhile (fun c => decide (c ∈ cs))).length = (((s.take en).drop at').takeWhile (fun c => decide (c ∈ cs))).length, ⟨_, rfl, 0, rfl, rfl, by simp⟩, ?_⟩
  rintro n ρ S' ⟨rfl, k, rfl, rfl, hk⟩
  walk_at "fx"
  by_cases hlt : ((at' : Int) + (k : Int) < (en : Int))
  · have hl : at' + k < en := by omega
    have hls : at' + k < s.length := by omega
    rw [if_pos (by simpa using hlt)]
    have e1 : (s.take en).drop (at' + k) = s[at' + k] :: (s.take en).drop (at' + (k + 1)) := by
      rw [List.drop_eq_getElem_cons (by rw [List.length_take]; omega)]
      simp [Nat.add_assoc]
    refine ⟨small_line (by omega), s[at' + k], ?_, ?_⟩
    · have := atI_n (List.getElem?_eq_getElem hls)
      simpa using this
    · by_cases hc : s[at' + k] ∈ cs
      · rw [if_pos (by simpa using hc)]
        refine ⟨en - (at' + (k + 1)), by omega, k + 1, rfl, by simp, ?_⟩
        rw [e1, List.takeWhile_cons, if_pos (by simpa using hc), List.length_cons] at hk
        omega
      · rw [if_neg (by simpa using hc)]
        rw [e1, List.takeWhile_cons, if_neg (by simpa using hc), List.length_nil] at hk
        simp only [Nat.add_zero] at hk
        rw [hk]
        exact h
  · rw [if_neg (by simpa using hlt)]
    have e1 : (s.take en).drop (at' + k) = [] := by
      apply List.drop_of_length_le
      rw [List.length_take]
      omega
    rw [e1] at hk
    simp at hk
    rw [hk]
    exact h
/-- the sort of a token -/
def sortN (w : List Nat) : List Nat :=
  if w.headD 0 ∈ DS then (if 40 < w.length ∨ w.headD 0 = 48 ∧ w ≠ [48] then [98, 97, 100] else [110, 117, 109, 101, 114, 97, 108])
  else if w.headD 0 ∈ LS then (if w.length < 21 then [119, 111, 114, 100] else [98, 97, 100])
  else if w = [45, 62] ∨ ∃ c ∈ SG, w = [c] then [115, 105, 103, 110] else [98, 97, 100]
theorem token_sort_ok (c : Nat) (r : List Nat) (S : Sto) (Q : WP) (E : XP) (hl : r.length + 1 ≤ 100000) (h : Q (.dat (.str (sortN (c :: r)))) S) : w_token_sort [.str (c :: r)] S Q E := by
  unfold w_token_sort r_token_sort gv_SMALL
  unfold sortN at h
  rw [List.headD_cons, List.length_cons] at h
  walk_at "fx"
  simp only [atI_0, List.getElem?_cons_zero, ex_some]
  refine ⟨small_line (by omega), ?_⟩
  refine ite2 (fun g => ?_) fun g => ?_
  · have g1 : c ∉ DS := ls_ds g
    rw [if_neg g1, if_pos (show c ∈ LS from g)] at h
    unfold gv_LONGEST_WORD
    walk_at "fx"
    refine ⟨small_line (by omega), ?_⟩
    by_cases q : r.length + 1 < 21
    · rw [if_pos q] at h
      rw [if_pos (by simp; omega)]
      exact h
    · rw [if_neg q] at h
      rw [if_neg (by simp; omega)]
      exact h
  have g1 : c ∉ LS := g
  unfold r_token_sort_3 gv_FIGURES
  walk_at "fx"
  simp only [atI_0, List.getElem?_cons_zero, ex_some]
  refine ⟨small_line (by omega), ?_⟩
  refine ite2 (fun g => ?_) fun g => ?_
  · rw [if_pos (show c ∈ DS from g)] at h
    unfold gv_LONGEST_NUMERAL
    walk_at "fx"
    refine ⟨small_line (by omega), ?_⟩
    refine ite2 (fun g => ?_) fun g => ?_
    · rw [if_pos (.inl (by omega))] at h
      exact h
    refine ⟨small_line (by omega), ?_⟩
    refine ite2 (fun g2 => ?_) fun g2 => ?_
    · refine ⟨small_line (by omega), ?_⟩
      refine ite2 (fun g3 => ?_) fun g3 => ?_
      · rw [if_pos (.inr ⟨by simpa using g3, by
          intro e
          rw [List.cons.injEq] at e
          rw [e.2] at g2
          exact absurd g2 (by decide)⟩)] at h
        exact h
      · unfold r_token_sort_1
        walk_at "fx"
        rw [if_neg (by
          rintro (q | ⟨q, _⟩)
          · omega
          · exact g3 (by rw [q]))] at h
        exact h
    · unfold r_token_sort_1
      walk_at "fx"
      rw [if_neg (by
        rintro (q | ⟨q, q'⟩)
        · omega
        · apply q'
          rw [q, List.eq_nil_of_length_eq_zero (show r.length = 0 by omega)])] at h
      exact h
  · rw [if_neg (show ¬ c ∈ DS from g), if_neg g1] at h
    unfold r_token_sort_2 gv_SIGNS
    walk_at "fx"
    refine ⟨rfl, rfl, ?_⟩
    by_cases q : (c :: r) = [45, 62] ∨ ∃ c' ∈ SG, (c :: r) = [c']
    · rw [if_pos q] at h
      rw [if_pos]
      · exact h
      · simp only [SG, List.mem_cons, List.not_mem_nil, or_false, List.cons.injEq] at q
        obtain ⟨e1, e2⟩ | ⟨c', m, e1, e2⟩ := q
        · subst e1 e2
          simp [eqvF]
        · subst e1 e2
          simp [eqvF]
          omega
    · rw [if_neg q] at h
      rw [if_neg]
      · exact h
      · intro q'
        apply q
        simp [eqvF] at q'
        rcases q' with ⟨e1, e2⟩ | ⟨e1, e2⟩ | ⟨e1, e2⟩ | ⟨e1, e2⟩ | ⟨e1, e2⟩ | ⟨e1, e2⟩ | ⟨e1, e2⟩ | ⟨e1, e2⟩ | ⟨e1, e2⟩ | ⟨e1, e2⟩ | ⟨e1, e2⟩ | ⟨e1, e2⟩ <;> subst e1 <;> subst e2 <;> simp [SG]
theorem law_sort_ok (c : Nat) (r : List Nat) (S : Sto) (Q : WP) (E : XP) (hl : r.length + 1 ≤ 100000) (hc : c ∈ LS ∨ c ∈ DS ∨ (c :: r) = [45, 62] ∨ r = []) (h : Q (.dat (.str (sortN (c :: r)))) S) : w__law_sort [.str (c :: r)] S Q E := by
  unfold w__law_sort r__law_sort
  unfold sortN at h
  rw [List.headD_cons, List.length_cons] at h
  walk_at "fx"
  simp only [atI_0, List.getElem?_cons_zero, ex_some]
  refine ⟨small_line (by omega), ?_⟩
  refine ite2 (fun g => ?_) fun g => ?_
  · rw [if_pos (show c ∈ DS from g)] at h
    refine ⟨small_line (by omega), ?_⟩
    refine ite2 (fun g => ?_) fun g => ?_
    · rw [if_pos (.inl (by omega))] at h
      exact h
    refine ⟨small_line (by omega), ?_⟩
    refine ite2 (fun g2 => ?_) fun g2 => ?_
    · refine ite2 (fun g3 => ?_) fun g3 => ?_
      · rw [if_pos (.inr ⟨by simpa using g2, by rwa [Bool.not_eq_true', decide_eq_false_iff_not] at g3⟩)] at h
        exact h
      · unfold r__law_sort_1
        walk_at "fx"
        rw [if_neg (by
          rintro (q | ⟨_, q⟩)
          · omega
          · exact g3 (by
              rw [Bool.not_eq_true', decide_eq_false_iff_not]
              exact q))] at h
        exact h
    · unfold r__law_sort_1
      walk_at "fx"
      rw [if_neg (by
        rintro (q | ⟨q, _⟩)
        · omega
        · exact g2 (by rw [q]))] at h
      exact h
  rw [if_neg (show ¬ c ∈ DS from g)] at h
  unfold r__law_sort_3
  walk_at "fx"
  simp only [atI_0, List.getElem?_cons_zero, ex_some]
  refine ⟨small_line (by omega), ?_⟩
  refine small_ok _ _ _ ?_
  walk_at "fx"
  refine ite2 (fun g2 => ?_) fun g2 => ?_
  · have g3 : c ∈ LS := by
      rw [smalls_eq, List.mem_append] at g2
      exact g2.resolve_right g
    rw [if_pos g3] at h
    refine ⟨small_line (by first | omega | decide), small_line (by first | omega | decide), ?_⟩
    by_cases q : r.length + 1 < 21
    · rw [if_pos q] at h
      rw [if_pos (by omega)]
      exact ⟨_, atI_n (j := 1) rfl, h⟩
    · rw [if_neg q] at h
      rw [if_neg (by omega)]
      exact ⟨_, atI_n (j := 0) rfl, h⟩
  · have g3 : c ∉ LS := fun q => g2 (by rw [smalls_eq]; exact List.mem_append_left _ q)
    rw [if_neg g3] at h
    unfold r__law_sort_2
    walk_at "fx"
    refine ⟨small_line (by decide), ?_⟩
    by_cases q : c :: r = [45, 62]
    · rw [if_pos (.inl q)] at h
      rw [if_pos q]
      exact ⟨_, atI_n (j := 1) rfl, h⟩
    · rw [if_neg q]
      have e : r = [] := by
        rcases hc with a | a | a | a
        · exact absurd a g3
        · exact absurd a g
        · exact absurd a q
        · exact a
      subst e
      dsimp only
      by_cases q2 : c ∈ SG
      · rw [if_pos (.inr ⟨c, q2, rfl⟩)] at h
        rw [if_pos (show c ∈ [40, 41, 44, 58, 43, 45, 42, 94, 62, 47, 63] from q2)]
        exact ⟨_, atI_n (j := 1) rfl, h⟩
      · rw [if_neg (by
          rintro (a | ⟨c', m, a⟩)
          · exact q a
          · rw [List.cons.injEq] at a
            exact q2 (a.1 ▸ m))] at h
        rw [if_neg (show ¬ c ∈ [40, 41, 44, 58, 43, 45, 42, 94, 62, 47, 63] from q2)]
        exact ⟨_, atI_n (j := 0) rfl, h⟩
/-- the signs behind a token's first -/
def moreG (g : List Nat) (r : List Nat) : Nat :=
  if g = [119, 111, 114, 100] then (r.takeWhile fun c => decide (c ∈ LS ++ DS)).length else if g = [110, 117, 109, 101, 114, 97, 108] then (r.takeWhile fun c => decide (c ∈ DS)).length
  else if g = [109, 105, 110, 117, 115] then (if r.head? = some 62 then 1 else 0) else 0
def startG (c : Nat) : List Nat := if c ∈ DS then [110, 117, 109, 101, 114, 97, 108] else if c ∈ smalls then [119, 111, 114, 100] else if c = 45 then [109, 105, 110, 117, 115] else []
def more (c : Nat) (r : List Nat) : Nat := moreG (startG c) r
def lex : List Nat → Nat → List (List Nat × Nat)
  | [], _ => []
  | c :: r, p => if c = 32 then lex r (p + 1) else (c :: r.take (more c r), p) :: lex (r.drop (more c r)) (p + (1 + more c r))
termination_by r => r.length
decreasing_by
  · simp
  · simp; omega
theorem lex_nil (p : Nat) : lex [] p = [] := by rw [lex]
theorem lex_blank (r : List Nat) (p : Nat) : lex (32 :: r) p = lex r (p + 1) := by rw [lex]; simp
theorem lex_cons {c : Nat} (h : c ≠ 32) (r : List Nat) (p : Nat) : lex (c :: r) p = (c :: r.take (more c r), p) :: lex (r.drop (more c r)) (p + (1 + more c r)) := by rw [lex, if_neg h]
theorem moreG_le (g r : List Nat) : moreG g r ≤ r.length := by
  unfold moreG
  repeat' split
  · exact (List.takeWhile_prefix _).length_le
  · exact (List.takeWhile_prefix _).length_le
  · rename_i h
    cases r with
    | nil => cases h
    | cons => simp
  · exact Nat.zero_le _
  · exact Nat.zero_le _
theorem more_small {c : Nat} (h : c ∈ LS) (r : List Nat) : more c r = (r.takeWhile fun c => decide (c ∈ LS ++ DS)).length := by
  unfold more startG
  rw [if_neg (ls_ds h), if_pos (by rw [smalls_eq]; exact List.mem_append_left _ h)]
  rfl
theorem more_digit {c : Nat} (h : c ∈ DS) (r : List Nat) : more c r = (r.takeWhile fun c => decide (c ∈ DS)).length := by
  unfold more startG
  rw [if_pos h]
  rfl
theorem more_sign {c : Nat} (h : c ∉ LS) (h' : c ∉ DS) (r : List Nat) : more c r = if c = 45 ∧ r.head? = some 62 then 1 else 0 := by
  unfold more startG
  rw [if_neg h', if_neg (by rw [smalls_eq, List.mem_append]; exact fun q => q.elim h h')]
  by_cases e : c = 45
  · rw [if_pos e]
    simp only [e, true_and]
    rfl
  · rw [if_neg e, if_neg fun q => e q.1]
    rfl
theorem token_length_ok (s : List Nat) (p en c : Nat) (r : List Nat) (S : Sto) (Q : WP) (E : XP) (hs : s.length ≤ 100000) (he : en ≤ s.length) (e : (s.take en).drop p = c :: r)
    (h : Q (.dat (.int ((1 + more c r : Nat) : Int))) S) : w_token_length [.str s, .int p, .int en] S Q E := by
  have hp : p < en := by
    have := congrArg List.length e
    simp at this
    omega
  have hc : s[p]? = some c := by
    have := congrArg (fun l => l[0]?) e
    simpa [List.getElem?_drop, List.getElem?_take, hp] using this
  unfold w_token_length r_token_length gv_SMALL
  walk_at "fx"
  refine ⟨small_line (by omega), c, atI_n hc, ?_⟩
  refine ite2 (fun g => ?_) fun g => ?_
  · unfold gv_FIGURES
    walk_at "fx"
    refine ⟨small_line (by decide), ?_⟩
    refine run_length_ok s (LS ++ DS) p en _ _ _ hs he ?_
    rw [more_small g] at h
    rw [e, List.takeWhile_cons, if_pos (by simpa using List.mem_append_left DS (show c ∈ LS from g)), List.length_cons]
    rw [Nat.add_comm]
    exact h
  unfold r_token_length_3 gv_FIGURES
  walk_at "fx"
  refine ⟨small_line (by omega), c, atI_n hc, ?_⟩
  refine ite2 (fun g2 => ?_) fun g2 => ?_
  · refine run_length_ok s DS p en _ _ _ hs he ?_
    rw [more_digit g2] at h
    rw [e, List.takeWhile_cons, if_pos (by simpa using (show c ∈ DS from g2)), List.length_cons]
    rw [Nat.add_comm]
    exact h
  rw [more_sign g g2] at h
  unfold r_token_length_2
  walk_at "fx"
  have hr : r.head? = if p + 1 < en then s[p + 1]? else none := by
    have := congrArg (fun l => l[1]?) e
    simp [List.getElem?_drop, List.getElem?_take] at this
    rw [List.head?_eq_getElem?, ← this]
  have last : ¬(c = 45 ∧ r.head? = some 62) → r_token_length_1 (endOf Q E) [some (.dat (.str s)), some (.dat (.int p)), some (.dat (.int en))] S := fun g => by
    unfold r_token_length_1
    walk_at "fx"
    rw [if_neg g] at h
    exact h
  refine ite2 (fun g3 => ?_) fun g3 => ?_
  · have h1 : p + 1 < en := by omega
    have h2 : p + 1 < s.length := by omega
    rw [if_pos h1, List.getElem?_eq_getElem h2] at hr
    have cut : cutN s (some (p : Int)) (some ((p : Int) + 2)) = [c, s[p + 1]] := by
      rw [cut_mid s (by omega) (by omega)]
      have a1 : ((p : Int) + 2).toNat = p + 2 := by omega
      rw [a1, Int.toNat_natCast]
      have h0 : p < s.length := by omega
      rw [List.getElem?_eq_getElem h0] at hc
      rw [List.drop_take, List.drop_eq_getElem_cons h0, List.drop_eq_getElem_cons h2]
      have a2 : p + 2 - p = 2 := by omega
      rw [a2]
      simp at hc
      simp [hc]
      rw [List.drop_eq_getElem_cons h2]
      rfl
    rw [cut]
    refine ⟨small_line (by omega), ?_⟩
    refine ite2 (fun g4 => ?_) fun g4 => ?_
    · rw [if_pos (by
        simp at g4
        exact ⟨g4.1, by rw [hr, g4.2]⟩)] at h
      exact h
    · exact last fun g5 => g4 (by
        rw [hr] at g5
        simp at g5
        rw [g5.1, g5.2])
  · exact last fun g5 => by
      rw [if_neg (by omega)] at hr
      rw [hr] at g5
      cases g5.2
def tokD (t : List Nat × Nat) : D := .tup [.str (sortN t.1), .str t.1, .int t.2]
/-- what a token's signs are -/
def TokW (w : List Nat) : Prop := ∃ c r, w = c :: r ∧ (c ∈ LS ∨ c ∈ DS ∨ w = [45, 62] ∨ r = [])
theorem tok_cons (c : Nat) (r : List Nat) : TokW (c :: r.take (more c r)) := by
  refine ⟨c, _, rfl, ?_⟩
  by_cases h : c ∈ LS
  · exact .inl h
  by_cases h' : c ∈ DS
  · exact .inr (.inl h')
  refine .inr (.inr ?_)
  rw [more_sign h h']
  by_cases q : c = 45 ∧ r.head? = some 62
  · rw [if_pos q]
    cases r with
    | nil => cases q.2
    | cons d r =>
      have := q.2
      simp at this
      exact .inl (by rw [q.1, this]; rfl)
  · rw [if_neg q]
    exact .inr rfl
theorem lex_tok : ∀ (n : Nat) (r : List Nat) (p : Nat), r.length ≤ n → ∀ t ∈ lex r p, TokW t.1 ∧ t.1.length ≤ n
  | n, [], p, _, t, ht => by rw [lex_nil] at ht; cases ht
  | 0, c :: r, p, h, t, ht => by simp at h
  | n + 1, c :: r, p, h, t, ht => by
    have hl : r.length ≤ n := by simpa using h
    by_cases e : c = 32
    · subst e
      rw [lex_blank] at ht
      have := lex_tok n r (p + 1) hl t ht
      exact ⟨this.1, by omega⟩
    · rw [lex_cons e] at ht
      cases ht with
      | head => exact ⟨tok_cons c r, by simp; omega⟩
      | tail _ ht =>
        have := lex_tok n (r.drop (more c r)) _ (by rw [List.length_drop]; omega) t ht
        exact ⟨this.1, by omega⟩
theorem lex_len : ∀ (n : Nat) (r : List Nat) (p : Nat), r.length ≤ n → (lex r p).length ≤ n
  | n, [], p, _ => by rw [lex_nil]; exact Nat.zero_le _
  | 0, c :: r, p, h => by simp at h
  | n + 1, c :: r, p, h => by
    have hl : r.length ≤ n := by simpa using h
    by_cases e : c = 32
    · subst e
      rw [lex_blank]
      exact Nat.le_succ_of_le (lex_len n r _ hl)
    · rw [lex_cons e, List.length_cons]
      exact Nat.succ_le_succ (lex_len n _ _ (by rw [List.length_drop]; omega))
theorem tokens_ok (s : List Nat) (st en : Nat) (S : Sto) (Q : WP) (E : XP) (hs : s.length ≤ 100000) (he : en ≤ s.length)
    (h : Q (.dat (.tup ((lex ((s.take en).drop st) st).map tokD))) S) : w_tokens [.str s, .int st, .int en] S Q E := by
  unfold w_tokens r_tokens
  walk_at "fx"
  unfold r_tokens_7
  walk_at "fx"
  unfold r_tokens_6
  walk_at "fx"
  unfold fWhile
  refine ⟨small_line (by decide), fun n ρ S' => S' = S ∧ ∃ (p : Nat) (F : List (List Nat × Nat)) (x y : Option M), n = en - p ∧ ρ = [some (.dat (.str s)), some (.dat (.int st)), some (.dat (.int en)), some (.lst ((F.map tokD).map M.dat)), some (.dat (.int p)), x, y] ∧ F.length ≤ p ∧
    F ++ lex ((s.take en).drop p) p = lex ((s.take en).drop st) st, ⟨_, rfl, st, [], none, none, rfl, rfl, Nat.zero_le _, rfl⟩, ?_⟩
  rintro n ρ S' ⟨rfl, p, F, x, y, rfl, rfl, hF, hL⟩
  walk_at "fx"
  refine ite2 (fun g => ?_) fun g => ?_
  · have hp : p < en := by omega
    have hps : p < s.length := by omega
    have e1 : (s.take en).drop p = s[p] :: (s.take en).drop (p + 1) := by
      rw [List.drop_eq_getElem_cons (by rw [List.length_take]; omega)]
      simp
    unfold r_tokens_4
    walk_at "fx"
    refine ⟨small_line (by omega), s[p], atI_n (List.getElem?_eq_getElem hps), ?_⟩
    refine ite2 (fun g => ?_) fun g => ?_
    · refine token_length_ok s p en s[p] _ _ _ _ hs he e1 ?_
      have ne : s[p] ≠ 32 := by simpa using g
      rw [e1, lex_cons ne] at hL
      have mle := moreG_le (startG s[p]) ((s.take en).drop (p + 1))
      change more s[p] ((s.take en).drop (p + 1)) ≤ _ at mle
      generalize hm : more s[p] ((s.take en).drop (p + 1)) = m at hL mle
      unfold r_tokens_2
      walk_at "fx"
      have cut : cutN s (some (p : Int)) (some ((p : Int) + (1 + m : Nat))) = s[p] :: ((s.take en).drop (p + 1)).take m := by
        rw [cut_mid s (by omega) (by omega)]
        have a1 : ((p : Int) + (1 + m : Nat)).toNat = p + (1 + m) := by omega
        rw [a1, Int.toNat_natCast]
        rw [List.length_drop, List.length_take] at mle
        rw [List.drop_take, List.drop_eq_getElem_cons hps, List.drop_take, List.take_take]
        have a2 : p + (1 + m) - p = m + 1 := by omega
        rw [a2, List.take_succ_cons, Nat.min_eq_left (by omega)]
      rw [cut]
      rw [List.length_drop, List.length_take] at mle
      refine ⟨small_line (by omega), ?_⟩
      unfold r_tokens_1
      walk_at "fx"
      refine ⟨small_line' (by omega), ?_⟩
      refine token_sort_ok _ _ _ _ _ (by rw [List.length_take, List.length_drop, List.length_take]; omega) ?_
      walk_at "fx"
      unfold r_tokens_3
      walk_at "fx"
      refine ⟨small_line (by decide), en - (p + (1 + m)), by omega, p + (1 + m), F ++ [(s[p] :: ((s.take en).drop (p + 1)).take m, p)], some (.dat (.int ((1 + m : Nat) : Int))), some (.dat (.str (s[p] :: ((s.take en).drop (p + 1)).take m))), rfl, ?_, by rw [List.length_append]; simp; omega, ?_⟩
      · simp [tokD]
      · rw [List.append_assoc, List.singleton_append, ← hL, List.drop_drop, Nat.add_assoc]
    · have g1 : s[p] = 32 := by simpa using g
      rw [e1, g1, lex_blank] at hL
      unfold r_tokens_3
      walk_at "fx"
      exact ⟨en - (p + 1), by omega, p + 1, F, some (.dat (.int 1)), y, rfl, by simp, by omega, hL⟩
  · have e1 : (s.take en).drop p = [] := by
      apply List.drop_of_length_le
      rw [List.length_take]
      omega
    rw [e1, lex_nil, List.append_nil] at hL
    unfold r_tokens_5
    walk_at "fx"
    rw [hL]
    exact ⟨_, dats_map _, h⟩
def rowM (t : List Nat × Nat) : M := .lst [.dat (.str t.1), .dat (.int t.2)]
def Due (L : List (List Nat × Nat)) (F : List (List Nat × Nat)) (g : List Nat) (r : List Nat) (p : Nat) : Prop :=
  (g = [] ∧ F ++ lex r p = L) ∨ ((g = [119, 111, 114, 100] ∨ g = [110, 117, 109, 101, 114, 97, 108] ∨ g = [109, 105, 110, 117, 115]) ∧ ∃ G w q, F = G ++ [(w, q)] ∧ w.length ≤ p ∧ (g = [109, 105, 110, 117, 115] → w = [45]) ∧ G ++ (w ++ r.take (moreG g r), q) :: lex (r.drop (moreG g r)) (p + moreG g r) = L)
theorem start_minus {c : Nat} (h : startG c = [109, 105, 110, 117, 115]) : c = 45 := by
  unfold startG at h
  split at h
  · cases h
  · split at h
    · cases h
    · split at h
      · assumption
      · cases h
theorem last_at (G : List (List Nat × Nat)) (w : List Nat) (q : Nat) : atI ((G ++ [(w, q)]).map rowM) (((G ++ [(w, q)]).length : Int) - 1) = some (rowM (w, q)) := by
  have e : (((G ++ [(w, q)]).length : Int) - 1) = (G.length : Int) := by simp
  rw [e]
  exact atI_n (by simp)
theorem last_ix (G : List (List Nat × Nat)) (w : List Nat) (q : Nat) : ixN (G ++ [(w, q)]).length (((G ++ [(w, q)]).length : Int) - 1) = some G.length := by
  have e : (((G ++ [(w, q)]).length : Int) - 1) = (G.length : Int) := by simp
  rw [e]
  unfold ixN
  rw [if_pos (by omega), if_pos (by rw [List.length_append]; simp; omega)]
  simp
theorem last_get (G : List (List Nat × Nat)) (w : List Nat) (q : Nat) : ((G ++ [(w, q)]).map rowM)[G.length]? = some (.lst [.dat (.str w), .dat (.int q)]) := by
  rw [List.getElem?_map, List.getElem?_append_right (Nat.le_refl _), Nat.sub_self]
  rfl
theorem last_set (G : List (List Nat × Nat)) (w w' : List Nat) (q : Nat) : ((G ++ [(w, q)]).map rowM).set G.length (.lst [.dat (.str w'), .dat (.int q)]) = (G ++ [(w', q)]).map rowM := by
  rw [List.map_append, List.set_append_right _ _ (by simp)]
  simp [rowM]
theorem ix_20 : ixN 2 (0 : Int) = some 0 := rfl
theorem mw_in {c : Nat} (h : c ∈ smalls) (r : List Nat) : moreG [119, 111, 114, 100] (c :: r) = moreG [119, 111, 114, 100] r + 1 := by
  unfold moreG
  rw [if_pos rfl, if_pos rfl, List.takeWhile_cons, if_pos (by simpa using (show c ∈ LS ++ DS from h)), List.length_cons]
theorem mw_out {c : Nat} (h : ¬ c ∈ smalls) (r : List Nat) : moreG [119, 111, 114, 100] (c :: r) = 0 := by
  unfold moreG
  rw [if_pos rfl, List.takeWhile_cons, if_neg (by simpa using (show ¬ c ∈ LS ++ DS from h)), List.length_nil]
theorem md_in {c : Nat} (h : c ∈ DS) (r : List Nat) : moreG [110, 117, 109, 101, 114, 97, 108] (c :: r) = moreG [110, 117, 109, 101, 114, 97, 108] r + 1 := by
  unfold moreG
  rw [if_neg (by decide), if_pos rfl, if_neg (by decide), if_pos rfl, List.takeWhile_cons, if_pos (by simpa using h), List.length_cons]
theorem md_out {c : Nat} (h : ¬ c ∈ DS) (r : List Nat) : moreG [110, 117, 109, 101, 114, 97, 108] (c :: r) = 0 := by
  unfold moreG
  rw [if_neg (by decide), if_pos rfl, List.takeWhile_cons, if_neg (by simpa using h), List.length_nil]
theorem mm_in (r : List Nat) : moreG [109, 105, 110, 117, 115] (62 :: r) = 1 := rfl
theorem mm_out {c : Nat} (h : ¬ c = 62) (r : List Nat) : moreG [109, 105, 110, 117, 115] (c :: r) = 0 := by
  unfold moreG
  rw [if_neg (by decide), if_neg (by decide), if_pos rfl, if_neg (by simpa using h)]
theorem due_grow {L G : List (List Nat × Nat)} {w : List Nat} {q p c : Nat} {g r : List Nat} (hg : g = [119, 111, 114, 100] ∨ g = [110, 117, 109, 101, 114, 97, 108]) (hm : moreG g (c :: r) = moreG g r + 1) (hw : w.length ≤ p)
    (hL : G ++ (w ++ (c :: r).take (moreG g (c :: r)), q) :: lex ((c :: r).drop (moreG g (c :: r))) (p + moreG g (c :: r)) = L) : Due L (G ++ [(w ++ [c], q)]) g r (p + 1) := by
  refine .inr ⟨hg.elim .inl fun h => .inr (.inl h), G, w ++ [c], q, rfl, by simp; omega, fun h => (by rcases hg with e | e <;> rw [e] at h <;> cases h), ?_⟩
  rw [← hL, hm, List.take_succ_cons, List.drop_succ_cons, List.append_assoc, Nat.add_assoc, Nat.add_comm 1]
  rfl
theorem due_stop {L G : List (List Nat × Nat)} {w : List Nat} {q p c : Nat} {g r : List Nat} (hm : moreG g (c :: r) = 0)
    (hL : G ++ (w ++ (c :: r).take (moreG g (c :: r)), q) :: lex ((c :: r).drop (moreG g (c :: r))) (p + moreG g (c :: r)) = L) : (G ++ [(w, q)]) ++ lex (c :: r) p = L := by
  rw [← hL, hm, List.take_zero, List.append_nil, List.drop_zero, List.append_assoc]
  rfl
theorem due_ok (s : List Nat) (st en : Nat) (S : Sto) (Q : WP) (E : XP) (hs : s.length ≤ 100000) (hst : st ≤ s.length) (he : en ≤ s.length)
    (h : Q (.lst (((lex ((s.take en).drop st) st).map tokD).map M.dat)) S) : w__law_due [.str s, .int st, .int en] S Q E := by
  unfold w__law_due r__law_due
  walk_at "fx"
  refine small_ok _ _ _ ?_
  walk_at "fx"
  unfold r__law_due_8
  walk_at "fx"
  unfold r__law_due_7
  walk_at "fx"
  unfold r__law_due_6
  walk_at "fx"
  generalize hLL : lex ((s.take en).drop st) st = L at h
  refine ⟨by omega, by omega, ?_⟩
  refine forW_by (fun l ρ S' => S' = S ∧ ∃ (k : Nat) (F : List (List Nat × Nat)) (g : List Nat) (x y : Option M), l = (rng st ((en : Int) - (st : Int)).toNat).drop k ∧ k ≤ ((en : Int) - (st : Int)).toNat ∧ F.length ≤ k ∧ Due L F g ((s.take en).drop (st + k)) (st + k) ∧
      ρ = [some (.dat (.str s)), some (.dat (.int st)), some (.dat (.int en)), some (.dat (.str smalls)), some (.lst (F.map rowM)), some (.dat (.str g)), x, y, none])
      ⟨rfl, 0, [], [], none, none, rfl, Nat.zero_le _, Nat.zero_le _, .inl ⟨rfl, by simpa using hLL⟩, rfl⟩ ?_ ?_
  · rintro ρ S' ⟨rfl, k, F, g, x, y, e, hk, hF, hD, rfl⟩
    have e2 := rng_end hk e
    have e1 : (s.take en).drop (st + k) = [] := by
      apply List.drop_of_length_le
      rw [List.length_take]
      omega
    rw [e1] at hD
    have hFL : F = L := by
      rcases hD with ⟨_, q⟩ | ⟨_, G, w, q, e3, _, _, e4⟩
      · rwa [lex_nil, List.append_nil] at q
      · rw [← e4, e3, List.take_nil, List.append_nil, List.drop_nil, lex_nil]
    subst hFL
    show r__law_due_5 (endOf Q E) _ _
    unfold r__law_due_5 fFz
    walk_at "fx"
    rw [show (M.lst (F.map rowM)).toD = .lst (F.map fun t => .lst [.str t.1, .int t.2]) from toD_rows (fun t : List Nat × Nat => [D.str t.1, D.int t.2]) F]
    dsimp only
    have hTok : ∀ t ∈ F, TokW t.1 ∧ t.1.length ≤ 100000 := by
      rw [← hLL]
      exact lex_tok 100000 _ _ (by rw [List.length_drop, List.length_take]; omega)
    refine compW_by (fun l acc S'' => S'' = S' ∧ ∃ (A B : List (List Nat × Nat)), A ++ B = F ∧ l = B.map (fun t => D.lst [.str t.1, .int t.2]) ∧ acc = (A.map tokD).map M.dat) ⟨rfl, [], F, rfl, rfl, rfl⟩ ?_ ?_
    · rintro acc S'' ⟨rfl, A, B, e3, e4, rfl⟩
      have : B = [] := by simpa using e4.symm
      subst this
      rw [List.append_nil] at e3
      subst e3
      exact h
    · rintro d l acc S'' ih ⟨rfl, A, B, e3, e4, rfl⟩
      cases B with
      | nil => cases e4
      | cons t B =>
        rw [List.map_cons] at e4
        injection e4 with e4 e5
        subst e4
        obtain ⟨⟨c, r, hw, hs'⟩, hl⟩ := hTok t (by rw [← e3]; simp)
        walk_at "fx"
        simp only [atI_0, atI_1, List.getElem?_cons_zero, List.getElem?_cons_succ, ex_some]
        rw [hw] at hl hs' ⊢
        refine law_sort_ok _ _ _ _ _ hl hs' ?_
        walk_at "fx"
        have hA : A.length ≤ 100000 := by
          have a1 := lex_len 100000 ((s.take en).drop st) st (by rw [List.length_drop, List.length_take]; omega)
          rw [hLL, ← e3, List.length_append] at a1
          omega
        refine ⟨small_line (by decide), small_line' (by omega), ih _ _ ⟨rfl, A ++ [t], B, by simpa using e3, e5, ?_⟩⟩
        simp [tokD, hw]
  · rintro d l ρ S' ih ⟨rfl, k, F, g, x, y, e, hk, hF, hD, rfl⟩
    obtain ⟨hlt, rfl, e2⟩ := rng_step e
    have hps : st + k < s.length := by omega
    have e1 : (s.take en).drop (st + k) = s[st + k] :: (s.take en).drop (st + (k + 1)) := by
      rw [List.drop_eq_getElem_cons (by rw [List.length_take]; omega)]
      simp [Nat.add_assoc]
    rw [e1] at hD
    walk_at "fx"
    refine ⟨small_line (by omega), s[st + k], ?_, ?_⟩
    · have := atI_n (List.getElem?_eq_getElem hps)
      simpa using this
    generalize hW : forW (gN 6) _ _ l = W at ih ⊢
    generalize hc : s[st + k] = c at hD ⊢
    generalize hr : (s.take en).drop (st + (k + 1)) = r at hD
    have step : ∀ (F' : List (List Nat × Nat)) (g' : List Nat) (x y : Option M), F'.length ≤ k + 1 → Due L F' g' r (st + k + 1) → W [some (.dat (.str s)), some (.dat (.int st)), some (.dat (.int en)), some (.dat (.str smalls)), some (.lst (F'.map rowM)), some (.dat (.str g')), x, y, none] S' :=
      fun F' g' x y hF' hD' => ih _ _ ⟨rfl, k + 1, F', g', x, y, e2, hlt, hF', by rw [hr]; exact hD', rfl⟩
    have third : F ++ lex (c :: r) (st + k) = L → ∀ P : EndP, P.nx = W → r__law_due_3 P [some (.dat (.str s)), some (.dat (.int st)), some (.dat (.int en)), some (.dat (.str smalls)), some (.lst (F.map rowM)), some (.dat (.str [])), some (.dat (.int ((st : Int) + (k : Int)))), some (.dat (.str [c])), none] S' := by
      intro hL P hP
      unfold r__law_due_3
      walk_at "fx"
      refine ite2 (fun a => ?_) fun a => ?_
      · have ne : c ≠ 32 := by simpa using a
        rw [lex_cons ne] at hL
        refine ⟨small_line' (by omega), ?_⟩
        unfold r__law_due_2
        walk_at "fx"
        have fin : ∀ g', startG c = g' → W [some (.dat (.str s)), some (.dat (.int st)), some (.dat (.int en)), some (.dat (.str smalls)), some (.lst (F.map rowM ++ [.lst [.dat (.str [c]), .dat (.int ((st : Int) + (k : Int)))]])), some (.dat (.str g')), some (.dat (.int ((st : Int) + (k : Int)))), some (.dat (.str [c])), none] S' := by
          intro g' hg
          have := step (F ++ [([c], st + k)]) g' (some (.dat (.int ((st : Int) + (k : Int))))) (some (.dat (.str [c]))) (by simp; omega) (by
            unfold more at hL
            rw [hg] at hL
            by_cases e0 : g' = []
            · subst e0
              refine .inl ⟨rfl, ?_⟩
              rw [← hL, List.append_assoc]
              rfl
            · refine .inr ⟨?_, F, [c], st + k, rfl, by simp, fun q => by rw [start_minus (hg.trans q)], ?_⟩
              · rw [← hg] at e0 ⊢
                unfold startG at e0 ⊢
                split
                · exact .inr (.inl rfl)
                · split
                  · exact .inl rfl
                  · split
                    · exact .inr (.inr rfl)
                    · rename_i q1 q2 q3
                      rw [if_neg q1, if_neg q2, if_neg q3] at e0
                      exact absurd rfl e0
              · rw [← hL, Nat.add_assoc]
                rfl)
          simpa [rowM] using this
        rw [hP]
        refine ⟨small_line (by decide), ?_⟩
        unfold startG at fin
        refine ite2 (fun a1 => fin _ (if_pos a1)) fun a1 => ?_
        refine ite2 (fun a2 => fin _ (by rw [if_neg (show ¬ c ∈ DS from a1), if_pos a2])) fun a2 => ?_
        refine ite2 (fun a3 => fin _ (by rw [if_neg (show ¬ c ∈ DS from a1), if_neg a2, if_pos (by simpa using a3)])) fun a3 => ?_
        exact fin _ (by rw [if_neg (show ¬ c ∈ DS from a1), if_neg a2, if_neg (by simpa using a3)])
      · have e : c = 32 := by simpa using a
        subst e
        rw [lex_blank] at hL
        rw [hP]
        exact step F [] _ _ (by omega) (.inl ⟨rfl, hL⟩)
    rcases hD with ⟨rfl, hL⟩ | ⟨hg, G, w, q, rfl, hwp, hmin, hL⟩
    · unfold r__law_due_4
      walk_at "fx"
      simp (decide := true) only [if_true, if_false]
      exact third hL _ rfl
    · rcases hg with rfl | rfl | rfl
      · unfold r__law_due_4 fSet1
        walk_at "fx"
        simp (decide := true) only [if_true, if_false]
        refine ite2 (fun a => ?_) fun a => ?_
        · simp only [last_at, ex_some, rowM, atI_0, List.getElem?_cons_zero]
          walk_at "fx"
          refine ⟨small_line (by omega), _, _, rfl, last_ix G w q, _, last_get G w q, 0, 0, rfl, rfl, ?_⟩
          rw [List.set_cons_zero, last_set]
          exact step _ _ _ _ (by rw [List.length_append] at hF ⊢; exact Nat.le_succ_of_le hF) (due_grow (.inl rfl) (mw_in a r) hwp hL)
        · exact third (due_stop (mw_out a r) hL) _ rfl
      · unfold r__law_due_4 fSet1
        walk_at "fx"
        simp (decide := true) only [if_true, if_false]
        refine ite2 (fun a => ?_) fun a => ?_
        · simp only [last_at, ex_some, rowM, atI_0, List.getElem?_cons_zero]
          walk_at "fx"
          refine ⟨small_line (by omega), _, _, rfl, last_ix G w q, _, last_get G w q, 0, 0, rfl, rfl, ?_⟩
          rw [List.set_cons_zero, last_set]
          exact step _ _ _ _ (by rw [List.length_append] at hF ⊢; exact Nat.le_succ_of_le hF) (due_grow (.inr rfl) (md_in a r) hwp hL)
        · exact third (due_stop (md_out a r) hL) _ rfl
      · unfold r__law_due_4 fSet1
        walk_at "fx"
        simp (decide := true) only [if_true, if_false]
        refine ite2 (fun a => ?_) fun a => ?_
        · unfold r__law_due_1
          walk_at "fx"
          have ec : c = 62 := by simpa using a
          have ew : w = [45] := hmin rfl
          subst ec ew
          refine ⟨_, _, rfl, last_ix G _ q, _, last_get G _ q, 0, 0, rfl, rfl, ?_⟩
          rw [List.set_cons_zero, last_set]
          refine step _ _ _ _ (by rw [List.length_append] at hF ⊢; exact Nat.le_succ_of_le hF) (.inl ⟨rfl, ?_⟩)
          rw [← hL, mm_in, List.append_assoc]
          rfl
        · exact third (due_stop (mm_out (by simpa using a) r) hL) _ rfl
theorem whole_ok (i : Int) (S : Sto) (Q : WP) (E : XP) (h : Q (.dat (.bl true)) S) : w__law_whole [.int i] S Q E := by
  walk_at "U _law_whole"
  walk_at "fx"
  exact h
theorem right_ok (s : List Nat) (st en : Nat) (S : Sto) (Q : WP) (E : XP) (hs : s.length ≤ 100000) (hst : st ≤ s.length) (he : en ≤ s.length)
    (h : Q (.dat (.bl true)) S) : w__law_right [.str s, .int st, .int en] S Q E := by
  unfold w__law_right r__law_right
  walk_at "fx"
  refine due_ok s st en _ _ _ hs hst he ?_
  rw [toD_lst]
  walk_at "fx"
  unfold r__law_right_7
  walk_at "fx"
  refine tokens_ok s st en _ _ _ hs he ?_
  have hn := lex_len 100000 ((s.take en).drop st) st (by rw [List.length_drop, List.length_take]; omega)
  generalize lex ((s.take en).drop st) st = L at hn
  walk_at "fx"
  unfold r__law_right_6
  walk_at "fx"
  simp (decide := true) only [if_true, if_false]
  unfold r__law_right_5
  walk_at "fx"
  refine ⟨by omega, by omega, ?_⟩
  refine forW_by (fun l ρ S' => S' = S ∧ ∃ (k : Nat) (x y : Option M), l = (rng 0 ((L.length : Int)).toNat).drop k ∧ ρ = [some (.dat (.str s)), some (.dat (.int st)), some (.dat (.int en)), some (.dat (.lst (L.map tokD))), some (.dat (.tup (L.map tokD))), x, y])
    ⟨rfl, 0, none, none, rfl, rfl⟩ ?_ ?_
  · rintro ρ S' ⟨rfl, k, x, y, e, rfl⟩
    unfold r__law_right_4
    walk_at "fx"
    exact h
  · rintro d l ρ S' ih ⟨rfl, k, x, y, e, rfl⟩
    obtain ⟨hlt, rfl, e2⟩ := rng_step e
    walk_at "fx"
    have hk : k < L.length := by simpa using hlt
    have hz : ((0 : Int) + (k : Int)) = (k : Int) := by omega
    rw [hz]
    have ha : atI (L.map tokD) (k : Int) = some (tokD L[k]) := atI_n (by rw [List.getElem?_map, List.getElem?_eq_getElem hk]; rfl)
    refine ⟨_, ha, ?_⟩
    generalize hW : forW (gN 5) _ _ l = W at ih ⊢
    have nx : ∀ x y, W [some (.dat (.str s)), some (.dat (.int st)), some (.dat (.int en)), some (.dat (.lst (L.map tokD))), some (.dat (.tup (L.map tokD))), x, y] S' := fun x y => ih _ _ ⟨rfl, k + 1, x, y, e2, rfl⟩
    unfold r__law_right_3
    generalize ht : L[k] = t at ha ⊢
    unfold tokD at ha ⊢
    walk_at "fx"
    simp (decide := true) only [if_true, if_false]
    unfold r__law_right_2
    walk_at "fx"
    refine ⟨_, atI_n (j := 0) rfl, _, rfl, _, isi_str_str, ?_⟩
    rw [if_neg (by decide)]
    refine ⟨_, atI_n (j := 1) rfl, _, rfl, _, isi_str_str, ?_⟩
    rw [if_neg (by decide)]
    refine ⟨_, atI_n (j := 2) rfl, whole_ok _ _ _ _ ?_⟩
    dsimp only
    rw [if_neg (by decide)]
    unfold r__law_right_1
    walk_at "fx"
    refine ⟨_, atI_n (j := 0) rfl, _, ha, ?_⟩
    dsimp only
    refine ⟨_, atI_n (j := 0) rfl, _, rfl, ?_⟩
    rw [if_neg (by simp)]
    refine ⟨_, atI_n (j := 1) rfl, _, ha, ?_⟩
    dsimp only
    refine ⟨_, atI_n (j := 1) rfl, _, rfl, ?_⟩
    rw [if_neg (by simp)]
    refine ⟨_, atI_n (j := 2) rfl, _, ha, ?_⟩
    dsimp only
    refine ⟨_, atI_n (j := 2) rfl, _, rfl, ?_⟩
    rw [if_neg (by simp)]
    exact nx _ _
theorem right_ok' (s : List Nat) (i j : Int) (S : Sto) (Q : WP) (E : XP) (hs : s.length ≤ 100000) (h0 : 0 ≤ i) (h1 : i ≤ s.length) (h2 : 0 ≤ j) (h3 : j ≤ s.length)
    (h : Q (.dat (.bl true)) S) : w__law_right [.str s, .int i, .int j] S Q E := by
  have := right_ok s i.toNat j.toNat S Q E hs (by omega) (by omega) h
  rwa [Int.toNat_of_nonneg h0, Int.toNat_of_nonneg h2] at this
theorem find_rng {s : List Nat} {c : Nat} {lo k : Int} (h : FindS s c lo k) : k = -1 ∨ 0 ≤ k ∧ k < s.length := by
  rcases h with ⟨h, _⟩ | ⟨n, h, _, h2, _⟩
  · exact .inl h
  · have := (List.getElem?_eq_some_iff.mp h2).1
    omega
theorem find_in {s : List Nat} {c a : Nat} {b k : Int} (hb : 0 ≤ b) (h : FindS s c a k) (hc : c ∈ cutN s (some (a : Int)) (some b)) : 0 ≤ k ∧ k < s.length := by
  rcases h with ⟨h, h'⟩ | ⟨n, h, _, h2, _⟩
  · rw [cut_mid s (by omega) hb, Int.toNat_natCast] at hc
    obtain ⟨i, hi, e⟩ := List.getElem_of_mem hc
    rw [List.length_drop, List.length_take] at hi
    exact absurd (by rw [List.getElem?_eq_getElem (by omega)]; simpa using e) (h' (a + i) (by omega))
  · have := (List.getElem?_eq_some_iff.mp h2).1
    omega
theorem rfind_rng {s : List Nat} {c : Nat} {lo hi k : Int} (h : RFindS s c lo hi k) : k = -1 ∨ 0 ≤ k ∧ k < s.length := by
  rcases h with ⟨h, _⟩ | ⟨n, h, _, _, h2, _⟩
  · exact .inl h
  · have := (List.getElem?_eq_some_iff.mp h2).1
    omega
theorem tail_ok (s : List Nat) (x y z : Option M) (a b : Int) (S : Sto) (hs : s.length ≤ 100000) (h0 : 0 ≤ a) (h1 : a ≤ s.length) (h2 : 0 ≤ b) (h3 : b ≤ s.length) :
    r_law_6 (endOf (fun m _ => m = .dat (.bl true)) fun _ _ => False) [x, y, z, some (.dat (.str s)), some (.dat (.int a)), some (.dat (.int b)), none, none, none] S := by
  unfold r_law_6
  walk_at "fx"
  simp only [oRFind4]
  refine ⟨by omega, h0, h1, fun k hk => ?_⟩
  have hk := rfind_rng hk
  walk_at "fx"
  unfold r_law_5
  walk_at "fx"
  simp only [oFind3]
  refine ⟨h0, fun j hj => ?_⟩
  have hj := find_rng hj
  walk_at "fx"
  have last : ∀ j : Int, 0 ≤ j → j ≤ s.length → r_law_3 (endOf (fun m _ => m = .dat (.bl true)) fun _ _ => False) [x, y, z, some (.dat (.str s)), some (.dat (.int a)), some (.dat (.int b)), some (.dat (.int (k + 1))), some (.dat (.int j)), none] S := by
    intro j j0 j1
    unfold r_law_3
    walk_at "fx"
    refine right_ok' s _ _ _ _ _ hs h0 h1 h2 h3 ?_
    walk_at "fx"
    refine right_ok' s _ _ _ _ _ hs (by omega) (by omega) j0 j1 ?_
    walk_at "fx"
    unfold r_law_2
    walk_at "fx"
    refine right_ok' s _ _ _ _ _ hs h0 h1 h2 h3 ?_
    walk_at "fx"
    refine right_ok' s _ _ _ _ _ hs h0 h1 h0 h1 ?_
    rfl
  unfold r_law_4
  walk_at "fx"
  refine ite2 (fun g => ?_) fun g => ?_
  · refine ⟨small_line (by omega), last _ (by omega) (by omega)⟩
  · exact last j (by omega) (by omega)
theorem law_ok (ns : List Int) (S : Sto) (hn : ns.length ≤ 63) : w_law [.lst (ns.map .int)] S (fun m _ => m = .dat (.bl true)) (fun _ _ => False) := by
  unfold w_law r_law
  walk_at "fx"
  refine cell_ok _ _ _ _ _ (by decide) (by decide) fun c => ?_
  walk_at "fx"
  refine ⟨small_line (by decide), ?_⟩
  refine digits_ok c [16, 40, 2, 2000, 2000] _ _ _ (fun z hz => ?_) (by decide) fun ds hd => ?_
  · simp only [List.mem_cons, List.not_mem_nil, or_false] at hz
    rcases hz with h | h | h | h | h <;> subst h <;> exact ⟨by decide, by decide⟩
  obtain ⟨d0, r, rfl, h1, h2, hd⟩ := digs_cons hd
  obtain ⟨d1, r, rfl, h3, h4, hd⟩ := digs_cons hd
  obtain ⟨d2, r, rfl, h5, h6, hd⟩ := digs_cons hd
  obtain ⟨d3, r, rfl, h7, h8, hd⟩ := digs_cons hd
  obtain ⟨d4, r, rfl, h9, h10, hd⟩ := digs_cons hd
  have : r = [] := List.eq_nil_of_length_eq_zero (by simpa using hd.1)
  subst this
  simp only [toD_lst]
  unfold r_law_12
  walk_at "fx"
  simp only [atI_0, atI_1, List.getElem?_cons_zero, List.getElem?_cons_succ, ex_some]
  walk_at "fx"
  have rest : ∀ many : Int, 0 ≤ many → many ≤ 40 → r_law_11 (endOf (fun m _ => m = .dat (.bl true)) fun _ _ => False) [some (.dat (.lst (ns.map .int))), some (.dat (.lst [.int d0, .int d1, .int d2, .int d3, .int d4])), some (.dat (.int many)), none, none, none, none, none, none] S := by
    intro many m0 m1
    unfold r_law_11
    walk_at "fx"
    refine ⟨by omega, by omega, ?_⟩
    refine compW_by (fun l acc S' => S' = S ∧ ∃ (k : Nat) (ps : List (List Nat)), l = (rng 0 many.toNat).drop k ∧ k ≤ many.toNat ∧ acc = (ps.map D.str).map M.dat ∧ ps.length = k ∧ ps.flatten.length ≤ 60 * k) ⟨rfl, 0, [], rfl, Nat.zero_le _, rfl, rfl, Nat.le_refl _⟩ ?_ ?_
    · rintro acc S' ⟨rfl, k, ps, e, hk, rfl, hl, hf⟩
      refine join_texts (by omega) ?_
      generalize ps.flatten = s at hf
      have hs : s.length ≤ 2400 := by omega
      unfold r_law_10
      walk_at "fx"
      unfold r_law_9
      walk_at "fx"
      have mid : ∀ a b : Int, 0 ≤ a → a ≤ b → b ≤ s.length → r_law_7 (endOf (fun m _ => m = .dat (.bl true)) fun _ _ => False) [some (.dat (.lst (ns.map .int))), some (.dat (.lst [.int d0, .int d1, .int d2, .int d3, .int d4])), some (.dat (.int many)), some (.dat (.str s)), some (.dat (.int a)), some (.dat (.int b)), none, none, none] S' := by
        intro a b ha hab hb
        unfold r_law_7
        walk_at "fx"
        refine ⟨small_line (by omega), ?_⟩
        refine ite2 (fun g => ?_) fun g => ?_
        · simp only [oFind3]
          refine ⟨ha, fun k hk => ?_⟩
          have hk := find_in (a := a.toNat) (b := b) (by omega) (by rwa [Int.toNat_of_nonneg ha]) (by rw [Int.toNat_of_nonneg ha]; exact g)
          walk_at "fx"
          exact tail_ok s _ _ _ a k S' (by omega) ha (by omega) hk.1 (by omega)
        · exact tail_ok s _ _ _ a b S' (by omega) ha (by omega) (by omega) hb
      unfold r_law_8
      walk_at "fx"
      simp only [atI_2, atI_3, List.getElem?_cons_zero, List.getElem?_cons_succ, ex_some]
      refine ⟨small_line (by omega), ?_⟩
      refine ite2 (fun g => ?_) fun g => ?_
      · have a0 : 0 ≤ d3 % ((s.length : Int) + 1) := Int.emod_nonneg _ (by omega)
        have a1 : d3 % ((s.length : Int) + 1) < (s.length : Int) + 1 := Int.emod_lt_of_pos _ (by omega)
        refine ⟨small_line (by omega), by omega, ?_⟩
        generalize d3 % ((s.length : Int) + 1) = a at a0 a1
        unfold r_law_1
        walk_at "fx"
        simp only [atI_4, List.getElem?_cons_zero, List.getElem?_cons_succ, ex_some]
        have b0 : 0 ≤ d4 % ((s.length : Int) + 1 - a) := Int.emod_nonneg _ (by omega)
        have b1 : d4 % ((s.length : Int) + 1 - a) < (s.length : Int) + 1 - a := Int.emod_lt_of_pos _ (by omega)
        refine ⟨small_line (by omega), by omega, ?_⟩
        exact mid a _ a0 (by omega) (by omega)
      · exact mid 0 _ (by decide) (by omega) (by omega)
    · rintro d l acc S' ih ⟨rfl, k, ps, e, hk, rfl, hl, hf⟩
      obtain ⟨hlt, rfl, e2⟩ := rng_step e
      walk_at "fx"
      refine cell_ok _ _ _ _ _ (by omega) (by omega) fun c' => ?_
      walk_at "fx"
      refine piece_ok _ _ _ _ fun s hs => ?_
      refine ⟨small_line' (by omega), ih _ _ ⟨rfl, k + 1, ps ++ [s], e2, hlt, by simp, by simp [hl], by rw [List.flatten_append, List.length_append]; simp only [List.flatten_cons, List.flatten_nil, List.append_nil]; omega⟩⟩
  refine ⟨small_line (by decide), ?_⟩
  by_cases g : d0 = 5
  · rw [if_pos g]
    exact ⟨_, atI_n (j := 1) rfl, rest _ (by decide) (by decide)⟩
  · rw [if_neg g]
    exact ⟨_, atI_n (j := 0) rfl, rest _ (by omega) (by omega)⟩
end K65
namespace K65
open PySem PySem.Spec PyProof.Rows L2 L2.Fn
theorem all_mk {l : PySem.W.OpenLaw} {w : World} {K : PySem.W.Frag} {h : Heap} {mg : Str → Option Value} {fa f0 f1 f2 f3 f4 f5 f6 f7 f8 f9 f10 f11 f12 f13 f14 f15 : Addr} (X : K.In h) (G : h.Ns mainGlobals mg) (hfa : mg "law" = some (.ref fa))
    {od0 an0 od1 an1 od2 an2 od3 an3 od4 an4 od5 an5 od6 an6 od7 an7 od8 an8 od9 an9 od10 an10 od11 an11 od12 an12 od13 an13 od14 an14 od15 an15 : Option Addr} {sl0 sl1 sl2 sl3 sl4 sl5 sl6 sl7 sl8 sl9 sl10 sl11 sl12 sl13 sl14 sl15 : Array (Option Value)} {oc0 kV0 dc0 pm0 cd0 ct0 oc1 kV1 dc1 pm1 cd1 ct1 oc2 kV2 dc2 pm2 cd2 ct2 oc3 kV3 dc3 pm3 cd3 ct3 oc4 kV4 dc4 pm4 cd4 ct4 oc5 kV5 dc5 pm5 cd5 ct5 oc6 kV6 dc6 pm6 cd6 ct6 oc7 kV7 dc7 pm7 cd7 ct7 oc8 kV8 dc8 pm8 cd8 ct8 oc9 kV9 dc9 pm9 cd9 ct9 oc10 kV10 dc10 pm10 cd10 ct10 oc11 kV11 dc11 pm11 cd11 ct11 oc12 kV12 dc12 pm12 cd12 ct12 oc13 kV13 dc13 pm13 cd13 ct13 oc14 kV14 dc14 pm14 cd14 ct14 oc15 kV15 dc15 pm15 cd15 ct15 : Value}
    (a0 : PySem.W.nsIn K mainGlobals "run_length" = some (some (.ref f0))) (l0 : K.lookup f0 = some ⟨oc0, od0, .func (PySem.W.fnOf "run_length" "run_length" (defArgs st_run_length) (defBody st_run_length) (defScope st_run_length) .none kV0 dc0 pm0 an0 cd0 ct0), sl0⟩) (c0 : PySem.W.codeIn K cd0 "run_length" = true) (k0 : PySem.W.keepIn K (.ref f0) = true)
    (a1 : PySem.W.nsIn K mainGlobals "token_length" = some (some (.ref f1))) (l1 : K.lookup f1 = some ⟨oc1, od1, .func (PySem.W.fnOf "token_length" "token_length" (defArgs st_token_length) (defBody st_token_length) (defScope st_token_length) .none kV1 dc1 pm1 an1 cd1 ct1), sl1⟩) (c1 : PySem.W.codeIn K cd1 "token_length" = true) (k1 : PySem.W.keepIn K (.ref f1) = true)
    (a2 : PySem.W.nsIn K mainGlobals "token_sort" = some (some (.ref f2))) (l2 : K.lookup f2 = some ⟨oc2, od2, .func (PySem.W.fnOf "token_sort" "token_sort" (defArgs st_token_sort) (defBody st_token_sort) (defScope st_token_sort) .none kV2 dc2 pm2 an2 cd2 ct2), sl2⟩) (c2 : PySem.W.codeIn K cd2 "token_sort" = true) (k2 : PySem.W.keepIn K (.ref f2) = true)
    (a3 : PySem.W.nsIn K mainGlobals "tokens" = some (some (.ref f3))) (l3 : K.lookup f3 = some ⟨oc3, od3, .func (PySem.W.fnOf "tokens" "tokens" (defArgs st_tokens) (defBody st_tokens) (defScope st_tokens) .none kV3 dc3 pm3 an3 cd3 ct3), sl3⟩) (c3 : PySem.W.codeIn K cd3 "tokens" = true) (k3 : PySem.W.keepIn K (.ref f3) = true)
    (a4 : PySem.W.nsIn K mainGlobals "_law_whole" = some (some (.ref f4))) (l4 : K.lookup f4 = some ⟨oc4, od4, .func (PySem.W.fnOf "_law_whole" "_law_whole" (defArgs st__law_whole) (defBody st__law_whole) (defScope st__law_whole) .none kV4 dc4 pm4 an4 cd4 ct4), sl4⟩) (c4 : PySem.W.codeIn K cd4 "_law_whole" = true) (k4 : PySem.W.keepIn K (.ref f4) = true)
    (a5 : PySem.W.nsIn K mainGlobals "_law_cell" = some (some (.ref f5))) (l5 : K.lookup f5 = some ⟨oc5, od5, .func (PySem.W.fnOf "_law_cell" "_law_cell" (defArgs st__law_cell) (defBody st__law_cell) (defScope st__law_cell) .none kV5 dc5 pm5 an5 cd5 ct5), sl5⟩) (c5 : PySem.W.codeIn K cd5 "_law_cell" = true) (k5 : PySem.W.keepIn K (.ref f5) = true)
    (a6 : PySem.W.nsIn K mainGlobals "_law_digits" = some (some (.ref f6))) (l6 : K.lookup f6 = some ⟨oc6, od6, .func (PySem.W.fnOf "_law_digits" "_law_digits" (defArgs st__law_digits) (defBody st__law_digits) (defScope st__law_digits) .none kV6 dc6 pm6 an6 cd6 ct6), sl6⟩) (c6 : PySem.W.codeIn K cd6 "_law_digits" = true) (k6 : PySem.W.keepIn K (.ref f6) = true)
    (a7 : PySem.W.nsIn K mainGlobals "_law_alphabet" = some (some (.ref f7))) (l7 : K.lookup f7 = some ⟨oc7, od7, .func (PySem.W.fnOf "_law_alphabet" "_law_alphabet" (defArgs st__law_alphabet) (defBody st__law_alphabet) (defScope st__law_alphabet) .none kV7 dc7 pm7 an7 cd7 ct7), sl7⟩) (c7 : PySem.W.codeIn K cd7 "_law_alphabet" = true) (k7 : PySem.W.keepIn K (.ref f7) = true)
    (a8 : PySem.W.nsIn K mainGlobals "_law_small" = some (some (.ref f8))) (l8 : K.lookup f8 = some ⟨oc8, od8, .func (PySem.W.fnOf "_law_small" "_law_small" (defArgs st__law_small) (defBody st__law_small) (defScope st__law_small) .none kV8 dc8 pm8 an8 cd8 ct8), sl8⟩) (c8 : PySem.W.codeIn K cd8 "_law_small" = true) (k8 : PySem.W.keepIn K (.ref f8) = true)
    (a9 : PySem.W.nsIn K mainGlobals "_law_word" = some (some (.ref f9))) (l9 : K.lookup f9 = some ⟨oc9, od9, .func (PySem.W.fnOf "_law_word" "_law_word" (defArgs st__law_word) (defBody st__law_word) (defScope st__law_word) .none kV9 dc9 pm9 an9 cd9 ct9), sl9⟩) (c9 : PySem.W.codeIn K cd9 "_law_word" = true) (k9 : PySem.W.keepIn K (.ref f9) = true)
    (a10 : PySem.W.nsIn K mainGlobals "_law_figures" = some (some (.ref f10))) (l10 : K.lookup f10 = some ⟨oc10, od10, .func (PySem.W.fnOf "_law_figures" "_law_figures" (defArgs st__law_figures) (defBody st__law_figures) (defScope st__law_figures) .none kV10 dc10 pm10 an10 cd10 ct10), sl10⟩) (c10 : PySem.W.codeIn K cd10 "_law_figures" = true) (k10 : PySem.W.keepIn K (.ref f10) = true)
    (a11 : PySem.W.nsIn K mainGlobals "_law_piece" = some (some (.ref f11))) (l11 : K.lookup f11 = some ⟨oc11, od11, .func (PySem.W.fnOf "_law_piece" "_law_piece" (defArgs st__law_piece) (defBody st__law_piece) (defScope st__law_piece) .none kV11 dc11 pm11 an11 cd11 ct11), sl11⟩) (c11 : PySem.W.codeIn K cd11 "_law_piece" = true) (k11 : PySem.W.keepIn K (.ref f11) = true)
    (a12 : PySem.W.nsIn K mainGlobals "_law_due" = some (some (.ref f12))) (l12 : K.lookup f12 = some ⟨oc12, od12, .func (PySem.W.fnOf "_law_due" "_law_due" (defArgs st__law_due) (defBody st__law_due) (defScope st__law_due) .none kV12 dc12 pm12 an12 cd12 ct12), sl12⟩) (c12 : PySem.W.codeIn K cd12 "_law_due" = true) (k12 : PySem.W.keepIn K (.ref f12) = true)
    (a13 : PySem.W.nsIn K mainGlobals "_law_sort" = some (some (.ref f13))) (l13 : K.lookup f13 = some ⟨oc13, od13, .func (PySem.W.fnOf "_law_sort" "_law_sort" (defArgs st__law_sort) (defBody st__law_sort) (defScope st__law_sort) .none kV13 dc13 pm13 an13 cd13 ct13), sl13⟩) (c13 : PySem.W.codeIn K cd13 "_law_sort" = true) (k13 : PySem.W.keepIn K (.ref f13) = true)
    (a14 : PySem.W.nsIn K mainGlobals "_law_right" = some (some (.ref f14))) (l14 : K.lookup f14 = some ⟨oc14, od14, .func (PySem.W.fnOf "_law_right" "_law_right" (defArgs st__law_right) (defBody st__law_right) (defScope st__law_right) .none kV14 dc14 pm14 an14 cd14 ct14), sl14⟩) (c14 : PySem.W.codeIn K cd14 "_law_right" = true) (k14 : PySem.W.keepIn K (.ref f14) = true)
    (a15 : PySem.W.nsIn K mainGlobals "law" = some (some (.ref f15))) (l15 : K.lookup f15 = some ⟨oc15, od15, .func (PySem.W.fnOf "law" "law" (defArgs st_law) (defBody st_law) (defScope st_law) .none kV15 dc15 pm15 an15 cd15 ct15), sl15⟩) (c15 : PySem.W.codeIn K cd15 "law" = true) (k15 : PySem.W.keepIn K (.ref f15) = true)
    (y_bool : PySem.W.nsIn K mainGlobals "bool" = some none)    (y_int : PySem.W.nsIn K mainGlobals "int" = some none)    (y_isinstance : PySem.W.nsIn K mainGlobals "isinstance" = some none)    (y_len : PySem.W.nsIn K mainGlobals "len" = some none)    (y_range : PySem.W.nsIn K mainGlobals "range" = some none)    (y_str : PySem.W.nsIn K mainGlobals "str" = some none)    (y_tuple : PySem.W.nsIn K mainGlobals "tuple" = some none)
    {tk_FIGURES : Tok} (u_FIGURES : PySem.W.nsIn K mainGlobals "FIGURES" = some (some (.str "0123456789" tk_FIGURES)))
    {tk_LONGEST_NUMERAL : Tok} (u_LONGEST_NUMERAL : PySem.W.nsIn K mainGlobals "LONGEST_NUMERAL" = some (some (.int 40 tk_LONGEST_NUMERAL)))
    {tk_LONGEST_WORD : Tok} (u_LONGEST_WORD : PySem.W.nsIn K mainGlobals "LONGEST_WORD" = some (some (.int 20 tk_LONGEST_WORD)))
    {at_SIGNS : Addr} {od_SIGNS : Option Addr} {sl_SIGNS : Array (Option Value)} {n_SIGNS : Nat} {tk_SIGNS_0 tk_SIGNS_1 tk_SIGNS_2 tk_SIGNS_3 tk_SIGNS_4 tk_SIGNS_5 tk_SIGNS_6 tk_SIGNS_7 tk_SIGNS_8 tk_SIGNS_9 tk_SIGNS_10 tk_SIGNS_11 : Tok} (u_SIGNS : PySem.W.nsIn K mainGlobals "SIGNS" = some (some (.ref at_SIGNS))) (v_SIGNS : K.lookup at_SIGNS = some ⟨.type "tuple", od_SIGNS, .seq ([.str "->" tk_SIGNS_0, .str "(" tk_SIGNS_1, .str ")" tk_SIGNS_2, .str "," tk_SIGNS_3, .str ":" tk_SIGNS_4, .str "+" tk_SIGNS_5, .str "-" tk_SIGNS_6, .str "*" tk_SIGNS_7, .str "^" tk_SIGNS_8, .str ">" tk_SIGNS_9, .str "/" tk_SIGNS_10, .str "?" tk_SIGNS_11] : List Value).toArray n_SIGNS, sl_SIGNS⟩)
    {tk_SMALL : Tok} (u_SMALL : PySem.W.nsIn K mainGlobals "SMALL" = some (some (.str "abcdefghijklmnopqrstuvwxyz" tk_SMALL)))
    (hNL : NoLists K) :
    ∃ fd : FuncData, (∀ (s : Shared) (v : Value), BindsTo s fd ⟨[v], []⟩ [("script", v)]) ∧ ∀ base : Heap, K.In base → base.Ns mainGlobals mg → FnOk l.prog w K mg base (L2.CX l.prog w) 5 fa fd ["script"] (LFa K w_law) := by
  have e := hfa.symm.trans (PySem.W.mg_of X G a15)
  cases e
  have F0 := fun_mk (st := st_run_length) l0 c0 k0
  have D0 : DefAt K mg "run_length" st_run_length ["text", "at", "end", "chars"] := ⟨_, _, F0, PySem.W.mg_of X G a0, F0.binds fun _ _ _ _ _ _ us hl => match us, hl with | [_, _, _, _], _ => rfl⟩
  have F1 := fun_mk (st := st_token_length) l1 c1 k1
  have D1 : DefAt K mg "token_length" st_token_length ["text", "at", "end"] := ⟨_, _, F1, PySem.W.mg_of X G a1, F1.binds fun _ _ _ _ _ _ us hl => match us, hl with | [_, _, _], _ => rfl⟩
  have F2 := fun_mk (st := st_token_sort) l2 c2 k2
  have D2 : DefAt K mg "token_sort" st_token_sort ["token"] := ⟨_, _, F2, PySem.W.mg_of X G a2, F2.binds fun _ _ _ _ _ _ us hl => match us, hl with | [_], _ => rfl⟩
  have F3 := fun_mk (st := st_tokens) l3 c3 k3
  have D3 : DefAt K mg "tokens" st_tokens ["text", "start", "end"] := ⟨_, _, F3, PySem.W.mg_of X G a3, F3.binds fun _ _ _ _ _ _ us hl => match us, hl with | [_, _, _], _ => rfl⟩
  have F4 := fun_mk (st := st__law_whole) l4 c4 k4
  have D4 : DefAt K mg "_law_whole" st__law_whole ["value"] := ⟨_, _, F4, PySem.W.mg_of X G a4, F4.binds fun _ _ _ _ _ _ us hl => match us, hl with | [_], _ => rfl⟩
  have F5 := fun_mk (st := st__law_cell) l5 c5 k5
  have D5 : DefAt K mg "_law_cell" st__law_cell ["script", "k"] := ⟨_, _, F5, PySem.W.mg_of X G a5, F5.binds fun _ _ _ _ _ _ us hl => match us, hl with | [_, _], _ => rfl⟩
  have F6 := fun_mk (st := st__law_digits) l6 c6 k6
  have D6 : DefAt K mg "_law_digits" st__law_digits ["cell", "sizes"] := ⟨_, _, F6, PySem.W.mg_of X G a6, F6.binds fun _ _ _ _ _ _ us hl => match us, hl with | [_, _], _ => rfl⟩
  have F7 := fun_mk (st := st__law_alphabet) l7 c7 k7
  have D7 : DefAt K mg "_law_alphabet" st__law_alphabet [] := ⟨_, _, F7, PySem.W.mg_of X G a7, F7.binds fun _ _ _ _ _ _ us hl => match us, hl with | [], _ => rfl⟩
  have F8 := fun_mk (st := st__law_small) l8 c8 k8
  have D8 : DefAt K mg "_law_small" st__law_small [] := ⟨_, _, F8, PySem.W.mg_of X G a8, F8.binds fun _ _ _ _ _ _ us hl => match us, hl with | [], _ => rfl⟩
  have F9 := fun_mk (st := st__law_word) l9 c9 k9
  have D9 : DefAt K mg "_law_word" st__law_word ["row", "size"] := ⟨_, _, F9, PySem.W.mg_of X G a9, F9.binds fun _ _ _ _ _ _ us hl => match us, hl with | [_, _], _ => rfl⟩
  have F10 := fun_mk (st := st__law_figures) l10 c10 k10
  have D10 : DefAt K mg "_law_figures" st__law_figures ["row", "size"] := ⟨_, _, F10, PySem.W.mg_of X G a10, F10.binds fun _ _ _ _ _ _ us hl => match us, hl with | [_, _], _ => rfl⟩
  have F11 := fun_mk (st := st__law_piece) l11 c11 k11
  have D11 : DefAt K mg "_law_piece" st__law_piece ["cell"] := ⟨_, _, F11, PySem.W.mg_of X G a11, F11.binds fun _ _ _ _ _ _ us hl => match us, hl with | [_], _ => rfl⟩
  have F12 := fun_mk (st := st__law_due) l12 c12 k12
  have D12 : DefAt K mg "_law_due" st__law_due ["text", "start", "end"] := ⟨_, _, F12, PySem.W.mg_of X G a12, F12.binds fun _ _ _ _ _ _ us hl => match us, hl with | [_, _, _], _ => rfl⟩
  have F13 := fun_mk (st := st__law_sort) l13 c13 k13
  have D13 : DefAt K mg "_law_sort" st__law_sort ["word"] := ⟨_, _, F13, PySem.W.mg_of X G a13, F13.binds fun _ _ _ _ _ _ us hl => match us, hl with | [_], _ => rfl⟩
  have F14 := fun_mk (st := st__law_right) l14 c14 k14
  have D14 : DefAt K mg "_law_right" st__law_right ["text", "start", "end"] := ⟨_, _, F14, PySem.W.mg_of X G a14, F14.binds fun _ _ _ _ _ _ us hl => match us, hl with | [_, _, _], _ => rfl⟩
  have F15 := fun_mk (st := st_law) l15 c15 k15
  have D15 : DefAt K mg "law" st_law ["script"] := ⟨_, _, F15, PySem.W.mg_of X G a15, F15.binds fun _ _ _ _ _ _ us hl => match us, hl with | [_], _ => rfl⟩
  have z_bool := PySem.W.mg_none_of X G y_bool
  have z_int := PySem.W.mg_none_of X G y_int
  have z_isinstance := PySem.W.mg_none_of X G y_isinstance
  have z_len := PySem.W.mg_none_of X G y_len
  have z_range := PySem.W.mg_none_of X G y_range
  have z_str := PySem.W.mg_none_of X G y_str
  have z_tuple := PySem.W.mg_none_of X G y_tuple
  have g_FIGURES : GlobD ⟨K, mg⟩ "FIGURES" gv_FIGURES := ⟨.str "0123456789", _, PySem.W.mg_of X G u_FIGURES, ⟨_, rfl⟩, fun _ _ => FD.str' (by decide +kernel)⟩
  have g_LONGEST_NUMERAL : GlobD ⟨K, mg⟩ "LONGEST_NUMERAL" gv_LONGEST_NUMERAL := ⟨.int 40, _, PySem.W.mg_of X G u_LONGEST_NUMERAL, ⟨_, rfl⟩, fun _ _ => .int _⟩
  have g_LONGEST_WORD : GlobD ⟨K, mg⟩ "LONGEST_WORD" gv_LONGEST_WORD := ⟨.int 20, _, PySem.W.mg_of X G u_LONGEST_WORD, ⟨_, rfl⟩, fun _ _ => .int _⟩
  have g_SIGNS : GlobD ⟨K, mg⟩ "SIGNS" gv_SIGNS := ⟨.ref at_SIGNS, _, PySem.W.mg_of X G u_SIGNS, rfl, fun _ _ => .tup (xs := [.str "->", .str "(", .str ")", .str ",", .str ":", .str "+", .str "-", .str "*", .str "^", .str ">", .str "/", .str "?"]) (.inr ⟨_, _, _, v_SIGNS, rfl, rfl, (by show 12 ≤ sizeLine; decide), (.cons ⟨_, rfl⟩ (.cons ⟨_, rfl⟩ (.cons ⟨_, rfl⟩ (.cons ⟨_, rfl⟩ (.cons ⟨_, rfl⟩ (.cons ⟨_, rfl⟩ (.cons ⟨_, rfl⟩ (.cons ⟨_, rfl⟩ (.cons ⟨_, rfl⟩ (.cons ⟨_, rfl⟩ (.cons ⟨_, rfl⟩ (.cons ⟨_, rfl⟩ .nil))))))))))))⟩) (.cons (FD.str' (by decide +kernel)) (.cons (FD.str' (by decide +kernel)) (.cons (FD.str' (by decide +kernel)) (.cons (FD.str' (by decide +kernel)) (.cons (FD.str' (by decide +kernel)) (.cons (FD.str' (by decide +kernel)) (.cons (FD.str' (by decide +kernel)) (.cons (FD.str' (by decide +kernel)) (.cons (FD.str' (by decide +kernel)) (.cons (FD.str' (by decide +kernel)) (.cons (FD.str' (by decide +kernel)) (.cons (FD.str' (by decide +kernel)) .nil))))))))))))⟩
  have g_SMALL : GlobD ⟨K, mg⟩ "SMALL" gv_SMALL := ⟨.str "abcdefghijklmnopqrstuvwxyz", _, PySem.W.mg_of X G u_SMALL, ⟨_, rfl⟩, fun _ _ => FD.str' (by decide +kernel)⟩
  refine ⟨PySem.W.fnOf "law" "law" (defArgs st_law) (defBody st_law) (defScope st_law) .none kV15 dc15 pm15 an15 cd15 ct15, fun s v => .of_eq rfl, fun base _ _ => ?_⟩
  have c_run_length := ok_run_length (P := l.prog) (w := w) (base := base) D0
  have c_token_sort := ok_token_sort (P := l.prog) (w := w) (base := base) D2 z_len g_SMALL g_LONGEST_WORD g_FIGURES g_LONGEST_NUMERAL g_SIGNS
  have c__law_whole := ok__law_whole (P := l.prog) (w := w) (base := base) D4 z_bool z_isinstance z_int
  have c__law_cell := ok__law_cell (P := l.prog) (w := w) (base := base) D5 z_len z_int
  have c__law_digits := ok__law_digits (P := l.prog) (w := w) (base := base) D6 z_int z_len z_range
  have c__law_alphabet := ok__law_alphabet (P := l.prog) (w := w) (base := base) D7
  have c__law_small := ok__law_small (P := l.prog) (w := w) (base := base) D8
  have c__law_figures := ok__law_figures (P := l.prog) (w := w) (base := base) D10 z_range z_int
  have c_token_length := ok_token_length (P := l.prog) (w := w) (base := base) D1 c_run_length g_SMALL g_FIGURES
  have c__law_word := ok__law_word (P := l.prog) (w := w) (base := base) D9 c__law_small z_int z_range
  have c__law_sort := ok__law_sort (P := l.prog) (w := w) (base := base) D13 c__law_small z_len z_int
  have c_tokens := ok_tokens (P := l.prog) (w := w) (base := base) D3 c_token_length c_token_sort z_tuple
  have c__law_piece := ok__law_piece (P := l.prog) (w := w) (base := base) D11 c__law_digits c__law_alphabet c__law_word c__law_figures z_str hNL
  have c__law_due := ok__law_due (P := l.prog) (w := w) (base := base) D12 c__law_small c__law_sort z_range z_len
  have c__law_right := ok__law_right (P := l.prog) (w := w) (base := base) D14 c__law_due c_tokens c__law_whole z_len z_tuple z_isinstance z_range z_str
  exact (ok_law F15 c__law_cell c__law_digits c__law_piece c__law_right z_int z_range z_len).imp fun _ _ _ _ h => h mg

end K65
open PySem PySem.W PyProof.Rows
set_option maxHeartbeats 0 in
theorem PySem.Challenge.cw_plainbehind_k65_tokens_holds : PySem.Challenge.rw_plainbehind_k65_tokens.Holds := by
  w_on; o_law; k_head; (case hw => w_witness2)
  k_fill
  refine L2.Fn.row_of (l := PySem.Challenge.rw_plainbehind_k65_tokens) (n := 63) (k := 5) (x := "script") (sp := fun K => L2.Fn.LFa K K65.w_law) rfl (by decide) rfl ⟨rfl, by decide, by decide⟩ (fun w h Y => PySem.W.kIn_of Y) ?F ?S
  case F =>
    intro w mg fa h KX G hmg
    refine' K65.all_mk KX G hmg ?a0 ?l0 ?c0 ?k0 ?a1 ?l1 ?c1 ?k1 ?a2 ?l2 ?c2 ?k2 ?a3 ?l3 ?c3 ?k3 ?a4 ?l4 ?c4 ?k4 ?a5 ?l5 ?c5 ?k5 ?a6 ?l6 ?c6 ?k6 ?a7 ?l7 ?c7 ?k7 ?a8 ?l8 ?c8 ?k8 ?a9 ?l9 ?c9 ?k9 ?a10 ?l10 ?c10 ?k10 ?a11 ?l11 ?c11 ?k11 ?a12 ?l12 ?c12 ?k12 ?a13 ?l13 ?c13 ?k13 ?a14 ?l14 ?c14 ?k14 ?a15 ?l15 ?c15 ?k15 ?y_bool ?y_int ?y_isinstance ?y_len ?y_range ?y_str ?y_tuple ?u_FIGURES ?u_LONGEST_NUMERAL ?u_LONGEST_WORD ?u_SIGNS ?v_SIGNS ?u_SMALL ?hNL
    (case a0 => k_is); (case l0 => k_is); (case c0 => k_is); (case k0 => k_is); (case a1 => k_is); (case l1 => k_is); (case c1 => k_is); (case k1 => k_is); (case a2 => k_is); (case l2 => k_is); (case c2 => k_is); (case k2 => k_is); (case a3 => k_is); (case l3 => k_is); (case c3 => k_is); (case k3 => k_is); (case a4 => k_is); (case l4 => k_is); (case c4 => k_is); (case k4 => k_is); (case a5 => k_is); (case l5 => k_is); (case c5 => k_is); (case k5 => k_is); (case a6 => k_is); (case l6 => k_is); (case c6 => k_is); (case k6 => k_is); (case a7 => k_is); (case l7 => k_is); (case c7 => k_is); (case k7 => k_is); (case a8 => k_is); (case l8 => k_is); (case c8 => k_is); (case k8 => k_is); (case a9 => k_is); (case l9 => k_is); (case c9 => k_is); (case k9 => k_is); (case a10 => k_is); (case l10 => k_is); (case c10 => k_is); (case k10 => k_is); (case a11 => k_is); (case l11 => k_is); (case c11 => k_is); (case k11 => k_is); (case a12 => k_is); (case l12 => k_is); (case c12 => k_is); (case k12 => k_is); (case a13 => k_is); (case l13 => k_is); (case c13 => k_is); (case k13 => k_is); (case a14 => k_is); (case l14 => k_is); (case c14 => k_is); (case k14 => k_is); (case a15 => k_is); (case l15 => k_is); (case c15 => k_is); (case k15 => k_is); (case y_bool => k_is); (case y_int => k_is); (case y_isinstance => k_is); (case y_len => k_is); (case y_range => k_is); (case y_str => k_is); (case y_tuple => k_is); (case u_FIGURES => k_is); (case u_LONGEST_NUMERAL => k_is); (case u_LONGEST_WORD => k_is); (case u_SIGNS => k_is); (case v_SIGNS => k_is); (case u_SMALL => k_is); (case hNL => exact L2.Fn.NoLists.of (by rfl))
  case S => exact fun K H a ns hl hO hS mg => L2.Fn.law_S (fun ns hn => K65.law_ok ns [] hn) H a ns hl hO hS
