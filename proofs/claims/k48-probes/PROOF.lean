import PyProof.Rows.All
import HandS.ForMost
import HandS.ForExc
import HandS.IsInst
import HandS.Wide
import HandS.StrMore
import HandS.Dict
import HandS.TupAny
import HandS.TupMul
import HandS.SortRule
import KE.KSortTupAny
import HandS.Zip
import KE.GoesEnum
import HandS.ExcInit
import HandS.ExcField
import HandS.TryMany
import HandS.ExcIs
import KE.KExcIs
import HandS.Deep
import PySem.Challenge.RW_plainbehind_k48_probes_whole
set_option Elab.async false
set_option linter.all false
set_option maxRecDepth 100000
set_option exponentiation.threshold 4000
/-! Fn, part A: pure data, what represents it, and how it lasts. -/
namespace L2.Fn
open PySem PySem.Spec PyProof.Rows

/-- a dict's key: [k] of an int or a text, else the items of a tuple -/
abbrev PK := List (Int ⊕ List Nat)
/-- pure data (never changed) -/
inductive D where
  | non | bl (b : Bool) | int (i : Int) | str (s : List Nat) | tup (l : List D) | ktup (l : List D) | lst (l : List D) | dct (b : Bool) (ks : List PK) (vs : List D) | obj (n : Nat) | fn (x : Str) | exn (a dd : Addr) (x f : Str) (d : D)
/-- what a name may hold: pure data, or a list of one's own that may still be changed -/
inductive M where
  | dat (d : D) | lst (l : List M) | dct (b : Bool) (kvs : List (PK × D))

/-- what the text's top says: the written part, the module's names -/
structure Top where
  K : PySem.W.Frag
  mg : Str → Option Value

abbrev Ob := List (Addr × Addr)
abbrev Ob.ads (φ : Ob) : List Addr := φ.map (·.1)

def FzL (T : Top) (H : Hp) (a : Addr) (xs : List V) : Prop := (∃ o, H a = some (.frz o (.lst xs))) ∨
  ∃ (o : Obj) (its : Array Value) (n : Nat), T.K.lookup a = some o ∧ o.cls = .type "list" ∧ o.dict = none ∧ o.data = .seq its n ∧ its.size ≤ sizeLine ∧ Vals xs its.toList
theorem FzL.seq {T : Top} {H : Hp} {a : Addr} {xs : List V} (h : FzL T H a xs) : SqL T.K H a xs := by
  rcases h with ⟨o, h⟩ | h
  · exact .inl (.inr ⟨o, h⟩)
  · exact .inr h
def pkK : Key → Int ⊕ List Nat
  | .inl i => .inl i
  | .inr x => .inr x.cps.toList
/-- a dict's keys and values -/
inductive DKV : HO → Bool → List PK → List V → Prop where
  | k (kvs : List (Key × V)) : DKV (.dK kvs) false (kvs.map fun p => [pkK p.1]) (kvs.map (·.2))
  | t (kvs : List (List Key × V)) : DKV (.dT kvs) true (kvs.map fun p => p.1.map pkK) (kvs.map (·.2))
/-- what may stand at an own place -/
def OwnO : HO → Prop
  | .lst _ | .dK _ | .dT _ => True
  | _ => False
theorem DKV.own {h : HO} {b : Bool} {ks : List PK} {xs : List V} (d : DKV h b ks xs) : OwnO h := by cases d <;> trivial
def KTup (T : Top) (a : Addr) (xs : List V) : Prop := ∃ (o : Obj) (its : Array Value) (n : Nat), T.K.lookup a = some o ∧ o.cls = .type "tuple" ∧ o.data = .seq its n ∧ its.size ≤ sizeLine ∧ Vals xs its.toList
mutual
inductive FD (T : Top) (φ : Ob) (H : Hp) : V → D → Prop where
  | non : FD T φ H .non .non
  | bl (b : Bool) : FD T φ H (.bl b) (.bl b)
  | int (i : Int) : FD T φ H (.int i) (.int i)
  | str (s : List Nat) : FD T φ H (.str ⟨s.toArray⟩) (.str s)
  | tup {a : Addr} {xs : List V} {ds : List D} : H a = some (.tup xs) → FDs T φ H xs ds → FD T φ H (.ref a) (.tup ds)
  | ktup {a : Addr} {xs : List V} {ds : List D} : KTup T a xs → FDs T φ H xs ds → FD T φ H (.ref a) (.ktup ds)
  | dct {a : Addr} {o : Obj} {h : HO} {b : Bool} {ks : List PK} {xs : List V} {vs : List D} : H a = some (.frz o h) → DKV h b ks xs → FDs T φ H xs vs → FD T φ H (.ref a) (.dct b ks vs)
  | lst {a : Addr} {xs : List V} {ds : List D} : FzL T H a xs → FDs T φ H xs ds → FD T φ H (.ref a) (.lst ds)
  | obj {a dx : Addr} {n : Nat} : φ[n]? = some (a, dx) → FD T φ H (.ref a) (.obj n)
  | fn {x : Str} {f : Addr} : T.mg x = some (.ref f) → FD T φ H (.ref f) (.fn x)
  | exn {a dd C : Addr} {x f : Str} {v : V} {d : D} : T.mg x = some (.ref C) → H dd = some (.xd [(f, v)]) → FD T φ H v d → FD T φ H (.ref a) (.exn a dd x f d)
inductive FDs (T : Top) (φ : Ob) (H : Hp) : List V → List D → Prop where
  | nil : FDs T φ H [] []
  | cons {v : V} {vs : List V} {d : D} {ds : List D} : FD T φ H v d → FDs T φ H vs ds → FDs T φ H (v :: vs) (d :: ds)
end
mutual
inductive Rep (T : Top) (φ : Ob) (H : Hp) : V → M → List Addr → Prop where
  | dat {v : V} {d : D} : FD T φ H v d → Rep T φ H v (.dat d) []
  | lst {a : Addr} {vs : List V} {ms : List M} {f : List Addr} : H a = some (.lst vs) → Reps T φ H vs ms f → Rep T φ H (.ref a) (.lst ms) (a :: f)
  | dct {a : Addr} {h : HO} {b : Bool} {kvs : List (PK × D)} {xs : List V} : H a = some h → DKV h b (kvs.map (·.1)) xs → FDs T φ H xs (kvs.map (·.2)) → Rep T φ H (.ref a) (.dct b kvs) [a]
inductive Reps (T : Top) (φ : Ob) (H : Hp) : List V → List M → List Addr → Prop where
  | nil : Reps T φ H [] [] []
  | cons {v : V} {vs : List V} {m : M} {ms : List M} {f g : List Addr} : Rep T φ H v m f → Reps T φ H vs ms g → Reps T φ H (v :: vs) (m :: ms) (f ++ g)
end

/-- the frame's slots -/
abbrev Ev := List (Option M)
inductive RepE (T : Top) (φ : Ob) (H : Hp) : St → Ev → List Addr → Prop where
  | nil : RepE T φ H [] [] []
  | skip {x : Option V} {σ : St} {ρ : Ev} {f : List Addr} : RepE T φ H σ ρ f → RepE T φ H (x :: σ) (none :: ρ) f
  | cons {v : V} {m : M} {σ : St} {ρ : Ev} {f g : List Addr} : Rep T φ H v m f → RepE T φ H σ ρ g → RepE T φ H (some v :: σ) (some m :: ρ) (f ++ g)
/-- instances: the class's name, the attributes -/
structure Ins where
  cls : Str
  fs : List (Str × M)
abbrev Sto := List Ins
inductive RepS (T : Top) (H : Hp) (Φ : Ob) : Ob → Sto → List Addr → Prop where
  | nil : RepS T H Φ [] [] []
  | cons {a dx C : Addr} {φ : Ob} {i : Ins} {S : Sto} {vs : List V} {f g : List Addr} : T.mg i.cls = some (.ref C) → H a = some (.ins C dx ((i.fs.map (·.1)).zip vs)) → vs.length = i.fs.length →
      Reps T Φ H vs (i.fs.map (·.2)) f → RepS T H Φ φ S g → RepS T H Φ ((a, dx) :: φ) (i :: S) (f ++ g)

/-! ### how it lasts -/
/-- pure things are kept -/
structure Ext (H H' : Hp) : Prop where
  tup : ∀ a xs, H a = some (.tup xs) → H' a = some (.tup xs)
  frz : ∀ a o u, H a = some (.frz o u) → H' a = some (.frz o u)
  xd : ∀ a fs, H a = some (.xd fs) → H' a = some (.xd fs)
theorem Ext.refl (H : Hp) : Ext H H := ⟨fun _ _ h => h, fun _ _ _ h => h, fun _ _ h => h⟩
theorem Ext.trans {H H1 H2 : Hp} (a : Ext H H1) (b : Ext H1 H2) : Ext H H2 := ⟨fun x y h => b.tup x y (a.tup x y h), fun x y z h => b.frz x y z (a.frz x y z h), fun x y h => b.xd x y (a.xd x y h)⟩
def Pre (φ φ' : Ob) : Prop := ∀ (n : Nat) (p : Addr × Addr), φ[n]? = some p → φ'[n]? = some p
theorem Pre.refl (φ : Ob) : Pre φ φ := fun _ _ h => h
theorem Pre.trans {a b c : Ob} (x : Pre a b) (y : Pre b c) : Pre a c := fun n p h => y n p (x n p h)
section
variable {T : Top} {φ φ' : Ob} {H H' : Hp}
theorem Ext.seqT {a : Addr} {xs : List V} (e : Ext H H') (h : SqT T.K H a xs) : SqT T.K H' a xs := by
  rcases h with (h | ⟨o, h⟩) | h
  · exact .inl (.inl (e.tup _ _ h))
  · exact .inl (.inr ⟨o, e.frz _ _ _ h⟩)
  · exact .inr h
theorem Ext.fzl {a : Addr} {xs : List V} (e : Ext H H') (h : FzL T H a xs) : FzL T H' a xs := by
  rcases h with ⟨o, h⟩ | h
  · exact .inl ⟨o, e.frz _ _ _ h⟩
  · exact .inr h
mutual
theorem FD.ext (e : Ext H H') (p : Pre φ φ') : ∀ {v : V} {d : D}, FD T φ H v d → FD T φ' H' v d
  | _, _, .non => .non
  | _, _, .bl b => .bl b
  | _, _, .int i => .int i
  | _, _, .str s => .str s
  | _, _, .tup h r => .tup (e.tup _ _ h) (FDs.ext e p r)
  | _, _, .ktup h r => .ktup h (FDs.ext e p r)
  | _, _, .dct h d r => .dct (e.frz _ _ _ h) d (FDs.ext e p r)
  | _, _, .lst h r => .lst (e.fzl h) (FDs.ext e p r)
  | _, _, .obj h => .obj (p _ _ h)
  | _, _, .fn h => .fn h
  | _, _, .exn h1 h2 r => .exn h1 (e.xd _ _ h2) (FD.ext e p r)
theorem FDs.ext (e : Ext H H') (p : Pre φ φ') : ∀ {v : List V} {d : List D}, FDs T φ H v d → FDs T φ' H' v d
  | _, _, .nil => .nil
  | _, _, .cons h r => .cons (FD.ext e p h) (FDs.ext e p r)
end
mutual
/-- .. and what stands at the own places -/
theorem Rep.ext (e : Ext H H') (p : Pre φ φ') : ∀ {v : V} {m : M} {f : List Addr}, Rep T φ H v m f → (∀ a o, a ∈ f → H a = some o → H' a = some o) → Rep T φ' H' v m f
  | _, _, _, .dat h, _ => .dat (h.ext e p)
  | _, _, _, .dct h d r, k => .dct (k _ _ List.mem_cons_self h) d (r.ext e p)
  | _, _, _, .lst (a := a) (vs := vs) h r, k => .lst (k a _ List.mem_cons_self h) (Reps.ext e p r fun b xs hb => k b xs (List.mem_cons_of_mem _ hb))
theorem Reps.ext (e : Ext H H') (p : Pre φ φ') : ∀ {v : List V} {m : List M} {f : List Addr}, Reps T φ H v m f → (∀ a o, a ∈ f → H a = some o → H' a = some o) → Reps T φ' H' v m f
  | _, _, _, .nil, _ => .nil
  | _, _, _, .cons h r, k => .cons (Rep.ext e p h fun b xs hb => k b xs (List.mem_append_left _ hb)) (Reps.ext e p r fun b xs hb => k b xs (List.mem_append_right _ hb))
end
theorem RepE.ext (e : Ext H H') (p : Pre φ φ') : ∀ {σ : St} {ρ : Ev} {f : List Addr}, RepE T φ H σ ρ f → (∀ a o, a ∈ f → H a = some o → H' a = some o) → RepE T φ' H' σ ρ f
  | _, _, _, .nil, _ => .nil
  | _, _, _, .skip r, k => .skip (RepE.ext e p r k)
  | _, _, _, .cons h r, k => .cons (Rep.ext e p h fun b xs hb => k b xs (List.mem_append_left _ hb)) (RepE.ext e p r fun b xs hb => k b xs (List.mem_append_right _ hb))
theorem RepS.ext {Φ Φ' : Ob} (e : Ext H H') (p : Pre Φ Φ') : ∀ {φ : Ob} {S : Sto} {f : List Addr}, RepS T H Φ φ S f → (∀ a o, a ∈ f → H a = some o → H' a = some o) →
    (∀ a C dx fs, a ∈ φ.ads → H a = some (.ins C dx fs) → H' a = some (.ins C dx fs)) → RepS T H' Φ' φ S f
  | _, _, _, .nil, _, _ => .nil
  | _, _, _, .cons hC h hl r t, k, q => .cons hC (q _ _ _ _ List.mem_cons_self h) hl (Reps.ext e p r fun b xs hb => k b xs (List.mem_append_left _ hb))
      (RepS.ext e p t (fun b xs hb => k b xs (List.mem_append_right _ hb)) fun a C dx fs ha => q a C dx fs (List.mem_cons_of_mem _ ha))

/-! ### what stands at own places -/
mutual
theorem Rep.own : ∀ {v : V} {m : M} {f : List Addr}, Rep T φ H v m f → ∀ a ∈ f, ∃ o, H a = some o ∧ OwnO o
  | _, _, _, .dat _, _, h => nomatch h
  | _, _, _, .dct e d _, b, h => by
    rw [List.mem_singleton.mp h]
    exact ⟨_, e, d.own⟩
  | _, _, _, .lst e r, b, h => (List.mem_cons.mp h).elim (fun z => ⟨.lst _, z ▸ e, trivial⟩) fun h => Reps.own r b h
theorem Reps.own : ∀ {v : List V} {m : List M} {f : List Addr}, Reps T φ H v m f → ∀ a ∈ f, ∃ o, H a = some o ∧ OwnO o
  | _, _, _, .nil, _, h => nomatch h
  | _, _, _, .cons x r, b, h => (List.mem_append.mp h).elim (fun h => Rep.own x b h) fun h => Reps.own r b h
end
theorem RepE.own : ∀ {σ : St} {ρ : Ev} {f : List Addr}, RepE T φ H σ ρ f → ∀ a ∈ f, ∃ o, H a = some o ∧ OwnO o
  | _, _, _, .nil, _, h => nomatch h
  | _, _, _, .skip r, b, h => RepE.own r b h
  | _, _, _, .cons x r, b, h => (List.mem_append.mp h).elim (fun h => Rep.own x b h) fun h => RepE.own r b h
theorem RepS.own {Φ : Ob} : ∀ {φ : Ob} {S : Sto} {f : List Addr}, RepS T H Φ φ S f → ∀ a ∈ f ++ φ.ads, (∃ o, H a = some o ∧ OwnO o) ∨ ∃ C dx fs, H a = some (.ins C dx fs)
  | _, _, _, .nil, _, h => nomatch h
  | _, _, _, .cons (f := f) (g := g) hC e hl r t, b, h => by
    rcases List.mem_append.mp h with h | h
    · rcases List.mem_append.mp h with h | h
      · exact .inl (r.own b h)
      · exact RepS.own t b (List.mem_append_left _ h)
    · rcases List.mem_cons.mp h with h | h
      · refine .inr ?_
        have z : b = _ := h
        subst z
        exact ⟨_, _, _, e⟩
      · exact RepS.own t b (List.mem_append_right _ h)
end
end L2.Fn
/-! Fn, part B: readings of expressions over pure values. -/
namespace L2.Fn
open PySem PySem.Spec PyProof.Rows

abbrev WP := M → Sto → Prop
structure Exn where
  cls : Str
  fs : List (Str × D)
abbrev XP := Exn → Sto → Prop
/-- an expression's reading: the slots, the instances, what is wanted of a value, of an exception -/
abbrev FE := Ev → Sto → WP → XP → Prop

inductive RepX (T : Top) (φ : Ob) (H : Hp) : Value → Option Addr → Exn → Prop where
  | own0 {x : Str} {C : Addr} : T.mg x = some (.ref C) → RepX T φ H (.ref C) none ⟨x, []⟩
  | own1 {x f : Str} {C dd : Addr} {v : V} {d : D} : T.mg x = some (.ref C) → H dd = some (.xd [(f, v)]) → FD T φ H v d → RepX T φ H (.ref C) (some dd) ⟨x, [(f, d)]⟩

structure Good (T : Top) (φ : Ob) (H : Hp) (σ : St) (ρ : Ev) (S : Sto) (fe fs : List Addr) : Prop where
  env : RepE T φ H σ ρ fe
  sto : RepS T H φ φ S fs
  nd : (fe ++ (fs ++ φ.ads)).Nodup
structure Aft (φ : Ob) (fs : List Addr) (H : Hp) (φ' : Ob) (fs' fm : List Addr) (H' : Hp) : Prop where
  pre : Pre φ φ'
  keep : ∀ a o, a ∉ fs ++ φ.ads → H a = some o → H' a = some o
  new : ∀ a ∈ fm ++ (fs' ++ φ'.ads), a ∈ fs ++ φ.ads ∨ H a = none
  nd : (fm ++ (fs' ++ φ'.ads)).Nodup

section
variable {T : Top} {φ φ1 φ2 : Ob} {H H1 H2 : Hp} {S S1 S2 : Sto} {σ : St} {ρ : Ev} {fe fs fs1 fs2 fm fm1 fm2 : List Addr}
theorem own_no {α : Prop} {a : Addr} {o : HO} (h : (∃ u, H a = some u ∧ OwnO u) ∨ ∃ C dx fs, H a = some (.ins C dx fs)) (k : H a = some o) (n : ¬ OwnO o) (n2 : ∀ C dx fs, o ≠ .ins C dx fs) : α := by
  rcases h with ⟨u, q, w⟩ | ⟨C, dx, fs, q⟩
  · rw [k] at q
    cases q
    exact (n w).elim
  · rw [k] at q
    cases q
    exact (n2 _ _ _ rfl).elim
theorem lst_not {a : Addr} {xs ys : List V} (h : H a = some (.lst xs)) (k : H a = some (.tup ys)) : False := by rw [h] at k; cases k
theorem Aft.ext (A : Aft φ fs H φ1 fs1 fm H1) (R : RepS T H φ φ S fs) : Ext H H1 := by
  refine ⟨fun a xs h => A.keep a _ (fun z => ?_) h, fun a o u h => A.keep a _ (fun z => ?_) h, fun a u h => A.keep a _ (fun z => ?_) h⟩
  · exact own_no (R.own a z) h (fun z => z) (fun _ _ _ z => nomatch z)
  · exact own_no (R.own a z) h (fun z => z) (fun _ _ _ z => nomatch z)
  · exact own_no (R.own a z) h (fun z => z) (fun _ _ _ z => nomatch z)
theorem Aft.refl (nd : (fs ++ φ.ads).Nodup) : Aft φ fs H φ fs [] H := ⟨Pre.refl _, fun _ _ _ h => h, fun _ h => .inl h, nd⟩
/-- things that no step touches stay: they stand beside what the store owns -/
theorem Aft.rep {v : V} {m : M} (A : Aft φ fs H φ1 fs1 fm1 H1) (R : RepS T H φ φ S fs) (r : Rep T φ H v m fm) (d : ∀ a ∈ fm, a ∉ fs ++ φ.ads) : Rep T φ1 H1 v m fm :=
  r.ext (A.ext R) A.pre fun a xs ha h => A.keep a _ (d a ha) h
theorem Aft.reps {v : List V} {m : List M} (A : Aft φ fs H φ1 fs1 fm1 H1) (R : RepS T H φ φ S fs) (r : Reps T φ H v m fm) (d : ∀ a ∈ fm, a ∉ fs ++ φ.ads) : Reps T φ1 H1 v m fm :=
  r.ext (A.ext R) A.pre fun a xs ha h => A.keep a _ (d a ha) h
theorem Aft.fd {v : V} {d : D} (A : Aft φ fs H φ1 fs1 fm1 H1) (R : RepS T H φ φ S fs) (r : FD T φ H v d) : FD T φ1 H1 v d := r.ext (A.ext R) A.pre
theorem Good.disj (G : Good T φ H σ ρ S fe fs) : ∀ a ∈ fe, a ∉ fs ++ φ.ads := fun a h k => (List.nodup_append.mp G.nd).2.2 a h a k rfl
theorem Good.ndS (G : Good T φ H σ ρ S fe fs) : (fs ++ φ.ads).Nodup := (List.nodup_append.mp G.nd).2.1
theorem Aft.disj (A : Aft φ fs H φ1 fs1 fm1 H1) : ∀ a ∈ fm1, a ∉ fs1 ++ φ1.ads := fun a h k => (List.nodup_append.mp A.nd).2.2 a h a k rfl
theorem Aft.ndS (A : Aft φ fs H φ1 fs1 fm1 H1) : (fs1 ++ φ1.ads).Nodup := (List.nodup_append.mp A.nd).2.1
/-- the frame's own things stand apart from what is new -/
theorem Aft.apart (A : Aft φ fs H φ1 fs1 fm1 H1) {f : List Addr} (d : ∀ a ∈ f, a ∉ fs ++ φ.ads) (o : ∀ a ∈ f, H a ≠ none) : ∀ a ∈ f, a ∉ fm1 ++ (fs1 ++ φ1.ads) := fun a h k => by
  rcases A.new a k with z | z
  · exact d a h z
  · exact o a h z
theorem Aft.good (A : Aft φ fs H φ1 fs1 fm1 H1) (G : Good T φ H σ ρ S fe fs) (R1 : RepS T H1 φ1 φ1 S1 fs1) : Good T φ1 H1 σ ρ S1 fe fs1 := by
  refine ⟨G.env.ext (A.ext G.sto) A.pre fun a xs ha h => A.keep a _ (G.disj a ha) h, R1, ?_⟩
  refine List.nodup_append.mpr ⟨(List.nodup_append.mp G.nd).1, A.ndS, fun a h b k e => ?_⟩
  subst e
  refine A.apart G.disj (fun a ha => ?_) a h (List.mem_append_right _ k)
  obtain ⟨xs, q, _⟩ := G.env.own a ha
  rw [q]
  exact fun z => nomatch z
theorem Aft.drop (A : Aft φ fs H φ1 fs1 fm1 H1) : Aft φ fs H φ1 fs1 [] H1 := ⟨A.pre, A.keep, fun a h => A.new a (List.mem_append_right _ h), A.ndS⟩
theorem Aft.trans (A : Aft φ fs H φ1 fs1 fm1 H1) (B : Aft φ1 fs1 H1 φ2 fs2 fm2 H2) : Aft φ fs H φ2 fs2 fm2 H2 := by
  refine ⟨A.pre.trans B.pre, fun a o n h => ?_, fun a h => ?_, B.nd⟩
  · refine B.keep a o (fun z => ?_) (A.keep a o n h)
    rcases A.new a (List.mem_append_right _ z) with q | q
    · exact n q
    · rw [q] at h; cases h
  · rcases B.new a h with z | z
    · exact A.new a (List.mem_append_right _ z)
    · by_cases hm : a ∈ fs ++ φ.ads
      · exact .inl hm
      · refine .inr ?_
        cases q : H a with
        | none => rfl
        | some o => rw [A.keep a o hm q] at z; cases z
/-- a first new thing is kept beside a second one -/
theorem Aft.both (A : Aft φ fs H φ1 fs1 fm1 H1) (B : Aft φ1 fs1 H1 φ2 fs2 fm2 H2) (o : ∀ a ∈ fm1, H1 a ≠ none) : Aft φ fs H φ2 fs2 (fm1 ++ fm2) H2 := by
  have C := A.trans B
  refine ⟨C.pre, C.keep, fun a h => ?_, ?_⟩
  · rw [List.append_assoc] at h
    rcases List.mem_append.mp h with h | h
    · exact A.new a (List.mem_append_left _ h)
    · exact C.new a h
  · rw [List.append_assoc]
    refine List.nodup_append.mpr ⟨(List.nodup_append.mp A.nd).1, B.nd, fun a h b k e => ?_⟩
    subst e
    exact B.apart A.disj o a h k
end
theorem Rep.own' {T : Top} {φ : Ob} {H : Hp} {v : V} {m : M} {f : List Addr} (r : Rep T φ H v m f) : ∀ a ∈ f, H a ≠ none := fun a h z => by
  obtain ⟨xs, q, _⟩ := r.own a h
  rw [q] at z; cases z
theorem Reps.own' {T : Top} {φ : Ob} {H : Hp} {v : List V} {m : List M} {f : List Addr} (r : Reps T φ H v m f) : ∀ a ∈ f, H a ≠ none := fun a h z => by
  obtain ⟨xs, q, _⟩ := r.own a h
  rw [q] at z; cases z

/-- what is wished of an exception -/
def WxE (T : Top) (φ : Ob) (fs : List Addr) (H : Hp) (σ : St) (E : XP) (W : WX) : Prop :=
  ∀ (x : Exn) (S' : Sto) (c : Value) (d : Option Addr) (H' : Hp) (φ' : Ob) (fs' : List Addr), E x S' → Aft φ fs H φ' fs' [] H' → RepX T φ' H' c d x → RepS T H' φ' φ' S' fs' → W c d σ H'
theorem WxE.aft {T : Top} {φ φ1 : Ob} {fs fs1 fm : List Addr} {H H1 : Hp} {σ : St} {E : XP} {W : WX} (h : WxE T φ fs H σ E W) (A : Aft φ fs H φ1 fs1 fm H1) : WxE T φ1 fs1 H1 σ E W :=
  fun x S' c d H' φ' fs' e a => h x S' c d H' φ' fs' e (A.trans a)
/-- a new value of one's own -/
def LE (T : Top) (W : WX) (t : FE) : TE := fun σ H Q => ∃ (ρ : Ev) (S : Sto) (φ : Ob) (fe fs : List Addr) (E : XP) (Qm : WP), Good T φ H σ ρ S fe fs ∧ t ρ S Qm E ∧ WxE T φ fs H σ E W ∧
  ∀ (m : M) (S' : Sto) (v : V) (H' : Hp) (φ' : Ob) (fs' fm : List Addr), Qm m S' → Aft φ fs H φ' fs' fm H' → Rep T φ' H' v m fm → RepS T H' φ' φ' S' fs' → Q v H'
/-- a value that may be the frame's -/
def LB (T : Top) (W : WX) (t : FE) : TE := fun σ H Q => ∃ (ρ : Ev) (S : Sto) (φ : Ob) (fe fs : List Addr) (E : XP) (Qm : WP), Good T φ H σ ρ S fe fs ∧ t ρ S Qm E ∧ WxE T φ fs H σ E W ∧
  ∀ (m : M) (S' : Sto) (v : V) (H' : Hp) (φ' : Ob) (fs' fm : List Addr), Qm m S' → Aft φ fs H φ' fs' [] H' → Rep T φ' H' v m fm → (∀ a ∈ fm, a ∉ fs' ++ φ'.ads) → RepS T H' φ' φ' S' fs' → Q v H'
theorem PE.weak {X : Cx} {e : Expr} {t t' : TE} (h : PE X e t) (k : ∀ σ H Q, t' σ H Q → t σ H Q) : PE X e t' := ⟨fun pins s σ H Q I w => h.run pins s σ H Q I (k _ _ _ w)⟩
theorem PT.weak {X : Cx} {e : Expr} {t t' : TT} (h : PT X e t) (k : ∀ σ H Q, t' σ H Q → t σ H Q) : PT X e t' := ⟨fun pins s σ H Q I w => h.run pins s σ H Q I (k _ _ _ w)⟩

section
variable {X : Cx} {T : Top} {W : WX} {e a b : Expr} {t ta tb : FE} {pos : Pos}
/-- an own value may be looked at -/
theorem fe_lb (h : PE X e (LE T W t)) : PE X e (LB T W t) := PE.weak h fun σ H Q ⟨ρ, S, φ, fe, fs, E, Qm, G, w, hx, k⟩ =>
  ⟨ρ, S, φ, fe, fs, E, Qm, G, w, hx, fun m S' v H' φ' fs' fm q A r R => k m S' v H' φ' fs' fm q A.drop r A.disj R⟩
def fDat (t : FE) : FE := fun ρ S Q E => t ρ S (fun m S' => match m with
  | .dat d => Q (.dat d) S'
  | _ => False) E
/-- what is looked at is pure -/
theorem fe_dat (h : PE X e (LB T W t)) : PE X e (LE T W (fDat t)) := PE.weak h fun σ H Q ⟨ρ, S, φ, fe, fs, E, Qm, G, w, hx, k⟩ => by
  refine ⟨ρ, S, φ, fe, fs, E, _, G, w, hx, fun m S' v H' φ' fs' fm q A r dj R => ?_⟩
  cases m with
  | lst ms => exact False.elim q
  | dct ms => exact False.elim q
  | dat d =>
    cases r with
    | dat r => exact k (.dat d) S' v H' φ' fs' [] q A (.dat r) R
/-- a name -/
def fVar (i : Nat) : FE := fun ρ S Q _ => ∃ m, ρ[i]? = some (some m) ∧ Q m S
theorem RepE.get {φ : Ob} {H : Hp} : ∀ {σ : St} {ρ : Ev} {f : List Addr} {i : Nat} {m : M}, RepE T φ H σ ρ f → ρ[i]? = some (some m) → ∃ v g, σ[i]? = some (some v) ∧ Rep T φ H v m g ∧ ∀ a ∈ g, a ∈ f
  | _, _, _, i, _, .nil, h => by simp at h
  | _, _, _, 0, _, .skip r, h => by simp at h
  | _, _, _, i + 1, _, .skip r, h => by
    obtain ⟨v, g, h1, h2, h3⟩ := RepE.get (i := i) r (by simpa using h)
    exact ⟨v, g, by simpa using h1, h2, h3⟩
  | _, _, _, 0, _, .cons (v := v) (f := f) x r, h => by
    simp at h
    subst h
    exact ⟨v, f, by simp, x, fun a z => List.mem_append_left _ z⟩
  | _, _, _, i + 1, _, .cons x r, h => by
    obtain ⟨v, g, h1, h2, h3⟩ := RepE.get (i := i) r (by simpa using h)
    exact ⟨v, g, by simpa using h1, h2, fun a z => List.mem_append_right _ (h3 a z)⟩
theorem fe_var {i : Nat} (h : PE X e (tVar i)) : PE X e (LB T W (fVar i)) := PE.weak h fun σ H Q ⟨ρ, S, φ, fe, fs, E, Qm, G, ⟨m, hm, w⟩, hx, k⟩ => by
  obtain ⟨v, g, h1, h2, h3⟩ := G.env.get hm
  exact ⟨v, h1, k m S v H φ fs g w (Aft.refl G.ndS) h2 (fun a z => G.disj a (h3 a z)) G.sto⟩
/-- a constant -/
def fC (d : D) : FE := fun _ S Q _ => Q (.dat d) S
theorem fe_c {v : V} {d : D} (h : PE X e (tC v)) (r : ∀ φ H, FD T φ H v d) : PE X e (LE T W (fC d)) := PE.weak h fun σ H Q ⟨ρ, S, φ, fe, fs, E, Qm, G, w, hx, k⟩ =>
  k (.dat d) S v H φ fs [] w (Aft.refl G.ndS) (.dat (r _ _)) G.sto

/-! ### operators -/
/-- what a step lays beside what stands -/
structure Fresh (H H' : Hp) (fm : List Addr) : Prop where
  keep : ∀ a o, H a = some o → H' a = some o
  new : ∀ a ∈ fm, H a = none
  nd : fm.Nodup
theorem Fresh.refl (H : Hp) : Fresh H H [] := ⟨fun _ _ h => h, fun _ h => (nomatch h), List.nodup_nil⟩
theorem Fresh.upd {H : Hp} {p : Addr} {o : HO} (h : H p = none) : Fresh H (upd H p o) [p] := ⟨fun a u q => by rw [upd_ne (ne_of_none q h)]; exact q, fun a z => by rw [List.mem_singleton.mp z]; exact h, by simp⟩
theorem Fresh.upd0 {H : Hp} {p : Addr} {o : HO} (h : H p = none) : Fresh H (L2.upd H p o) [] := ⟨fun a u q => by rw [upd_ne (ne_of_none q h)]; exact q, fun _ z => (nomatch z), List.nodup_nil⟩
theorem Fresh.ext {H H' : Hp} {fm : List Addr} (F : Fresh H H' fm) : Ext H H' := ⟨fun a _ h => F.keep a _ h, fun a _ _ h => F.keep a _ h, fun a _ h => F.keep a _ h⟩
theorem Fresh.aft {T : Top} {H H' : Hp} {fm fs : List Addr} {φ : Ob} {S : Sto} (F : Fresh H H' fm) (R : RepS T H φ φ S fs) (nd : (fs ++ φ.ads).Nodup) : Aft φ fs H φ fs fm H' := by
  refine ⟨Pre.refl _, fun a o _ h => F.keep a o h, fun a h => (List.mem_append.mp h).elim (fun z => .inr (F.new a z)) .inl, ?_⟩
  refine List.nodup_append.mpr ⟨F.nd, nd, fun a h b k e => ?_⟩
  subst e
  have z := F.new a h
  rcases R.own a k with ⟨_, q, _⟩ | ⟨_, _, _, q⟩ <;> rw [z] at q <;> cases q
theorem Fresh.sto {T : Top} {H H' : Hp} {fm fs : List Addr} {φ : Ob} {S : Sto} (F : Fresh H H' fm) (R : RepS T H φ φ S fs) : RepS T H' φ φ S fs :=
  R.ext F.ext (Pre.refl _) (fun a _ _ h => F.keep a _ h) fun a _ _ _ _ h => F.keep a _ h
/-- an operator of two values, told purely -/
def Op2 (T : Top) (r : R2) (o : M → M → (M → Prop) → Prop) : Prop := ∀ (φ : Ob) (H : Hp) (x y : V) (m1 m2 : M) (f1 f2 : List Addr) (Q : VK) (Qm : M → Prop), Rep T φ H x m1 f1 → Rep T φ H y m2 f2 → o m1 m2 Qm →
  (∀ m v H' fm, Qm m → Fresh H H' fm → Rep T φ H' v m fm → Q v H') → r x y H Q
theorem Op2.or {r r' : R2} {o o' : M → M → (M → Prop) → Prop} (h : Op2 T r o) (h' : Op2 T r' o') : Op2 T (fun x y H Q => r x y H Q ∨ r' x y H Q) (fun a b Q => o a b Q ∨ o' a b Q) :=
  fun φ H x y m1 m2 f1 f2 Q Qm r1 r2 w k => w.elim (fun w => .inl (h φ H x y m1 m2 f1 f2 Q Qm r1 r2 w k)) fun w => .inr (h' φ H x y m1 m2 f1 f2 Q Qm r1 r2 w k)
theorem Op2.imp {r : R2} {o o' : M → M → (M → Prop) → Prop} (h : Op2 T r o) (i : ∀ a b Q, o' a b Q → o a b Q) : Op2 T r o' := fun φ H x y m1 m2 f1 f2 Q Qm r1 r2 w k => h φ H x y m1 m2 f1 f2 Q Qm r1 r2 (i _ _ _ w) k
def fBin (o : M → M → (M → Prop) → Prop) (ta tb : FE) : FE := fun ρ S Q E => ta ρ S (fun m1 S1 => tb ρ S1 (fun m2 S2 => o m1 m2 fun m => Q m S2) E) E
/-- two looks, one behind the other -/
theorem two_looks {σ : St} {H : Hp} {Q : VK} {k : V → V → Hp → Prop} {o : M → M → (M → Prop) → Prop} (h : LE T W (fBin o ta tb) σ H Q)
    (hk : ∀ (φ : Ob) (H : Hp) (x y : V) (m1 m2 : M) (f1 f2 : List Addr) (Qm : M → Prop), Rep T φ H x m1 f1 → Rep T φ H y m2 f2 → o m1 m2 Qm → (∀ m v H' fm, Qm m → Fresh H H' fm → Rep T φ H' v m fm → Q v H') → k x y H) :
    LB T W ta σ H fun x H1 => LB T W tb σ H1 fun y H2 => k x y H2 := by
  obtain ⟨ρ, S, φ, fe, fs, E, Qm, G, w, hx, fin⟩ := h
  refine ⟨ρ, S, φ, fe, fs, E, _, G, w, hx, fun m1 S1 x H1 φ1 fs1 f1 w1 A1 r1 d1 R1 => ?_⟩
  refine ⟨ρ, S1, φ1, fe, fs1, E, _, A1.good G R1, w1, hx.aft A1, fun m2 S2 y H2 φ2 fs2 f2 w2 A2 r2 d2 R2 => ?_⟩
  refine hk φ2 H2 x y m1 m2 f1 f2 _ (A2.rep R1 r1 d1) r2 w2 fun m v H' fm q F r => ?_
  exact fin m S2 v H' φ2 fs2 fm q ((A1.trans A2).trans (F.aft R2 A2.ndS)) r (F.sto R2)
theorem fe_op {op : Operator} {r : R2} {o : M → M → (M → Prop) → Prop} (ho : OpR X (binaryOp op) r) (h2 : Op2 T r o) (ha : PE X a (LB T W ta)) (hb : PE X b (LB T W tb)) : PE X (.BinOp a op b pos) (LE T W (fBin o ta tb)) :=
  PE.weak (pe_op ho ha hb) fun σ H Q h => two_looks h fun φ H x y m1 m2 f1 f2 Qm r1 r2 w k => h2 φ H x y m1 m2 f1 f2 Q Qm r1 r2 w k
theorem fe_cmp {op : CmpOp} {r : R2} {o : M → M → (M → Prop) → Prop} (ho : OpR X (compareOp op) r) (h2 : Op2 T r o) (ha : PE X a (LB T W ta)) (hb : PE X b (LB T W tb)) (hm : behindInMarks op b = false) :
    PE X (.Compare a [op] [b] pos) (LE T W (fBin o ta tb)) :=
  PE.weak (pe_cmpR ho ha hb hm) fun σ H Q h => two_looks h fun φ H x y m1 m2 f1 f2 Qm r1 r2 w k => h2 φ H x y m1 m2 f1 f2 Q Qm r1 r2 w k
theorem fe_ix {r : R2} {o : M → M → (M → Prop) → Prop} (ho : IxR X r) (h2 : Op2 T r o) (ha : PE X a (LB T W ta)) (hb : PE X b (LB T W tb)) (hs : PlainIx b) : PE X (.Subscript a b pos) (LE T W (fBin o ta tb)) :=
  PE.weak (pe_ix ho ha hb hs) fun σ H Q h => two_looks h fun φ H x y m1 m2 f1 f2 Qm r1 r2 w k => h2 φ H x y m1 m2 f1 f2 Q Qm r1 r2 w k
/-- .. and a part of the first one -/
def Op2B (T : Top) (r : R2) (o : M → M → (M → Prop) → Prop) : Prop := ∀ (φ : Ob) (H : Hp) (x y : V) (m1 m2 : M) (f1 f2 : List Addr) (Q : VK) (Qm : M → Prop), Rep T φ H x m1 f1 → Rep T φ H y m2 f2 → o m1 m2 Qm →
  (∀ m v fm, Qm m → Rep T φ H v m fm → (∀ a ∈ fm, a ∈ f1) → Q v H) → r x y H Q
theorem fb_ix {r : R2} {o : M → M → (M → Prop) → Prop} (ho : IxR X r) (h2 : Op2B T r o) (ha : PE X a (LB T W ta)) (hb : PE X b (LB T W tb)) (hs : PlainIx b) : PE X (.Subscript a b pos) (LB T W (fBin o ta tb)) :=
  PE.weak (pe_ix ho ha hb hs) fun σ H Q ⟨ρ, S, φ, fe, fs, E, Qm, G, w, hx, fin⟩ => by
    refine ⟨ρ, S, φ, fe, fs, E, _, G, w, hx, fun m1 S1 x H1 φ1 fs1 f1 w1 A1 r1 d1 R1 => ?_⟩
    refine ⟨ρ, S1, φ1, fe, fs1, E, _, A1.good G R1, w1, hx.aft A1, fun m2 S2 y H2 φ2 fs2 f2 w2 A2 r2 d2 R2 => ?_⟩
    refine h2 φ2 H2 x y m1 m2 f1 f2 Q _ (A2.rep R1 r1 d1) r2 w2 fun m v fm q r hs => ?_
    exact fin m S2 v H2 φ2 fs2 fm q (A1.trans A2) r (fun a ha => fun z => A2.apart d1 r1.own' a (hs a ha) (List.mem_append_right _ z)) R2
end
end L2.Fn
/-! Fn, part C: freezing, tests, argument lists, displays, calls. -/
namespace L2.Fn
open PySem PySem.Spec PyProof.Rows

/-! ### an own list becomes pure -/
mutual
def M.toD : M → D
  | .dat d => d
  | .lst l => .lst (M.toDs l)
  | .dct b kvs => .dct b (kvs.map (·.1)) (kvs.map (·.2))
def M.toDs : List M → List D
  | [] => []
  | m :: l => m.toD :: M.toDs l
end
theorem M.toDs_eq (l : List M) : M.toDs l = l.map M.toD := by
  induction l with
  | nil => rfl
  | cons m l ih => rw [M.toDs, ih]; rfl
theorem M.toDs_dat (l : List D) : M.toDs (l.map .dat) = l := by
  induction l with
  | nil => rfl
  | cons m l ih => rw [List.map_cons, M.toDs, ih]; rfl
theorem OwnO.mut {h : HO} (w : OwnO h) : Mut (some h) := by cases h <;> first | trivial | exact False.elim w
/-- what a lock changes -/
structure Lk (f : List Addr) (H H' : Hp) : Prop where
  keep : ∀ a, a ∉ f → H' a = H a
  lock : ∀ a ∈ f, ∃ u o, H a = some u ∧ OwnO u ∧ H' a = some (.frz o u)
theorem Lk.ext {f : List Addr} {H H' : Hp} (k : Lk f H H') : Ext H H' := by
  have no : ∀ (a : Addr) (u : HO), H a = some u → ¬ OwnO u → a ∉ f := fun a u h n z => by
    obtain ⟨_, _, q, w, _⟩ := k.lock a z
    rw [h] at q
    cases q
    exact n w
  refine ⟨fun a xs h => ?_, fun a o u h => ?_, fun a u h => ?_⟩
  · rw [k.keep a (no a _ h fun z => z)]; exact h
  · rw [k.keep a (no a _ h fun z => z)]; exact h
  · rw [k.keep a (no a _ h fun z => z)]; exact h
section
variable {X : Cx} {pins : List (Addr × Obj)} {σ : St} {s : Shared} {T : Top} {φ : Ob}
mutual
theorem frz_m : ∀ {H : Hp} {v : V} {m : M} {f : List Addr}, Inv X pins σ H s → Rep T φ H v m f → f.Nodup → ∃ H', Inv X pins σ H' s ∧ Lk f H H' ∧ FD T φ H' v m.toD
  | H, _, _, _, I, .dat r, _ => ⟨H, I, ⟨fun _ _ => rfl, fun _ z => (nomatch z)⟩, r⟩
  | H, _, _, _, I, .lst (a := a) (vs := vs) (f := f) e r, nd => by
    obtain ⟨H1, I1, k, rs⟩ := frz_l I r (List.nodup_cons.mp nd).2
    have ha : a ∉ f := (List.nodup_cons.mp nd).1
    have e1 : H1 a = some (.lst vs) := (k.keep a ha).trans e
    obtain ⟨o, I2⟩ := I1.lock e1 trivial
    have k2 : Lk (a :: f) H (upd H1 a (.frz o (.lst vs))) := by
      refine ⟨fun b hb => ?_, fun b hb => ?_⟩
      · rw [upd_ne fun z => hb (by rw [z]; exact List.mem_cons_self)]
        exact k.keep b fun z => hb (List.mem_cons_of_mem _ z)
      · by_cases q : b = a
        · subst q; exact ⟨_, o, e, trivial, upd_same⟩
        · rcases List.mem_cons.mp hb with z | z
          · exact absurd z q
          · obtain ⟨xs, u, q1, q0, q2⟩ := k.lock b z
            exact ⟨xs, u, q1, q0, by rw [upd_ne q]; exact q2⟩
    have ex : Ext H1 (upd H1 a (.frz o (.lst vs))) := by
      refine ⟨fun b xs h => ?_, fun b u w h => ?_, fun b u h => ?_⟩
      · rw [upd_ne fun z => by rw [z, e1] at h; cases h]; exact h
      · rw [upd_ne fun z => by rw [z, e1] at h; cases h]; exact h
      · rw [upd_ne fun z => by rw [z, e1] at h; cases h]; exact h
    exact ⟨_, I2, k2, .lst (.inl ⟨o, upd_same⟩) (rs.ext ex (Pre.refl _))⟩
  | H, _, _, _, I, .dct (a := a) (h := h) e d r, _ => by
    obtain ⟨o, I2⟩ := I.lock e (OwnO.mut d.own)
    have ex : Ext H (upd H a (.frz o h)) := by
      refine ⟨fun b xs h' => ?_, fun b u w h' => ?_, fun b u h' => ?_⟩
      · rw [upd_ne fun z => by rw [z, e] at h'; cases h'; exact False.elim d.own]; exact h'
      · rw [upd_ne fun z => by rw [z, e] at h'; cases h'; exact False.elim d.own]; exact h'
      · rw [upd_ne fun z => by rw [z, e] at h'; cases h'; exact False.elim d.own]; exact h'
    refine ⟨_, I2, ⟨fun b hb => upd_ne fun z => hb (by rw [z]; exact List.mem_singleton.mpr rfl), fun b hb => ?_⟩, .dct upd_same d (r.ext ex (Pre.refl _))⟩
    rw [List.mem_singleton.mp hb]
    exact ⟨_, o, e, d.own, upd_same⟩
theorem frz_l : ∀ {H : Hp} {v : List V} {m : List M} {f : List Addr}, Inv X pins σ H s → Reps T φ H v m f → f.Nodup → ∃ H', Inv X pins σ H' s ∧ Lk f H H' ∧ FDs T φ H' v (M.toDs m)
  | H, _, _, _, I, .nil, _ => ⟨H, I, ⟨fun _ _ => rfl, fun _ z => (nomatch z)⟩, .nil⟩
  | H, _, _, _, I, .cons (f := f) (g := g) r rs, nd => by
    obtain ⟨n1, n2, n3⟩ := List.nodup_append.mp nd
    obtain ⟨H1, I1, k1, r1⟩ := frz_m I r n1
    have rs1 : Reps T φ H1 _ _ g := rs.ext k1.ext (Pre.refl _) fun a xs ha h => (k1.keep a fun z => n3 a z a ha rfl).trans h
    obtain ⟨H2, I2, k2, r2⟩ := frz_l I1 rs1 n2
    refine ⟨H2, I2, ⟨fun b hb => ?_, fun b hb => ?_⟩, .cons (r1.ext k2.ext (Pre.refl _)) r2⟩
    · rw [k2.keep b fun z => hb (List.mem_append_right _ z)]
      exact k1.keep b fun z => hb (List.mem_append_left _ z)
    · rcases List.mem_append.mp hb with z | z
      · obtain ⟨xs, o, q1, q0, q2⟩ := k1.lock b z
        exact ⟨xs, o, q1, q0, (k2.keep b fun w => n3 b z b w rfl).trans q2⟩
      · obtain ⟨xs, o, q1, q0, q2⟩ := k2.lock b z
        exact ⟨xs, o, (k1.keep b fun w => n3 b w b z rfl).symm.trans q1, q0, q2⟩
end
end
theorem Lk.aft {T : Top} {φ φ1 : Ob} {fs fs1 fm f : List Addr} {H H1 H2 : Hp} (k : Lk f H1 H2) (A : Aft φ fs H φ1 fs1 fm H1) (hf : ∀ a ∈ f, a ∈ fm) : Aft φ fs H φ1 fs1 [] H2 := by
  refine ⟨A.pre, fun a o n h => ?_, fun a h => A.new a (List.mem_append_right _ h), A.ndS⟩
  have e := A.keep a o n h
  rw [k.keep a fun z => ?_]; exact e
  rcases A.new a (List.mem_append_left _ (hf a z)) with q | q
  · exact n q
  · rw [h] at q; cases q
theorem Lk.sto {T : Top} {φ : Ob} {S : Sto} {fs f : List Addr} {H1 H2 : Hp} (k : Lk f H1 H2) (R : RepS T H1 φ φ S fs) (d : ∀ a ∈ f, a ∉ fs ++ φ.ads) : RepS T H2 φ φ S fs :=
  R.ext k.ext (Pre.refl _) (fun a xs ha h => (k.keep a fun z => d a z (List.mem_append_left _ ha)).trans h) fun a C dx gs ha h => (k.keep a fun z => d a z (List.mem_append_right _ ha)).trans h
def fFrz (t : FE) : FE := fun ρ S Q E => t ρ S (fun m S' => Q (.dat m.toD) S') E
section
variable {X : Cx} {T : Top} {W : WX} {e a b : Expr} {t ta tb : FE} {pos : Pos} {es rest : List Expr}
theorem fe_frz (h : PE X e (LE T W t)) : PE X e (LE T W (fFrz t)) := by
  refine ⟨fun pins s σ H Q I ⟨ρ, S, φ, fe, fs, E, Qm, G, w, hx, k⟩ => ?_⟩
  refine thn (h.run pins s σ H (fun v H' => ∃ (m : M) (S' : Sto) (φ' : Ob) (fs' fm : List Addr), Qm (.dat m.toD) S' ∧ Aft φ fs H φ' fs' fm H' ∧ Rep T φ' H' v m fm ∧ RepS T H' φ' φ' S' fs') I
    ⟨ρ, S, φ, fe, fs, E, _, G, w, hx, fun m S' v H' φ' fs' fm q A r R => ⟨m, S', φ', fs', fm, q, A, r, R⟩⟩) fun u s' ⟨v, H', I', rv, m, S', φ', fs', fm, q, A, r, R⟩ => ?_
  obtain ⟨H2, I2, lk, r2⟩ := frz_m I' r (List.nodup_append.mp A.nd).1
  exact ⟨v, H2, I2, rv, k _ S' v H2 φ' fs' [] q (lk.aft (T := T) A fun _ z => z) (.dat r2) (lk.sto R A.disj)⟩

/-! ### tests -/
abbrev FT := Ev → Sto → (Bool → Sto → Prop) → XP → Prop
def LT (T : Top) (W : WX) (t : FT) : TT := fun σ H Q => ∃ (ρ : Ev) (S : Sto) (φ : Ob) (fe fs : List Addr) (E : XP) (Qm : Bool → Sto → Prop), Good T φ H σ ρ S fe fs ∧ t ρ S Qm E ∧ WxE T φ fs H σ E W ∧
  ∀ (m : Bool) (S' : Sto) (H' : Hp) (φ' : Ob) (fs' : List Addr), Qm m S' → Aft φ fs H φ' fs' [] H' → RepS T H' φ' φ' S' fs' → Q m H'
/-- the truth of a value -/
def oTru (m : M) (Q : Bool → Prop) : Prop := match m with
  | .dat .non => Q false
  | .dat (.bl b) => Q b
  | .dat (.int i) => Q (i != 0)
  | .dat (.str s) => s.length ≤ sizeLine ∧ Q (!s.isEmpty)
  | .dat (.tup l) => Q (!l.isEmpty)
  | .dat (.lst l) => Q (!l.isEmpty)
  | .lst l => Q (!l.isEmpty)
  | _ => False
theorem FDs.isEmpty {φ : Ob} {H : Hp} {v : List V} {d : List D} (r : FDs T φ H v d) : v.isEmpty = d.isEmpty := by cases r <;> rfl
theorem Reps.isEmpty {φ : Ob} {H : Hp} {v : List V} {d : List M} {f : List Addr} (r : Reps T φ H v d f) : v.isEmpty = d.isEmpty := by cases r <;> rfl
theorem oTru_ok {φ : Ob} {H : Hp} {x : V} {m : M} {f : List Addr} {Q : Bool → Prop} (r : Rep T φ H x m f) (w : oTru m Q) : ∃ k, TruV T.K x H k ∧ Q k := by
  cases r with
  | @dat v d r =>
    cases r with
    | non => exact ⟨_, rfl, w⟩
    | bl b => exact ⟨_, rfl, w⟩
    | int i => exact ⟨_, rfl, w⟩
    | str s => exact ⟨!s.isEmpty, ⟨w.1, by cases s <;> simp [Str.length]; omega⟩, w.2⟩
    | tup h r => exact ⟨_, .inr (.inl ⟨_, SqT.of h, rfl⟩), by rw [r.isEmpty]; exact w⟩
    | ktup h r => exact w.elim
    | dct h r => exact w.elim
    | lst h r => exact ⟨_, .inl ⟨_, h.seq, rfl⟩, by rw [r.isEmpty]; exact w⟩
    | obj h => exact w.elim
    | fn h => exact w.elim
    | exn h => exact w.elim
  | lst e r => exact ⟨_, .inl ⟨_, SqL.of e, rfl⟩, by rw [r.isEmpty]; exact w⟩
  | dct e d r => exact w.elim
def fTru (t : FE) : FT := fun ρ S Q E => t ρ S (fun m S' => oTru m fun b => Q b S') E
theorem ft_val (hK : X.K = T.K) (h : PE X e (LB T W t)) (he : ∀ whole, isTrue e X.env whole = (do let v ← whole; standAt e.pos; holding [v] (truthy v)) := by intro _; rfl) : PT X e (LT T W (fTru t)) :=
  PT.weak (pt_truth h he) fun σ H Q ⟨ρ, S, φ, fe, fs, E, Qm, G, w, hx, k⟩ => by
    refine ⟨ρ, S, φ, fe, fs, E, _, G, w, hx, fun m S' v H' φ' fs' fm q A r d R => ?_⟩
    rw [hK]
    obtain ⟨b, h1, h2⟩ := oTru_ok r q
    exact ⟨b, h1, k b S' H' φ' fs' h2 A R⟩
def fBl (t : FE) : FT := fun ρ S Q E => t ρ S (fun m S' => ∃ b, m = .dat (.bl b) ∧ Q b S') E
/-- a comparison as a test -/
theorem ft_cmp {op : CmpOp} {r : R2} {o : M → M → (M → Prop) → Prop} (ho : OpR X (compareOp op) r) (h2 : Op2 T r o) (ha : PE X a (LB T W ta)) (hb : PE X b (LB T W tb)) (hm : behindInMarks op b = false) :
    PT X (.Compare a [op] [b] pos) (LT T W (fBl (fBin o ta tb))) :=
  PT.weak (pt_cmpR ho ha hb hm) fun σ H Q ⟨ρ, S, φ, fe, fs, E, Qm, G, w, hx, k⟩ => by
    refine two_looks (T := T) (W := W) (Q := fun x H' => ∃ b, x = .bl b ∧ Q b H') ⟨ρ, S, φ, fe, fs, E, _, G, w, hx, fun m S' v H' φ' fs' fm q A r R => ?_⟩ fun φ H x y m1 m2 f1 f2 Qm r1 r2 w k => h2 φ H x y m1 m2 f1 f2 _ Qm r1 r2 w k
    obtain ⟨b, rfl, q⟩ := q
    cases r with
    | dat r =>
      cases r with
      | bl => exact ⟨b, rfl, k b S' H' φ' fs' q A.drop R⟩
def fNot (t : FT) : FT := fun ρ S Q E => t ρ S (fun b S' => Q (!b) S') E
theorem ft_not {t : FT} (h : PT X e (LT T W t)) : PT X (.UnaryOp .Not e pos) (LT T W (fNot t)) := PT.weak (pt_not h) fun σ H Q ⟨ρ, S, φ, fe, fs, E, Qm, G, w, hx, k⟩ =>
  ⟨ρ, S, φ, fe, fs, E, _, G, w, hx, fun b S' H' φ' fs' q A R => k (!b) S' H' φ' fs' q A R⟩
structure PWw (X : Cx) (e : Expr) (t : TT) : Prop where
  h : PW X e t
theorem PW.weak {t t' : TT} (h : PW X e t) (k : ∀ σ H Q, t' σ H Q → t σ H Q) : PW X e t' := ⟨fun wh pins s σ H Q I w => h.run wh pins s σ H Q I (k _ _ _ w)⟩
def fAnd (t u : FT) : FT := fun ρ S Q E => t ρ S (fun b S' => if b = true then u ρ S' Q E else Q false S') E
def fOr (t u : FT) : FT := fun ρ S Q E => t ρ S (fun b S' => if b = true then Q true S' else u ρ S' Q E) E
theorem LT.next {t : FT} {σ : St} {H : Hp} {Q : Bool → Hp → Prop} {ρ : Ev} {S : Sto} {φ : Ob} {fe fs : List Addr} {E : XP} {Qm : Bool → Sto → Prop} {H' : Hp} {φ' : Ob} {fs' : List Addr} {S' : Sto}
    (G : Good T φ H σ ρ S fe fs) (hx : WxE T φ fs H σ E W) (k : ∀ (m : Bool) (S' : Sto) (H' : Hp) (φ' : Ob) (fs' : List Addr), Qm m S' → Aft φ fs H φ' fs' [] H' → RepS T H' φ' φ' S' fs' → Q m H')
    (A : Aft φ fs H φ' fs' [] H') (R : RepS T H' φ' φ' S' fs') (w : t ρ S' Qm E) : LT T W t σ H' Q :=
  ⟨ρ, S', φ', fe, fs', E, Qm, A.good G R, w, hx.aft A, fun b S2 H2 φ2 fs2 q A2 R2 => k b S2 H2 φ2 fs2 q (A.trans A2) R2⟩
theorem fw_one_and {t : FT} (h : PT X a (LT T W t)) : PW X (.BoolOp .And [a] pos) (LT T W t) := pw_and1 h
theorem fw_one_or {t : FT} (h : PT X a (LT T W t)) : PW X (.BoolOp .Or [a] pos) (LT T W t) := pw_or1 h
theorem fw_and {t u : FT} (ha : PT X a (LT T W t)) (hb : PW X (.BoolOp .And (b :: rest) pos) (LT T W u)) : PW X (.BoolOp .And (a :: b :: rest) pos) (LT T W (fAnd t u)) :=
  PW.weak (pw_and ha hb) fun σ H Q ⟨ρ, S, φ, fe, fs, E, Qm, G, w, hx, k⟩ => ⟨ρ, S, φ, fe, fs, E, _, G, w, hx, fun c S' H' φ' fs' q A R => by
    cases c with
    | true => exact LT.next G hx k A R q
    | false => exact k false S' H' φ' fs' q A R⟩
theorem fw_or {t u : FT} (ha : PT X a (LT T W t)) (hb : PW X (.BoolOp .Or (b :: rest) pos) (LT T W u)) : PW X (.BoolOp .Or (a :: b :: rest) pos) (LT T W (fOr t u)) :=
  PW.weak (pw_or ha hb) fun σ H Q ⟨ρ, S, φ, fe, fs, E, Qm, G, w, hx, k⟩ => ⟨ρ, S, φ, fe, fs, E, _, G, w, hx, fun c S' H' φ' fs' q A R => by
    cases c with
    | true => exact k true S' H' φ' fs' q A R
    | false => exact LT.next G hx k A R q⟩
/-- a test in a value's place -/
theorem LE.next {t : FE} {σ : St} {H : Hp} {Q : VK} {ρ : Ev} {S : Sto} {φ : Ob} {fe fs : List Addr} {E : XP} {Qm : WP} {H' : Hp} {φ' : Ob} {fs' fm0 : List Addr} {S' : Sto}
    (G : Good T φ H σ ρ S fe fs) (hx : WxE T φ fs H σ E W) (k : ∀ (m : M) (S' : Sto) (v : V) (H' : Hp) (φ' : Ob) (fs' fm : List Addr), Qm m S' → Aft φ fs H φ' fs' fm H' → Rep T φ' H' v m fm → RepS T H' φ' φ' S' fs' → Q v H')
    (A : Aft φ fs H φ' fs' fm0 H') (R : RepS T H' φ' φ' S' fs') (w : t ρ S' Qm E) : LE T W t σ H' Q :=
  ⟨ρ, S', φ', fe, fs', E, Qm, A.good G R, w, hx.aft A, fun m S2 v H2 φ2 fs2 fm q A2 r R2 => k m S2 v H2 φ2 fs2 fm q (A.trans A2) r R2⟩
def fIf (c : FT) (t u : FE) : FE := fun ρ S Q E => c ρ S (fun b S' => if b = true then t ρ S' Q E else u ρ S' Q E) E
theorem fe_if {c : Expr} {tc : FT} (hc : PT X c (LT T W tc)) (ha : PE X a (LE T W ta)) (hb : PE X b (LE T W tb)) : PE X (.IfExp c a b pos) (LE T W (fIf tc ta tb)) :=
  PE.weak (pe_ifExp hc ha hb) fun σ H Q ⟨ρ, S, φ, fe, fs, E, Qm, G, w, hx, k⟩ => ⟨ρ, S, φ, fe, fs, E, _, G, w, hx, fun c S' H' φ' fs' q A R => by
    cases c with
    | true => exact LE.next G hx k A R q
    | false => exact LE.next G hx k A R q⟩
/-- and, or, not of truth values -/
def fAndV (t u : FE) : FE := fun ρ S Q E => t ρ S (fun m S' => ∃ b, m = .dat (.bl b) ∧ if b = true then u ρ S' Q E else Q (.dat (.bl false)) S') E
def fOrV (t u : FE) : FE := fun ρ S Q E => t ρ S (fun m S' => ∃ b, m = .dat (.bl b) ∧ if b = true then Q (.dat (.bl true)) S' else u ρ S' Q E) E
def fNotV (t : FE) : FE := fun ρ S Q E => t ρ S (fun m S' => ∃ b, m = .dat (.bl b) ∧ Q (.dat (.bl (!b))) S') E
theorem fe_and {op : BoolOp} (ha : PE X a (LE T W ta)) (hb : PE X (.BoolOp .And (b :: rest) pos) (LE T W tb)) : PE X (.BoolOp .And (a :: b :: rest) pos) (LE T W (fAndV ta tb)) :=
  PE.weak (pe_and ha hb) fun σ H Q ⟨ρ, S, φ, fe, fs, E, Qm, G, w, hx, k⟩ => ⟨ρ, S, φ, fe, fs, E, _, G, w, hx, fun m S' v H' φ' fs' fm q A r R => by
    obtain ⟨c, rfl, q⟩ := q
    cases r with
    | dat r =>
      cases r with
      | bl =>
        refine ⟨c, rfl, ?_⟩
        cases c with
        | true => exact LE.next G hx k A R q
        | false => exact k _ S' _ H' φ' fs' [] q A (.dat (.bl _)) R⟩
theorem fe_or {op : BoolOp} (ha : PE X a (LE T W ta)) (hb : PE X (.BoolOp .Or (b :: rest) pos) (LE T W tb)) : PE X (.BoolOp .Or (a :: b :: rest) pos) (LE T W (fOrV ta tb)) :=
  PE.weak (pe_or ha hb) fun σ H Q ⟨ρ, S, φ, fe, fs, E, Qm, G, w, hx, k⟩ => ⟨ρ, S, φ, fe, fs, E, _, G, w, hx, fun m S' v H' φ' fs' fm q A r R => by
    obtain ⟨c, rfl, q⟩ := q
    cases r with
    | dat r =>
      cases r with
      | bl =>
        refine ⟨c, rfl, ?_⟩
        cases c with
        | true => exact k _ S' _ H' φ' fs' [] q A (.dat (.bl _)) R
        | false => exact LE.next G hx k A R q⟩
theorem fe_not (ha : PE X a (LE T W ta)) : PE X (.UnaryOp .Not a pos) (LE T W (fNotV ta)) :=
  PE.weak (pe_not ha) fun σ H Q ⟨ρ, S, φ, fe, fs, E, Qm, G, w, hx, k⟩ => ⟨ρ, S, φ, fe, fs, E, _, G, w, hx, fun m S' v H' φ' fs' fm q A r R => by
    obtain ⟨c, rfl, q⟩ := q
    cases r with
    | dat r =>
      cases r with
      | bl => exact ⟨c, rfl, k _ S' _ H' φ' fs' [] q A (.dat (.bl _)) R⟩⟩
theorem fe_one {op : BoolOp} (ha : PE X a (LE T W ta)) : PE X (.BoolOp op [a] pos) (LE T W ta) := pe_one ha

/-! ### argument lists -/
abbrev FA := Ev → Sto → (List M → Sto → Prop) → XP → Prop
/-- looked at -/
def LAB (T : Top) (W : WX) (t : FA) : TA := fun σ H Q => ∃ (ρ : Ev) (S : Sto) (φ : Ob) (fe fs : List Addr) (E : XP) (Qm : List M → Sto → Prop), Good T φ H σ ρ S fe fs ∧ t ρ S Qm E ∧ WxE T φ fs H σ E W ∧
  ∀ (m : List M) (S' : Sto) (v : List V) (H' : Hp) (φ' : Ob) (fs' fm : List Addr), Qm m S' → Aft φ fs H φ' fs' [] H' → Reps T φ' H' v m fm → (∀ a ∈ fm, a ∉ fs' ++ φ'.ads) → RepS T H' φ' φ' S' fs' → Q v H'
/-- new and one's own -/
def LAE (T : Top) (W : WX) (t : FA) : TA := fun σ H Q => ∃ (ρ : Ev) (S : Sto) (φ : Ob) (fe fs : List Addr) (E : XP) (Qm : List M → Sto → Prop), Good T φ H σ ρ S fe fs ∧ t ρ S Qm E ∧ WxE T φ fs H σ E W ∧
  ∀ (m : List M) (S' : Sto) (v : List V) (H' : Hp) (φ' : Ob) (fs' fm : List Addr), Qm m S' → Aft φ fs H φ' fs' fm H' → Reps T φ' H' v m fm → RepS T H' φ' φ' S' fs' → Q v H'
def fNil : FA := fun _ S Q _ => Q [] S
def fCons (t : FE) (u : FA) : FA := fun ρ S Q E => t ρ S (fun m S1 => u ρ S1 (fun ms S2 => Q (m :: ms) S2) E) E
theorem PA.weak {t t' : TA} (h : PA X es t) (k : ∀ σ H Q, t' σ H Q → t σ H Q) : PA X es t' := ⟨fun p pins s σ H Q I w => h.run p pins s σ H Q I (k _ _ _ w)⟩
theorem fb_nil : PA X [] (LAB T W fNil) := PA.weak pa_nil fun σ H Q ⟨ρ, S, φ, fe, fs, E, Qm, G, w, hx, k⟩ => k [] S [] H φ fs [] w (Aft.refl G.ndS) .nil (fun _ z => nomatch z) G.sto
theorem fa_nil : PA X [] (LAE T W fNil) := PA.weak pa_nil fun σ H Q ⟨ρ, S, φ, fe, fs, E, Qm, G, w, hx, k⟩ => k [] S [] H φ fs [] w (Aft.refl G.ndS) .nil G.sto
theorem fb_cons {u : FA} (ha : PE X e (LB T W t)) (hr : PA X es (LAB T W u)) (hs : starEach (e :: es) X.env = (false, eval e X.env) :: starEach es X.env := by rfl) : PA X (e :: es) (LAB T W (fCons t u)) :=
  PA.weak (pa_cons ha hr hs) fun σ H Q ⟨ρ, S, φ, fe, fs, E, Qm, G, w, hx, k⟩ => by
    refine ⟨ρ, S, φ, fe, fs, E, _, G, w, hx, fun m S1 v H1 φ1 fs1 f1 q A1 r1 d1 R1 => ?_⟩
    refine ⟨ρ, S1, φ1, fe, fs1, E, _, A1.good G R1, q, hx.aft A1, fun ms S2 vs H2 φ2 fs2 f2 q2 A2 r2 d2 R2 => ?_⟩
    refine k (m :: ms) S2 (v :: vs) H2 φ2 fs2 (f1 ++ f2) q2 (A1.trans A2) (.cons (A2.rep R1 r1 d1) r2) (fun a z => ?_) R2
    rcases List.mem_append.mp z with z | z
    · exact fun y => A2.apart d1 r1.own' a z (List.mem_append_right _ y)
    · exact d2 a z
theorem fa_cons {u : FA} (ha : PE X e (LE T W t)) (hr : PA X es (LAE T W u)) (hs : starEach (e :: es) X.env = (false, eval e X.env) :: starEach es X.env := by rfl) : PA X (e :: es) (LAE T W (fCons t u)) :=
  PA.weak (pa_cons ha hr hs) fun σ H Q ⟨ρ, S, φ, fe, fs, E, Qm, G, w, hx, k⟩ => by
    refine ⟨ρ, S, φ, fe, fs, E, _, G, w, hx, fun m S1 v H1 φ1 fs1 f1 q A1 r1 R1 => ?_⟩
    refine ⟨ρ, S1, φ1, fe, fs1, E, _, A1.good G R1, q, hx.aft A1, fun ms S2 vs H2 φ2 fs2 f2 q2 A2 r2 R2 => ?_⟩
    exact k (m :: ms) S2 (v :: vs) H2 φ2 fs2 (f1 ++ f2) q2 (A1.both A2 r1.own') (.cons (A2.rep R1 r1 A1.disj) r2) R2

/-! ### displays -/
theorem Reps.len {φ : Ob} {H : Hp} : ∀ {v : List V} {m : List M} {f : List Addr}, Reps T φ H v m f → v.length = m.length
  | _, _, _, .nil => rfl
  | _, _, _, .cons _ r => by rw [List.length_cons, List.length_cons, r.len]
theorem FDs.len {φ : Ob} {H : Hp} : ∀ {v : List V} {m : List D}, FDs T φ H v m → v.length = m.length
  | _, _, .nil => rfl
  | _, _, .cons _ r => by rw [List.length_cons, List.length_cons, r.len]
theorem Reps.dats {φ : Ob} {H : Hp} : ∀ {v : List V} {m : List M} {f : List Addr}, Reps T φ H v m f → ∀ {ds : List D}, m = ds.map .dat → FDs T φ H v ds ∧ f = []
  | _, _, _, .nil, [], _ => ⟨.nil, rfl⟩
  | _, _, _, .nil, _ :: _, h => by cases h
  | _, _, _, .cons x r, [], h => by cases h
  | _, _, _, .cons (f := f) x r, d :: ds, h => by
    injection h with h1 h2
    subst h1
    obtain ⟨z, e⟩ := r.dats h2
    cases x with
    | dat x => exact ⟨.cons x z, by rw [e] <;> rfl⟩
theorem FDs.reps {φ : Ob} {H : Hp} : ∀ {v : List V} {ds : List D}, FDs T φ H v ds → Reps T φ H v (ds.map .dat) []
  | _, _, .nil => .nil
  | _, _, .cons x r => .cons (.dat x) r.reps
/-- [..] -/
def fLst (t : FA) : FE := fun ρ S Q E => t ρ S (fun ms S' => ms.length ≤ sizeLine ∧ Q (.lst ms) S') E
theorem fe_lst {u : FA} (h : PA X es (LAE T W u)) : PE X (.List es pos) (LE T W (fLst u)) := PE.weak (pe_lst h) fun σ H Q ⟨ρ, S, φ, fe, fs, E, Qm, G, w, hx, k⟩ => by
  refine ⟨ρ, S, φ, fe, fs, E, _, G, w, hx, fun ms S1 vs H1 φ1 fs1 f1 q A1 r1 R1 => ⟨by rw [r1.len]; exact q.1, fun p hp => ?_⟩⟩
  have F : Fresh H1 (upd H1 p (.lst vs)) [p] := Fresh.upd hp
  have B := F.aft R1 A1.ndS
  have np : ∀ a ∈ f1, a ≠ p := fun a h z => by rw [z] at h; exact r1.own' p h hp
  refine k (.lst ms) S1 (.ref p) _ φ1 fs1 (p :: f1) q.2 ?_ (.lst upd_same (r1.ext F.ext (Pre.refl _) fun a xs _ h => F.keep a _ h)) (F.sto R1)
  have C := A1.both B r1.own'
  refine ⟨C.pre, C.keep, fun a h => C.new a ?_, ?_⟩
  · rw [List.append_assoc]
    rcases List.mem_cons.mp h with h | h
    · exact List.mem_append_right _ (List.mem_append_left _ (List.mem_singleton.mpr h))
    · rcases List.mem_append.mp h with h | h
      · exact List.mem_append_left _ h
      · exact List.mem_append_right _ (List.mem_append_right _ h)
  · have nd := C.nd
    rw [List.append_assoc] at nd
    have q1 := List.nodup_append.mp nd
    have q2 := List.nodup_append.mp q1.2.1
    refine List.nodup_cons.mpr ⟨fun z => ?_, ?_⟩
    · rcases List.mem_append.mp z with z | z
      · exact np p z rfl
      · exact q2.2.2 p (List.mem_singleton.mpr rfl) p z rfl
    · exact List.nodup_append.mpr ⟨q1.1, q2.2.1, fun a h b h' => q1.2.2 a h b (List.mem_append_right _ h')⟩
/-- (..) -/
def fTup (t : FA) : FE := fun ρ S Q E => t ρ S (fun ms S' => ms.length ≤ sizeLine ∧ ∃ ds : List D, ms = ds.map .dat ∧ Q (.dat (.tup ds)) S') E
theorem fe_tup {u : FA} {x1 : Nat} (h : PA X es (LAE T W u)) : PE X (.Tuple es x1 pos) (LE T W (fTup u)) := PE.weak (pe_tup h) fun σ H Q ⟨ρ, S, φ, fe, fs, E, Qm, G, w, hx, k⟩ => by
  refine ⟨ρ, S, φ, fe, fs, E, _, G, w, hx, fun ms S1 vs H1 φ1 fs1 f1 q A1 r1 R1 => ⟨by rw [r1.len]; exact q.1, fun p hp => ?_⟩⟩
  obtain ⟨_, ds, e, q⟩ := q
  obtain ⟨r, e1⟩ := r1.dats e
  have F : Fresh H1 (upd H1 p (.tup vs)) [] := Fresh.upd0 hp
  exact k _ S1 (.ref p) _ φ1 fs1 [] q (A1.trans (F.aft R1 A1.ndS)) (.dat (.tup upd_same (r.ext F.ext (Pre.refl _)))) (F.sto R1)

/-! ### calls of what is built in -/
def OpN (T : Top) (r : List V → Hp → VK → Prop) (o : List M → (M → Prop) → Prop) : Prop := ∀ (φ : Ob) (H : Hp) (vs : List V) (ms : List M) (f : List Addr) (Q : VK) (Qm : M → Prop), Reps T φ H vs ms f → o ms Qm →
  (∀ m v H' fm, Qm m → Fresh H H' fm → Rep T φ H' v m fm → Q v H') → r vs H Q
def fCB (o : List M → (M → Prop) → Prop) (t : FA) : FE := fun ρ S Q E => t ρ S (fun ms S' => o ms fun m => Q m S') E
theorem fCB_ok {r : List V → Hp → VK → Prop} {o : List M → (M → Prop) → Prop} {u : FA} {σ : St} {H : Hp} {Q : VK} (h2 : OpN T r o) (h : LE T W (fCB o u) σ H Q) : LAB T W u σ H fun vs H1 => r vs H1 Q := by
  obtain ⟨ρ, S, φ, fe, fs, E, Qm, G, w, hx, k⟩ := h
  refine ⟨ρ, S, φ, fe, fs, E, _, G, w, hx, fun ms S1 vs H1 φ1 fs1 f1 q A1 r1 d1 R1 => ?_⟩
  exact h2 φ1 H1 vs ms f1 Q _ r1 q fun m v H' fm q F r => k m S1 v H' φ1 fs1 fm q (A1.trans (F.aft R1 A1.ndS)) r (F.sto R1)
theorem fe_callB {x : Str} {p : Pos} {u : FA} {id : String} {r : List V → Hp → VK → Prop} {o : List M → (M → Prop) → Prop} (hc : CallR X (.builtin id) r) (h2 : OpN T r o) (hg : Gl X x) (hm : X.mg x = none) (hv : bootBuiltins x = some (.builtin id)) (ha : PA X (e :: es) (LAB T W u))
    (hn : x ≠ "__name__" := by decide) (hdb : (x == ("__debug__" : Str)) = false := by decide) (he : starEach (e :: es) X.env = (false, eval e X.env) :: starEach es X.env := by rfl) (hpl : (backTo pos (starEach es X.env)).any (·.1) = false := by rfl) :
    PE X (.Call (.Name x p) (e :: es) [] pos) (LE T W (fCB o u)) := PE.weak (pe_callB hc hg hm hv ha hn hdb he hpl) fun σ H Q h => fCB_ok h2 h
theorem fe_callTy {x : Str} {p : Pos} {u : FA} {Ty : String} {r : List V → Hp → VK → Prop} {o : List M → (M → Prop) → Prop} (hc : CallR X (.type Ty) r) (h2 : OpN T r o) (hg : Gl X x) (hm : X.mg x = none) (hv : bootBuiltins x = some (.type Ty)) (ha : PA X (e :: es) (LAB T W u))
    (hn : x ≠ "__name__" := by decide) (hdb : (x == ("__debug__" : Str)) = false := by decide) (he : starEach (e :: es) X.env = (false, eval e X.env) :: starEach es X.env := by rfl) (hpl : (backTo pos (starEach es X.env)).any (·.1) = false := by rfl) :
    PE X (.Call (.Name x p) (e :: es) [] pos) (LE T W (fCB o u)) := PE.weak (pe_callTy hc hg hm hv ha hn hdb he hpl) fun σ H Q h => fCB_ok h2 h

/-! ### methods of what is built in -/
def OpM (T : Top) (Ty : String) (r : V → List V → Hp → VK → Prop) (o : M → List M → (M → Prop) → Prop) : Prop := ∀ (φ : Ob) (H : Hp) (x : V) (m : M) (f : List Addr), Rep T φ H x m f → ∀ (Q : VK) (Qm : M → Prop) (H' : Hp) (vs : List V) (ms : List M) (f' : List Addr),
  Rep T φ H' x m f → Reps T φ H' vs ms f' → o m ms Qm → (∀ m v H2 fm, Qm m → Fresh H' H2 fm → Rep T φ H2 v m fm → Q v H2) → r x vs H' Q
end

/-! ### defs of the text -/
abbrev FF := List D → Sto → WP → XP → Prop
def LF (T : Top) (wf : FF) : Sp := fun vs H Q Ex => ∃ (ds : List D) (S : Sto) (φ : Ob) (fs : List Addr) (E : XP) (Qm : WP), FDs T φ H vs ds ∧ RepS T H φ φ S fs ∧ (fs ++ φ.ads).Nodup ∧ wf ds S Qm E ∧
  (∀ (x : Exn) (S' : Sto) (c : Value) (d : Option Addr) (H' : Hp) (φ' : Ob) (fs' : List Addr), E x S' → Aft φ fs H φ' fs' [] H' → RepX T φ' H' c d x → RepS T H' φ' φ' S' fs' → Ex c d H') ∧
  ∀ (m : M) (S' : Sto) (v : V) (H' : Hp) (φ' : Ob) (fs' fm : List Addr), Qm m S' → Aft φ fs H φ' fs' fm H' → Rep T φ' H' v m fm → RepS T H' φ' φ' S' fs' → Q v H'
def fCall (wf : FF) (t : FA) : FE := fun ρ S Q E => t ρ S (fun ms S' => ∃ ds : List D, ms = ds.map .dat ∧ wf ds S' Q E) E
section
variable {X : Cx} {T : Top} {W : WX} {e a b : Expr} {t ta tb : FE} {pos : Pos} {es rest : List Expr}
theorem fCall_ok {wf : FF} {u : FA} {σ : St} {H : Hp} {Q : VK} (h : LE T W (fCall wf u) σ H Q) : LAB T W u σ H fun vs H1 => LF T wf vs H1 Q (WE W σ) := by
  obtain ⟨ρ, S, φ, fe, fs, E, Qm, G, w, hx, k⟩ := h
  refine ⟨ρ, S, φ, fe, fs, E, _, G, w, hx, fun ms S1 vs H1 φ1 fs1 f1 q A1 r1 d1 R1 => ?_⟩
  obtain ⟨ds, e, q⟩ := q
  obtain ⟨r, _⟩ := r1.dats e
  exact ⟨ds, S1, φ1, fs1, E, Qm, r, R1, A1.ndS, q, fun x S' c d H' φ' fs' y A2 rx R2 => hx x S' c d H' φ' fs' y (A1.trans A2) rx R2, fun m S2 v H2 φ2 fs2 fm q A2 r R2 => k m S2 v H2 φ2 fs2 fm q (A1.trans A2) r R2⟩
theorem fe_call {k : Nat} {f : Addr} {fd : FuncData} {ps : List Str} {wf : FF} {x : Str} {p : Pos} {u : FA} (F : FnOk X.prog X.w X.K X.mg X.base (L2.CX X.prog X.w) k f fd ps (LF T wf)) (hr : Room k X.A) (hg : Gl X x) (hm : X.mg x = some (.ref f))
    (hk : PySem.W.keepIn X.K (.ref f) = true) (hb : Binds X.K fd ps []) (tk : Takes X W) (ha : PA X (e :: es) (LAB T W u)) (hdb : (x == ("__debug__" : Str)) = false := by decide)
    (he : starEach (e :: es) X.env = (false, eval e X.env) :: starEach es X.env := by rfl) (hpl : (backTo pos (starEach es X.env)).any (·.1) = false := by rfl) : PE X (.Call (.Name x p) (e :: es) [] pos) (LE T W (fCall wf u)) :=
  PE.weak (pe_callS F hr hg hm hk hb (passAt tk) ha hdb he hpl) fun σ H Q h => fCall_ok h
end
end L2.Fn
/-! Fn, part D: statements, blocks, loops, the bodies of defs. -/
namespace L2.Fn
open PySem PySem.Spec PyProof.Rows

/-- what is wanted behind a statement -/
structure EndP where
  nx : Ev → Sto → Prop
  rt : WP
  bk : Ev → Sto → Prop := fun _ _ => False
  ct : Ev → Sto → Prop := fun _ _ => False
  ex : Exn → Ev → Sto → Prop := fun _ _ _ => False
abbrev FS := EndP → Ev → Sto → Prop

structure AftS (φ : Ob) (fe fs : List Addr) (H : Hp) (φ' : Ob) (fe' fs' : List Addr) (H' : Hp) : Prop where
  pre : Pre φ φ'
  keep : ∀ a o, a ∉ fe ++ (fs ++ φ.ads) → H a = some o → H' a = some o
  new : ∀ a ∈ fe' ++ (fs' ++ φ'.ads), a ∈ fe ++ (fs ++ φ.ads) ∨ H a = none
section
variable {T : Top} {φ φ1 φ2 : Ob} {H H1 H2 : Hp} {S S1 S2 : Sto} {σ : St} {ρ : Ev} {fe fe1 fe2 fs fs1 fs2 fm fm1 fm2 : List Addr}
theorem AftS.refl : AftS φ fe fs H φ fe fs H := ⟨Pre.refl _, fun _ _ _ h => h, fun _ h => .inl h⟩
theorem AftS.trans (A : AftS φ fe fs H φ1 fe1 fs1 H1) (B : AftS φ1 fe1 fs1 H1 φ2 fe2 fs2 H2) : AftS φ fe fs H φ2 fe2 fs2 H2 := by
  refine ⟨A.pre.trans B.pre, fun a o n h => ?_, fun a h => ?_⟩
  · refine B.keep a o (fun z => ?_) (A.keep a o n h)
    rcases A.new a z with q | q
    · exact n q
    · rw [q] at h; cases h
  · rcases B.new a h with z | z
    · exact A.new a z
    · by_cases hm : a ∈ fe ++ (fs ++ φ.ads)
      · exact .inl hm
      · refine .inr ?_
        cases q : H a with
        | none => rfl
        | some o => rw [A.keep a o hm q] at z; cases z
/-- behind an expression -/
theorem Aft.s (A : Aft φ fs H φ1 fs1 fm H1) : AftS φ fe fs H φ1 (fm ++ fe) fs1 H1 := by
  refine ⟨A.pre, fun a o n h => A.keep a o (fun z => n (List.mem_append_right _ z)) h, fun a h => ?_⟩
  rw [List.append_assoc] at h
  rcases List.mem_append.mp h with h | h
  · rcases A.new a (List.mem_append_left _ h) with z | z
    · exact .inl (List.mem_append_right _ z)
    · exact .inr z
  · rcases List.mem_append.mp h with h | h
    · exact .inl (List.mem_append_left _ h)
    · rcases A.new a (List.mem_append_right _ h) with z | z
      · exact .inl (List.mem_append_right _ z)
      · exact .inr z
theorem AftS.sub {fe3 : List Addr} (A : AftS φ fe fs H φ1 fe1 fs1 H1) (h : ∀ a ∈ fe3, a ∈ fe1) : AftS φ fe fs H φ1 fe3 fs1 H1 :=
  ⟨A.pre, A.keep, fun a z => (List.mem_append.mp z).elim (fun z => A.new a (List.mem_append_left _ (h a z))) fun z => A.new a (List.mem_append_right _ z)⟩
end
/-- what the reading's ends ask -/
structure EndOk (T : Top) (φ : Ob) (fe fs : List Addr) (H : Hp) (P : EndP) (W : WX) (D : Ends) : Prop where
  nx : ∀ ρ' S' σ' H' φ' fe' fs', P.nx ρ' S' → AftS φ fe fs H φ' fe' fs' H' → Good T φ' H' σ' ρ' S' fe' fs' → D.nx σ' H'
  bk : ∀ ρ' S' σ' H' φ' fe' fs', P.bk ρ' S' → AftS φ fe fs H φ' fe' fs' H' → Good T φ' H' σ' ρ' S' fe' fs' → D.bk σ' H'
  ct : ∀ ρ' S' σ' H' φ' fe' fs', P.ct ρ' S' → AftS φ fe fs H φ' fe' fs' H' → Good T φ' H' σ' ρ' S' fe' fs' → D.ct σ' H'
  rt : ∀ m S' v H' φ' fm fs', P.rt m S' → AftS φ fe fs H φ' fm fs' H' → (fm ++ (fs' ++ φ'.ads)).Nodup → Rep T φ' H' v m fm → RepS T H' φ' φ' S' fs' → D.rt v H'
  ex : ∀ x ρ' S' c d σ' H' φ' fe' fs', P.ex x ρ' S' → AftS φ fe fs H φ' fe' fs' H' → Good T φ' H' σ' ρ' S' fe' fs' → RepX T φ' H' c d x → W c d σ' H'
section
variable {T : Top} {φ φ1 φ2 : Ob} {H H1 H2 : Hp} {S S1 S2 : Sto} {σ : St} {ρ : Ev} {fe fe1 fe2 fs fs1 fs2 fm fm1 fm2 : List Addr} {P : EndP} {W : WX} {D : Ends}
theorem EndOk.aft (k : EndOk T φ fe fs H P W D) (A : AftS φ fe fs H φ1 fe1 fs1 H1) : EndOk T φ1 fe1 fs1 H1 P W D :=
  ⟨fun ρ' S' σ' H' φ' fe' fs' p a g => k.nx ρ' S' σ' H' φ' fe' fs' p (A.trans a) g, fun ρ' S' σ' H' φ' fe' fs' p a g => k.bk ρ' S' σ' H' φ' fe' fs' p (A.trans a) g,
   fun ρ' S' σ' H' φ' fe' fs' p a g => k.ct ρ' S' σ' H' φ' fe' fs' p (A.trans a) g, fun m S' v H' φ' fm fs' p a n r R => k.rt m S' v H' φ' fm fs' p (A.trans a) n r R,
   fun x ρ' S' c d σ' H' φ' fe' fs' p a g r => k.ex x ρ' S' c d σ' H' φ' fe' fs' p (A.trans a) g r⟩
theorem EndOk.wx (k : EndOk T φ fe fs H P W D) (G : Good T φ H σ ρ S fe fs) : WxE T φ fs H σ (fun x S' => P.ex x ρ S') W :=
  fun x S' c d H' φ' fs' e A r R => k.ex x ρ S' c d σ H' φ' fe fs' e (A.s.sub fun a z => List.mem_append_right _ z) (A.good G R) r
end
def LS (T : Top) (W : WX) (t : FS) : TS := fun D σ H => ∃ (ρ : Ev) (S : Sto) (φ : Ob) (fe fs : List Addr) (P : EndP), Good T φ H σ ρ S fe fs ∧ t P ρ S ∧ EndOk T φ fe fs H P W D
theorem PS.weak {X : Cx} {e : Stmt} {t t' : TS} (h : PS X e t) (k : ∀ D σ H, t' D σ H → t D σ H) : PS X e t' := ⟨fun pins s σ H D I w => h.run pins s σ H D I (k _ _ _ w)⟩
theorem PSs.weak {X : Cx} {e : List Stmt} {t t' : TS} (h : PSs X e t) (k : ∀ D σ H, t' D σ H → t D σ H) : PSs X e t' := ⟨fun pins s σ H D I w => h.run pins s σ H D I (k _ _ _ w)⟩

section
variable {X : Cx} {T : Top} {W : WX} {e a b : Expr} {t ta tb : FE} {pos : Pos} {es : List Expr} {st : Stmt} {rest body : List Stmt} {u w : FS}
def fNext : FS := fun P ρ S => P.nx ρ S
def fSeq (t u : FS) : FS := fun P ρ S => t { P with nx := u P } ρ S
theorem fs_nil : PSs X [] (LS T W fNext) := PSs.weak pss_nil fun D σ H ⟨ρ, S, φ, fe, fs, P, G, w, k⟩ => k.nx ρ S σ H φ fe fs w AftS.refl G
theorem fs_one (h : PS X st (LS T W u)) : PSs X [st] (LS T W u) := pss_one h
theorem fs_cons (h : PS X st (LS T W u)) (hr : PSs X rest (LS T W w)) : PSs X (st :: rest) (LS T W (fSeq u w)) := PSs.weak (pss_cons h hr) fun D σ H ⟨ρ, S, φ, fe, fs, P, G, q, k⟩ =>
  ⟨ρ, S, φ, fe, fs, { P with nx := w P }, G, q, ⟨fun ρ' S' σ' H' φ' fe' fs' p A G' => ⟨ρ', S', φ', fe', fs', P, G', p, k.aft A⟩, k.bk, k.ct, k.rt, k.ex⟩⟩
theorem fs_pass : PS X (.Pass pos) (LS T W fNext) := PS.weak ps_pass fun D σ H ⟨ρ, S, φ, fe, fs, P, G, w, k⟩ => k.nx ρ S σ H φ fe fs w AftS.refl G
def fBreak : FS := fun P ρ S => P.bk ρ S
def fCont : FS := fun P ρ S => P.ct ρ S
theorem fs_break : PS X (.Break pos) (LS T W fBreak) := PS.weak ps_break fun D σ H ⟨ρ, S, φ, fe, fs, P, G, w, k⟩ => k.bk ρ S σ H φ fe fs w AftS.refl G
theorem fs_continue : PS X (.Continue pos) (LS T W fCont) := PS.weak ps_continue fun D σ H ⟨ρ, S, φ, fe, fs, P, G, w, k⟩ => k.ct ρ S σ H φ fe fs w AftS.refl G
theorem fs_doc {x : Str} {j : Nat} {pos' : Pos} : PS X (.Expr (.Constant (.str x) j pos) pos') (LS T W fNext) := PS.weak ps_doc fun D σ H ⟨ρ, S, φ, fe, fs, P, G, w, k⟩ => k.nx ρ S σ H φ fe fs w AftS.refl G
def fDrop (t : FE) : FS := fun P ρ S => t ρ S (fun _ S' => P.nx ρ S') fun x S' => P.ex x ρ S'
theorem fs_expr (he : PE X e (LB T W t)) (hs : swapsWith e none pos.line X.env = pure false := by rfl) : PS X (.Expr e pos) (LS T W (fDrop t)) := PS.weak (ps_expr he hs) fun D σ H ⟨ρ, S, φ, fe, fs, P, G, w, k⟩ =>
  ⟨ρ, S, φ, fe, fs, _, _, G, w, k.wx G, fun m S' v H' φ' fs' fm q A r d R => k.nx ρ S' σ H' φ' fe fs' q (A.s.sub fun a z => List.mem_append_right _ z) (A.good G R)⟩
def fRet (t : FE) : FS := fun P ρ S => t ρ S P.rt fun x S' => P.ex x ρ S'
theorem fs_ret (he : PE X e (LE T W t)) : PS X (.Return (some e) pos) (LS T W (fRet t)) := PS.weak (ps_ret he) fun D σ H ⟨ρ, S, φ, fe, fs, P, G, w, k⟩ =>
  ⟨ρ, S, φ, fe, fs, _, _, G, w, k.wx G, fun m S' v H' φ' fs' fm q A r R => k.rt m S' v H' φ' fm fs' q (A.s.sub fun a z => List.mem_append_left _ z) A.nd r R⟩
/-- return x: what the name holds goes out -/
theorem RepE.get1 {φ : Ob} {H : Hp} : ∀ {σ : St} {ρ : Ev} {f : List Addr} {i : Nat} {m : M}, RepE T φ H σ ρ f → f.Nodup → ρ[i]? = some (some m) → ∃ v g, σ[i]? = some (some v) ∧ Rep T φ H v m g ∧ (∀ a ∈ g, a ∈ f) ∧ g.Nodup
  | _, _, _, i, _, .nil, _, h => by simp at h
  | _, _, _, 0, _, .skip r, _, h => by simp at h
  | _, _, _, i + 1, _, .skip r, nd, h => by
    obtain ⟨v, g, h1, h2, h3⟩ := RepE.get1 (i := i) r nd (by simpa using h)
    exact ⟨v, g, by simpa using h1, h2, h3⟩
  | _, _, _, 0, _, .cons (v := v) (f := f) x r, nd, h => by
    simp at h
    subst h
    exact ⟨v, f, by simp, x, fun a z => List.mem_append_left _ z, (List.nodup_append.mp nd).1⟩
  | _, _, _, i + 1, _, .cons x r, nd, h => by
    obtain ⟨v, g, h1, h2, h3, h4⟩ := RepE.get1 (i := i) r (List.nodup_append.mp nd).2.1 (by simpa using h)
    exact ⟨v, g, by simpa using h1, h2, fun a z => List.mem_append_right _ (h3 a z), h4⟩
def fRetV (i : Nat) : FS := fun P ρ S => ∃ m, ρ[i]? = some (some m) ∧ P.rt m S
theorem fs_retV {i : Nat} (he : PE X e (tVar i)) : PS X (.Return (some e) pos) (LS T W (fRetV i)) := PS.weak (ps_ret he) fun D σ H ⟨ρ, S, φ, fe, fs, P, G, ⟨m, hm, w⟩, k⟩ => by
  have nd := List.nodup_append.mp G.nd
  obtain ⟨v, g, h1, h2, h3, h4⟩ := G.env.get1 nd.1 hm
  exact ⟨v, h1, k.rt m S v H φ g fs w (AftS.refl.sub h3) (List.nodup_append.mpr ⟨h4, nd.2.1, fun a h b h' => nd.2.2 a (h3 a h) b h'⟩) h2 G.sto⟩
def fRetN : FS := fun P _ S => P.rt (.dat .non) S
theorem fs_retN : PS X (.Return none pos) (LS T W fRetN) := PS.weak ps_retN fun D σ H ⟨ρ, S, φ, fe, fs, P, G, w, k⟩ =>
  k.rt _ S _ H φ [] fs w (AftS.refl.sub fun _ z => nomatch z) G.ndS (.dat .non) G.sto
def fIfS (c : FT) (t u : FS) : FS := fun P ρ S => c ρ S (fun b S' => if b = true then t P ρ S' else u P ρ S') fun x S' => P.ex x ρ S'
theorem fs_if {c : Expr} {x y : List Stmt} {tc : FT} (hc : PT X c (LT T W tc)) (ha : PSs X x (LS T W u)) (hb : PSs X y (LS T W w)) : PS X (.If c x y pos) (LS T W (fIfS tc u w)) :=
  PS.weak (ps_if hc ha hb) fun D σ H ⟨ρ, S, φ, fe, fs, P, G, q, k⟩ => ⟨ρ, S, φ, fe, fs, _, _, G, q, k.wx G, fun b S' H' φ' fs' q A R => by
    have B : AftS φ fe fs H φ' fe fs' H' := A.s.sub fun a z => List.mem_append_right _ z
    cases b with
    | true => exact ⟨ρ, S', φ', fe, fs', P, A.good G R, q, k.aft B⟩
    | false => exact ⟨ρ, S', φ', fe, fs', P, A.good G R, q, k.aft B⟩⟩
theorem fs_never : PS X st (LS T W fun _ _ _ => False) := PS.weak ps_never fun D σ H ⟨ρ, S, φ, fe, fs, P, G, w, k⟩ => w

/-! ### targets -/
abbrev FG := M → Ev → (Ev → Prop) → Prop
abbrev FGs := List D → Ev → (Ev → Prop) → Prop
/-- the value stands apart from the frame and the instances; slots are set, nothing else -/
def LG (T : Top) (vs : List Nat) (g : FG) : TG := fun v σ H Q => ∃ (m : M) (ρ : Ev) (S : Sto) (φ : Ob) (fm fe fs : List Addr) (Qm : Ev → Prop), Rep T φ H v m fm ∧ Good T φ H σ ρ S fe fs ∧ (fm ++ fe).Nodup ∧ (∀ a ∈ fm, a ∉ fs ++ φ.ads) ∧ g m ρ Qm ∧
  ∀ ρ' σ' fe', Qm ρ' → (∀ a ∈ fe', a ∈ fm ++ fe) → Good T φ H σ' ρ' S fe' fs → wipe σ' vs = wipe σ vs → Q σ' H
def LGs (T : Top) (vs : List Nat) (g : FGs) : TGs := fun v σ H Q => ∃ (ds : List D) (ρ : Ev) (S : Sto) (φ : Ob) (fe fs : List Addr) (Qm : Ev → Prop), FDs T φ H v ds ∧ Good T φ H σ ρ S fe fs ∧ g ds ρ Qm ∧
  ∀ ρ' σ' fe', Qm ρ' → (∀ a ∈ fe', a ∈ fe) → Good T φ H σ' ρ' S fe' fs → wipe σ' vs = wipe σ vs → Q σ' H
theorem PG.weak {e : Expr} {t t' : TG} (h : PG X e t) (k : ∀ v σ H Q, t' v σ H Q → t v σ H Q) : PG X e t' := ⟨fun pins s σ H v u Q I r w => h.run pins s σ H v u Q I r (k _ _ _ _ w)⟩
theorem PGs.weak {e : List Expr} {t t' : TGs} (h : PGs X e t) (k : ∀ v σ H Q, t' v σ H Q → t v σ H Q) : PGs X e t' := ⟨fun pins s σ H v u Q I r w => h.run pins s σ H v u Q I r (k _ _ _ _ w)⟩
theorem RepE.set {φ : Ob} {H : Hp} {v : V} {m : M} {fm : List Addr} (x : Rep T φ H v m fm) : ∀ {σ : St} {ρ : Ev} {f : List Addr} {i : Nat}, RepE T φ H σ ρ f → (fm ++ f).Nodup → i < ρ.length →
    ∃ f', RepE T φ H (σ.set i (some v)) (ρ.set i (some m)) f' ∧ (∀ a ∈ f', a ∈ fm ++ f) ∧ f'.Nodup
  | _, _, _, i, .nil, _, h => absurd h (Nat.not_lt_zero _)
  | _, _, _, 0, .skip (f := f) r, nd, _ => ⟨fm ++ f, .cons x r, fun _ z => z, nd⟩
  | _, _, _, i + 1, .skip r, nd, h => by
    obtain ⟨f', h1, h2, h3⟩ := RepE.set x (i := i) r nd (by simpa using h)
    exact ⟨f', .skip h1, h2, h3⟩
  | _, _, _, 0, .cons (f := f) (g := g) y r, nd, _ => by
    have q := List.nodup_append.mp nd
    refine ⟨fm ++ g, .cons x r, fun a z => ?_, List.nodup_append.mpr ⟨q.1, (List.nodup_append.mp q.2.1).2.1, fun a h b h' => q.2.2 a h b (List.mem_append_right _ h')⟩⟩
    rcases List.mem_append.mp z with z | z
    · exact List.mem_append_left _ z
    · exact List.mem_append_right _ (List.mem_append_right _ z)
  | _, _, _, i + 1, .cons (f := f) (g := g) y r, nd, h => by
    have q := List.nodup_append.mp nd
    have q2 := List.nodup_append.mp q.2.1
    obtain ⟨f', h1, h2, h3⟩ := RepE.set x (i := i) r (List.nodup_append.mpr ⟨q.1, q2.2.1, fun a h b h' => q.2.2 a h b (List.mem_append_right _ h')⟩) (by simpa using h)
    refine ⟨f ++ f', .cons y h1, fun a z => ?_, List.nodup_append.mpr ⟨q2.1, h3, fun a h b h' e => ?_⟩⟩
    · rcases List.mem_append.mp z with z | z
      · exact List.mem_append_right _ (List.mem_append_left _ z)
      · rcases List.mem_append.mp (h2 a z) with z | z
        · exact List.mem_append_left _ z
        · exact List.mem_append_right _ (List.mem_append_right _ z)
    · rcases List.mem_append.mp (h2 b h') with z | z
      · exact q.2.2 b z a (List.mem_append_left _ h) e.symm
      · exact q2.2.2 a h b z e
theorem RepE.len {φ : Ob} {H : Hp} : ∀ {σ : St} {ρ : Ev} {f : List Addr}, RepE T φ H σ ρ f → σ.length = ρ.length
  | _, _, _, .nil => rfl
  | _, _, _, .skip r => by rw [List.length_cons, List.length_cons, r.len]
  | _, _, _, .cons _ r => by rw [List.length_cons, List.length_cons, r.len]
def gN (i : Nat) : FG := fun m ρ Q => i < ρ.length ∧ Q (ρ.set i (some m))
theorem wipe_set {σ : St} {i : Nat} {x : Option V} : ∀ {vs : List Nat}, i ∈ vs → wipe (σ.set i x) vs = wipe σ vs
  | v :: vs, h => by
    unfold wipe
    by_cases e : i ∈ vs
    · rw [wipe_set e]
    · have ev : v = i := by
        rcases List.mem_cons.mp h with z | z
        · exact z.symm
        · exact absurd z e
      subst ev
      have sw : ∀ (us : List Nat), v ∉ us → wipe (σ.set v x) us = (wipe σ us).set v x := by
        intro us
        induction us with
        | nil => intro _; rfl
        | cons u us ih =>
          intro hu
          unfold wipe
          rw [ih fun z => hu (List.mem_cons_of_mem _ z)]
          exact List.set_comm _ _ fun z => hu (by rw [z]; exact List.mem_cons_self)
      rw [sw vs e, List.set_set]
/-- a slot set -/
theorem Good.setN {φ : Ob} {H : Hp} {v : V} {m : M} {σ : St} {ρ : Ev} {S : Sto} {fm fe fs : List Addr} {i : Nat} (G : Good T φ H σ ρ S fe fs) (r : Rep T φ H v m fm) (nd : (fm ++ fe).Nodup) (d : ∀ a ∈ fm, a ∉ fs ++ φ.ads) (hi : i < ρ.length) :
    ∃ fe', (∀ a ∈ fe', a ∈ fm ++ fe) ∧ Good T φ H (σ.set i (some v)) (ρ.set i (some m)) S fe' fs := by
  obtain ⟨f', h1, h2, h3⟩ := G.env.set r nd hi
  refine ⟨f', h2, h1, G.sto, List.nodup_append.mpr ⟨h3, G.ndS, fun a h b h' e => ?_⟩⟩
  subst e
  rcases List.mem_append.mp (h2 a h) with z | z
  · exact d a z h'
  · exact G.disj a z h'
theorem fg_name {vs : List Nat} {i : Nat} (h : PG X e (gName i)) (hv : i ∈ vs := by decide) : PG X e (LG T vs (gN i)) := PG.weak h fun v σ H Q ⟨m, ρ, S, φ, fm, fe, fs, Qm, r, G, nd, d, w, k⟩ => by
  obtain ⟨fe', h1, h2⟩ := G.setN r nd d w.1
  exact k _ _ fe' w.2 h1 h2 (wipe_set hv)
def gNilP : FGs := fun ds ρ Q => ds = [] ∧ Q ρ
def gConsP (g : FG) (gs : FGs) : FGs := fun ds ρ Q => ∃ d r, ds = d :: r ∧ g (.dat d) ρ fun ρ' => gs r ρ' Q
theorem FDs.of_nil {φ : Ob} {H : Hp} {v : List V} (r : FDs T φ H v []) : v = [] := by cases r; rfl
theorem fgs_nil {vs : List Nat} : PGs X [] (LGs T vs gNilP) := PGs.weak pgs_nil fun v σ H Q ⟨ds, ρ, S, φ, fe, fs, Qm, r, G, w, k⟩ => by
  obtain ⟨e, w⟩ := w
  subst e
  exact ⟨r.of_nil, k ρ σ fe w (fun _ z => z) G rfl⟩
theorem fgs_cons {vs : List Nat} {g : FG} {gs : FGs} (h1 : PG X e (LG T vs g)) (h2 : PGs X es (LGs T vs gs)) (hs : (assignEach (e :: es) X.env).map (·.2) = assign e X.env :: (assignEach es X.env).map (·.2) := by rfl) : PGs X (e :: es) (LGs T vs (gConsP g gs)) :=
  PGs.weak (pgs_cons h1 h2 hs) fun v σ H Q ⟨ds, ρ, S, φ, fe, fs, Qm, r, G, w, k⟩ => by
    obtain ⟨d, rr, e, w⟩ := w
    subst e
    cases r with
    | @cons v vs d ds x r =>
      exact ⟨v, vs, rfl, .dat d, ρ, S, φ, [], fe, fs, _, .dat x, G, (List.nodup_append.mp G.nd).1, fun _ z => (nomatch z), w, fun ρ' σ' fe' q sub G' hw =>
        ⟨rr, ρ', S, φ, fe', fs, Qm, r, G', q, fun ρ2 σ2 fe2 q2 sub2 G2 hw2 => k ρ2 σ2 fe2 q2 (fun a z => sub a (sub2 a z)) G2 (hw2.trans hw)⟩⟩
def gTupP (n : Nat) (gs : FGs) : FG := fun m ρ Q => match m with
  | .dat (.tup ds) => ds.length = n ∧ gs ds ρ Q
  | _ => False
theorem fg_tup {vs : List Nat} {kk n : Nat} {gs : FGs} (hK : X.K = T.K) (hc : X.calm = true) (h : PGs X es (LGs T vs gs)) (hn : (assignEach es X.env).length = n := by rfl) (hst : (assignEach es X.env).findIdx? (·.1) = none := by rfl) : PG X (.Tuple es kk pos) (LG T vs (gTupP n gs)) :=
  PG.weak (pg_tup hc h hn hst) fun v σ H Q ⟨m, ρ, S, φ, fm, fe, fs, Qm, r, G, nd, d, w, k⟩ => by
    cases r with
    | dct => exact w.elim
    | lst => exact w.elim
    | @dat v d r =>
      cases r with
      | @tup a xs ds hq rs =>
        exact ⟨a, xs, rfl, by rw [hK]; exact SqT.of hq, by rw [rs.len]; exact w.1, ds, ρ, S, φ, fe, fs, Qm, rs, G, w.2, k⟩
      | _ => exact w.elim
def fAsg (t : FE) (g : FG) : FS := fun P ρ S => t ρ S (fun m S' => g m ρ fun ρ' => P.nx ρ' S') fun x S' => P.ex x ρ S'
theorem lAsg {vs : List Nat} {g : FG} {D : Ends} {σ : St} {H : Hp} (h : LS T W (fAsg t g) D σ H) : LE T W t σ H fun x H1 => LG T vs g x σ H1 D.nx := by
  obtain ⟨ρ, S, φ, fe, fs, P, G, w, k⟩ := h
  refine ⟨ρ, S, φ, fe, fs, _, _, G, w, k.wx G, fun m S' v H' φ' fs' fm q A r R => ?_⟩
  have G' := A.good G R
  refine ⟨m, ρ, S', φ', fm, fe, fs', _, r, G', List.nodup_append.mpr ⟨(List.nodup_append.mp A.nd).1, (List.nodup_append.mp G.nd).1, fun a h b h' e => ?_⟩, A.disj, q, fun ρ2 σ2 fe2 q2 sub G2 _ => k.nx ρ2 S' σ2 H' φ' fe2 fs' q2 (A.s.sub sub) G2⟩
  subst e
  refine A.apart G.disj (fun a ha => ?_) a h' (List.mem_append_left _ h)
  obtain ⟨xs, q, _⟩ := G.env.own a ha
  rw [q]
  exact fun z => nomatch z
theorem fs_asg {vs : List Nat} {tg : Expr} {g : FG} (he : PE X e (LE T W t)) (hg : PG X tg (LG T vs g)) (hs : swapsWithSole [tg] e pos.line X.env = pure false := by rfl) (hw : swappedStores [tg] e X.env = pure none := by rfl)
    (h1 : (assignEach [tg] X.env).map (·.2) = [assign tg X.env] := by rfl) : PS X (.Assign [tg] e pos) (LS T W (fAsg t g)) := PS.weak (ps_asg he hg hs hw h1) fun D σ H h => lAsg h
theorem lSet {D : Ends} {σ : St} {H : Hp} {i : Nat} (h : LS T W (fAsg t (gN i)) D σ H) : tAsg (LE T W t) (gName i) D σ H := by
  obtain ⟨ρ, S, φ, fe, fs, E, Qm, G, w, hx, k⟩ := lAsg (vs := [i]) h
  refine ⟨ρ, S, φ, fe, fs, E, Qm, G, w, hx, fun m S' v H' φ' fs' fm q A r R => ?_⟩
  obtain ⟨m, ρ, S, φ, fm, fe, fs, Qm, r, G, nd, d, w, k⟩ := k m S' v H' φ' fs' fm q A r R
  obtain ⟨fe', h1, h2⟩ := G.setN r nd d w.1
  exact k _ _ fe' w.2 h1 h2 (wipe_set (by simp))
/-- name = value -/
theorem fs_set {i : Nat} {x : Str} {pos' : Pos} (hN : X.N.Nodup) (hi : X.N[i]? = some x) (hx : Loc X.env.scope x) (he : PE X e (LE T W t)) (hs : swapsWith e (some (.Name x pos')) pos.line X.env = pure false := by rfl) (hf : X.fn x = true ∨ X.env.scope.names.lookup x = some .local := by first | exact .inl rfl | exact .inr rfl | assumption) :
    PS X (.Assign [.Name x pos'] e pos) (LS T W (fAsg t (gN i))) := PS.weak (ps_set hN hi hx he hs hf) fun D σ H h => lSet h

/-! ### loops -/
def fWhile (c : FT) (b : FS) : FS := fun P ρ S => ∃ I : Nat → Ev → Sto → Prop, (∃ n, I n ρ S) ∧ ∀ n ρ S, I n ρ S →
  c ρ S (fun k S' => if k = true then b { P with nx := fun ρ' S' => ∃ n', n' < n ∧ I n' ρ' S', ct := fun ρ' S' => ∃ n', n' < n ∧ I n' ρ' S', bk := P.nx } ρ S' else P.nx ρ S') fun x S' => P.ex x ρ S'
theorem fs_while {c : Expr} {tc : FT} (hp : PassesOwn (model X.prog X.w) X.A X.env X.xe) (hc : PT X c (LT T W tc)) (hb : PSs X body (LS T W u)) : PS X (.While c body [] pos) (LS T W (fWhile tc u)) :=
  PS.weak (ps_while hp hc hb) fun D σ H ⟨ρ, S, φ, fe, fs, P, G, ⟨I, ⟨n, hn⟩, turn⟩, k⟩ => by
    refine ⟨fun m σ' H' => ∃ (ρ' : Ev) (S' : Sto) (φ' : Ob) (fe' fs' : List Addr), I m ρ' S' ∧ AftS φ fe fs H φ' fe' fs' H' ∧ Good T φ' H' σ' ρ' S' fe' fs', ⟨n, ρ, S, φ, fe, fs, hn, AftS.refl, G⟩, fun m σ1 H1 ⟨ρ1, S1, φ1, fe1, fs1, h1, A1, G1⟩ => ?_⟩
    have k1 := k.aft A1
    refine ⟨ρ1, S1, φ1, fe1, fs1, _, _, G1, turn m ρ1 S1 h1, k1.wx G1, fun b S2 H2 φ2 fs2 q A2 R2 => ?_⟩
    have B : AftS φ1 fe1 fs1 H1 φ2 fe1 fs2 H2 := A2.s.sub fun a z => List.mem_append_right _ z
    have G2 := A2.good G1 R2
    cases b with
    | false => exact k1.nx ρ1 S2 σ1 H2 φ2 fe1 fs2 q B G2
    | true =>
      refine ⟨fun σ' H' => ∃ m', m' < m ∧ ∃ (ρ' : Ev) (S' : Sto) (φ' : Ob) (fe' fs' : List Addr), I m' ρ' S' ∧ AftS φ fe fs H φ' fe' fs' H' ∧ Good T φ' H' σ' ρ' S' fe' fs', fun σ' H' z => z, ?_⟩
      have k2 := k1.aft B
      refine ⟨ρ1, S2, φ2, fe1, fs2, _, G2, q, ⟨fun ρ' S' σ' H' φ' fe' fs' p A G' => ?_, fun ρ' S' σ' H' φ' fe' fs' p A G' => k2.nx ρ' S' σ' H' φ' fe' fs' p A G', fun ρ' S' σ' H' φ' fe' fs' p A G' => ?_, k2.rt, k2.ex⟩⟩
      · obtain ⟨m', hm, hI⟩ := p
        exact ⟨m', hm, ρ', S', φ', fe', fs', hI, (A1.trans B).trans A, G'⟩
      · obtain ⟨m', hm, hI⟩ := p
        exact ⟨m', hm, ρ', S', φ', fe', fs', hI, (A1.trans B).trans A, G'⟩
abbrev FI := Ev → Sto → (List D → Sto → Prop) → XP → Prop
/-- what a for walks: pure items -/
def Walks (T : Top) (φ : Ob) (J : It) (H : Hp) (ds : List D) : Prop := ∀ (i : Nat) (H2 : Hp) (φ2 : Ob), Ext H H2 → Pre φ φ2 →
  (∀ d, ds[i]? = some d → J.go i H2 ∧ ∀ x H3, J.yld i H2 x H3 → Fresh H2 H3 [] ∧ FD T φ2 H3 x d) ∧ (ds.length ≤ i → J.stop i H2)
def LI (T : Top) (W : WX) (t : FI) : TI := fun σ H R => ∃ (ρ : Ev) (S : Sto) (φ : Ob) (fe fs : List Addr) (E : XP) (Qm : List D → Sto → Prop), Good T φ H σ ρ S fe fs ∧ t ρ S Qm E ∧ WxE T φ fs H σ E W ∧
  ∀ ds S' J H' φ' fs', Qm ds S' → Aft φ fs H φ' fs' [] H' → RepS T H' φ' φ' S' fs' → Walks T φ' J H' ds → R J H'
theorem PI.weak {tg iter : Expr} {t t' : TI} (h : PI X tg iter t) (k : ∀ σ H Q, t' σ H Q → t σ H Q) : PI X tg iter t' := ⟨fun pins s σ H R I w => h.run pins s σ H R I (k _ _ _ w)⟩
def forW (g : FG) (b : FS) (P : EndP) : List D → Ev → Sto → Prop
  | [], ρ, S => P.nx ρ S
  | d :: ds, ρ, S => g (.dat d) ρ fun ρ1 => b { P with nx := forW g b P ds, ct := forW g b P ds, bk := P.nx } ρ1 S
def fFor (t : FI) (g : FG) (b : FS) : FS := fun P ρ S => t ρ S (fun ds S' => forW g b P ds ρ S') fun x S' => P.ex x ρ S'
theorem AftS.ext {φ φ1 : Ob} {H H1 : Hp} {σ : St} {ρ : Ev} {S : Sto} {fe fs fe1 fs1 : List Addr} (A : AftS φ fe fs H φ1 fe1 fs1 H1) (G : Good T φ H σ ρ S fe fs) : Ext H H1 := by
  have no : ∀ (a : Addr) (u : HO), H a = some u → ¬ OwnO u → (∀ C dx fs, u ≠ .ins C dx fs) → a ∉ fe ++ (fs ++ φ.ads) := fun a u h n n2 z => by
    rcases List.mem_append.mp z with z | z
    · exact own_no (.inl (G.env.own a z)) h n n2
    · exact own_no (G.sto.own a z) h n n2
  exact ⟨fun a xs h => A.keep a _ (no a _ h (fun z => z) fun _ _ _ z => nomatch z) h, fun a o u h => A.keep a _ (no a _ h (fun z => z) fun _ _ _ z => nomatch z) h, fun a u h => A.keep a _ (no a _ h (fun z => z) fun _ _ _ z => nomatch z) h⟩
theorem fs_for {vs : List Nat} {tg iter : Expr} {ti : FI} {g : FG} (hp : PassesOwn (model X.prog X.w) X.A X.env X.xe) (hc : X.calm = true) (hi : PI X tg iter (LI T W ti)) (hg : PG X tg (LG T vs g)) (hb : PSs X body (LS T W u))
    (hs : ∀ x, foldedSetIterable iter X.env x = pure x := by intro _; rfl) : PS X (.For tg iter body [] pos) (LS T W (fFor ti g u)) :=
  PS.weak (ps_for hp hc hi hg hb hs) fun D σ H ⟨ρ, S, φ, fe, fs, P, G, w, k⟩ => by
    refine ⟨ρ, S, φ, fe, fs, _, _, G, w, k.wx G, fun ds S0 J H0 φ0 fs0 q A0 R0 wk => ?_⟩
    have G0 := A0.good G R0
    have B0 : AftS φ fe fs H φ0 fe fs0 H0 := A0.s.sub fun a z => List.mem_append_right _ z
    refine ⟨fun i m σ' H' => i + m = ds.length ∧ ∃ (ρ' : Ev) (S' : Sto) (φ' : Ob) (fe' fs' : List Addr), forW g u P (ds.drop i) ρ' S' ∧ AftS φ0 fe fs0 H0 φ' fe' fs' H' ∧ Good T φ' H' σ' ρ' S' fe' fs', ⟨ds.length, by omega, ρ, S0, φ0, fe, fs0, q, AftS.refl, G0⟩, ?_⟩
    intro i m σ1 H1 ⟨him, ρ1, S1, φ1, fe1, fs1, h1, A1, G1⟩
    have wk1 := wk i H1 φ1 (A1.ext G0) A1.pre
    have k1 := k.aft (B0.trans A1)
    by_cases hi : ds.length ≤ i
    · rw [List.drop_of_length_le hi] at h1
      exact .inl ⟨wk1.2 hi, k1.nx ρ1 S1 σ1 H1 φ1 fe1 fs1 h1 AftS.refl G1⟩
    · have hlt : i < ds.length := by omega
      rw [List.drop_eq_getElem_cons hlt] at h1
      obtain ⟨go, yl⟩ := wk1.1 ds[i] (List.getElem?_eq_getElem hlt)
      refine .inr ⟨go, fun σ' H' => ∃ m', m' < m ∧ (i + 1) + m' = ds.length ∧ ∃ (ρ' : Ev) (S' : Sto) (φ' : Ob) (fe' fs' : List Addr), forW g u P (ds.drop (i + 1)) ρ' S' ∧ AftS φ0 fe fs0 H0 φ' fe' fs' H' ∧ Good T φ' H' σ' ρ' S' fe' fs', fun σ' H' z => z, fun x H2 hy => ?_⟩
      obtain ⟨F, rd⟩ := yl x H2 hy
      have A2 := F.aft G1.sto G1.ndS
      have R2 := F.sto G1.sto
      have G2 := A2.good G1 R2
      have B2 : AftS φ1 fe1 fs1 H1 φ1 fe1 fs1 H2 := A2.s.sub fun a z => List.mem_append_right _ z
      refine ⟨.dat ds[i], ρ1, S1, φ1, [], fe1, fs1, _, .dat rd, G2, (List.nodup_append.mp G2.nd).1, fun _ z => (nomatch z), h1, fun ρ3 σ3 fe3 q3 sub3 G3 _ => ?_⟩
      have B3 : AftS φ1 fe1 fs1 H1 φ1 fe3 fs1 H2 := B2.sub sub3
      have k3 := k1.aft B3
      have C3 : AftS φ0 fe fs0 H0 φ1 fe3 fs1 H2 := A1.trans B3
      refine ⟨ρ3, S1, φ1, fe3, fs1, _, G3, q3, ⟨fun ρ' S' σ' H' φ' fe' fs' p A G' => ?_, fun ρ' S' σ' H' φ' fe' fs' p A G' => k3.nx ρ' S' σ' H' φ' fe' fs' p A G', fun ρ' S' σ' H' φ' fe' fs' p A G' => ?_, k3.rt, k3.ex⟩⟩
      · exact ⟨m - 1, by omega, by omega, ρ', S', φ', fe', fs', p, C3.trans A, G'⟩
      · exact ⟨m - 1, by omega, by omega, ρ', S', φ', fe', fs', p, C3.trans A, G'⟩
end

/-! ### the body of a def -/
def blanks : Nat → Ev
  | 0 => []
  | n + 1 => none :: blanks n
theorem blanks_eq : ∀ n, blanks n = List.replicate n none
  | 0 => rfl
  | n + 1 => by rw [blanks, blanks_eq n]; rfl
/-- a def's ends -/
def endOf (Q : WP) (E : XP) : EndP := { nx := fun _ S' => Q (.dat .non) S', rt := Q, ex := fun x _ S' => E x S' }
theorem endOf_nx (Q : WP) (E : XP) (ρ : Ev) (S : Sto) : (endOf Q E).nx ρ S = Q (.dat .non) S := rfl
theorem endOf_rt (Q : WP) (E : XP) : (endOf Q E).rt = Q := rfl
theorem endOf_ex (Q : WP) (E : XP) (x : Exn) (ρ : Ev) (S : Sto) : (endOf Q E).ex x ρ S = E x S := rfl
def mkW (n np : Nat) (r : FS) : FF := fun ds S Q E => ds.length = np ∧ r (endOf Q E) (ds.map (fun d => some (.dat d)) ++ blanks (n - np)) S
theorem RepE.start {T : Top} {φ : Ob} {H : Hp} (k : Nat) : ∀ {vs : List V} {ds : List D}, FDs T φ H vs ds → RepE T φ H (vs.map some ++ List.replicate k none) (ds.map (fun d => some (.dat d)) ++ List.replicate k none) []
  | _, _, .nil => by
    show RepE T φ H (List.replicate k none) (List.replicate k none) []
    induction k with
    | zero => exact .nil
    | succ k ih => exact .skip ih
  | _, _, .cons x r => .cons (f := []) (g := []) (.dat x) (RepE.start k r)
theorem fn_ok {P : Program} {w : World} {K : PySem.W.Frag} {mg : Str → Option Value} {base : Heap} {T : Top} {x qual : Str} {st : Stmt} {f : Addr} {fd : FuncData} {N ps : List Str} {k : Nat} {r : FS} (F : Fun K x qual st f fd) (S : FnScope N ps (defScope st))
    (hb : ∀ (cdv : Value) (A : Around) (outer : List Env) (s : Shared) (H : Hp) (E : XK), Room k (A.deeper (envOfC qual (defScope st) s.heap.objs.size f cdv)) →
      PSs (cxOf (L2.CX P w) P w K mg base N qual (defScope st) f cdv A outer s H E) (defBody st) (LS T (fun c d _ H' => E c d H') r)) :
    FnOk P w K mg base (L2.CX P w) (k + 1) f fd ps (LF T (mkW N.length ps.length r)) := by
  refine F.okX S (fun vs H Q E h => ?_) (fun cdv A outer s H vs Q E hr h => ⟨_, hb cdv A outer s H E hr, ?_⟩)
  · obtain ⟨ds, S, φ, fs, _, _, h1, _, _, h2, _⟩ := h
    rw [h1.len]; exact h2.1
  · obtain ⟨ds, S, φ, fs, Ex, Qm, h1, R, nd, h2, hx, k⟩ := h
    refine ⟨_, S, φ, [], fs, _, ⟨?_, R, nd⟩, h2.2, ⟨fun ρ' S' σ' H' φ' fe' fs' p A G' => ?_, fun ρ' S' σ' H' φ' fe' fs' p A G' => p.elim, fun ρ' S' σ' H' φ' fe' fs' p A G' => p.elim, fun m S' v H' φ' fm fs' p A n r R => ?_, fun x ρ' S' c d σ' H' φ' fe' fs' p A G' r => ?_⟩⟩
    · unfold L2.start
      rw [h1.len, h2.1, blanks_eq]
      exact RepE.start _ h1
    · exact k _ S' _ H' φ' fs' [] p ⟨A.pre, A.keep, fun a z => A.new a (List.mem_append_right _ z), G'.ndS⟩ (.dat .non) G'.sto
    · exact k m S' v H' φ' fs' fm p ⟨A.pre, A.keep, A.new, n⟩ r R
    · exact hx x S' c d H' φ' fs' p ⟨A.pre, A.keep, fun a z => A.new a (List.mem_append_right _ z), G'.ndS⟩ r G'.sto
end L2.Fn
/-! Fn, part E: what the operators, the built-ins and the loops' heads do, told purely. -/
namespace L2.Fn
open PySem PySem.Spec PyProof.Rows

/-! ### lists and tuples as they are looked at -/
def M.asL : M → Option (List M)
  | .lst ms => some ms
  | .dat (.lst ds) => some (ds.map .dat)
  | _ => none
def M.asT : M → Option (List D)
  | .dat (.tup ds) => some ds
  | .dat (.ktup ds) => some ds
  | _ => none
/-- the pure items of a list -/
def M.ds : M → Option (List D)
  | .lst ms => some (ms.map M.toD)
  | .dat (.lst ds) => some ds
  | .dat (.tup ds) => some ds
  | _ => none
section
variable {T : Top} {φ : Ob} {H : Hp}
theorem asL_ok {v : V} {m : M} {f : List Addr} (r : Rep T φ H v m f) {ms : List M} (e : m.asL = some ms) : ∃ a xs g, v = .ref a ∧ SqL T.K H a xs ∧ Reps T φ H xs ms g ∧ ∀ b ∈ g, b ∈ f := by
  cases r with
  | lst h r => cases e; exact ⟨_, _, _, rfl, SqL.of h, r, fun b z => List.mem_cons_of_mem _ z⟩
  | dat r =>
    cases r with
    | lst h r => cases e; exact ⟨_, _, _, rfl, h.seq, r.reps, fun b z => z⟩
    | _ => cases e
  | dct => cases e
theorem asT_ok {v : V} {m : M} {f : List Addr} (r : Rep T φ H v m f) {ds : List D} (e : m.asT = some ds) : ∃ a xs, v = .ref a ∧ SqT T.K H a xs ∧ FDs T φ H xs ds := by
  cases r with
  | lst h r => cases e
  | dat r =>
    cases r with
    | tup h r => cases e; exact ⟨_, _, rfl, SqT.of h, r⟩
    | ktup h r => cases e; exact ⟨_, _, rfl, .inr h, r⟩
    | _ => cases e
  | dct => cases e
theorem Reps.get {φ : Ob} : ∀ {v : List V} {m : List M} {f : List Addr} {i : Nat} {x : M}, Reps T φ H v m f → m[i]? = some x → ∃ w g, v[i]? = some w ∧ Rep T φ H w x g ∧ ∀ a ∈ g, a ∈ f
  | _, _, _, i, _, .nil, h => by simp at h
  | _, _, _, 0, _, .cons (v := v) (f := f) x r, h => by
    simp at h
    subst h
    exact ⟨v, f, by simp, x, fun a z => List.mem_append_left _ z⟩
  | _, _, _, i + 1, _, .cons x r, h => by
    obtain ⟨v, g, h1, h2, h3⟩ := Reps.get (i := i) r (by simpa using h)
    exact ⟨v, g, by simpa using h1, h2, fun a z => List.mem_append_right _ (h3 a z)⟩
theorem FDs.get {φ : Ob} : ∀ {v : List V} {m : List D} {i : Nat} {x : D}, FDs T φ H v m → m[i]? = some x → ∃ w, v[i]? = some w ∧ FD T φ H w x
  | _, _, i, _, .nil, h => by simp at h
  | _, _, 0, _, .cons (v := v) x r, h => by
    simp at h
    subst h
    exact ⟨v, by simp, x⟩
  | _, _, i + 1, _, .cons x r, h => by
    obtain ⟨v, h1, h2⟩ := FDs.get (i := i) r (by simpa using h)
    exact ⟨v, by simpa using h1, h2⟩
theorem FDs.app {φ : Ob} : ∀ {v w : List V} {m n : List D}, FDs T φ H v m → FDs T φ H w n → FDs T φ H (v ++ w) (m ++ n)
  | _, _, _, _, .nil, s => s
  | _, _, _, _, .cons x r, s => .cons x (r.app s)
theorem FDs.take {φ : Ob} : ∀ {v : List V} {m : List D} (n : Nat), FDs T φ H v m → FDs T φ H (v.take n) (m.take n)
  | _, _, 0, _ => by simpa using FDs.nil
  | _, _, _ + 1, .nil => .nil
  | _, _, n + 1, .cons x r => .cons x (r.take n)
theorem FDs.drop {φ : Ob} : ∀ {v : List V} {m : List D} (n : Nat), FDs T φ H v m → FDs T φ H (v.drop n) (m.drop n)
  | _, _, 0, r => r
  | _, _, _ + 1, .nil => .nil
  | _, _, n + 1, .cons _ r => r.drop n
theorem FDs.rep {φ : Ob} {v : List V} {m : List D} (r : FDs T φ H v m) : ∀ n : Nat, FDs T φ H (List.replicate n v).flatten (List.replicate n m).flatten
  | 0 => .nil
  | n + 1 => by rw [List.replicate_succ, List.replicate_succ, List.flatten_cons, List.flatten_cons]; exact r.app (r.rep n)
/-- own lists of pure items -/
theorem Reps.toD {φ : Ob} : ∀ {v : List V} {m : List M} {f : List Addr}, Reps T φ H v m f → f = [] → FDs T φ H v (m.map M.toD)
  | _, _, _, .nil, _ => .nil
  | _, _, _, .cons (f := f) (g := g) x r, h => by
    have h1 : f = [] := (List.append_eq_nil_iff.mp h).1
    have h2 : g = [] := (List.append_eq_nil_iff.mp h).2
    refine .cons ?_ (r.toD h2)
    cases x with
    | dat x => exact x
    | lst => cases h1
    | dct => cases h1
end
/-- all items are pure -/
def dats : List M → Option (List D)
  | [] => some []
  | .dat d :: r => (dats r).map (d :: ·)
  | .lst _ :: _ => none
  | .dct _ _ :: _ => none
theorem dats_map : ∀ ds : List D, dats (ds.map .dat) = some ds
  | [] => rfl
  | d :: ds => by rw [List.map_cons, dats, dats_map ds]; rfl
theorem dats_eq : ∀ {ms : List M} {ds : List D}, dats ms = some ds → ms = ds.map .dat
  | [], ds, h => by cases h; rfl
  | .dat d :: r, ds, h => by
    rw [dats] at h
    cases q : dats r with
    | none => rw [q] at h; cases h
    | some e =>
      rw [q] at h
      cases h
      rw [dats_eq q]; rfl
  | .lst _ :: _, ds, h => by cases h
  | .dct _ _ :: _, ds, h => by cases h
def M.ld (m : M) : Option (List D) := m.asL.bind dats
theorem ld_dat (ds : List D) : (M.dat (.lst ds)).ld = some ds := dats_map ds
theorem ld_lst (ds : List D) : (M.lst (ds.map .dat)).ld = some ds := dats_map ds
section
variable {T : Top} {φ : Ob} {H : Hp}
theorem ld_ok {v : V} {m : M} {f : List Addr} (r : Rep T φ H v m f) {ds : List D} (e : m.ld = some ds) : ∃ a xs, v = .ref a ∧ SqL T.K H a xs ∧ FDs T φ H xs ds := by
  unfold M.ld at e
  cases q : m.asL with
  | none => rw [q] at e; cases e
  | some ms =>
    rw [q] at e
    obtain ⟨a, xs, g, h1, h2, h3, _⟩ := asL_ok r q
    exact ⟨a, xs, h1, h2, (h3.dats (dats_eq e)).1⟩
theorem str_cat (a b : List Nat) : (⟨a.toArray⟩ : Str) ++ ⟨b.toArray⟩ = ⟨(a ++ b).toArray⟩ := congrArg Str.mk (show a.toArray ++ b.toArray = _ by simp)
theorem str_len (a : List Nat) : (⟨a.toArray⟩ : Str).length = a.length := by simp [Str.length]
theorem str_inj {a b : List Nat} : ((⟨a.toArray⟩ : Str) = ⟨b.toArray⟩) ↔ a = b := by
  constructor
  · intro h; injection h with h; simpa using h
  · intro h; rw [h]
end

/-! ### list + list, each of one's own or locked -/
section
variable {X : Cx} {pins : List (Addr × Obj)} {σ : St} {H : Hp} {s : Shared}
theorem inv_rdL {l : Addr} {xs : List V} (I : Inv X pins σ H s) (h : Rd H l (.lst xs)) : ∃ (its : List Value) (n : Nat), xs.length ≤ sizeLine ∧ Vals xs its ∧ xs.length = its.length ∧ s.heap.get? l = some { cls := .type "list", data := .seq its.toArray n } := by
  obtain ⟨z, its, n, r, e⟩ := h.ok I.hok
  exact ⟨its, n, z, r, r.length, e⟩
def rCatR : R2 := fun x y H Q => ∃ l b xs zs, x = .ref l ∧ y = .ref b ∧ Rd H l (.lst xs) ∧ Rd H b (.lst zs) ∧ xs.length + zs.length ≤ sizeLine ∧ ∀ p, H p = none → Q (.ref p) (upd H p (.lst (xs ++ zs)))
theorem op_catR : OpR X (binaryOp .Add) rCatR := by
  intro pins s σ H x y v u Q I rx ry h
  obtain ⟨l, b, xs, zs, rfl, rfl, hH, hB, hz, q⟩ := h
  cases rx
  cases ry
  obtain ⟨its, n, z, r, hl, e⟩ := inv_rdL I hH
  obtain ⟨its2, n2, z2, r2, hl2, e2⟩ := inv_rdL I hB
  refine PySem.P.add_list e e2 ?_ (by rw [List.size_toArray, List.size_toArray]; omega)
  have ea : its.toArray ++ its2.toArray = (its ++ its2).toArray := by simp
  rw [ea]
  exact ⟨.ref _, _, I.lnew (t' := s.toks) (r.append r2) (by rw [List.length_append]; omega), rfl, q _ I.fresh⟩
end
/-- a list that stands in the abstract heap (not a written one) -/
def M.isL : M → Bool
  | .lst _ => true
  | .dat (.lst _) => true
  | _ => false

section
variable {T : Top}
/-! ### + - * // % ** -/
def oAdd (a b : M) (Q : M → Prop) : Prop := match a, b with
  | .dat (.int i), .dat (.int j) => Q (.dat (.int (i + j)))
  | .dat (.str s), .dat (.str t) => s.length + t.length ≤ sizeLine ∧ Q (.dat (.str (s ++ t)))
  | .dat (.tup s), .dat (.tup t) => s.length + t.length ≤ sizeLine ∧ Q (.dat (.tup (s ++ t)))
  | _, _ => False
def rAddA (K : PySem.W.Frag) : R2 := fun x y H Q => ((rI0 fun i j => .int (i + j)) x y H Q ∨ (∃ i j, x = .str i ∧ y = .str j ∧ i.length + j.length ≤ sizeLine ∧ Q (.str (i ++ j)) H)) ∨ rCatA K x y H Q
theorem op_addA {X : Cx} : OpR X (binaryOp .Add) (rAddA X.K) := (op_add.or op_add_str).or op_catA
theorem o_add : Op2 T (rAddA T.K) oAdd := by
  intro φ H x y m1 m2 f1 f2 Q Qm r1 r2 w k
  cases r1 with
  | lst => exact w.elim
  | dct => exact w.elim
  | dat r1 =>
    cases r2 with
    | lst => cases r1 <;> exact w.elim
    | dct => cases r1 <;> exact w.elim
    | dat r2 =>
      cases r1 with
      | int i =>
        cases r2 with
        | int j => exact .inl (.inl ⟨i, j, rfl, rfl, k _ _ H [] w (Fresh.refl H) (.dat (.int _))⟩)
        | _ => exact w.elim
      | str a =>
        cases r2 with
        | str b =>
          refine .inl (.inr ⟨_, _, rfl, rfl, by rw [str_len, str_len]; exact w.1, ?_⟩)
          rw [str_cat]
          exact k _ _ H [] w.2 (Fresh.refl H) (.dat (.str _))
        | _ => exact w.elim
      | @tup a xs ds h1 s1 =>
        cases r2 with
        | @tup b ys es h2 s2 =>
          refine .inr ⟨a, b, xs, ys, rfl, rfl, SqT.of h1, SqT.of h2, by rw [s1.len, s2.len]; exact w.1, fun e => ?_, fun e e2 => ?_, fun e e2 p hp => ?_⟩
          · subst e
            cases s1
            exact k _ _ H [] w.2 (Fresh.refl H) (.dat (.tup h2 s2))
          · subst e2
            cases s2
            refine k _ _ H [] w.2 (Fresh.refl H) (.dat (.tup h1 ?_))
            rw [List.append_nil]
            exact s1
          · have F : Fresh H (upd H p (.tup (xs ++ ys))) [] := Fresh.upd0 hp
            exact k _ _ _ [] w.2 F (.dat (.tup upd_same ((s1.app s2).ext F.ext (Pre.refl _))))
        | _ => exact w.elim
      | _ => exact w.elim
/-- list + list: the items pure -/
def oCat (a b : M) (Q : M → Prop) : Prop := ∃ s : List D, a.ld = some s ∧ ∃ t : List D, b.ld = some t ∧ s.length + t.length ≤ sizeLine ∧ Q (.lst ((s ++ t).map .dat))
/-- .. the top has no lists of its own -/
def NoLists (K : PySem.W.Frag) : Prop := ∀ a o, K.lookup a = some o → o.cls ≠ .type "list"
theorem sql_rd (hK : NoLists T.K) {H : Hp} {a : Addr} {xs : List V} (h : SqL T.K H a xs) : Rd H a (.lst xs) := by
  rcases h with h | ⟨o, its, n, hk, hc, _⟩
  · exact h
  · exact absurd hc (hK a o hk)
theorem o_cat (hK : NoLists T.K) : Op2 T rCatR oCat := by
  intro φ H x y m1 m2 f1 f2 Q Qm r1 r2 ⟨s, e1, t, e2, hz, w⟩ k
  obtain ⟨a, xs, rfl, h1, s1⟩ := ld_ok r1 e1
  obtain ⟨b, ys, rfl, h2, s2⟩ := ld_ok r2 e2
  refine ⟨a, b, xs, ys, rfl, rfl, sql_rd hK h1, sql_rd hK h2, by rw [s1.len, s2.len]; exact hz, fun p hp => ?_⟩
  have F : Fresh H (upd H p (.lst (xs ++ ys))) [p] := Fresh.upd hp
  exact k _ _ _ [p] w F (.lst upd_same ((s1.app s2).ext F.ext (Pre.refl _)).reps)
def oInt (g : Int → Int → Int) (c : Int → Int → Prop) (a b : M) (Q : M → Prop) : Prop := match a, b with
  | .dat (.int i), .dat (.int j) => c i j ∧ Q (.dat (.int (g i j)))
  | _, _ => False
theorem o_int {g : Int → Int → Int} {c c' : Int → Int → Prop} (hc : ∀ i j, c' i j → c i j) : Op2 T (rI c fun i j => .int (g i j)) (oInt g c') := by
  intro φ H x y m1 m2 f1 f2 Q Qm r1 r2 w k
  cases r1 with
  | lst => exact w.elim
  | dct => exact w.elim
  | dat r1 =>
    cases r2 with
    | lst => cases r1 <;> exact w.elim
    | dct => cases r1 <;> exact w.elim
    | dat r2 =>
      cases r1 with
      | int i =>
        cases r2 with
        | int j => exact ⟨i, j, rfl, rfl, hc i j w.1, k _ _ H [] w.2 (Fresh.refl H) (.dat (.int _))⟩
        | _ => exact w.elim
      | _ => exact w.elim
def oInt0 (g : Int → Int → D) (a b : M) (Q : M → Prop) : Prop := match a, b with
  | .dat (.int i), .dat (.int j) => Q (.dat (g i j))
  | _, _ => False
theorem o_int0 {g : Int → Int → V} {g' : Int → Int → D} (hg : ∀ φ H i j, FD T φ H (g i j) (g' i j)) : Op2 T (rI0 g) (oInt0 g') := by
  intro φ H x y m1 m2 f1 f2 Q Qm r1 r2 w k
  cases r1 with
  | lst => exact w.elim
  | dct => exact w.elim
  | dat r1 =>
    cases r2 with
    | lst => cases r1 <;> exact w.elim
    | dct => cases r1 <;> exact w.elim
    | dat r2 =>
      cases r1 with
      | int i =>
        cases r2 with
        | int j => exact ⟨i, j, rfl, rfl, k _ _ H [] w (Fresh.refl H) (.dat (hg _ _ i j))⟩
        | _ => exact w.elim
      | _ => exact w.elim
abbrev oSub := oInt0 fun i j => .int (i - j)
theorem o_sub : Op2 T (rI0 fun i j => .int (i - j)) oSub := o_int0 fun _ _ _ _ => .int _
abbrev oMul := oInt (fun i j => i * j) CMulW
abbrev oFDiv := oInt (fun i j => i / j) CDivW
abbrev oMod := oInt (fun i j => i % j) fun _ j => 0 < j
abbrev oPow := oInt (fun i j => i ^ j.toNat) CPow
theorem o_mul : Op2 T (rI CMulW fun i j => .int (i * j)) oMul := o_int fun _ _ h => h
theorem o_fdiv : Op2 T (rI CDivW fun i j => .int (i / j)) oFDiv := o_int fun _ _ h => h
theorem o_mod : Op2 T (rI (fun _ j => 0 < j) fun i j => .int (i % j)) oMod := o_int fun _ _ h => h
theorem o_pow : Op2 T (rI CPow fun i j => .int (i ^ j.toNat)) oPow := o_int fun _ _ h => h
abbrev oLt := oInt0 fun i j => .bl (decide (i < j))
abbrev oLe := oInt0 fun i j => .bl (decide (i ≤ j))
abbrev oGt := oInt0 fun i j => .bl (decide (j < i))
abbrev oGe := oInt0 fun i j => .bl (decide (j ≤ i))
theorem o_lt : Op2 T (rI0 fun i j => .bl (decide (i < j))) oLt := o_int0 fun _ _ _ _ => .bl _
theorem o_le : Op2 T (rI0 fun i j => .bl (decide (i ≤ j))) oLe := o_int0 fun _ _ _ _ => .bl _
theorem o_gt : Op2 T (rI0 fun i j => .bl (decide (j < i))) oGt := o_int0 fun _ _ _ _ => .bl _
theorem o_ge : Op2 T (rI0 fun i j => .bl (decide (j ≤ i))) oGe := o_int0 fun _ _ _ _ => .bl _
/-- list * int -/
def oRep (a b : M) (Q : M → Prop) : Prop := match b with
  | .dat (.int j) => ∃ s : List D, a = .lst (s.map .dat) ∧ -(2 ^ 63) ≤ j ∧ j < 2 ^ 63 ∧ s.length * j.toNat ≤ sizeLine ∧ Q (.lst ((List.replicate j.toNat s).flatten.map .dat))
  | _ => False
theorem o_rep : Op2 T rRep oRep := by
  intro φ H x y m1 m2 f1 f2 Q Qm r1 r2 w k
  cases r2 with
  | lst => exact w.elim
  | dct => exact w.elim
  | dat r2 =>
    cases r2 with
    | int j =>
      obtain ⟨s, rfl, h1, h2, hz, w⟩ := w
      cases r1 with
      | @lst a vs ms f h rs =>
        obtain ⟨s1, _⟩ := rs.dats rfl
        refine ⟨a, j, vs, rfl, rfl, h, h1, h2, by rw [s1.len]; exact hz, fun p hp => ?_⟩
        have F : Fresh H (upd H p (.lst (List.replicate j.toNat vs).flatten)) [p] := Fresh.upd hp
        exact k _ _ _ [p] w F (.lst upd_same ((s1.rep j.toNat).ext F.ext (Pre.refl _)).reps)
    | _ => exact w.elim
/-! ### == != of flat things -/
def D.flat : D → Bool
  | .non => true
  | .bl _ => true
  | .int _ => true
  | .str _ => true
  | _ => false
/-- == where it is plain: the same kind, or one of them None, a number or a truth value beside a text -/
def eqF : D → D → Option Bool
  | .non, .non => some true
  | .int a, .int b => some (decide (a = b))
  | .bl a, .bl b => some (decide (a = b))
  | .str a, .str b => some (decide (a = b))
  | .non, .int _ => some false | .int _, .non => some false | .non, .bl _ => some false | .bl _, .non => some false | .non, .str _ => some false | .str _, .non => some false
  | .int _, .str _ => some false | .str _, .int _ => some false | .bl _, .str _ => some false | .str _, .bl _ => some false
  | _, _ => none
theorem eqF_ok {φ : Ob} {H : Hp} {x y : V} {a b : D} {c : Bool} (r1 : FD T φ H x a) (r2 : FD T φ H y b) (e : eqF a b = some c) : scal x y = true ∧ decide (x = y) = c := by
  cases r1 <;> cases r2 <;> first | (cases e; done) | skip
  all_goals
    injection e with e
    subst e
    refine ⟨rfl, ?_⟩
    first
      | rfl
      | (simp; done)
      | exact decide_eq_decide.mpr ⟨fun h => by injection h, fun h => by rw [h]⟩
      | exact decide_eq_decide.mpr ⟨fun h => by injection h with h; exact str_inj.mp h, fun h => by rw [h]⟩
def oEq (a b : M) (Q : M → Prop) : Prop := match a, b with
  | .dat d, .dat e => ∃ c, eqF d e = some c ∧ Q (.dat (.bl c))
  | _, _ => False
def oNe (a b : M) (Q : M → Prop) : Prop := match a, b with
  | .dat d, .dat e => ∃ c, eqF d e = some c ∧ Q (.dat (.bl (!c)))
  | _, _ => False
theorem o_eq : Op2 T rEq oEq := by
  intro φ H x y m1 m2 f1 f2 Q Qm r1 r2 w k
  cases r1 with
  | lst => exact w.elim
  | dct => exact w.elim
  | dat r1 =>
    cases r2 with
    | lst => exact w.elim
    | dct => exact w.elim
    | dat r2 =>
      obtain ⟨c, e, w⟩ := w
      obtain ⟨h1, h2⟩ := eqF_ok r1 r2 e
      exact ⟨h1, by rw [h2]; exact k _ _ H [] w (Fresh.refl H) (.dat (.bl _))⟩
theorem o_ne : Op2 T rNe oNe := by
  intro φ H x y m1 m2 f1 f2 Q Qm r1 r2 w k
  cases r1 with
  | lst => exact w.elim
  | dct => exact w.elim
  | dat r1 =>
    cases r2 with
    | lst => exact w.elim
    | dct => exact w.elim
    | dat r2 =>
      obtain ⟨c, e, w⟩ := w
      obtain ⟨h1, h2⟩ := eqF_ok r1 r2 e
      exact ⟨h1, by rw [h2]; exact k _ _ H [] w (Fresh.refl H) (.dat (.bl _))⟩
/-! ### in -/
def eqvF : D → D → Bool
  | .non, .non => true
  | .bl a, .bl b => a == b
  | .bl a, .int b => (if a then 1 else 0) == b
  | .int a, .bl b => a == (if b then 1 else 0)
  | .int a, .int b => a == b
  | .str a, .str b => decide (a = b)
  | _, _ => false
theorem eqvF_ok {φ : Ob} {H : Hp} {x y : V} {a b : D} (r1 : FD T φ H x a) (r2 : FD T φ H y b) (fa : a.flat = true) (fb : b.flat = true) : flatV x = true ∧ flatV y = true ∧ eqV x y = eqvF a b := by
  cases r1 <;> cases r2 <;> first | (cases fa; done) | (cases fb; done) | skip
  all_goals
    refine ⟨rfl, rfl, ?_⟩
    first
      | rfl
      | (show ((⟨_⟩ : Str) == ⟨_⟩) = _
         rw [Bool.beq_eq_decide_eq]
         exact decide_eq_decide.mpr ⟨fun h => str_inj.mp h, fun h => by rw [h]⟩)
theorem flat_all {φ : Ob} {H : Hp} : ∀ {xs : List V} {ds : List D}, FDs T φ H xs ds → ds.all D.flat = true → xs.all flatV = true ∧ ∀ (x : V) (d : D), FD T φ H x d → d.flat = true → inV x xs = ds.any fun y => eqvF y d
  | _, _, .nil, _ => ⟨rfl, fun _ _ _ _ => rfl⟩
  | _, _, .cons (v := v) (d := d) y r, h => by
    rw [List.all_cons, Bool.and_eq_true] at h
    obtain ⟨i1, i2⟩ := flat_all r h.2
    refine ⟨by rw [List.all_cons, i1, (eqvF_ok y y h.1 h.1).1]; rfl, fun x e rx hx => ?_⟩
    unfold inV
    rw [List.any_cons, List.any_cons, (eqvF_ok y rx h.1 hx).2.2]
    have := i2 x e rx hx
    unfold inV at this
    rw [this]
def oIn (neg : Bool) (a b : M) (Q : M → Prop) : Prop := match a, b with
  | .dat (.str [c]), .dat (.str t) => Q (.dat (.bl (neg ^^ decide (c ∈ t))))
  | .dat d, .dat (.tup ds) => d.flat = true ∧ ds.all D.flat = true ∧ Q (.dat (.bl (neg ^^ ds.any fun y => eqvF y d)))
  | .dat d, .dat (.ktup ds) => d.flat = true ∧ ds.all D.flat = true ∧ Q (.dat (.bl (neg ^^ ds.any fun y => eqvF y d)))
  | .dat d, m => ∃ ds, m.ld = some ds ∧ d.flat = true ∧ ds.all D.flat = true ∧ Q (.dat (.bl (neg ^^ ds.any fun y => eqvF y d)))
  | _, _ => False
def rInA (K : PySem.W.Frag) (neg : Bool) : R2 := fun x y H Q => (∃ (c : Nat) (z : Str), x = .str ⟨#[c]⟩ ∧ y = .str z ∧ Q (.bl (neg ^^ decide (c ∈ z.cps.toList))) H) ∨ rIn K neg x y H Q
theorem op_inA {X : Cx} : OpR X (compareOp .In) (rInA X.K false) := by
  intro pins s σ H x y v u Q I rx ry h
  rcases h with ⟨c, z, e1, e2, q⟩ | h
  · exact op_in_sign pins s σ H x y v u Q I rx ry ⟨c, z, e1, e2, by simpa using q⟩
  · exact op_in_seq pins s σ H x y v u Q I rx ry h
theorem op_notInA {X : Cx} : OpR X (compareOp .NotIn) (rInA X.K true) := by
  intro pins s σ H x y v u Q I rx ry h
  rcases h with ⟨c, z, e1, e2, q⟩ | h
  · exact op_notIn_sign pins s σ H x y v u Q I rx ry ⟨c, z, e1, e2, by simpa using q⟩
  · exact op_notIn_seq pins s σ H x y v u Q I rx ry h
theorem o_in {neg : Bool} : Op2 T (rInA T.K neg) (oIn neg) := by
  intro φ H x y m1 m2 f1 f2 Q Qm r1 r2 w k
  have seq : ∀ (p : Addr) (xs : List V) (d : D) (ds : List D), y = .ref p → (SqL T.K H p xs ∨ SqT T.K H p xs) → FD T φ H x d → FDs T φ H xs ds → d.flat = true → ds.all D.flat = true → Qm (.dat (.bl (neg ^^ ds.any fun y => eqvF y d))) → rInA T.K neg x y H Q := by
    intro p xs d ds e hs rx rs fd fa q
    obtain ⟨h1, h2⟩ := flat_all rs fa
    refine .inr ⟨p, xs, e, hs, (eqvF_ok rx rx fd fd).1, h1, ?_⟩
    rw [h2 x d rx fd]
    have e2 : (if neg = true then !(ds.any fun y => eqvF y d) else ds.any fun y => eqvF y d) = (neg ^^ ds.any fun y => eqvF y d) := by cases neg <;> simp
    rw [e2]
    exact k _ _ H [] q (Fresh.refl H) (.dat (.bl _))
  unfold oIn at w
  split at w
  · cases r1 with
    | dat r1 =>
      cases r1
      cases r2 with
      | dat r2 =>
        cases r2
        exact .inl ⟨_, _, rfl, rfl, k _ _ H [] w (Fresh.refl H) (.dat (.bl _))⟩
  · cases r1 with
    | dat r1 =>
      cases r2 with
      | dat r2 =>
        cases r2 with
        | tup h rs => exact seq _ _ _ _ rfl (.inr (SqT.of h)) r1 rs w.1 w.2.1 w.2.2
  · cases r1 with
    | dat r1 =>
      cases r2 with
      | dat r2 =>
        cases r2 with
        | ktup h rs => exact seq _ _ _ _ rfl (.inr (.inr h)) r1 rs w.1 w.2.1 w.2.2
  · obtain ⟨ds, e, w⟩ := w
    obtain ⟨a, xs, e1, h, rs⟩ := ld_ok r2 e
    cases r1 with
    | dat r1 => exact seq _ _ _ _ e1 (.inl h) r1 rs w.1 w.2.1 w.2.2
  · exact w.elim
/-! ### x[i] -/
/-- the item at i, a pure one -/
def oIx (a b : M) (Q : M → Prop) : Prop := match b with
  | .dat (.int i) => match a with
    | .dat (.str s) => s.length ≤ sizeLine ∧ ∃ c, atI s i = some c ∧ Q (.dat (.str [c]))
    | .dat (.tup ds) => ∃ d, atI ds i = some d ∧ Q (.dat d)
    | .dat (.ktup ds) => ∃ d, atI ds i = some d ∧ Q (.dat d)
    | .dat (.lst ds) => ∃ d, atI ds i = some d ∧ Q (.dat d)
    | .lst ms => ∃ m, atI ms i = some m ∧ Q m
    | _ => False
  | _ => False
theorem atI_reps {φ : Ob} {H : Hp} {v : List V} {m : List M} {f : List Addr} {i : Int} {x : M} (r : Reps T φ H v m f) (h : atI m i = some x) : ∃ w g, atI v i = some w ∧ Rep T φ H w x g ∧ ∀ a ∈ g, a ∈ f := by
  unfold atI at h ⊢
  rw [← r.len] at h
  cases q : ixN v.length i with
  | none => rw [q] at h; cases h
  | some j =>
    rw [q] at h
    exact r.get h
theorem atI_map {α β : Type} (g : α → β) (xs : List α) (i : Int) : atI (xs.map g) i = (atI xs i).map g := by
  unfold atI
  rw [List.length_map]
  cases ixN xs.length i with
  | none => rfl
  | some j => simp
theorem o_ix : Op2B T (rIx T.K) oIx := by
  intro φ H x y m1 m2 f1 f2 Q Qm r1 r2 w k
  · cases r2 with
    | lst => exact w.elim
    | dct => exact w.elim
    | dat r2 =>
      cases r2 with
      | int i =>
        cases r1 with
        | @lst a vs ms f h rs =>
          obtain ⟨m, e, w⟩ := w
          obtain ⟨u, g, h1, h2, h3⟩ := atI_reps rs e
          exact .inl ⟨a, vs, i, u, rfl, rfl, SqL.of h, h1, k m u g w h2 fun b z => List.mem_cons_of_mem _ (h3 b z)⟩
        | dct => exact w.elim
        | dat r1 =>
          cases r1 with
          | str s =>
            obtain ⟨hz, c, e, w⟩ := w
            exact .inr (.inr ⟨_, i, c, rfl, rfl, by rw [str_len]; exact hz, e, k _ _ [] w (.dat (.str [c])) fun _ z => nomatch z⟩)
          | @tup a xs ds h rs =>
            obtain ⟨d, e, w⟩ := w
            have e' : atI (ds.map M.dat) i = some (.dat d) := by rw [atI_map, e]; rfl
            obtain ⟨u, g, h1, h2, h3⟩ := atI_reps rs.reps e'
            exact .inr (.inl ⟨a, xs, i, u, rfl, rfl, SqT.of h, h1, k _ u g w h2 h3⟩)
          | @ktup a xs ds h rs =>
            obtain ⟨d, e, w⟩ := w
            have e' : atI (ds.map M.dat) i = some (.dat d) := by rw [atI_map, e]; rfl
            obtain ⟨u, g, h1, h2, h3⟩ := atI_reps rs.reps e'
            exact .inr (.inl ⟨a, xs, i, u, rfl, rfl, .inr h, h1, k _ u g w h2 h3⟩)
          | @lst a xs ds h rs =>
            obtain ⟨d, e, w⟩ := w
            have e' : atI (ds.map M.dat) i = some (.dat d) := by rw [atI_map, e]; rfl
            obtain ⟨u, g, h1, h2, h3⟩ := atI_reps rs.reps e'
            exact .inl ⟨a, xs, i, u, rfl, rfl, h.seq, h1, k _ u g w h2 h3⟩
          | _ => exact w.elim
      | _ => exact w.elim
end
end L2.Fn
/-! Fn, part F: own lists changed, frozen names, what is walked, comprehensions. -/
namespace L2.Fn
open PySem PySem.Spec PyProof.Rows

/-! ### a slot is changed in its place -/
section
variable {T : Top} {φ φ' : Ob} {H H' : Hp}
/-- the slot i apart from the others -/
theorem RepE.at' : ∀ {σ : St} {ρ : Ev} {f : List Addr} {i : Nat} {m : M}, RepE T φ H σ ρ f → ρ[i]? = some (some m) → ∃ v g f1 f2, σ[i]? = some (some v) ∧ Rep T φ H v m g ∧ f = f1 ++ (g ++ f2) ∧
    ∀ (φ' : Ob) (H' : Hp) (m' : M) (g' : List Addr), Ext H H' → Pre φ φ' → (∀ a xs, a ∈ f1 ++ f2 → H a = some xs → H' a = some xs) → Rep T φ' H' v m' g' → RepE T φ' H' σ (ρ.set i (some m')) (f1 ++ (g' ++ f2))
  | _, _, _, i, _, .nil, h => by simp at h
  | _, _, _, 0, _, .skip r, h => by simp at h
  | _, _, _, i + 1, _, .skip r, h => by
    obtain ⟨v, g, f1, f2, h1, h2, h3, h4⟩ := RepE.at' (i := i) r (by simpa using h)
    exact ⟨v, g, f1, f2, by simpa using h1, h2, h3, fun φ' H' m' g' e p k x => .skip (h4 φ' H' m' g' e p k x)⟩
  | _, _, _, 0, _, .cons (v := v) (f := f) (g := g) x r, h => by
    simp at h
    subst h
    exact ⟨v, f, [], g, by simp, x, rfl, fun φ' H' m' g' e p k y => by
      have z := RepE.cons y (r.ext e p k)
      exact z⟩
  | _, _, _, i + 1, _, .cons (f := f) (g := g0) x r, h => by
    obtain ⟨v, g, f1, f2, h1, h2, h3, h4⟩ := RepE.at' (i := i) r (by simpa using h)
    refine ⟨v, g, f ++ f1, f2, by simpa using h1, h2, by rw [h3, List.append_assoc], fun φ' H' m' g' e p k y => ?_⟩
    rw [List.append_assoc]
    exact .cons (x.ext e p fun a xs ha => k a xs (List.mem_append_left _ (List.mem_append_left _ ha))) (h4 φ' H' m' g' e p (fun a xs ha => k a xs (by rw [List.append_assoc]; exact List.mem_append_right _ ha)) y)
theorem Reps.app : ∀ {v w : List V} {m n : List M} {f g : List Addr}, Reps T φ H v m f → Reps T φ H w n g → Reps T φ H (v ++ w) (m ++ n) (f ++ g)
  | _, _, _, _, _, _, .nil, s => s
  | _, _, _, _, _, _, .cons x r, s => by rw [List.append_assoc]; exact .cons x (r.app s)
theorem Reps.set {y : V} {n : M} {fm : List Addr} (x : Rep T φ H y n fm) : ∀ {v : List V} {m : List M} {f : List Addr} {i : Nat}, Reps T φ H v m f → (fm ++ f).Nodup → i < m.length →
    ∃ f', Reps T φ H (v.set i y) (m.set i n) f' ∧ (∀ a ∈ f', a ∈ fm ++ f) ∧ f'.Nodup
  | _, _, _, i, .nil, _, h => absurd h (Nat.not_lt_zero _)
  | _, _, _, 0, .cons (f := f) (g := g) y r, nd, _ => by
    have q := List.nodup_append.mp nd
    refine ⟨fm ++ g, .cons x r, fun a z => ?_, List.nodup_append.mpr ⟨q.1, (List.nodup_append.mp q.2.1).2.1, fun a h b h' => q.2.2 a h b (List.mem_append_right _ h')⟩⟩
    rcases List.mem_append.mp z with z | z
    · exact List.mem_append_left _ z
    · exact List.mem_append_right _ (List.mem_append_right _ z)
  | _, _, _, i + 1, .cons (f := f) (g := g) y r, nd, h => by
    have q := List.nodup_append.mp nd
    have q2 := List.nodup_append.mp q.2.1
    obtain ⟨f', h1, h2, h3⟩ := Reps.set x (i := i) r (List.nodup_append.mpr ⟨q.1, q2.2.1, fun a h b h' => q.2.2 a h b (List.mem_append_right _ h')⟩) (by simpa using h)
    refine ⟨f ++ f', .cons y h1, fun a z => ?_, List.nodup_append.mpr ⟨q2.1, h3, fun a h b h' e => ?_⟩⟩
    · rcases List.mem_append.mp z with z | z
      · exact List.mem_append_right _ (List.mem_append_left _ z)
      · rcases List.mem_append.mp (h2 a z) with z | z
        · exact List.mem_append_left _ z
        · exact List.mem_append_right _ (List.mem_append_right _ z)
    · rcases List.mem_append.mp (h2 b h') with z | z
      · exact q.2.2 b z a (List.mem_append_left _ h) e.symm
      · exact q2.2.2 a h b z e
/-- the item i apart from the others -/
theorem Reps.at' : ∀ {v : List V} {ms : List M} {f : List Addr} {i : Nat} {m : M}, Reps T φ H v ms f → ms[i]? = some m → ∃ w g f1 f2, v[i]? = some w ∧ Rep T φ H w m g ∧ f = f1 ++ (g ++ f2) ∧
    ∀ (φ' : Ob) (H' : Hp) (m' : M) (g' : List Addr), Ext H H' → Pre φ φ' → (∀ a xs, a ∈ f1 ++ f2 → H a = some xs → H' a = some xs) → Rep T φ' H' w m' g' → Reps T φ' H' v (ms.set i m') (f1 ++ (g' ++ f2))
  | _, _, _, i, _, .nil, h => by simp at h
  | _, _, _, 0, _, .cons (v := v) (f := f) (g := g) x r, h => by
    simp at h
    subst h
    exact ⟨v, f, [], g, by simp, x, rfl, fun φ' H' m' g' e p k y => by
      have z := Reps.cons y (r.ext e p k)
      exact z⟩
  | _, _, _, i + 1, _, .cons (f := f) (g := g0) x r, h => by
    obtain ⟨v, g, f1, f2, h1, h2, h3, h4⟩ := Reps.at' (i := i) r (by simpa using h)
    refine ⟨v, g, f ++ f1, f2, by simpa using h1, h2, by rw [h3, List.append_assoc], fun φ' H' m' g' e p k y => ?_⟩
    rw [List.append_assoc]
    exact .cons (x.ext e p fun a xs ha => k a xs (List.mem_append_left _ (List.mem_append_left _ ha))) (h4 φ' H' m' g' e p (fun a xs ha => k a xs (by rw [List.append_assoc]; exact List.mem_append_right _ ha)) y)
/-- an own list at a is written -/
theorem upd_extO {a : Addr} {x o : HO} (h : H a = some x) (ow : OwnO x) : Ext H (upd H a o) := by
  refine ⟨fun b ys e => ?_, fun b u w e => ?_, fun b u e => ?_⟩
  · rw [upd_ne fun z => by rw [z, h] at e; cases e; exact False.elim ow]; exact e
  · rw [upd_ne fun z => by rw [z, h] at e; cases e; exact False.elim ow]; exact e
  · rw [upd_ne fun z => by rw [z, h] at e; cases e; exact False.elim ow]; exact e
theorem RepS.wrO {Φ φ : Ob} {S : Sto} {fs : List Addr} {a : Addr} {x o : HO} (R : RepS T H Φ φ S fs) (h : H a = some x) (ow : OwnO x) (n : a ∉ fs ++ φ.ads) : RepS T (upd H a o) Φ φ S fs :=
  R.ext (upd_extO h ow) (Pre.refl _) (fun b ys hb e => by rw [upd_ne fun z => n (by rw [← z]; exact List.mem_append_left _ hb)]; exact e)
    fun b C dx gs hb e => by rw [upd_ne fun z => n (by rw [← z]; exact List.mem_append_right _ hb)]; exact e
/-- a slot's list is changed: g, f1, f2 as RepE.at' tells -/
theorem Good.wrO {v : V} {σ : St} {ρ : Ev} {S : Sto} {fe fs f1 f2 g g' fm : List Addr} {i : Nat} {m' : M} {a : Addr} {x y : HO} (G : Good T φ H σ ρ S fe fs) (e : fe = f1 ++ (g ++ f2)) (ha : a ∈ g) (hH : H a = some x) (ow : OwnO x)
    (w : ∀ (φ' : Ob) (H' : Hp) (m' : M) (g' : List Addr), Ext H H' → Pre φ φ' → (∀ a xs, a ∈ f1 ++ f2 → H a = some xs → H' a = some xs) → Rep T φ' H' v m' g' → RepE T φ' H' σ (ρ.set i (some m')) (f1 ++ (g' ++ f2)))
    (r : Rep T φ (upd H a y) v m' g') (hg : ∀ b ∈ g', b ∈ g ++ fm) (nd : g'.Nodup) (d : ∀ b ∈ fm, b ∉ fe ++ (fs ++ φ.ads)) :
    Good T φ (upd H a y) σ (ρ.set i (some m')) S (f1 ++ (g' ++ f2)) fs ∧ AftS φ (fm ++ fe) fs H φ (f1 ++ (g' ++ f2)) fs (upd H a y) := by
  have nds := List.nodup_append.mp G.nd
  have n1 := List.nodup_append.mp (e ▸ nds.1)
  have n2 := List.nodup_append.mp n1.2.1
  have afe : a ∈ fe := by rw [e]; exact List.mem_append_right _ (List.mem_append_left _ ha)
  have keepE : ∀ b zs, b ∈ f1 ++ f2 → H b = some zs → upd H a y b = some zs := fun b zs hb q => by
    rw [upd_ne fun z => ?_]; exact q
    subst z
    rcases List.mem_append.mp hb with hb | hb
    · exact n1.2.2 b hb b (List.mem_append_left _ ha) rfl
    · exact n2.2.2 b ha b hb rfl
  have sub : ∀ b ∈ f1 ++ (g' ++ f2), b ∈ fm ++ fe := fun b hb => by
    rw [e]
    rcases List.mem_append.mp hb with hb | hb
    · exact List.mem_append_right _ (List.mem_append_left _ hb)
    · rcases List.mem_append.mp hb with hb | hb
      · rcases List.mem_append.mp (hg b hb) with hb | hb
        · exact List.mem_append_right _ (List.mem_append_right _ (List.mem_append_left _ hb))
        · exact List.mem_append_left _ hb
      · exact List.mem_append_right _ (List.mem_append_right _ (List.mem_append_right _ hb))
  refine ⟨⟨w φ _ m' g' (upd_extO hH ow) (Pre.refl _) keepE r, G.sto.wrO hH ow (G.disj a afe), ?_⟩, ⟨Pre.refl _, fun b o n h => ?_, fun b h => ?_⟩⟩
  · refine List.nodup_append.mpr ⟨?_, nds.2.1, fun b hb c hc z => ?_⟩
    · have dg : ∀ b ∈ g', ∀ c, c ∈ f1 ++ f2 → b ≠ c := fun b hb c hc z => by
        subst z
        rcases List.mem_append.mp (hg b hb) with q | q
        · rcases List.mem_append.mp hc with hc | hc
          · exact n1.2.2 b hc b (List.mem_append_left _ q) rfl
          · exact n2.2.2 b q b hc rfl
        · refine d b q (List.mem_append_left _ ?_)
          rw [e]
          rcases List.mem_append.mp hc with hc | hc
          · exact List.mem_append_left _ hc
          · exact List.mem_append_right _ (List.mem_append_right _ hc)
      refine List.nodup_append.mpr ⟨n1.1, List.nodup_append.mpr ⟨nd, n2.2.1, fun b hb c hc => dg b hb c (List.mem_append_right _ hc)⟩, fun b hb c hc z => ?_⟩
      subst z
      rcases List.mem_append.mp hc with hc | hc
      · exact dg b hc b (List.mem_append_left _ hb) rfl
      · exact n1.2.2 b hb b (List.mem_append_right _ hc) rfl
    · subst z
      rcases List.mem_append.mp (sub b hb) with q | q
      · exact d b q (List.mem_append_right _ hc)
      · exact G.disj b q hc
  · rw [upd_ne fun z => n (by rw [z]; exact List.mem_append_left _ (List.mem_append_right _ afe))]; exact h
  · rcases List.mem_append.mp h with h | h
    · exact .inl (List.mem_append_left _ (sub b h))
    · exact .inl (List.mem_append_right _ h)
theorem upd_ext {a : Addr} {xs : List V} {o : HO} (h : H a = some (.lst xs)) : Ext H (upd H a o) := upd_extO h trivial
theorem RepS.wr {Φ φ : Ob} {S : Sto} {fs : List Addr} {a : Addr} {xs : List V} {o : HO} (R : RepS T H Φ φ S fs) (h : H a = some (.lst xs)) (n : a ∉ fs ++ φ.ads) : RepS T (upd H a o) Φ φ S fs := R.wrO h trivial n
theorem Good.wr {v : V} {σ : St} {ρ : Ev} {S : Sto} {fe fs f1 f2 g g' fm : List Addr} {i : Nat} {m' : M} {a : Addr} {xs ys : List V} (G : Good T φ H σ ρ S fe fs) (e : fe = f1 ++ (g ++ f2)) (ha : a ∈ g) (hH : H a = some (.lst xs))
    (w : ∀ (φ' : Ob) (H' : Hp) (m' : M) (g' : List Addr), Ext H H' → Pre φ φ' → (∀ a xs, a ∈ f1 ++ f2 → H a = some xs → H' a = some xs) → Rep T φ' H' v m' g' → RepE T φ' H' σ (ρ.set i (some m')) (f1 ++ (g' ++ f2)))
    (r : Rep T φ (upd H a (.lst ys)) v m' g') (hg : ∀ b ∈ g', b ∈ g ++ fm) (nd : g'.Nodup) (d : ∀ b ∈ fm, b ∉ fe ++ (fs ++ φ.ads)) :
    Good T φ (upd H a (.lst ys)) σ (ρ.set i (some m')) S (f1 ++ (g' ++ f2)) fs ∧ AftS φ (fm ++ fe) fs H φ (f1 ++ (g' ++ f2)) fs (upd H a (.lst ys)) := Good.wrO G e ha hH trivial w r hg nd d
end
theorem σ_set_same {σ : St} {i : Nat} {v : V} (h : σ[i]? = some (some v)) : σ.set i (some v) = σ := by
  apply List.ext_getElem?
  intro j
  by_cases e : i = j
  · subst e
    rw [h, List.getElem?_set_self (List.getElem?_eq_some_iff.mp h).1]
  · rw [List.getElem?_set_ne e]

section
variable {X : Cx} {T : Top} {W : WX} {e a b ej : Expr} {t ta tb tj : FE} {pos : Pos} {es : List Expr} {st : Stmt} {rest body : List Stmt} {u w : FS}
/-! ### x.append(e) -/
def fApp (i : Nat) (t : FE) : FS := fun P ρ S => ∃ ms, ρ[i]? = some (some (.lst ms)) ∧ ms.length < sizeLine ∧ t ρ S (fun m S' => P.nx (ρ.set i (some (.lst (ms ++ [m])))) S') fun x S' => P.ex x ρ S'
theorem lApp {D : Ends} {σ : St} {H : Hp} {i : Nat} (hK : X.K = T.K) (h : LS T W (fApp i t) D σ H) : tDrop (tBM X.K "list" rAppend (tVar i) (tCons (LE T W t) tNil)) D σ H := by
  obtain ⟨ρ, S, φ, fe, fs, P, G, ⟨ms, hm, hz, w⟩, k⟩ := h
  obtain ⟨v, g, f1, f2, hv, r, e, wr⟩ := G.env.at' hm
  cases r with
  | @lst a vs ms f hH rs =>
    refine ⟨.ref a, hv, .inl ⟨rfl, vs, SqL.of hH⟩, ρ, S, φ, fe, fs, _, _, G, w, k.wx G, fun m S1 y H1 φ1 fs1 fm q A r1 R1 => ?_⟩
    have G1 := A.good G R1
    have afe : ∀ b ∈ a :: f, b ∈ fe := fun b hb => by rw [e]; exact List.mem_append_right _ (List.mem_append_left _ hb)
    have hH1 : H1 a = some (.lst vs) := A.keep a _ (G.disj a (afe a List.mem_cons_self)) hH
    obtain ⟨v', g', f1', f2', hv', r', e', wr'⟩ := G1.env.at' hm
    rw [hv] at hv'
    cases hv'
    cases r' with
    | @lst a' vs' ms' f' hH' rs' =>
      rw [hH1] at hH'
      cases hH'
      have ap := A.apart G.disj (fun b hb => by obtain ⟨zs, q, _⟩ := G.env.own b hb; rw [q]; exact fun z => nomatch z)
      have dj : ∀ b ∈ fm, b ∉ fe ++ (fs1 ++ φ1.ads) := fun b hb hc => by
        rcases List.mem_append.mp hc with hc | hc
        · exact ap b hc (List.mem_append_left _ hb)
        · exact A.disj b hb hc
      have nde := (List.nodup_append.mp G1.nd).1
      have n1 := List.nodup_append.mp (e' ▸ nde)
      have n2 := (List.nodup_append.mp n1.2.1).1
      have afe' : ∀ b ∈ a :: f', b ∈ fe := fun b hb => by rw [e']; exact List.mem_append_right _ (List.mem_append_left _ hb)
      have nda := List.nodup_cons.mp n2
      have ex : Ext H1 (upd H1 a (.lst (vs ++ [y]))) := upd_ext hH1
      have kp : ∀ b zs, b ∈ f' ++ fm → H1 b = some zs → upd H1 a (.lst (vs ++ [y])) b = some zs := fun b zs hb q => by
        rw [upd_ne fun z => ?_]; exact q
        subst z
        rcases List.mem_append.mp hb with hb | hb
        · exact nda.1 hb
        · exact dj b hb (List.mem_append_left _ (afe' b List.mem_cons_self))
      have rr : Rep T φ1 (upd H1 a (.lst (vs ++ [y]))) (.ref a) (.lst (ms ++ [m])) (a :: (f' ++ (fm ++ []))) :=
        .lst upd_same (Reps.app (rs'.ext ex (Pre.refl _) fun b zs hb => kp b zs (List.mem_append_left _ hb)) (.cons (r1.ext ex (Pre.refl _) fun b zs hb => kp b zs (List.mem_append_right _ hb)) .nil))
      rw [List.append_nil] at rr
      have n3 : a ∉ f' ++ fm := fun z => by
        rcases List.mem_append.mp z with z | z
        · exact nda.1 z
        · exact dj a z (List.mem_append_left _ (afe' a List.mem_cons_self))
      have n4 : (f' ++ fm).Nodup := List.nodup_append.mpr ⟨nda.2, (List.nodup_append.mp A.nd).1, fun b hb c hc z => by
        subst z
        exact dj b hc (List.mem_append_left _ (afe' b (List.mem_cons_of_mem _ hb)))⟩
      obtain ⟨G2, A2⟩ := Good.wr (fm := fm) G1 e' List.mem_cons_self hH1 wr' rr (fun b hb => by simpa using hb) (List.nodup_cons.mpr ⟨n3, n4⟩) dj
      refine ⟨a, vs, y, rfl, rfl, hH1, by rw [rs'.len]; exact hz, ?_⟩
      exact k.nx _ S1 σ _ φ1 _ fs1 q (A.s.trans A2) G2
theorem fs_append {i : Nat} {ex : Expr} {apos cpos : Pos} (hK : X.K = T.K) (hx : PE X ex (tVar i)) (he : PE X e (LE T W t))
    (hbase : attributeBase ex "append" X.env (eval ex X.env) = eval ex X.env := by rfl)
    (hpl : (((backTo cpos (starEach [e] X.env)).all fun x => !x.1) && (backToKw cpos (keywordEach [] X.env)).all (fun x => x.1.isSome) && decide ([e].length + ([] : List Keyword).length + (if ([] : List Keyword).isEmpty then 0 else 1) < 30)) = true := by rfl)
    (hline : (apos.endLine == cpos.line) = true := by rfl) (h1 : starEach [e] X.env = (false, eval e X.env) :: starEach [] X.env := by rfl) (h2 : (backTo cpos (starEach [] X.env)).any (·.1) = false := by rfl)
    (hs : swapsWith (.Call (.Attribute ex "append" apos) [e] [] cpos) none pos.line X.env = pure false := by rfl) :
    PS X (.Expr (.Call (.Attribute ex "append" apos) [e] [] cpos) pos) (LS T W (fApp i t)) :=
  PS.weak (ps_expr (pe_bm PySem.F.plainAttrs_list PySem.F.slot_list_append PySem.F.type_list_append mt_append hx (pa_cons he pa_nil h1) hbase hpl hline h1 h2) hs) fun D σ H h => lApp hK h

/-! ### names frozen -/
def fFz (i : Nat) (w : FS) : FS := fun P ρ S => ∃ m, ρ[i]? = some (some m) ∧ w P (ρ.set i (some (.dat m.toD))) S
theorem fs_fz {i : Nat} (h : PSs X rest (LS T W w)) : PSs X rest (LS T W (fFz i w)) := by
  refine ⟨fun pins s σ H D I ⟨ρ, S, φ, fe, fs, P, G, ⟨m, hm, q⟩, k⟩ => ?_⟩
  obtain ⟨v, g, f1, f2, hv, r, e, wr⟩ := G.env.at' hm
  have nds := List.nodup_append.mp G.nd
  have n1 := List.nodup_append.mp (e ▸ nds.1)
  have n2 := List.nodup_append.mp n1.2.1
  obtain ⟨H2, I2, lk, rd⟩ := frz_m I r n2.1
  have gfe : ∀ b ∈ g, b ∈ fe := fun b hb => by rw [e]; exact List.mem_append_right _ (List.mem_append_left _ hb)
  have E2 : RepE T φ H2 σ (ρ.set i (some (.dat m.toD))) (f1 ++ ([] ++ f2)) := wr φ H2 _ [] lk.ext (Pre.refl _) (fun b zs hb q => (lk.keep b fun z => by
    rcases List.mem_append.mp hb with hb | hb
    · exact n1.2.2 b hb b (List.mem_append_left _ z) rfl
    · exact n2.2.2 b z b hb rfl).trans q) (.dat rd)
  have sub : ∀ b ∈ f1 ++ ([] ++ f2), b ∈ fe := fun b hb => by
    rw [e]
    rcases List.mem_append.mp hb with hb | hb
    · exact List.mem_append_left _ hb
    · exact List.mem_append_right _ (List.mem_append_right _ hb)
  have G2 : Good T φ H2 σ (ρ.set i (some (.dat m.toD))) S (f1 ++ ([] ++ f2)) fs := by
    refine ⟨E2, lk.sto G.sto fun b hb => G.disj b (gfe b hb), List.nodup_append.mpr ⟨List.nodup_append.mpr ⟨n1.1, n2.2.1, fun b hb c hc => n1.2.2 b hb c (List.mem_append_right _ hc)⟩, nds.2.1, fun b hb c hc => nds.2.2 b (sub b hb) c hc⟩⟩
  have A2 : AftS φ fe fs H φ (f1 ++ ([] ++ f2)) fs H2 := ⟨Pre.refl _, fun b o n h => (lk.keep b fun z => n (List.mem_append_left _ (gfe b z))).trans h, fun b h => (List.mem_append.mp h).elim (fun h => .inl (List.mem_append_left _ (sub b h))) fun h => .inl (List.mem_append_right _ h)⟩
  exact h.run pins s σ H2 D I2 ⟨_, S, φ, _, fs, P, G2, q, k.aft A2⟩

/-! ### what is walked -/
def iAny (K : PySem.W.Frag) (te : TE) : TI := fun σ H R => te σ H fun v H1 => (∃ a, v = .ref a ∧ (∃ xs, SqL K H1 a xs) ∧ R (Itl K a) H1) ∨ (∃ a, v = .ref a ∧ (∃ xs, SqT K H1 a xs) ∧ R (Itt K a) H1) ∨ ∃ x, v = .str x ∧ R (Its x) H1
theorem pi_any {tg : Expr} {te : TE} (he : PE X e te) : PI X tg e (iAny X.K te) := by
  refine ⟨fun pins s σ H R I h => ?_⟩
  refine thn (he.run pins s σ H _ I h) fun v s1 ⟨y, H1, I1, r1, q1⟩ => ?_
  rcases q1 with ⟨a, e, ⟨xs, hq⟩, q⟩ | ⟨a, e, ⟨xs, hq⟩, q⟩ | ⟨x, ex, q⟩
  · subst e
    cases r1
    obtain ⟨its, rv, p, hz⟩ := I1.list hq
    refine wpAny_pyIter_list p.isList ?_
    refine ⟨s1.heap.objs.size, [s1.heap.objs.size], _, _, H1, rfl, I1.kept (t' := s1.toks) fun b o e => Heap.get?_push_of_some _ e, turn_list a _, ⟨_, Heap.get?_push_size _ rfl, rfl, rfl⟩, fun b hb => ?_, q⟩
    have e : b = s1.heap.objs.size := by simpa using hb
    subst e
    exact I1.fpOk (Nat.le_refl _) (I1.hok.fresh (Nat.le_refl _))
  · subst e
    cases r1
    obtain ⟨its, rv, p, hz⟩ := I1.tuple hq
    refine wpAny_pyIter_tuple (show s1.heap.IsTuple a its.toArray from p) ?_
    refine ⟨s1.heap.objs.size, [s1.heap.objs.size], _, _, H1, rfl, I1.kept (t' := s1.toks) fun b o e => Heap.get?_push_of_some _ e, turn_tuple a _, ⟨_, Heap.get?_push_size _ rfl, rfl, rfl⟩, fun b hb => ?_, q⟩
    have e : b = s1.heap.objs.size := by simpa using hb
    subst e
    exact I1.fpOk (Nat.le_refl _) (I1.hok.fresh (Nat.le_refl _))
  · subst ex
    obtain ⟨t, rfl⟩ := r1
    cases ha : x.cps.all (· < 128)
    · exact wpAny_pyIter_wide ha (pi_one (tk := s1.toks) I1 _ (turn_str _ x t "str_iterator" (.inr rfl)) ⟨_, Heap.get?_push_size _ rfl, rfl, rfl⟩ q)
    · exact wpAny_pyIter_ascii ha (pi_one (tk := s1.toks) I1 _ (turn_str _ x t "str_ascii_iterator" (.inl rfl)) ⟨_, Heap.get?_push_size _ rfl, rfl, rfl⟩ q)
/-- the items that a for walks: those of a pure list or tuple, the signs of a text -/
def oWalk (m : M) (Q : List D → Prop) : Prop := match m with
  | .dat (.lst ds) => Q ds
  | .dat (.ktup ds) => Q ds
  | .dat (.tup ds) => Q ds
  | .dat (.str s) => Q (s.map fun c => .str [c])
  | _ => False
def fWalk (t : FE) : FI := fun ρ S Q E => t ρ S (fun m S' => oWalk m fun ds => Q ds S') E
theorem walks_list {φ : Ob} {H : Hp} {a : Addr} {xs : List V} {ds : List D} (h : FzL T H a xs) (rs : FDs T φ H xs ds) : Walks T φ (Itl T.K a) H ds := by
  intro i H2 φ2 ex p
  have h2 : SqL T.K H2 a xs := (ex.fzl h).seq
  refine ⟨fun d hd => ?_, fun hi => ⟨xs, h2, by rw [rs.len]; exact hi⟩⟩
  obtain ⟨x, hx, rx⟩ := rs.get hd
  refine ⟨⟨xs, x, h2, hx⟩, fun y H3 ⟨e, hy⟩ => ?_⟩
  subst e
  have := hy xs h2
  rw [hx] at this
  cases this
  exact ⟨Fresh.refl _, rx.ext ex p⟩
theorem walks_tup {φ : Ob} {H : Hp} {a : Addr} {xs : List V} {ds : List D} (h : SqT T.K H a xs) (rs : FDs T φ H xs ds) : Walks T φ (Itt T.K a) H ds := by
  intro i H2 φ2 ex p
  have h2 : SqT T.K H2 a xs := ex.seqT h
  refine ⟨fun d hd => ?_, fun hi => ⟨xs, h2, by rw [rs.len]; exact hi⟩⟩
  obtain ⟨x, hx, rx⟩ := rs.get hd
  refine ⟨⟨xs, x, h2, hx⟩, fun y H3 ⟨e, hy⟩ => ?_⟩
  subst e
  have := hy xs h2
  rw [hx] at this
  cases this
  exact ⟨Fresh.refl _, rx.ext ex p⟩
theorem walks_str {φ : Ob} {H : Hp} (s : List Nat) : Walks T φ (Its ⟨s.toArray⟩) H (s.map fun c => .str [c]) := by
  intro i H2 φ2 ex p
  refine ⟨fun d hd => ?_, fun hi => by simpa [Its] using hi⟩
  rw [List.getElem?_map] at hd
  cases q : s[i]? with
  | none => rw [q] at hd; cases hd
  | some c =>
    rw [q] at hd
    cases hd
    refine ⟨?_, fun y H3 ⟨e, c', hc, hy⟩ => ?_⟩
    · show i < s.toArray.size
      simpa using (List.getElem?_eq_some_iff.mp q).1
    · subst e
      have e2 : c = c' := by
        have : s[i]? = some c' := by simpa using hc
        rw [q] at this
        exact Option.some.inj this
      subst e2
      subst hy
      exact ⟨Fresh.refl _, .str [c]⟩
theorem fi_any {tg : Expr} (hK : X.K = T.K) (he : PE X e (LB T W t)) : PI X tg e (LI T W (fWalk t)) := PI.weak (pi_any he) fun σ H R ⟨ρ, S, φ, fe, fs, E, Qm, G, w, hx, k⟩ => by
  refine ⟨ρ, S, φ, fe, fs, E, _, G, w, hx, fun m S' v H' φ' fs' fm q A r d R' => ?_⟩
  rw [hK]
  cases r with
  | lst => exact q.elim
  | dct => exact q.elim
  | dat r =>
    cases r with
    | str s => exact .inr (.inr ⟨_, rfl, k _ S' _ H' φ' fs' q A R' (walks_str s)⟩)
    | @tup a xs ds h rs => exact .inr (.inl ⟨a, rfl, ⟨xs, SqT.of h⟩, k _ S' _ H' φ' fs' q A R' (walks_tup (SqT.of h) rs)⟩)
    | @ktup a xs ds h rs => exact .inr (.inl ⟨a, rfl, ⟨xs, .inr h⟩, k _ S' _ H' φ' fs' q A R' (walks_tup (.inr h) rs)⟩)
    | @lst a xs ds h rs => exact .inl ⟨a, rfl, ⟨xs, h.seq⟩, k _ S' _ H' φ' fs' q A R' (walks_list h rs)⟩
    | _ => exact q.elim
/-- lo, lo + 1, .. (n of them) -/
def rng (lo : Int) (n : Nat) : List D := (List.range n).map fun k => .int (lo + (k : Nat))
theorem walks_rng {φ : Ob} {H : Hp} (lo : Int) (n : Nat) : Walks T φ (Itr lo n) H (rng lo n) := by
  intro i H2 φ2 ex p
  refine ⟨fun d hd => ?_, fun hi => by simpa [rng, Itr] using hi⟩
  unfold rng at hd
  rw [List.getElem?_map] at hd
  by_cases hi : i < n
  · rw [List.getElem?_range hi] at hd
    cases hd
    refine ⟨hi, fun y H3 ⟨e, hy⟩ => ?_⟩
    subst e
    subst hy
    exact ⟨Fresh.refl _, .int _⟩
  · rw [List.getElem?_eq_none (by simpa using hi)] at hd
    cases hd
def oR1 (ms : List M) (Q : List D → Prop) : Prop := match ms with
  | [.dat (.int j)] => -(2 ^ 62) ≤ j ∧ j < 2 ^ 62 ∧ Q (rng 0 j.toNat)
  | _ => False
def oR2 (ms : List M) (Q : List D → Prop) : Prop := match ms with
  | [.dat (.int i), .dat (.int j)] => (-(2 ^ 62) ≤ i ∧ i < 2 ^ 62 ∧ -(2 ^ 62) ≤ j ∧ j < 2 ^ 62) ∧ Q (rng i (j - i).toNat)
  | _ => False
def fRng (o : List M → (List D → Prop) → Prop) (t : FA) : FI := fun ρ S Q E => t ρ S (fun ms S' => o ms fun ds => Q ds S') E
theorem fi_rng1 {tg : Expr} {ta : FA} {p : Pos} (hg : Gl X "range") (hm : X.mg "range" = none) (ha : PA X [a] (LAB T W ta)) (hs : starEach [a] X.env = [(false, eval a X.env)] := by rfl) : PI X tg (.Call (.Name "range" p) [a] [] pos) (LI T W (fRng oR1 ta)) :=
  PI.weak (pi_range1 hg hm ha hs) fun σ H R ⟨ρ, S, φ, fe, fs, E, Qm, G, w, hx, k⟩ => by
    refine ⟨ρ, S, φ, fe, fs, E, _, G, w, hx, fun ms S' vs H' φ' fs' fm q A r d R' => ?_⟩
    unfold oR1 at q
    split at q
    · cases r with
      | cons x r =>
        cases r
        cases x with
        | dat x =>
          cases x with
          | int => exact ⟨_, rfl, q.1, q.2.1, k _ S' _ H' φ' fs' q.2.2 A R' (walks_rng _ _)⟩
    · exact q.elim
theorem fi_rng2 {tg : Expr} {ta : FA} {p : Pos} (hg : Gl X "range") (hm : X.mg "range" = none) (ha : PA X [a, b] (LAB T W ta)) (hs : starEach [a, b] X.env = [(false, eval a X.env), (false, eval b X.env)] := by rfl) (hs2 : starEach [b] X.env = [(false, eval b X.env)] := by rfl) :
    PI X tg (.Call (.Name "range" p) [a, b] [] pos) (LI T W (fRng oR2 ta)) :=
  PI.weak (pi_range2 hg hm ha hs hs2) fun σ H R ⟨ρ, S, φ, fe, fs, E, Qm, G, w, hx, k⟩ => by
    refine ⟨ρ, S, φ, fe, fs, E, _, G, w, hx, fun ms S' vs H' φ' fs' fm q A r d R' => ?_⟩
    unfold oR2 at q
    split at q
    · cases r with
      | cons x r =>
        cases r with
        | cons y r =>
          cases r
          cases x with
          | dat x =>
            cases x with
            | int =>
              cases y with
              | dat y =>
                cases y with
                | int => exact ⟨_, _, rfl, q.1, k _ S' _ H' φ' fs' q.2 A R' (walks_rng _ _)⟩
    · exact q.elim

/-! ### [e for x in xs if c] -/
def wipeE (ρ : Ev) : List Nat → Ev
  | [] => ρ
  | v :: vs => (wipeE ρ vs).set v none
theorem RepE.unset {φ : Ob} {H : Hp} : ∀ {σ : St} {ρ : Ev} {f : List Addr} (i : Nat), RepE T φ H σ ρ f → ∃ f', RepE T φ H (σ.set i none) (ρ.set i none) f' ∧ f'.Sublist f
  | _, _, _, i, .nil => ⟨[], .nil, List.Sublist.refl _⟩
  | _, _, _, 0, .skip r => ⟨_, .skip r, List.Sublist.refl _⟩
  | _, _, _, i + 1, .skip r => by
    obtain ⟨f', h1, h2⟩ := RepE.unset i r
    exact ⟨f', .skip h1, h2⟩
  | _, _, _, 0, .cons (f := f) (g := g) y r => ⟨g, .skip r, List.sublist_append_right _ _⟩
  | _, _, _, i + 1, .cons (f := f) (g := g) y r => by
    obtain ⟨f', h1, h2⟩ := RepE.unset i r
    exact ⟨f ++ f', .cons y h1, List.Sublist.append_left h2 f⟩
theorem RepE.wiped {φ : Ob} {H : Hp} {σ : St} {ρ : Ev} {f : List Addr} (r : RepE T φ H σ ρ f) : ∀ vs : List Nat, ∃ f', RepE T φ H (wipe σ vs) (wipeE ρ vs) f' ∧ f'.Sublist f
  | [] => ⟨f, r, List.Sublist.refl _⟩
  | v :: vs => by
    obtain ⟨f1, h1, h2⟩ := r.wiped vs
    obtain ⟨f2, h3, h4⟩ := h1.unset v
    exact ⟨f2, h3, h4.trans h2⟩
theorem wipe_wipe (σ : St) : ∀ vs us : List Nat, (∀ v ∈ vs, v ∈ us) → wipe (wipe σ vs) us = wipe σ us
  | [], us, _ => rfl
  | v :: vs, us, h => by
    show wipe ((wipe σ vs).set v none) us = _
    rw [wipe_set (h v List.mem_cons_self), wipe_wipe σ vs us fun w hw => h w (List.mem_cons_of_mem _ hw)]
abbrev noX : XP := fun _ _ => False
def compW (g : FG) (c : FT) (t : FE) (vs : List Nat) (ρ : Ev) (Q : WP) : List D → List M → Sto → Prop
  | [], acc, S => Q (.lst acc) S
  | d :: ds, acc, S => g (.dat d) (wipeE ρ vs) fun ρ1 => c ρ1 S (fun b S2 => if b = true then t ρ1 S2 (fun m S3 => acc.length < sizeLine ∧ compW g c t vs ρ Q ds (acc ++ [m]) S3) noX else compW g c t vs ρ Q ds acc S2) noX
def fComp (ti : FI) (g : FG) (c : FT) (t : FE) (vs : List Nat) : FE := fun ρ S Q E => ti ρ S (fun ds S' => compW g c t vs ρ Q ds [] S') E
abbrev W0 : WX := fun _ _ _ _ => False
theorem lComp {ti : FI} {g : FG} {c : FT} {vs : List Nat} {σ : St} {H : Hp} {Q : VK} (h : LE T W (fComp ti g c t vs) σ H Q) : tLc (LI T W ti) (LG T vs g) (LT T W0 c) (LE T W0 t) vs σ H Q := by
  obtain ⟨ρ, S, φ, fe, fs, E, Qm, G, w, hx, k⟩ := h
  refine ⟨ρ, S, φ, fe, fs, E, _, G, w, hx, fun ds S0 J H0 φ0 fs0 q0 A0 R0 wk D hD => ?_⟩
  have F0 : Fresh H0 (upd H0 D (.lst [])) [D] := Fresh.upd hD
  have B0 := F0.aft R0 A0.ndS
  refine ⟨fun i m H1 => i + m = ds.length ∧ ∃ (acc : List M) (vs' : List V) (fa : List Addr) (S1 : Sto) (φ1 : Ob) (fs1 : List Addr), compW g c t vs ρ Qm (ds.drop i) acc S1 ∧ Aft φ fs H φ1 fs1 (D :: fa) H1 ∧ Ext H0 H1 ∧ Pre φ0 φ1 ∧ H1 D = some (.lst vs') ∧ Reps T φ1 H1 vs' acc fa ∧ RepS T H1 φ1 φ1 S1 fs1,
    ⟨ds.length, by omega, [], [], [], S0, φ0, fs0, q0, A0.trans B0, F0.ext, Pre.refl _, upd_same, .nil, F0.sto R0⟩, ?_⟩
  intro i m H1 ⟨him, acc, vs', fa, S1, φ1, fs1, h1, A1, ex1, pr1, hD1, ra, R1⟩
  have wk1 := wk i H1 φ1 ex1 pr1
  by_cases hi : ds.length ≤ i
  · rw [List.drop_of_length_le hi] at h1
    exact .inl ⟨wk1.2 hi, k _ S1 _ H1 φ1 fs1 (D :: fa) h1 A1 (.lst hD1 ra) R1⟩
  · have hlt : i < ds.length := by omega
    rw [List.drop_eq_getElem_cons hlt] at h1
    obtain ⟨go, yl⟩ := wk1.1 ds[i] (List.getElem?_eq_getElem hlt)
    refine .inr ⟨go, fun H' => ∃ m', m' < m ∧ (i + 1) + m' = ds.length ∧ ∃ (acc : List M) (vs' : List V) (fa : List Addr) (S1 : Sto) (φ1 : Ob) (fs1 : List Addr), compW g c t vs ρ Qm (ds.drop (i + 1)) acc S1 ∧ Aft φ fs H φ1 fs1 (D :: fa) H' ∧ Ext H0 H' ∧ Pre φ0 φ1 ∧ H' D = some (.lst vs') ∧ Reps T φ1 H' vs' acc fa ∧ RepS T H' φ1 φ1 S1 fs1, fun H' z => z, fun x H2 hy => ?_⟩
    obtain ⟨F2, rd⟩ := yl x H2 hy
    have A2 := F2.aft R1 A1.ndS
    have R2 := F2.sto R1
    -- the frame in the block
    have G1 := A1.good G R1
    have G2 := A2.good G1 R2
    obtain ⟨fw, gw, sl⟩ := G2.env.wiped vs
    have Gw : Good T φ1 H2 (wipe σ vs) (wipeE ρ vs) S1 fw fs1 := ⟨gw, R2, List.nodup_append.mpr ⟨(List.nodup_append.mp G2.nd).1.sublist sl, G2.ndS, fun a h b h' => (List.nodup_append.mp G2.nd).2.2 a (sl.subset h) b h'⟩⟩
    have ob : ∀ a ∈ D :: fa, H1 a ≠ none := fun a ha => by
      rcases List.mem_cons.mp ha with z | z
      · rw [z, hD1]; exact fun z => nomatch z
      · exact ra.own' a z
    have A12 : Aft φ fs H φ1 fs1 ((D :: fa) ++ []) H2 := A1.both A2 ob
    rw [List.append_nil] at A12
    have hD2 : H2 D = some (.lst vs') := F2.keep _ _ hD1
    have ra2 : Reps T φ1 H2 vs' acc fa := ra.ext F2.ext (Pre.refl _) fun a _ _ h => F2.keep a _ h
    refine ⟨.dat ds[i], wipeE ρ vs, S1, φ1, [], fw, fs1, _, .dat rd, Gw, (List.nodup_append.mp Gw.nd).1, fun _ z => (nomatch z), h1, fun ρ3 σ3 fe3 q3 sub3 G3 hw => ⟨hw.trans (wipe_wipe σ vs vs fun _ z => z), ?_⟩⟩
    -- D and its items stand through the turn
    have ob2 : ∀ a ∈ D :: fa, H2 a ≠ none := fun a ha => by
      rcases List.mem_cons.mp ha with z | z
      · rw [z, hD2]; exact fun z => nomatch z
      · exact ra2.own' a z
    have stay : ∀ {H4 : Hp} {φ4 : Ob} {fs4 fm4 : List Addr}, Aft φ1 fs1 H2 φ4 fs4 fm4 H4 → H4 D = some (.lst vs') ∧ Reps T φ4 H4 vs' acc fa ∧ Aft φ fs H φ4 fs4 ((D :: fa) ++ fm4) H4 ∧ Ext H0 H4 ∧ Pre φ0 φ4 := fun {H4 φ4 fs4 fm4} B =>
      ⟨B.keep D _ (A12.disj D List.mem_cons_self) hD2, B.reps R2 ra2 (fun a ha => A12.disj a (List.mem_cons_of_mem _ ha)), A12.both B ob2, (ex1.trans F2.ext).trans (B.ext R2), pr1.trans B.pre⟩
    refine ⟨ρ3, S1, φ1, fe3, fs1, noX, _, G3, q3, fun _ _ _ _ _ _ _ z => z.elim, fun b S4 H4 φ4 fs4 q4 A4 R4 => ?_⟩
    have G4 := A4.good G3 R4
    cases b with
    | false =>
      obtain ⟨s1, s2, s3, s4, s5⟩ := stay A4
      rw [List.append_nil] at s3
      exact ⟨m - 1, by omega, by omega, acc, vs', fa, S4, φ4, fs4, q4, s3, s4, s5, s1, s2, R4⟩
    | true =>
      refine ⟨ρ3, S4, φ4, fe3, fs4, noX, _, G4, q4, fun _ _ _ _ _ _ _ z => z.elim, fun m5 S5 y H5 φ5 fs5 fm5 q5 A5 r5 R5 => ?_⟩
      obtain ⟨s1, s2, s3, s4, s5⟩ := stay (A4.trans A5)
      have nD : ∀ b ∈ fa ++ fm5, b ≠ D := fun b hb z => by
        have nd := (List.nodup_append.mp s3.nd).1
        exact (List.nodup_cons.mp nd).1 (z ▸ hb)
      have nM : D ∉ fs5 ++ φ5.ads := s3.disj D List.mem_cons_self
      have kp : ∀ b zs, b ∈ fa ++ fm5 → H5 b = some zs → upd H5 D (.lst (vs' ++ [y])) b = some zs := fun b zs hb h => by rw [upd_ne (nD b hb)]; exact h
      have A6 : Aft φ fs H φ5 fs5 (D :: (fa ++ fm5)) (upd H5 D (.lst (vs' ++ [y]))) := by
        refine ⟨s3.pre, fun a o n h => ?_, s3.new, s3.nd⟩
        rw [upd_ne fun z => ?_]; exact s3.keep a o n h
        subst z
        rcases s3.new a List.mem_cons_self with q | q
        · exact n q
        · rw [q] at h; cases h
      have rr : Reps T φ5 (upd H5 D (.lst (vs' ++ [y]))) (vs' ++ [y]) (acc ++ [m5]) (fa ++ (fm5 ++ [])) :=
        Reps.app (s2.ext (upd_ext s1) (Pre.refl _) fun b zs hb => kp b zs (List.mem_append_left _ hb)) (.cons (r5.ext (upd_ext s1) (Pre.refl _) fun b zs hb => kp b zs (List.mem_append_right _ hb)) .nil)
      rw [List.append_nil] at rr
      exact ⟨vs', s1, by rw [s2.len]; exact q5.1, m - 1, by omega, by omega, acc ++ [m5], vs' ++ [y], fa ++ fm5, S5, φ5, fs5, q5.2, A6, s4.trans (upd_ext s1), s5, upd_same, rr, R5.wr s1 nM⟩
/-- a comprehension's tests -/
def fYes : FT := fun _ S Q _ => Q true S
theorem PTs.weak {X : Cx} {ifs : List Expr} {t t' : TT} (h : PTs X ifs t) (k : ∀ σ H Q, t' σ H Q → t σ H Q) : PTs X ifs t' := ⟨fun pins s σ H Q I w => h.run pins s σ H Q I (k _ _ _ w)⟩
theorem fts_nil : PTs X [] (LT T W fYes) := PTs.weak pts_nil fun σ H Q ⟨ρ, S, φ, fe, fs, E, Qm, G, w, hx, k⟩ => k true S H φ fs w (Aft.refl G.ndS) G.sto
theorem fts_one {c : Expr} {tc : FT} (h : PT X c (LT T W tc)) : PTs X [c] (LT T W tc) := pts_one h
theorem fe_lc {elt tg iter : Expr} {ifs : List Expr} {scope : Scope} {own : List (Str × Nat)} {ti : FI} {g : FG} {c : FT} (hc : X.calm = true) (hN : X.N.Nodup) (hi : PI X tg iter (LI T W ti)) (ok : BlkOk X.N X.env.scope scope own)
    (hg : ∀ (s : Shared) (H : Hp) (C : Addr) (cl : List (Str × Addr)) (fp : List Addr), PG (X.blk s H scope (compEnvC scope cl C X.env) fp) tg (LG T (own.map (·.2)) g)) (ht : ∀ (s : Shared) (H : Hp) (C : Addr) (cl : List (Str × Addr)) (fp : List Addr), PTs (X.blk s H scope (compEnvC scope cl C X.env) fp) ifs (LT T W0 c))
    (he : ∀ (s : Shared) (H : Hp) (C : Addr) (cl : List (Str × Addr)) (fp : List Addr), PE (X.blk s H scope (compEnvC scope cl C X.env) fp) elt (LE T W0 t)) (hs : ∀ x, foldedSetIterable iter X.env x = pure x := by intro _; rfl) :
    PE X (.ListComp elt [⟨tg, iter, ifs, 0⟩] scope pos) (LE T W (fComp ti g c t (own.map (·.2)))) := PE.weak (pe_lc hc hN hi ok hg ht he hs) fun σ H Q h => lComp h
theorem fs_setLc {i : Nat} {y : Str} {py spos : Pos} {elt tg iter : Expr} {ifs : List Expr} {scope : Scope} {own : List (Str × Nat)} {ti : FI} {g : FG} {c : FT} (hc : X.calm = true) (hN : X.N.Nodup) (hy : X.N[i]? = some y) (hyl : X.env.scope.names.lookup y = some .local)
    (hsw : swapsWith (.ListComp elt [⟨tg, iter, ifs, 0⟩] scope pos) (some (.Name y py)) spos.line X.env = pure true) (hi : PI X tg iter (LI T W ti)) (ok : BlkOk X.N X.env.scope scope own)
    (hg : ∀ (s : Shared) (H : Hp) (C : Addr) (cl : List (Str × Addr)) (fp : List Addr), PG (X.blk s H scope (compEnvC scope cl C X.env) fp) tg (LG T (own.map (·.2)) g)) (ht : ∀ (s : Shared) (H : Hp) (C : Addr) (cl : List (Str × Addr)) (fp : List Addr), PTs (X.blk s H scope (compEnvC scope cl C X.env) fp) ifs (LT T W0 c))
    (he : ∀ (s : Shared) (H : Hp) (C : Addr) (cl : List (Str × Addr)) (fp : List Addr), PE (X.blk s H scope (compEnvC scope cl C X.env) fp) elt (LE T W0 t)) (hs : ∀ x, foldedSetIterable iter X.env x = pure x := by intro _; rfl) :
    PS X (.Assign [.Name y py] (.ListComp elt [⟨tg, iter, ifs, 0⟩] scope pos) spos) (LS T W (fAsg (fComp ti g c t (own.map (·.2))) (gN i))) :=
  PS.weak (ps_setLc hc hN hy hyl hsw hi ok hg ht he hs) fun D σ H h => by
    obtain ⟨ρ, S, φ, fe, fs, E, Qm, G, w, hx, k⟩ := lSet h
    exact lComp ⟨ρ, S, φ, fe, fs, E, Qm, G, w, hx, k⟩
end
end L2.Fn
/-! Fn, part G: slices, built-ins, methods of texts, items stored. -/
namespace L2.Fn
open PySem PySem.Spec PyProof.Rows

/-! ### slices -/
abbrev FO := Ev → Sto → (Option Int → Sto → Prop) → XP → Prop
def LO (T : Top) (W : WX) (t : FO) : TO := fun σ H Q => ∃ (ρ : Ev) (S : Sto) (φ : Ob) (fe fs : List Addr) (E : XP) (Qm : Option Int → Sto → Prop), Good T φ H σ ρ S fe fs ∧ t ρ S Qm E ∧ WxE T φ fs H σ E W ∧
  ∀ (m : Option Int) (S' : Sto) (H' : Hp) (φ' : Ob) (fs' : List Addr), Qm m S' → Aft φ fs H φ' fs' [] H' → RepS T H' φ' φ' S' fs' → Q m H'
def fNoP : FO := fun _ S Q _ => Q none S
def fPart (t : FE) : FO := fun ρ S Q E => t ρ S (fun m S' => match m with
  | .dat (.int i) => Q (some i) S'
  | _ => False) E
/-- the part from lo to hi, as Python cuts -/
def cutN {α : Type} (xs : List α) (lo hi : Option Int) : List α := (xs.drop (HT.sIx xs.length 0 lo)).take (HT.sIx xs.length xs.length hi - HT.sIx xs.length 0 lo)
def oSl (m : M) (lo hi : Option Int) (Q : M → Prop) : Prop := match m with
  | .dat (.str s) => s.length ≤ sizeLine ∧ Q (.dat (.str (cutN s lo hi)))
  | .dat (.tup ds) => Q (.dat (.tup (cutN ds lo hi)))
  | m => ∃ ds, m.ld = some ds ∧ Q (.lst ((cutN ds lo hi).map .dat))
section
variable {X : Cx} {T : Top} {W : WX} {e a b ej : Expr} {t ta tb tj tk : FE} {pos : Pos} {es : List Expr} {st : Stmt} {rest body : List Stmt} {u w : FS} {lo hi : Option Expr}
theorem PO.weak {e : Option Expr} {t t' : TO} (h : PO X e t) (k : ∀ σ H Q, t' σ H Q → t σ H Q) : PO X e t' := ⟨fun pins s σ H Q I w => h.run pins s σ H Q I (k _ _ _ w)⟩
theorem fo_none : PO X none (LO T W fNoP) := PO.weak po_none fun σ H Q ⟨ρ, S, φ, fe, fs, E, Qm, G, w, hx, k⟩ => k none S H φ fs w (Aft.refl G.ndS) G.sto
theorem fo_some (h : PE X e (LB T W t)) : PO X (some e) (LO T W (fPart t)) := PO.weak (po_some h) fun σ H Q ⟨ρ, S, φ, fe, fs, E, Qm, G, w, hx, k⟩ => by
  refine ⟨ρ, S, φ, fe, fs, E, _, G, w, hx, fun m S' v H' φ' fs' fm q A r d R' => ?_⟩
  cases r with
  | lst => exact q.elim
  | dct => exact q.elim
  | dat r =>
    cases r with
    | int i => exact ⟨i, rfl, k _ S' H' φ' fs' q A R'⟩
    | _ => exact q.elim
def rSlAll (K : PySem.W.Frag) : V → Option Int → Option Int → Hp → VK → Prop := fun x lo hi H Q => (rSlS x lo hi H Q ∨ rSlA K x lo hi H Q) ∨ rSlL K x lo hi H Q
theorem sl_all : SlR X (rSlAll X.K) := (sl_str.or sl_tupA).or sl_list
def fSl (t : FE) (tl th : FO) : FE := fun ρ S Q E => t ρ S (fun m S1 => tl ρ S1 (fun l S2 => th ρ S2 (fun h S3 => oSl m l h fun r => Q r S3) E) E) E
theorem cutV_eq (xs : List V) (lo hi : Option Int) : cutV xs lo hi = cutN xs lo hi := rfl
theorem FDs.cut {φ : Ob} {H : Hp} {xs : List V} {ds : List D} (r : FDs T φ H xs ds) (lo hi : Option Int) : FDs T φ H (cutN xs lo hi) (cutN ds lo hi) := by
  unfold cutN
  rw [r.len]
  exact (r.drop _).take _
theorem fe_slice {p2 : Pos} {tl th : FO} (hK : X.K = T.K) (he : PE X e (LB T W t)) (hl : PO X lo (LO T W tl)) (hu : PO X hi (LO T W th)) : PE X (.Subscript e (.Slice lo hi none p2) pos) (LE T W (fSl t tl th)) :=
  PE.weak (pe_slice sl_all he hl hu) fun σ H Q ⟨ρ, S, φ, fe, fs, E, Qm, G, w, hx, k⟩ => by
    refine ⟨ρ, S, φ, fe, fs, E, _, G, w, hx, fun m S1 v H1 φ1 fs1 f1 q1 A1 r1 d1 R1 => ?_⟩
    have G1 := A1.good G R1
    refine ⟨ρ, S1, φ1, fe, fs1, E, _, G1, q1, hx.aft A1, fun l S2 H2 φ2 fs2 q2 A2 R2 => ?_⟩
    have G2 := A2.good G1 R2
    refine ⟨ρ, S2, φ2, fe, fs2, E, _, G2, q2, (hx.aft A1).aft A2, fun h S3 H3 φ3 fs3 q3 A3 R3 => ?_⟩
    have A := (A1.trans A2).trans A3
    have r := (A2.trans A3).rep R1 r1 d1
    rw [hK]
    have lists : ∀ ds, m.ld = some ds → Qm (.lst ((cutN ds l h).map .dat)) S3 → rSlAll T.K v l h H3 Q := fun ds e q => by
      obtain ⟨a, xs, rfl, hs, rs⟩ := ld_ok r e
      refine .inr ⟨a, xs, rfl, hs, fun p hp => ?_⟩
      have F : Fresh H3 (upd H3 p (.lst (cutV xs l h))) [p] := Fresh.upd hp
      exact k _ S3 _ _ φ3 fs3 [p] q (A.trans (F.aft R3 A3.ndS)) (.lst upd_same ((rs.cut l h).ext F.ext (Pre.refl _)).reps) (F.sto R3)
    cases r with
    | lst hH rs =>
      obtain ⟨ds, e, q⟩ := q3
      exact lists ds e q
    | dct hH rs =>
      obtain ⟨ds, e, q⟩ := q3
      cases e
    | dat r =>
      cases r with
      | str s =>
        refine .inl (.inl ⟨_, rfl, by rw [str_len]; exact q3.1, ?_⟩)
        have e : cutS ⟨s.toArray⟩ l h = ⟨(cutN s l h).toArray⟩ := by
          unfold cutS cutN
          rw [str_len]
        rw [e]
        exact k _ S3 _ H3 φ3 fs3 [] q3.2 A (.dat (.str _)) R3
      | @tup a xs ds hs rs =>
        refine .inl (.inr ⟨a, xs, rfl, SqT.of hs, fun hw => ?_, fun hw p hp => ?_⟩)
        · refine k _ S3 _ H3 φ3 fs3 [] q3 A (.dat (.tup hs ?_)) R3
          have e : cutN ds l h = ds := by
            unfold cutN
            rw [← rs.len, hw.1, hw.2, rs.len, List.drop_zero, Nat.sub_zero, List.take_length]
          rw [e]
          exact rs
        · have F : Fresh H3 (upd H3 p (.tup (cutV xs l h))) [] := Fresh.upd0 hp
          exact k _ S3 _ _ φ3 fs3 [] q3 (A.trans (F.aft R3 A3.ndS)) (.dat (.tup upd_same ((rs.cut l h).ext F.ext (Pre.refl _)))) (F.sto R3)
      | @lst a xs ds hs rs =>
        obtain ⟨ds, e, q⟩ := q3
        exact lists ds e q
      | _ =>
        obtain ⟨ds, e, q⟩ := q3
        cases e

/-! ### len, int, str, tuple, list -/
def oLen (ms : List M) (Q : M → Prop) : Prop := match ms with
  | [.dat (.str s)] => s.length ≤ sizeLine ∧ Q (.dat (.int s.length))
  | [.dat (.tup l)] => Q (.dat (.int l.length))
  | [.dat (.lst l)] => Q (.dat (.int l.length))
  | [.lst l] => Q (.dat (.int l.length))
  | _ => False
theorem o_len : OpN T (fun xs H Q => ∃ x n, xs = [x] ∧ LenV T.K x H n ∧ Q (.int n) H) oLen := by
  intro φ H vs ms f Q Qm r w k
  unfold oLen at w
  split at w
  · cases r with
    | cons x r =>
      cases r
      cases x with
      | dat x =>
        cases x with
        | str s => exact ⟨_, _, rfl, ⟨by rw [str_len]; exact w.1, rfl⟩, by rw [str_len]; exact k _ _ H [] w.2 (Fresh.refl H) (.dat (.int _))⟩
  · cases r with
    | cons x r =>
      cases r
      cases x with
      | dat x =>
        cases x with
        | tup h rs => exact ⟨_, _, rfl, .inr ⟨_, SqT.of h, rfl⟩, by rw [rs.len]; exact k _ _ H [] w (Fresh.refl H) (.dat (.int _))⟩
  · cases r with
    | cons x r =>
      cases r
      cases x with
      | dat x =>
        cases x with
        | lst h rs => exact ⟨_, _, rfl, .inl ⟨_, h.seq, rfl⟩, by rw [rs.len]; exact k _ _ H [] w (Fresh.refl H) (.dat (.int _))⟩
  · cases r with
    | cons x r =>
      cases r
      cases x with
      | lst h rs => exact ⟨_, _, rfl, .inl ⟨_, SqL.of h, rfl⟩, by rw [rs.len]; exact k _ _ H [] w (Fresh.refl H) (.dat (.int _))⟩
  · exact w.elim
def oIntC (ms : List M) (Q : M → Prop) : Prop := match ms with
  | [.dat (.int i)] => Q (.dat (.int i))
  | [.dat (.bl b)] => Q (.dat (.int (if b then 1 else 0)))
  | _ => False
theorem o_intC : OpN T (fun xs H Q => (∃ i, xs = [.int i] ∧ Q (.int i) H) ∨ ∃ k, xs = [.bl k] ∧ Q (.int (if k then 1 else 0)) H) oIntC := by
  intro φ H vs ms f Q Qm r w k
  unfold oIntC at w
  split at w
  · cases r with
    | cons x r =>
      cases r
      cases x with
      | dat x =>
        cases x
        exact .inl ⟨_, rfl, k _ _ H [] w (Fresh.refl H) (.dat (.int _))⟩
  · cases r with
    | cons x r =>
      cases r
      cases x with
      | dat x =>
        cases x
        exact .inr ⟨_, rfl, k _ _ H [] w (Fresh.refl H) (.dat (.int _))⟩
  · exact w.elim
/-- the decimal figures of a number -/
def decN (i : Int) : List Nat := (toString i).toList.map Char.toNat
def oStrI (ms : List M) (Q : M → Prop) : Prop := match ms with
  | [.dat (.int i)] => i.natAbs.log2 < 1920 ∧ Q (.dat (.str (decN i)))
  | _ => False
theorem o_strI : OpN T (fun xs H Q => ∃ i : Int, xs = [.int i] ∧ i.natAbs.log2 < 1920 ∧ Q (.str (toString i)) H) oStrI := by
  intro φ H vs ms f Q Qm r w k
  unfold oStrI at w
  split at w
  · cases r with
    | cons x r =>
      cases r
      cases x with
      | dat x =>
        cases x
        refine ⟨_, rfl, w.1, ?_⟩
        rw [Str.ofString_eq_toList]
        exact k _ _ H [] w.2 (Fresh.refl H) (.dat (.str _))
  · exact w.elim
def oTupC (ms : List M) (Q : M → Prop) : Prop := match ms with
  | [.dat (.tup ds)] => Q (.dat (.tup ds))
  | [m] => ∃ ds, m.ld = some ds ∧ Q (.dat (.tup ds))
  | _ => False
theorem o_tupC : OpN T (fun xs H Q => ∃ p ys, xs = [.ref p] ∧ ((SqL T.K H p ys ∧ ∀ l, H l = none → Q (.ref l) (upd H l (.tup ys))) ∨ (SqT T.K H p ys ∧ Q (.ref p) H))) oTupC := by
  intro φ H vs ms f Q Qm r w k
  unfold oTupC at w
  split at w
  · cases r with
    | cons x r =>
      cases r
      cases x with
      | dat x =>
        cases x with
        | tup h rs => exact ⟨_, _, rfl, .inr ⟨SqT.of h, k _ _ H [] w (Fresh.refl H) (.dat (.tup h rs))⟩⟩
  · obtain ⟨ds, e, w⟩ := w
    cases r with
    | cons x r =>
      cases r
      obtain ⟨a, xs, rfl, h, rs⟩ := ld_ok x e
      refine ⟨a, xs, rfl, .inl ⟨h, fun l hl => ?_⟩⟩
      have F : Fresh H (upd H l (.tup xs)) [] := Fresh.upd0 hl
      exact k _ _ _ [] w F (.dat (.tup upd_same (rs.ext F.ext (Pre.refl _))))
  · exact w.elim
def oLstC (ms : List M) (Q : M → Prop) : Prop := match ms with
  | [.dat (.tup ds)] => Q (.lst (ds.map .dat))
  | [m] => ∃ ds, m.ld = some ds ∧ Q (.lst (ds.map .dat))
  | _ => False
theorem o_lstC : OpN T (fun xs H Q => ∃ p ys, xs = [.ref p] ∧ (SqL T.K H p ys ∨ SqT T.K H p ys) ∧ ∀ l, H l = none → Q (.ref l) (upd H l (.lst ys))) oLstC := by
  intro φ H vs ms f Q Qm r w k
  have fin : ∀ (xs : List V) (ds : List D), FDs T φ H xs ds → Qm (.lst (ds.map .dat)) → ∀ l, H l = none → Q (.ref l) (upd H l (.lst xs)) := fun xs ds rs w l hl => by
    have F : Fresh H (upd H l (.lst xs)) [l] := Fresh.upd hl
    exact k _ _ _ [l] w F (.lst upd_same (rs.ext F.ext (Pre.refl _)).reps)
  unfold oLstC at w
  split at w
  · cases r with
    | cons x r =>
      cases r
      cases x with
      | dat x =>
        cases x with
        | tup h rs => exact ⟨_, _, rfl, .inr (SqT.of h), fin _ _ rs w⟩
  · obtain ⟨ds, e, w⟩ := w
    cases r with
    | cons x r =>
      cases r
      obtain ⟨a, xs, rfl, h, rs⟩ := ld_ok x e
      exact ⟨a, xs, rfl, .inl h, fin _ _ rs w⟩
  · exact w.elim

/-! ### isinstance(x, T), T a built-in class by its name -/
def M.ty : M → Option String
  | .dat .non => some "NoneType"
  | .dat (.bl _) => some "bool"
  | .dat (.int _) => some "int"
  | .dat (.str _) => some "str"
  | .dat (.tup _) => some "tuple"
  | .dat (.ktup _) => some "tuple"
  | .dat (.lst _) => some "list"
  | .lst _ => some "list"
  | _ => none
theorem ty_ok {φ : Ob} {H : Hp} {v : V} {m : M} {f : List Addr} (r : Rep T φ H v m f) {n : String} (e : m.ty = some n) : TyX T.K H v (.type n) := by
  cases r with
  | lst h rs => cases e; exact .base (.lst h)
  | dct => cases e
  | dat r =>
    cases r with
    | non => cases e; exact .base .non
    | bl b => cases e; exact .base (.bl b)
    | int i => cases e; exact .base (.int i)
    | str s => cases e; exact .base (.str _)
    | tup h rs =>
      cases e
      exact .base (.tup h)
    | ktup h rs =>
      cases e
      obtain ⟨o, its, n, hk, hc, _⟩ := h
      exact .kTuple hk hc
    | dct => cases e
    | lst h rs =>
      cases e
      rcases h with ⟨o, h⟩ | ⟨o, its, n, hk, hc, _⟩
      · exact .base (.frz h)
      · exact .kList hk hc
    | obj => cases e
    | fn => cases e
    | exn => cases e
def fIsi (t : FE) (n : String) : FE := fun ρ S Q E => t ρ S (fun m S' => ∃ k, m.ty = some k ∧ ∃ b, kitB k n = some b ∧ Q (.dat (.bl b)) S') E
theorem fe_isi {p pn : Pos} {n : String} {nm : Str} (hK : X.K = T.K) (he : PE X e (LB T W t)) (hn : PE X (.Name nm pn) (tC (.ty n))) (hg : Gl X "isinstance") (hm : X.mg "isinstance" = none)
    (hs : starEach [e, .Name nm pn] X.env = (false, eval e X.env) :: starEach [.Name nm pn] X.env := by rfl) (hs2 : starEach [.Name nm pn] X.env = (false, eval (.Name nm pn) X.env) :: starEach [] X.env := by rfl)
    (hpl : (backTo pos (starEach [.Name nm pn] X.env)).any (·.1) = false := by rfl) :
    PE X (.Call (.Name "isinstance" p) [e, .Name nm pn] [] pos) (LE T W (fIsi t n)) :=
  PE.weak (pe_callB call_isi hg hm (by decide +kernel) (pa_cons he (pa_cons hn pa_nil hs2) hs) (by decide) (by decide) hs hpl) fun σ H Q ⟨ρ, S, φ, fe, fs, E, Qm, G, w, hx, k⟩ => by
    refine ⟨ρ, S, φ, fe, fs, E, _, G, w, hx, fun m S' v H' φ' fs' fm q A r d R' => ?_⟩
    obtain ⟨kk, e1, b, e2, q⟩ := q
    refine ⟨v, .ty n, .type kk, .type n, b, rfl, .ty n, by rw [hK]; exact ty_ok r e1, kit_ty e2, ?_⟩
    exact k _ S' _ H' φ' fs' [] q A (.dat (.bl b)) R'

/-! ### methods of texts -/
def fM1 (o : List Nat → List M → (M → Prop) → Prop) (t : FE) (ta : FA) : FE := fun ρ S Q E => t ρ S (fun m S1 => match m with
  | .dat (.str s) => ta ρ S1 (fun ms S2 => o s ms fun r => Q r S2) E
  | _ => False) E
def OpS (T : Top) (r : V → List V → Hp → VK → Prop) (o : List Nat → List M → (M → Prop) → Prop) : Prop := ∀ (φ : Ob) (H : Hp) (s : List Nat) (vs : List V) (ms : List M) (f : List Addr) (Q : VK) (Qm : M → Prop), Reps T φ H vs ms f → o s ms Qm →
  (∀ m v H' fm, Qm m → Fresh H H' fm → Rep T φ H' v m fm → Q v H') → r (.str ⟨s.toArray⟩) vs H Q
theorem lM1 {o : List Nat → List M → (M → Prop) → Prop} {ta : FA} {r : V → List V → Hp → VK → Prop} {σ : St} {H : Hp} {Q : VK} {c : V → Hp → Prop} (h2 : OpS T r o) (hc : ∀ s H, c (.str s) H) (h : LE T W (fM1 o t ta) σ H Q) : LB T W t σ H fun x H1 => c x H1 ∧ LAB T W ta σ H1 fun xs H2 => r x xs H2 Q := by
  obtain ⟨ρ, S, φ, fe, fs, E, Qm, G, w, hx, k⟩ := h
  refine ⟨ρ, S, φ, fe, fs, E, _, G, w, hx, fun m S1 v H1 φ1 fs1 f1 q1 A1 r1 d1 R1 => ?_⟩
  cases r1 with
  | lst => exact q1.elim
  | dct => exact q1.elim
  | dat r1 =>
    cases r1 with
    | str s =>
      refine ⟨hc _ _, ρ, S1, φ1, fe, fs1, E, _, A1.good G R1, q1, hx.aft A1, fun ms S2 vs H2 φ2 fs2 f2 q2 A2 r2 d2 R2 => ?_⟩
      refine h2 φ2 H2 s vs ms f2 Q _ r2 q2 fun m v H' fm q F r => ?_
      exact k m S2 v H' φ2 fs2 fm q ((A1.trans A2).trans (F.aft R2 A2.ndS)) r (F.sto R2)
    | _ => exact q1.elim
theorem fe_strM {name : Str} {id : String} {apos cpos : Pos} {r : V → List V → Hp → VK → Prop} {o : List Nat → List M → (M → Prop) → Prop} {ta : FA} (slot : Slot "str" name id) (hty : typeOf (.builtin id) = pure (.type "method_descriptor")) (hm : MtR X id r) (h2 : OpS T r o)
    (ho : PE X b (LB T W t)) (ha : PA X (e :: es) (LAB T W ta))
    (hbase : attributeBase b name X.env (eval b X.env) = eval b X.env := by rfl)
    (hpl : (((backTo cpos (starEach (e :: es) X.env)).all fun x => !x.1) && (backToKw cpos (keywordEach [] X.env)).all (fun x => x.1.isSome) && decide ((e :: es).length + ([] : List Keyword).length + (if ([] : List Keyword).isEmpty then 0 else 1) < 30)) = true := by rfl)
    (hline : (apos.endLine == cpos.line) = true := by rfl) (h3 : starEach (e :: es) X.env = (false, eval e X.env) :: starEach es X.env := by rfl) (h4 : (backTo cpos (starEach es X.env)).any (·.1) = false := by rfl) :
    PE X (.Call (.Attribute b name apos) (e :: es) [] cpos) (LE T W (fM1 o t ta)) :=
  PE.weak (pe_bm PySem.F.plainAttrs_str slot hty hm ho ha hbase hpl hline h3 h4) fun σ H Q h => lM1 (c := fun x H1 => tyV X.K "str" x H1) h2 (fun _ _ => rfl) h
/-- where the sign c stands, from lo on, ahead of hi -/
def FindS (s : List Nat) (c : Nat) (lo : Int) (k : Int) : Prop := (k = -1 ∧ ∀ v : Nat, lo ≤ v → s[v]? ≠ some c) ∨ ∃ n : Nat, k = n ∧ lo ≤ n ∧ s[n]? = some c ∧ ∀ v : Nat, lo ≤ v → v < n → s[v]? ≠ some c
def oFind3 (s : List Nat) (ms : List M) (Q : M → Prop) : Prop := match ms with
  | [.dat (.str [c]), .dat (.int i)] => 0 ≤ i ∧ ∀ k, FindS s c i k → Q (.dat (.int k))
  | _ => False
theorem fromIx {n : Nat} {i : Int} (h : 0 ≤ i) : (fromIndex n i : Int) = i := by
  unfold fromIndex
  rw [if_neg (by omega)]
  omega
theorem getD_iff {s : List Nat} {v c : Nat} (h : v < s.length) : ((⟨s.toArray⟩ : Str).cps.getD v 0 = c) ↔ s[v]? = some c := by
  rw [List.getElem?_eq_getElem h]
  have : (⟨s.toArray⟩ : Str).cps.getD v 0 = s[v] := by simp [Array.getD, h]
  rw [this]
  exact ⟨fun e => by rw [e], fun e => Option.some.inj e⟩
theorem o_find3 : OpS T (fun x xs H Q => ∃ (a b : Str) (i : Int), x = .str a ∧ xs = [.str b, .int i] ∧ Q (.int (Txt.find3 a b i)) H) oFind3 := by
  intro φ H s vs ms f Q Qm r w k
  unfold oFind3 at w
  split at w
  · cases r with
    | cons x r =>
      cases r with
      | cons y r =>
        cases r
        cases x with
        | dat x =>
          cases x
          cases y with
          | dat y =>
            cases y
            rename_i c i
            refine ⟨_, _, i, rfl, rfl, k _ _ H [] (w.2 _ ?_) (Fresh.refl H) (.dat (.int _))⟩
            have hl : (⟨s.toArray⟩ : Str).length = s.length := str_len s
            rcases PySem.StrLaws.find3_spec ⟨s.toArray⟩ c i with ⟨e, h⟩ | ⟨n, e, h1, h2, h3, h4⟩
            · rw [show (⟨[c].toArray⟩ : Str) = ⟨#[c]⟩ from rfl, e]
              refine .inl ⟨rfl, fun v hv hc => ?_⟩
              have hlt : v < s.length := (List.getElem?_eq_some_iff.mp hc).1
              exact h v (by have := fromIx (n := (⟨s.toArray⟩ : Str).length) w.1; omega) (by rw [hl]; exact hlt) ((getD_iff hlt).mpr hc)
            · rw [show (⟨[c].toArray⟩ : Str) = ⟨#[c]⟩ from rfl, e]
              rw [hl] at h2
              refine .inr ⟨n, rfl, by have := fromIx (n := (⟨s.toArray⟩ : Str).length) w.1; omega, (getD_iff h2).mp h3, fun v hv hv2 hc => ?_⟩
              have hlt : v < s.length := (List.getElem?_eq_some_iff.mp hc).1
              exact h4 v (by have := fromIx (n := (⟨s.toArray⟩ : Str).length) w.1; omega) hv2 ((getD_iff hlt).mpr hc)
  · exact w.elim
/-- where the last sign c stands, ahead of hi -/
def RFindS (s : List Nat) (c : Nat) (lo hi : Int) (k : Int) : Prop := (k = -1 ∧ ∀ v : Nat, lo ≤ v → v < hi → s[v]? ≠ some c) ∨ ∃ n : Nat, k = n ∧ lo ≤ n ∧ n < hi ∧ s[n]? = some c ∧ ∀ v : Nat, n < v → v < hi → s[v]? ≠ some c
theorem last_spec (s sub : Str) (lo hi : Nat) : ∀ r, Builtin.Str.lastOccurrence s sub lo hi = r → match r with
    | none => ∀ i, lo ≤ i → i < hi + 1 → ¬ (i + sub.length ≤ hi ∧ Builtin.Str.subAt s sub i = true)
    | some n => lo ≤ n ∧ (n + sub.length ≤ hi ∧ Builtin.Str.subAt s sub n = true) ∧ ∀ i, n < i → i < hi + 1 → ¬ (i + sub.length ≤ hi ∧ Builtin.Str.subAt s sub i = true) := by
  intro r hr
  unfold Builtin.Str.lastOccurrence at hr
  simp only [Std.Legacy.Range.forIn_eq_forIn_range', Std.Legacy.Range.size] at hr
  have key : ∀ (l : List Nat) (z : Option Nat) (a : Nat), l = List.range' a l.length → (∀ n, z = some n → n < a) → ∀ r, (forIn (m := Id) l z fun i last => if (decide (i + sub.length ≤ hi) && Builtin.Str.subAt s sub i) = true then pure (ForInStep.yield (some i)) else pure (ForInStep.yield last)).run = r →
      match r with
      | none => z = none ∧ ∀ i, a ≤ i → i < a + l.length → ¬ (i + sub.length ≤ hi ∧ Builtin.Str.subAt s sub i = true)
      | some n => (z = some n ∨ (a ≤ n ∧ n + sub.length ≤ hi ∧ Builtin.Str.subAt s sub n = true)) ∧ ∀ i, a ≤ i → n < i → i < a + l.length → ¬ (i + sub.length ≤ hi ∧ Builtin.Str.subAt s sub i = true) := by
    intro l
    induction l with
    | nil =>
      intro z a _ _ r h
      simp at h
      subst h
      cases z with
      | none => exact ⟨rfl, fun i h1 h2 => by simp at h2; omega⟩
      | some n => exact ⟨.inl rfl, fun i h1 _ h2 => by simp at h2; omega⟩
    | cons x l ih =>
      intro z a hl hz r h
      rw [List.length_cons, List.range'_succ] at hl
      injection hl with h1 h2
      subst h1
      rw [List.forIn_cons] at h
      by_cases hc : (decide (x + sub.length ≤ hi) && Builtin.Str.subAt s sub x) = true
      · rw [if_pos hc] at h
        simp only [pure_bind] at h
        have hc' := hc
        rw [Bool.and_eq_true, decide_eq_true_eq] at hc'
        have := ih (some x) (x + 1) h2 (fun n e => by cases e; omega) r h
        cases r with
        | none => exact absurd this.1 (by simp)
        | some n =>
          refine ⟨.inr ?_, fun i q1 q2 q3 => ?_⟩
          · rcases this.1 with e | e
            · cases e; exact ⟨Nat.le_refl _, hc'⟩
            · exact ⟨by omega, e.2⟩
          · by_cases hxi : x = i
            · subst hxi
              rcases this.1 with e | e
              · cases e; omega
              · omega
            · exact this.2 i (by omega) q2 (by rw [List.length_cons] at q3; omega)
      · rw [if_neg hc] at h
        simp only [pure_bind] at h
        have hc' : ¬ (x + sub.length ≤ hi ∧ Builtin.Str.subAt s sub x = true) := fun q => hc (by rw [Bool.and_eq_true, decide_eq_true_eq]; exact q)
        have := ih z (x + 1) h2 (fun n e => by have := hz n e; omega) r h
        cases r with
        | none =>
          refine ⟨this.1, fun i q1 q2 => ?_⟩
          by_cases hxi : x = i
          · subst hxi; exact hc'
          · exact this.2 i (by omega) (by rw [List.length_cons] at q2; omega)
        | some n =>
          refine ⟨this.1.imp id fun e => ⟨by omega, e.2⟩, fun i q1 q2 q3 => ?_⟩
          by_cases hxi : x = i
          · subst hxi; exact hc'
          · exact this.2 i (by omega) q2 (by rw [List.length_cons] at q3; omega)
  have := key (List.range' lo (hi + 1 - lo)) none lo (by simp) (fun n e => by cases e) r (by
    rw [← hr]
    simp)
  cases r with
  | none => exact fun i h1 h2 => this.2 i h1 (by simp; omega)
  | some n =>
    rcases this.1 with e | e
    · cases e
    · exact ⟨e.1, e.2, fun i h1 h2 => this.2 i (by omega) h1 (by simp; omega)⟩
theorem subAt_sign {s : List Nat} {c v : Nat} : ((v + (⟨#[c]⟩ : Str).length ≤ s.length) ∧ Builtin.Str.subAt ⟨s.toArray⟩ ⟨#[c]⟩ v = true) ↔ s[v]? = some c := by
  have e1 : (⟨#[c]⟩ : Str).length = 1 := rfl
  rw [e1, PySem.StrLaws.subAt_eq]
  show _ ∧ (((s.drop v).take 1 == [c]) = true) ↔ _
  constructor
  · rintro ⟨h1, h2⟩
    have h2 : (s.drop v).take 1 = [c] := by simpa using h2
    have h3 : ((s.drop v).take 1)[0]? = some c := by rw [h2]; rfl
    rw [List.getElem?_take, List.getElem?_drop] at h3
    simpa using h3
  · intro h
    obtain ⟨h1, h2⟩ := List.getElem?_eq_some_iff.mp h
    refine ⟨by omega, ?_⟩
    rw [List.drop_eq_getElem_cons h1, h2]
    simp
def oRFind4 (s : List Nat) (ms : List M) (Q : M → Prop) : Prop := match ms with
  | [.dat (.str [c]), .dat (.int i), .dat (.int j)] => 0 ≤ i ∧ 0 ≤ j ∧ j ≤ s.length ∧ ∀ k, RFindS s c i j k → Q (.dat (.int k))
  | _ => False
theorem o_rfind4 : OpS T (fun x xs H Q => ∃ (a b : Str) (i j : Int), x = .str a ∧ xs = [.str b, .int i, .int j] ∧ Q (.int (Txt.rfindIn a b i j)) H) oRFind4 := by
  intro φ H s vs ms f Q Qm r w k
  unfold oRFind4 at w
  split at w
  · rename_i c i j
    cases r with
    | cons x r =>
      cases r with
      | cons y r =>
        cases r with
        | cons z r =>
          cases r
          cases x with
          | dat x =>
            cases x
            cases y with
            | dat y =>
              cases y
              cases z with
              | dat z =>
                cases z
                refine ⟨_, _, i, j, rfl, rfl, k _ _ H [] (w.2.2.2 _ ?_) (Fresh.refl H) (.dat (.int _))⟩
                have hl : (⟨s.toArray⟩ : Str).length = s.length := str_len s
                have hi := fromIx (n := (⟨s.toArray⟩ : Str).length) w.1
                have hj : (toIndexW (⟨s.toArray⟩ : Str).length j : Int) = j := by
                  unfold toIndexW
                  rw [hl, if_neg (by omega)]
                  have := w.2.2.1
                  omega
                show RFindS s c i j (Txt.rfindIn ⟨s.toArray⟩ ⟨#[c]⟩ i j)
                unfold Txt.rfindIn
                have sp := last_spec ⟨s.toArray⟩ ⟨#[c]⟩ (fromIndex (⟨s.toArray⟩ : Str).length i) (toIndexW (⟨s.toArray⟩ : Str).length j) _ rfl
                have one : (⟨#[c]⟩ : Str).length = 1 := rfl
                have sg : ∀ v : Nat, v < j → s[v]? = some c → (v + (⟨#[c]⟩ : Str).length ≤ toIndexW (⟨s.toArray⟩ : Str).length j ∧ Builtin.Str.subAt ⟨s.toArray⟩ ⟨#[c]⟩ v = true) := fun v hv hc => by
                  obtain ⟨q1, q2⟩ := subAt_sign.mpr hc
                  exact ⟨by rw [one]; omega, q2⟩
                generalize Builtin.Str.lastOccurrence ⟨s.toArray⟩ ⟨#[c]⟩ (fromIndex (⟨s.toArray⟩ : Str).length i) (toIndexW (⟨s.toArray⟩ : Str).length j) = res at sp
                cases res with
                | none => exact .inl ⟨rfl, fun v h1 h2 hc => sp v (by omega) (by omega) (sg v h2 hc)⟩
                | some n =>
                  obtain ⟨s1, s2, s3⟩ := sp
                  have h2 : (n : Int) < j := by have := s2.1; rw [one] at this; omega
                  have h3 : s[n]? = some c := subAt_sign.mp ⟨by have := w.2.2.1; rw [one]; omega, s2.2⟩
                  exact .inr ⟨n, rfl, by omega, h2, h3, fun v q1 q2 hc => s3 v q1 (by omega) (sg v q2 hc)⟩
  · exact w.elim
/-- sep.join of texts -/
def textsOf : List D → Option (List (List Nat))
  | [] => some []
  | .str s :: r => (textsOf r).map (s :: ·)
  | _ :: _ => none
def M.sq (m : M) : Option (List D) := match m with
  | .dat (.tup ds) => some ds
  | m => m.ld
def oJoin (sep : List Nat) (ms : List M) (Q : M → Prop) : Prop := match ms with
  | [m] => ∃ ds, m.sq = some ds ∧ ∃ ps, textsOf ds = some ps ∧ (ps.map List.length).sum + ps.length * sep.length ≤ 16777216 ∧ Q (.dat (.str (TL.joinL sep ps)))
  | _ => False
theorem textsOf_ok {φ : Ob} {H : Hp} : ∀ {vs : List V} {ds : List D} {ps : List (List Nat)}, FDs T φ H vs ds → textsOf ds = some ps → vs = (ps.map fun s => (⟨s.toArray⟩ : Str)).map V.str
  | _, _, ps, .nil, e => by cases e; rfl
  | _, _, ps, .cons (d := d) (ds := ds) x r, e => by
    cases x with
    | str s =>
      rw [textsOf] at e
      cases q : textsOf ds with
      | none => rw [q] at e; cases e
      | some qs =>
        rw [q] at e
        cases e
        rw [textsOf_ok r q] <;> rfl
    | _ => cases e
theorem o_join : OpS T (fun x xs H Q => ∃ a p, ∃ ys : List Str, x = .str a ∧ xs = [.ref p] ∧ (SqL T.K H p (ys.map V.str) ∨ SqT T.K H p (ys.map V.str)) ∧ (ys.map (·.length)).sum + ys.length * a.length ≤ 16777216 ∧ Q (.str (Txt.join a ys)) H) oJoin := by
  intro φ H s vs ms f Q Qm r w k
  unfold oJoin at w
  split at w
  · obtain ⟨ds, e1, ps, e2, hz, w⟩ := w
    cases r with
    | @cons v _ m _ f0 _ x r =>
      cases r
      have fin : ∀ (p : Addr) (xs : List V), v = .ref p → (SqL T.K H p xs ∨ SqT T.K H p xs) → FDs T φ H xs ds → ∃ a p, ∃ ys : List Str, V.str ⟨s.toArray⟩ = .str a ∧ [v] = [V.ref p] ∧ (SqL T.K H p (ys.map V.str) ∨ SqT T.K H p (ys.map V.str)) ∧ (ys.map (·.length)).sum + ys.length * a.length ≤ 16777216 ∧ Q (.str (Txt.join a ys)) H := fun p xs e hs rs => by
        rw [textsOf_ok rs e2] at hs
        refine ⟨_, p, _, rfl, by rw [e], hs, ?_, ?_⟩
        · rw [List.map_map, List.length_map, str_len]
          have : (List.map ((fun x => x.length) ∘ fun (s : List Nat) => (⟨s.toArray⟩ : Str)) ps) = ps.map List.length := List.map_congr_left fun a _ => str_len a
          rw [this]
          exact hz
        · have e3 : Txt.join ⟨s.toArray⟩ (ps.map fun s => (⟨s.toArray⟩ : Str)) = ⟨(TL.joinL s ps).toArray⟩ := by
            apply TL.ext_tl
            rw [TL.join_eq, TL.tl_join]
            show TL.joinL s _ = TL.joinL s ps
            rw [List.map_map]
            have : (List.map (TL.tl ∘ fun (s : List Nat) => (⟨s.toArray⟩ : Str)) ps) = ps := by
              have : (TL.tl ∘ fun (s : List Nat) => (⟨s.toArray⟩ : Str)) = id := by funext a; rfl
              rw [this, List.map_id]
            rw [this]
          rw [e3]
          exact k _ _ H [] w (Fresh.refl H) (.dat (.str _))
      unfold M.sq at e1
      split at e1
      · cases e1
        cases x with
        | dat x =>
          cases x with
          | tup h rs => exact fin _ _ rfl (.inr (SqT.of h)) rs
      · obtain ⟨a, xs, e, h, rs⟩ := ld_ok x e1
        exact fin a xs e (.inl h) rs
  · exact w.elim
theorem fe_join {apos cpos : Pos} (hK : X.K = T.K) (hb : PE X b (LB T W t)) (he : PE X e (LB T W ta)) (hs : starEach [e] X.env = [(false, eval e X.env)] := by rfl) (hbase : attributeBase b "join" X.env (eval b X.env) = eval b X.env := by rfl) (hline : (apos.endLine == cpos.line) = true := by rfl) :
    PE X (.Call (.Attribute b "join" apos) [e] [] cpos) (LE T W (fM1 oJoin t (fCons ta fNil))) :=
  PE.weak (pe_join hb he hs hbase hline) fun σ H Q ⟨ρ, S, φ, fe, fs, E, Qm, G, w, hx, k⟩ => by
    refine ⟨ρ, S, φ, fe, fs, E, _, G, w, hx, fun m S1 v H1 φ1 fs1 f1 q1 A1 r1 d1 R1 => ?_⟩
    cases r1 with
    | lst => exact q1.elim
    | dct => exact q1.elim
    | dat r1 =>
      cases r1 with
      | str s =>
        refine ⟨⟨_, rfl⟩, ρ, S1, φ1, fe, fs1, E, _, A1.good G R1, q1, hx.aft A1, fun m2 S2 v2 H2 φ2 fs2 f2 q2 A2 r2 d2 R2 => ?_⟩
        rw [hK]
        have r2' : Reps T φ2 H2 [v2] [m2] (f2 ++ []) := .cons r2 .nil
        exact o_join φ2 H2 s [v2] [m2] _ Q (fun m => Qm m S2) r2' q2 fun m v H' fm q F r => k m S2 v H' φ2 fs2 fm q ((A1.trans A2).trans (F.aft R2 A2.ndS)) r (F.sto R2)
      | _ => exact q1.elim

/-! ### x[k] = e, x[j][k] = e -/
theorem ixN_lt {n : Nat} {i : Int} {j : Nat} (h : ixN n i = some j) : j < n := by
  unfold ixN at h
  split at h
  · split at h
    · cases h; omega
    · cases h
  · split at h
    · cases h; omega
    · cases h
def fSet0 (i : Nat) (tk t : FE) : FS := fun P ρ S => t ρ S (fun m S1 => ∃ ms, ρ[i]? = some (some (.lst ms)) ∧ tk ρ S1 (fun mk S2 => ∃ kk d, mk = .dat (.int kk) ∧ ixN ms.length kk = some d ∧ P.nx (ρ.set i (some (.lst (ms.set d m)))) S2) fun x S' => P.ex x ρ S') fun x S' => P.ex x ρ S'
theorem lSet0 {D : Ends} {σ : St} {H : Hp} {i : Nat} (h : LS T W (fSet0 i tk t) D σ H) : tAsg (LE T W t) (gSub (tVar i) (LB T W tk) rSetL) D σ H := by
  obtain ⟨ρ, S, φ, fe, fs, P, G, w, k⟩ := h
  refine ⟨ρ, S, φ, fe, fs, _, _, G, w, k.wx G, fun m S1 y H1 φ1 fs1 fm q1 A1 r1 R1 => ?_⟩
  have G1 := A1.good G R1
  obtain ⟨ms, hm, q1⟩ := q1
  obtain ⟨v, g, f1, f2, hv, r, e, wr⟩ := G1.env.at' hm
  have B1 : AftS φ fe fs H φ1 (fm ++ fe) fs1 H1 := A1.s
  have k1 := k.aft (B1.sub fun a z => List.mem_append_right fm z)
  refine ⟨v, hv, ρ, S1, φ1, fe, fs1, _, _, G1, q1, k1.wx G1, fun m2 S2 v2 H2 φ2 fs2 fm2 q2 A2 r2 d2 R2 => ?_⟩
  obtain ⟨kk, d, rfl, hd, q2⟩ := q2
  have G2 := A2.good G1 R2
  have ry := A2.rep R1 r1 A1.disj
  have A12 := A1.both A2 r1.own'
  rw [List.append_nil] at A12
  cases r2 with
  | dat r2 =>
    cases r2 with
    | int =>
      obtain ⟨v', g', f1', f2', hv', r', e', wr'⟩ := G2.env.at' hm
      rw [hv] at hv'
      cases hv'
      cases r' with
      | @lst a vs ms f hH rs =>
        have ap := A12.apart G.disj (fun b hb => by obtain ⟨zs, q, _⟩ := G.env.own b hb; rw [q]; exact fun z => nomatch z)
        have dj : ∀ b ∈ fm, b ∉ fe ++ (fs2 ++ φ2.ads) := fun b hb hc => by
          rcases List.mem_append.mp hc with hc | hc
          · exact ap b hc (List.mem_append_left _ hb)
          · exact A12.disj b hb hc
        have nde := (List.nodup_append.mp G2.nd).1
        have n1 := List.nodup_append.mp (e' ▸ nde)
        have n2 := (List.nodup_append.mp n1.2.1).1
        have afe : ∀ b ∈ a :: f, b ∈ fe := fun b hb => by rw [e']; exact List.mem_append_right _ (List.mem_append_left _ hb)
        have nda := List.nodup_cons.mp n2
        have ndf : (fm ++ f).Nodup := List.nodup_append.mpr ⟨(List.nodup_append.mp A1.nd).1, nda.2, fun b hb c hc z => by
          subst z
          exact dj b hb (List.mem_append_left _ (afe b (List.mem_cons_of_mem _ hc)))⟩
        have ex : Ext H2 (upd H2 a (.lst (vs.set d y))) := upd_ext hH
        have na : a ∉ f ++ fm := fun z => by
          rcases List.mem_append.mp z with z | z
          · exact nda.1 z
          · exact dj a z (List.mem_append_left _ (afe a List.mem_cons_self))
        have kp : ∀ b zs, b ∈ f ++ fm → H2 b = some zs → upd H2 a (.lst (vs.set d y)) b = some zs := fun b zs hb q => by
          rw [upd_ne fun z => na (by rw [← z]; exact hb)]; exact q
        obtain ⟨f', h1, h2, h3⟩ := Reps.set (ry.ext ex (Pre.refl _) fun b zs hb => kp b zs (List.mem_append_right _ hb)) (rs.ext ex (Pre.refl _) fun b zs hb => kp b zs (List.mem_append_left _ hb)) ndf (ixN_lt hd)
        have rr : Rep T φ2 (upd H2 a (.lst (vs.set d y))) (.ref a) (.lst (ms.set d m)) (a :: f') := .lst upd_same h1
        have hsub : ∀ b ∈ a :: f', b ∈ (a :: f) ++ fm := fun b hb => by
          rcases List.mem_cons.mp hb with z | z
          · rw [z]; exact List.mem_append_left _ List.mem_cons_self
          · rcases List.mem_append.mp (h2 b z) with z | z
            · exact List.mem_append_right _ z
            · exact List.mem_append_left _ (List.mem_cons_of_mem _ z)
        have nf : (a :: f').Nodup := List.nodup_cons.mpr ⟨fun z => na (by
          rcases List.mem_append.mp (h2 a z) with z | z
          · exact List.mem_append_right _ z
          · exact List.mem_append_left _ z), h3⟩
        obtain ⟨G3, A3⟩ := Good.wr (fm := fm) G2 e' List.mem_cons_self hH wr' rr hsub nf dj
        refine ⟨a, vs, kk, d, rfl, rfl, hH, by rw [rs.len]; exact hd, ?_⟩
        exact k.nx _ S2 σ _ φ2 _ fs2 q2 (A12.s.trans A3) G3
def fSet1 (i : Nat) (tj tk t : FE) : FS := fun P ρ S => t ρ S (fun m S1 => ∃ ms, ρ[i]? = some (some (.lst ms)) ∧ tj ρ S1 (fun mj S2 => ∃ kj c, mj = .dat (.int kj) ∧ ixN ms.length kj = some c ∧ ∃ ns, ms[c]? = some (.lst ns) ∧
  tk ρ S2 (fun mk S3 => ∃ kk d, mk = .dat (.int kk) ∧ ixN ns.length kk = some d ∧ P.nx (ρ.set i (some (.lst (ms.set c (.lst (ns.set d m)))))) S3) fun x S' => P.ex x ρ S') fun x S' => P.ex x ρ S') fun x S' => P.ex x ρ S'
theorem lSet1 {D : Ends} {σ : St} {H : Hp} {i : Nat} (hK : X.K = T.K) (h : LS T W (fSet1 i tj tk t) D σ H) : tAsg (LE T W t) (gSub (tOp (rIx X.K) (tVar i) (LB T W tj)) (LB T W tk) rSetL) D σ H := by
  obtain ⟨ρ, S, φ, fe, fs, P, G, w, k⟩ := h
  refine ⟨ρ, S, φ, fe, fs, _, _, G, w, k.wx G, fun m S1 y H1 φ1 fs1 fm q1 A1 r1 R1 => ?_⟩
  have G1 := A1.good G R1
  obtain ⟨ms, hm, q1⟩ := q1
  obtain ⟨v, g, f1, f2, hv, r, e, wr⟩ := G1.env.at' hm
  have k1 := k.aft ((A1.s (fe := fe)).sub fun a z => List.mem_append_right fm z)
  refine ⟨v, hv, ρ, S1, φ1, fe, fs1, _, _, G1, q1, k1.wx G1, fun mj S2 vj H2 φ2 fs2 fmj q2 A2 rj dj2 R2 => ?_⟩
  obtain ⟨kj, c, rfl, hc, ns, hns, q2⟩ := q2
  have G2 := A2.good G1 R2
  have k2 := k1.aft ((A2.s (fe := fe)).sub fun a z => z)
  cases rj with
  | dat rj =>
    cases rj with
    | int =>
      obtain ⟨v', g', f1', f2', hv', r', e', wr'⟩ := G2.env.at' hm
      rw [hv] at hv'
      cases hv'
      cases r' with
      | @lst a vs ms f hH rs =>
        obtain ⟨w2, g2, h21, h22, hw, rw2, ew, wrw⟩ := rs.at' hns
        rw [hK]
        refine .inl ⟨a, vs, kj, w2, rfl, rfl, SqL.of hH, by unfold atI; rw [rs.len, hc]; exact hw, ?_⟩
        refine ⟨ρ, S2, φ2, fe, fs2, _, _, G2, q2, k2.wx G2, fun m3 S3 v3 H3 φ3 fs3 fm3 q3 A3 r3 d3 R3 => ?_⟩
        obtain ⟨kk, d, rfl, hd, q3⟩ := q3
        have G3 := A3.good G2 R3
        have ry := (A2.trans A3).rep R1 r1 A1.disj
        have A13 := A1.both (A2.trans A3) r1.own'
        rw [List.append_nil] at A13
        cases r3 with
        | dat r3 =>
          cases r3 with
          | int =>
            obtain ⟨v'', g'', f1'', f2'', hv'', r'', e'', wr''⟩ := G3.env.at' hm
            rw [hv] at hv''
            cases hv''
            cases r'' with
            | @lst a' vs3 ms3 f3 hH3 rs3 =>
              have hHa : H3 a = some (.lst vs) := A3.keep a _ (G2.disj a (by rw [e']; exact List.mem_append_right _ (List.mem_append_left _ List.mem_cons_self))) hH
              rw [hHa] at hH3
              cases hH3
              obtain ⟨w3, g3, h31, h32, hw3, rw3, ew3, wrw3⟩ := rs3.at' hns
              rw [hw] at hw3
              cases hw3
              cases rw3 with
              | @lst b us ns fb hHb rsb =>
                have ap := A13.apart G.disj (fun b hb => by obtain ⟨zs, q, _⟩ := G.env.own b hb; rw [q]; exact fun z => nomatch z)
                have dj : ∀ b ∈ fm, b ∉ fe ++ (fs3 ++ φ3.ads) := fun b hb hc => by
                  rcases List.mem_append.mp hc with hc | hc
                  · exact ap b hc (List.mem_append_left _ hb)
                  · exact A13.disj b hb hc
                have nde := (List.nodup_append.mp G3.nd).1
                have n1 := List.nodup_append.mp (e'' ▸ nde)
                have n2 := (List.nodup_append.mp n1.2.1).1
                have afe : ∀ b ∈ a :: f3, b ∈ fe := fun b hb => by rw [e'']; exact List.mem_append_right _ (List.mem_append_left _ hb)
                have nda := List.nodup_cons.mp n2
                have n3 := List.nodup_append.mp (ew3 ▸ nda.2)
                have n4 := List.nodup_append.mp n3.2.1
                have ndb := List.nodup_cons.mp n4.1
                have bf3 : ∀ z ∈ b :: fb, z ∈ f3 := fun z hz => by rw [ew3]; exact List.mem_append_right _ (List.mem_append_left _ hz)
                have ndf : (fm ++ fb).Nodup := List.nodup_append.mpr ⟨(List.nodup_append.mp A1.nd).1, ndb.2, fun p hp q hq z => by
                  subst z
                  exact dj p hp (List.mem_append_left _ (afe p (List.mem_cons_of_mem _ (bf3 p (List.mem_cons_of_mem _ hq)))))⟩
                have ex : Ext H3 (upd H3 b (.lst (us.set d y))) := upd_ext hHb
                have nb : b ∉ fb ++ fm := fun z => by
                  rcases List.mem_append.mp z with z | z
                  · exact ndb.1 z
                  · exact dj b z (List.mem_append_left _ (afe b (List.mem_cons_of_mem _ (bf3 b List.mem_cons_self))))
                have kp : ∀ p zs, p ≠ b → H3 p = some zs → upd H3 b (.lst (us.set d y)) p = some zs := fun p zs hp q => by rw [upd_ne hp]; exact q
                obtain ⟨f', h1, h2, h3⟩ := Reps.set (ry.ext ex (Pre.refl _) fun p zs hp => kp p zs fun z => nb (by rw [← z]; exact List.mem_append_right _ hp)) (rsb.ext ex (Pre.refl _) fun p zs hp => kp p zs fun z => nb (by rw [← z]; exact List.mem_append_left _ hp)) ndf (ixN_lt hd)
                have rrb : Rep T φ3 (upd H3 b (.lst (us.set d y))) (.ref b) (.lst (ns.set d m)) (b :: f') := .lst upd_same h1
                have nbf : b ∉ f' := fun z => nb (by
                  rcases List.mem_append.mp (h2 b z) with z | z
                  · exact List.mem_append_right _ z
                  · exact List.mem_append_left _ z)
                have rra := wrw3 φ3 _ (.lst (ns.set d m)) (b :: f') ex (Pre.refl _) (fun p zs hp => kp p zs fun z => by
                  subst z
                  rcases List.mem_append.mp hp with hp | hp
                  · exact n3.2.2 p hp p (List.mem_append_left _ List.mem_cons_self) rfl
                  · exact n4.2.2 p List.mem_cons_self p hp rfl) rrb
                have nab : a ≠ b := fun z => nda.1 (by rw [z]; exact bf3 b List.mem_cons_self)
                have rr : Rep T φ3 (upd H3 b (.lst (us.set d y))) (.ref a) (.lst (ms.set c (.lst (ns.set d m)))) (a :: (h31 ++ ((b :: f') ++ h32))) := .lst (by rw [upd_ne nab]; exact hHa) rra
                have fsub : ∀ p ∈ f', p ∈ fb ++ fm := fun p hp => by
                  rcases List.mem_append.mp (h2 p hp) with z | z
                  · exact List.mem_append_right _ z
                  · exact List.mem_append_left _ z
                have hsub : ∀ p ∈ a :: (h31 ++ ((b :: f') ++ h32)), p ∈ (a :: f3) ++ fm := fun p hp => by
                  rw [ew3]
                  simp only [List.mem_cons, List.mem_append] at hp ⊢
                  rcases hp with z | z | (z | z) | z
                  · exact .inl (.inl z)
                  · exact .inl (.inr (.inl z))
                  · exact .inl (.inr (.inr (.inl (.inl z))))
                  · rcases List.mem_append.mp (fsub p z) with z | z
                    · exact .inl (.inr (.inr (.inl (.inr z))))
                    · exact .inr z
                  · exact .inl (.inr (.inr (.inr z)))
                have fmf : ∀ p ∈ fm, p ∉ a :: f3 := fun p hp z => dj p hp (List.mem_append_left _ (afe p z))
                have nf : (a :: (h31 ++ ((b :: f') ++ h32))).Nodup := by
                  have in3 : ∀ p, p ∈ h31 ∨ p ∈ h32 → p ∈ f3 := fun p hp => by
                    rw [ew3]
                    rcases hp with z | z
                    · exact List.mem_append_left _ z
                    · exact List.mem_append_right _ (List.mem_append_right _ z)
                  refine List.nodup_cons.mpr ⟨fun z => ?_, List.nodup_append.mpr ⟨n3.1, List.nodup_append.mpr ⟨List.nodup_cons.mpr ⟨nbf, h3⟩, n4.2.1, fun p hp q hq z => ?_⟩, fun p hp q hq z => ?_⟩⟩
                  · rcases List.mem_append.mp z with z | z
                    · exact nda.1 (in3 a (.inl z))
                    · rcases List.mem_append.mp z with z | z
                      · rcases List.mem_cons.mp z with z | z
                        · exact nab z
                        · rcases List.mem_append.mp (fsub a z) with z | z
                          · exact nda.1 (bf3 a (List.mem_cons_of_mem _ z))
                          · exact fmf a z List.mem_cons_self
                      · exact nda.1 (in3 a (.inr z))
                  · subst z
                    rcases List.mem_cons.mp hp with z | z
                    · exact n4.2.2 p (by rw [z]; exact List.mem_cons_self) p hq rfl
                    · rcases List.mem_append.mp (fsub p z) with z | z
                      · exact n4.2.2 p (List.mem_cons_of_mem _ z) p hq rfl
                      · exact fmf p z (List.mem_cons_of_mem _ (in3 p (.inr hq)))
                  · subst z
                    rcases List.mem_append.mp hq with hq | hq
                    · rcases List.mem_cons.mp hq with z | z
                      · exact n3.2.2 p hp p (List.mem_append_left _ (by rw [z]; exact List.mem_cons_self)) rfl
                      · rcases List.mem_append.mp (fsub p z) with z | z
                        · exact n3.2.2 p hp p (List.mem_append_left _ (List.mem_cons_of_mem _ z)) rfl
                        · exact fmf p z (List.mem_cons_of_mem _ (in3 p (.inl hp)))
                    · exact n3.2.2 p hp p (List.mem_append_right _ hq) rfl
                obtain ⟨G4, A4⟩ := Good.wr (fm := fm) G3 e'' (List.mem_cons_of_mem _ (bf3 b List.mem_cons_self)) hHb wr'' rr hsub nf dj
                refine ⟨b, us, kk, d, rfl, rfl, hHb, by rw [rsb.len]; exact hd, ?_⟩
                exact k.nx _ S3 σ _ φ3 _ fs3 q3 (A13.s.trans A4) G4
theorem fs_set0 {i : Nat} {ex ek : Expr} {p1 : Pos} (he : PE X e (LE T W t)) (hx : PE X ex (tVar i)) (hk : PE X ek (LB T W tk)) (hs : swapsWithSole [.Subscript ex ek p1] e pos.line X.env = pure false := by rfl) (hw : swappedStores [.Subscript ex ek p1] e X.env = pure none := by rfl)
    (h1 : (assignEach [.Subscript ex ek p1] X.env).map (·.2) = [assign (.Subscript ex ek p1) X.env] := by rfl)
    (ha : ∀ v, assign (.Subscript ex ek p1) X.env v = (do
      let ov ← holding [v] (eval ex X.env)
      let iv ← holding [v, ov] (eval ek X.env)
      standAt p1
      holding [v, ov, iv] (setItem ov iv v)
      release [v, ov, iv] []) := by intro _; rfl) : PS X (.Assign [.Subscript ex ek p1] e pos) (LS T W (fSet0 i tk t)) :=
  PS.weak (ps_asg he (pg_sub hx hk set_list ha) hs hw h1) fun D σ H h => lSet0 h
theorem fs_set1 {i : Nat} {ex ek : Expr} {p1 p2 : Pos} (hK : X.K = T.K) (he : PE X e (LE T W t)) (hx : PE X ex (tVar i)) (hj : PE X ej (LB T W tj)) (hsj : PlainIx ej) (hk : PE X ek (LB T W tk)) (hs : swapsWithSole [.Subscript (.Subscript ex ej p2) ek p1] e pos.line X.env = pure false := by rfl) (hw : swappedStores [.Subscript (.Subscript ex ej p2) ek p1] e X.env = pure none := by rfl)
    (h1 : (assignEach [.Subscript (.Subscript ex ej p2) ek p1] X.env).map (·.2) = [assign (.Subscript (.Subscript ex ej p2) ek p1) X.env] := by rfl)
    (ha : ∀ v, assign (.Subscript (.Subscript ex ej p2) ek p1) X.env v = (do
      let ov ← holding [v] (eval (.Subscript ex ej p2) X.env)
      let iv ← holding [v, ov] (eval ek X.env)
      standAt p1
      holding [v, ov, iv] (setItem ov iv v)
      release [v, ov, iv] []) := by intro _; rfl) : PS X (.Assign [.Subscript (.Subscript ex ej p2) ek p1] e pos) (LS T W (fSet1 i tj tk t)) :=
  PS.weak (ps_asg he (pg_sub (pe_ix ix_seq hx hj hsj) hk set_list ha) hs hw h1) fun D σ H h => lSet1 hK h
end
end L2.Fn
/-! Fn, part H: defs as they are called; what the top's names hold. -/
namespace L2.Fn
open PySem PySem.Spec PyProof.Rows

/-- the def x of the text may be called: its level, its parameters, its reading -/
def Cal (P : Program) (w : World) (K : PySem.W.Frag) (mg : Str → Option Value) (base : Heap) (x : Str) (lvl : Nat) (ps : List Str) (wf : FF) : Prop :=
  ∃ (f : Addr) (fd : FuncData), FnOk P w K mg base (L2.CX P w) lvl f fd ps (LF ⟨K, mg⟩ wf) ∧ mg x = some (.ref f) ∧ PySem.W.keepIn K (.ref f) = true ∧ Binds K fd ps []
/-- where a def stands -/
def DefAt (K : PySem.W.Frag) (mg : Str → Option Value) (x : Str) (st : Stmt) (ps : List Str) : Prop :=
  ∃ (f : Addr) (fd : FuncData), Fun K x x st f fd ∧ mg x = some (.ref f) ∧ Binds K fd ps []
/-- what a name of the top holds -/
def GlobD (T : Top) (x : Str) (d : D) : Prop := ∃ v u, T.mg x = some u ∧ RelV v u ∧ ∀ φ H, FD T φ H v d
theorem FD.str' {T : Top} {φ : Ob} {H : Hp} {x : Str} {s : List Nat} (h : x = ⟨s.toArray⟩) : FD T φ H (.str x) (.str s) := by rw [h]; exact .str s
theorem cal_mk {P : Program} {w : World} {K : PySem.W.Frag} {mg : Str → Option Value} {base : Heap} {x : Str} {st : Stmt} {N ps : List Str} {k : Nat} {r : FS} (F : DefAt K mg x st ps) (S : FnScope N ps (defScope st))
    (hb : ∀ (f : Addr) (cdv : Value) (A : Around) (outer : List Env) (s : Shared) (H : Hp) (E : XK), Room k (A.deeper (envOfC x (defScope st) s.heap.objs.size f cdv)) →
      PSs (cxOf (L2.CX P w) P w K mg base N x (defScope st) f cdv A outer s H E) (defBody st) (LS ⟨K, mg⟩ (fun c d _ H' => E c d H') r)) : Cal P w K mg base x (k + 1) ps (mkW N.length ps.length r) := by
  obtain ⟨f, fd, F, hm, b⟩ := F
  exact ⟨f, fd, fn_ok F S (hb f), hm, F.kp, b⟩
section
variable {X : Cx} {W : WX} {e : Expr} {pos p : Pos} {es : List Expr} {x : Str} {k : Nat} {ps : List Str} {wf : FF} {u : FA}
theorem fe_cal (C : Cal X.prog X.w X.K X.mg X.base x k ps wf) (hr : Room k X.A) (hg : Gl X x) (tk : Takes X W) (ha : PA X (e :: es) (LAB ⟨X.K, X.mg⟩ W u)) (hdb : (x == ("__debug__" : Str)) = false := by decide)
    (he : starEach (e :: es) X.env = (false, eval e X.env) :: starEach es X.env := by rfl) (hpl : (backTo pos (starEach es X.env)).any (·.1) = false := by rfl) : PE X (.Call (.Name x p) (e :: es) [] pos) (LE ⟨X.K, X.mg⟩ W (fCall wf u)) := by
  obtain ⟨f, fd, F, hm, hk, hb⟩ := C
  exact fe_call F hr hg hm hk hb tk ha hdb he hpl
theorem fe_cal0 (C : Cal X.prog X.w X.K X.mg X.base x k ps wf) (hr : Room k X.A) (hg : Gl X x) (tk : Takes X W) (hdb : (x == ("__debug__" : Str)) = false := by decide) : PE X (.Call (.Name x p) [] [] pos) (LE ⟨X.K, X.mg⟩ W (fCall wf fNil)) := by
  obtain ⟨f, fd, F, hm, hk, hb⟩ := C
  have h : PE X (.Call (.Name x p) [] [] pos) (tCallS (LF ⟨X.K, X.mg⟩ wf) (WE W) tNil) := by
    refine ⟨fun pins s σ H Q I h => ?_⟩
    refine wpAny_Call_Name_kw (ld_glob I hg hm ?_ hdb)
    exact PySem.W.callWith_K0 I.kIn hk (run_fnS (us := []) F hr hb (passAt tk σ) I .nil h)
  refine PE.weak h fun σ H Q ⟨ρ, S, φ, fe, fs, E, Qm, G, ⟨ds, e, w⟩, hx, k⟩ => ?_
  have e1 : ds = [] := by cases ds with
    | nil => rfl
    | cons d ds => cases e
  subst e1
  exact ⟨[], S, φ, fs, E, Qm, .nil, G.sto, G.ndS, w, fun y S' c d H' φ' fs' z A2 rx R2 => hx y S' c d H' φ' fs' z A2 rx R2, fun m S2 v H2 φ2 fs2 fm q A2 r R2 => k m S2 v H2 φ2 fs2 fm q A2 r R2⟩
theorem fe_glob {d : D} (h : GlobD ⟨X.K, X.mg⟩ x d) (hg : Gl X x) (hd : (x == ("__debug__" : Str)) = false := by decide) : PE X (.Name x pos) (LE ⟨X.K, X.mg⟩ W (fC d)) := by
  obtain ⟨v, u, hm, r, q⟩ := h
  exact fe_c (pe_glob hg hm r hd) q
end
/-! ### the law's end -/
theorem NoLists.of {K : PySem.W.Frag} (h : (K.all fun p => match p.2.cls with
    | .type n => n != "list"
    | _ => true) = true) : NoLists K := fun a o e hc => by
  have mem : (a, o) ∈ K := by
    have : ∀ (l : List (Addr × Obj)), l.lookup a = some o → (a, o) ∈ l := by
      intro l
      induction l with
      | nil => intro h; cases h
      | cons p l ih =>
        intro h
        obtain ⟨b, u⟩ := p
        rw [List.lookup_cons] at h
        by_cases q : a = b
        · subst q
          simp at h
          subst h
          exact List.mem_cons_self
        · have : (a == b) = false := by simpa using q
          rw [this] at h
          exact List.mem_cons_of_mem _ (ih h)
    exact this K e
  have := List.all_eq_true.mp h _ mem
  simp [hc] at this
theorem law_S {K : PySem.W.Frag} {mg : Str → Option Value} {wf : FF} {n : Nat} (h : ∀ ns : List Int, ns.length ≤ n → wf [.lst (ns.map .int)] [] (fun m _ => m = .dat (.bl true)) fun _ _ => False)
    (H : Hp) (a : Addr) (ns : List Int) (hl : ns.length ≤ n) (hO : Only H) (hS : SqL K H a (ns.map V.int)) : LF ⟨K, mg⟩ wf [.ref a] H (fun v _ => v = .bl true) fun _ _ _ => False := by
  have fz : FzL ⟨K, mg⟩ H a (ns.map V.int) := by
    rcases hS with (hS | ⟨o, hS⟩) | hS
    · rcases hO a with q | ⟨_, _, q⟩ <;> rw [hS] at q <;> cases q
    · exact .inl ⟨o, hS⟩
    · exact .inr hS
  have fd : ∀ l : List Int, FDs ⟨K, mg⟩ [] H (l.map V.int) (l.map D.int) := by
    intro l
    induction l with
    | nil => exact .nil
    | cons x l ih => exact .cons (.int x) ih
  refine ⟨[.lst (ns.map .int)], [], [], [], _, _, .cons (.lst fz (fd ns)) .nil, .nil, List.nodup_nil, h ns hl, fun _ _ _ _ _ _ _ z => z.elim, fun m S' v H' φ' fs' fm q A r R => ?_⟩
  subst q
  cases r with
  | dat r =>
    cases r
    rfl
/-- the law's promise, whatever the top's names hold -/
def LFa (K : PySem.W.Frag) (wf : FF) : Sp := fun vs H Q E => ∀ mg : Str → Option Value, LF ⟨K, mg⟩ wf vs H Q E
theorem law_C {P : Program} {w : World} {H : Hp} {s : Shared} {e : Value} {s' : Shared} (h : L2.CX P w [] H s (fun _ _ _ => False) e s') : False := by
  obtain ⟨_, _, _, _, _, _, _, _, _, _, _, _, z⟩ := h
  exact z.elim
/-- the law's row from its def's promise: sp hangs on the written part alone, errors leave as CX tells -/
theorem row_of {l : PySem.W.OpenLaw} {n k : Nat} {q : Program} {lo : List Str} {XP : (Str → Option Value) → Heap → Prop} {YP : World → Heap → Prop} {d : DefRec} {K : Params → PySem.W.Frag} {sp : PySem.W.Frag → Sp} {x : Str}
    (h1 : l.most = some n) (h2 : n ≤ sizeLine) (h3 : d.params.defaults = []) (h4 : Room k callerA)
    (h5 : ∀ (w : World) (h : Heap), YP w h → (K w.params).In h)
    (F : ∀ (w : World) (mg : Str → Option Value) (fa : Addr) (h : Heap), (K w.params).In h → h.Ns mainGlobals mg → mg d.name = some (.ref fa) → ∃ fd : FuncData, (∀ (s : Shared) (u : Value), BindsTo s fd ⟨[u], []⟩ [(x, u)]) ∧
        ∀ base : Heap, (K w.params).In base → base.Ns mainGlobals mg → FnOk l.prog w (K w.params) mg base (L2.CX l.prog w) k fa fd [x] (sp (K w.params)))
    (S : ∀ (K : PySem.W.Frag) (H : Hp) (a : Addr) (ns : List Int), ns.length ≤ n → Only H → SqL K H a (ns.map V.int) → sp K [.ref a] H (fun v _ => v = .bl true) fun _ _ _ => False) :
    PySem.W.WalkO q lo XP YP l.row.toRowW d [] (fun f vs => PySem.call f vs) :=
  walk_of (K := K) (CX := fun w => L2.CX l.prog w) (sp := fun w => sp (K w.params)) h1 h2 h3 h4 h5 F (fun w H a ns e1 e2 e3 => S (K w.params) H a ns e1 e2 e3) fun _ _ _ _ _ h => law_C h
end L2.Fn
/-! Fn, part P: tools for the readings, in plain Lean. -/
namespace L2.Fn
open PySem

theorem forW_by {g : FG} {b : FS} {P : EndP} {ds : List D} {ρ : Ev} {S : Sto} (I : List D → Ev → Sto → Prop) (h0 : I ds ρ S) (hd : ∀ ρ S, I [] ρ S → P.nx ρ S)
    (hs : ∀ d ds ρ S, (∀ ρ' S', I ds ρ' S' → forW g b P ds ρ' S') → I (d :: ds) ρ S → g (.dat d) ρ fun ρ1 => b { P with nx := forW g b P ds, ct := forW g b P ds, bk := P.nx } ρ1 S) : forW g b P ds ρ S := by
  induction ds generalizing ρ S with
  | nil => exact hd ρ S h0
  | cons d ds ih => exact hs d ds ρ S (fun ρ' S' h => ih h) h0
theorem compW_by {g : FG} {c : FT} {t : FE} {vs : List Nat} {ρ : Ev} {Q : WP} {ds : List D} {acc : List M} {S : Sto} (I : List D → List M → Sto → Prop) (h0 : I ds acc S) (hd : ∀ acc S, I [] acc S → Q (.lst acc) S)
    (hs : ∀ d ds acc S, (∀ acc' S', I ds acc' S' → compW g c t vs ρ Q ds acc' S') → I (d :: ds) acc S → g (.dat d) (wipeE ρ vs) fun ρ1 => c ρ1 S (fun b S2 => if b = true then t ρ1 S2 (fun m S3 => acc.length < sizeLine ∧ compW g c t vs ρ Q ds (acc ++ [m]) S3) noX else compW g c t vs ρ Q ds acc S2) noX) :
    compW g c t vs ρ Q ds acc S := by
  induction ds generalizing acc S with
  | nil => exact hd acc S h0
  | cons d ds ih => exact hs d ds acc S (fun acc' S' h => ih h) h0
theorem ex_nil {p : List D → Prop} : (∃ ds, [] = List.map M.dat ds ∧ p ds) ↔ p [] := by
  constructor
  · rintro ⟨ds, e, h⟩
    cases ds with
    | nil => exact h
    | cons => cases e
  · exact fun h => ⟨[], rfl, h⟩
theorem ex_cons {a : D} {l : List M} {p : List D → Prop} : (∃ ds, M.dat a :: l = List.map M.dat ds ∧ p ds) ↔ ∃ ds, l = List.map M.dat ds ∧ p (a :: ds) := by
  constructor
  · rintro ⟨ds, e, h⟩
    cases ds with
    | nil => cases e
    | cons d ds =>
      injection e with e1 e2
      injection e1 with e1
      subst e1
      exact ⟨ds, e2, h⟩
  · rintro ⟨ds, e, h⟩
    exact ⟨a :: ds, by rw [e]; rfl, h⟩
theorem map_dat_inj : ∀ {a b : List D}, a.map M.dat = b.map M.dat → a = b
  | [], [], _ => rfl
  | [], _ :: _, h => by cases h
  | _ :: _, [], h => by cases h
  | x :: a, y :: b, h => by injection h with h1 h2; injection h1 with h1; rw [h1, map_dat_inj h2]
theorem ex_map {l : List D} {p : List D → Prop} : (∃ ds, List.map M.dat l = List.map M.dat ds ∧ p ds) ↔ p l := ⟨fun ⟨ds, e, h⟩ => by rw [map_dat_inj e]; exact h, fun h => ⟨l, rfl, h⟩⟩
theorem toD_lst (l : List D) : (M.lst (l.map M.dat)).toD = .lst l := by rw [M.toD, M.toDs_dat]
theorem toD_dat (d : D) : (M.dat d).toD = d := rfl
theorem dats_nil : dats [] = some [] := rfl
theorem dats_cons (d : D) (r : List M) : dats (.dat d :: r) = (dats r).map (d :: ·) := rfl
theorem ld_l (l : List M) : (M.lst l).ld = dats l := rfl
theorem ex_some {α : Type} {a : α} {p : α → Prop} : (∃ x, some a = some x ∧ p x) ↔ p a := ⟨fun ⟨x, e, h⟩ => by cases e; exact h, fun h => ⟨a, rfl, h⟩⟩
theorem ex_eq {α : Type} {a : α} {p : α → Prop} : (∃ x, a = x ∧ p x) ↔ p a := ⟨fun ⟨x, e, h⟩ => by cases e; exact h, fun h => ⟨a, rfl, h⟩⟩
theorem atI_n {α : Type} {xs : List α} {j : Nat} {v : α} (h : xs[j]? = some v) : atI xs (j : Int) = some v := atI_nat h
theorem atI_i {α : Type} {xs : List α} {i : Int} {v : α} (h0 : 0 ≤ i) (h : xs[i.toNat]? = some v) : atI xs i = some v := by
  have := atI_nat h
  rwa [Int.toNat_of_nonneg h0] at this
theorem small_line {n : Nat} (h : n ≤ 16000000) : n ≤ sizeLine := Nat.le_trans h (by decide)
theorem small_line' {n : Nat} (h : n ≤ 16000000) : n < sizeLine := Nat.lt_of_le_of_lt h (by decide)
theorem cmul {i j : Int} (h1 : i.natAbs < 2 ^ 200) (h2 : j.natAbs < 2 ^ 200) : CMulW i j := wide_mul h1 h2 (by decide) (by decide) (by decide)
theorem nat_big {i : Int} (h0 : -(10 ^ 40) < i) (h : i < 10 ^ 40) : i.natAbs < 2 ^ 200 := by
  have : i.natAbs < 10 ^ 40 := by omega
  exact Nat.lt_of_lt_of_le this (by decide)
theorem cmulS {i j : Int} (h1 : -(10 ^ 40) < i) (h2 : i < 10 ^ 40) (h3 : -(10 ^ 40) < j) (h4 : j < 10 ^ 40) : CMulW i j := cmul (nat_big h1 h2) (nat_big h3 h4)
theorem kitI {b : Bool} {a n : String} (h : kitB a n = some b) {p : Bool → Prop} : (∃ c, kitB a n = some c ∧ p c) ↔ p b := ⟨fun ⟨c, e, q⟩ => by rw [h] at e; cases e; exact q, fun q => ⟨b, h, q⟩⟩
theorem isi_int_int : kitB "int" "int" = some true := by decide +kernel
theorem isi_int_bool : kitB "int" "bool" = some false := by decide +kernel
theorem isi_str_str : kitB "str" "str" = some true := by decide +kernel
theorem isi_tup_tup : kitB "tuple" "tuple" = some true := by decide +kernel
theorem isi_str_tup : kitB "str" "tuple" = some false := by decide +kernel
theorem isi_int_tup : kitB "int" "tuple" = some false := by decide +kernel
theorem isi_int_str : kitB "int" "str" = some false := by decide +kernel
theorem isi_bool_int : kitB "bool" "int" = some true := by decide +kernel
theorem isi_bool_bool : kitB "bool" "bool" = some true := by decide +kernel
theorem isi_str_int : kitB "str" "int" = some false := by decide +kernel
theorem isi_str_bool : kitB "str" "bool" = some false := by decide +kernel
theorem isi_tup_str : kitB "tuple" "str" = some false := by decide +kernel
theorem isi_tup_int : kitB "tuple" "int" = some false := by decide +kernel
theorem isi_tup_bool : kitB "tuple" "bool" = some false := by decide +kernel
/-- texts of one sign each -/
theorem signs_of (cs : List Nat) : textsOf (cs.map fun c => D.str [c]) = some (cs.map fun c => [c]) := by
  induction cs with
  | nil => rfl
  | cons c cs ih => rw [List.map_cons, textsOf, ih]; rfl
theorem sum_ones (cs : List Nat) : ((cs.map fun c => [c]).map List.length).sum = cs.length := by
  induction cs with
  | nil => rfl
  | cons c cs ih => simp at ih ⊢; omega
theorem joinL_signs : ∀ cs : List Nat, TL.joinL [] (cs.map fun c => [c]) = cs
  | [] => rfl
  | [c] => rfl
  | c :: d :: r => by
    have := joinL_signs (d :: r)
    simp [TL.joinL] at this ⊢
    exact this
theorem join_signs {cs : List Nat} {Q : M → Prop} (hl : cs.length ≤ 16000000) (h : Q (.dat (.str cs))) : oJoin [] [.lst ((cs.map fun c => D.str [c]).map M.dat)] Q :=
  ⟨_, ld_lst _, _, signs_of cs, by rw [sum_ones]; simp; omega, by rw [joinL_signs]; exact h⟩
theorem joinL_flat : ∀ ps : List (List Nat), TL.joinL [] ps = ps.flatten
  | [] => rfl
  | [p] => by simp [TL.joinL]
  | p :: q :: r => by
    have := joinL_flat (q :: r)
    simp [TL.joinL] at this ⊢
    exact this
theorem texts_of (ps : List (List Nat)) : textsOf (ps.map D.str) = some ps := by
  induction ps with
  | nil => rfl
  | cons c cs ih => rw [List.map_cons, textsOf, ih]; rfl
theorem join_texts {ps : List (List Nat)} {Q : M → Prop} (hl : ps.flatten.length ≤ 16000000) (h : Q (.dat (.str ps.flatten))) : oJoin [] [.lst ((ps.map D.str).map M.dat)] Q :=
  ⟨_, ld_lst _, _, texts_of ps, by rw [← List.length_flatten]; simp at hl ⊢; omega, by rw [joinL_flat]; exact h⟩
/-- an item of a list of ints, of a text -/
theorem int_at {ds : List Int} {i : Int} (h0 : 0 ≤ i) (h1 : i < ds.length) : atI (ds.map D.int) i = some (.int ds[i.toNat]!) := by
  have hlt : i.toNat < ds.length := by omega
  exact atI_i h0 (by rw [List.getElem?_map, List.getElem?_eq_getElem hlt]; simp [hlt])
theorem get_of {ds : List Int} {p : Int → Prop} (h : ∀ d ∈ ds, p d) {j : Nat} (hj : j < ds.length) : p ds[j]! := by
  have : ds[j]! = ds[j] := by simp [hj]
  rw [this]
  exact h _ (List.getElem_mem hj)
theorem sign_at {s : List Nat} {i : Int} (h0 : 0 ≤ i) (h1 : i < s.length) : ∃ c, atI s i = some c := ⟨s[i.toNat]'(by omega), atI_i h0 (List.getElem?_eq_getElem _)⟩
/-- the walk over a range: behind k turns -/
theorem rng_step {lo : Int} {n k : Nat} {d : D} {l : List D} (e : d :: l = (rng lo n).drop k) : k < n ∧ d = .int (lo + k) ∧ l = (rng lo n).drop (k + 1) := by
  have hlt : k < n := by
    have := congrArg List.length e
    simp [rng] at this
    omega
  rw [List.drop_eq_getElem_cons (by simpa [rng] using hlt)] at e
  injection e with e1 e2
  exact ⟨hlt, by rw [e1]; simp [rng], e2⟩
theorem rng_end {lo : Int} {n k : Nat} (hk : k ≤ n) (e : [] = (rng lo n).drop k) : k = n := by
  have := congrArg List.length e
  simp [rng] at this
  omega
/-! ### slices and items by numbers -/
theorem atI_0 {α : Type} (xs : List α) : atI xs (0 : Int) = xs[0]? := by
  cases xs with
  | nil => rfl
  | cons x l => exact atI_n (j := 0) rfl
theorem atI_nat' {α : Type} (xs : List α) (n : Nat) : atI xs (n : Int) = xs[n]? := by
  cases h : xs[n]? with
  | some v => exact atI_n h
  | none =>
    have hn : xs.length ≤ n := List.getElem?_eq_none_iff.mp h
    unfold atI ixN
    rw [if_pos (by omega), if_neg (by omega)]
    rfl
theorem atI_1 {α : Type} (xs : List α) : atI xs (1 : Int) = xs[1]? := atI_nat' xs 1
theorem atI_2 {α : Type} (xs : List α) : atI xs (2 : Int) = xs[2]? := atI_nat' xs 2
theorem atI_3 {α : Type} (xs : List α) : atI xs (3 : Int) = xs[3]? := atI_nat' xs 3
theorem atI_4 {α : Type} (xs : List α) : atI xs (4 : Int) = xs[4]? := atI_nat' xs 4
theorem atI_5 {α : Type} (xs : List α) : atI xs (5 : Int) = xs[5]? := atI_nat' xs 5
theorem atI_6 {α : Type} (xs : List α) : atI xs (6 : Int) = xs[6]? := atI_nat' xs 6
theorem atI_7 {α : Type} (xs : List α) : atI xs (7 : Int) = xs[7]? := atI_nat' xs 7
theorem atI_mem {α : Type} {xs : List α} {i : Int} (h0 : 0 ≤ i) (h1 : i < xs.length) : ∃ x, atI xs i = some x ∧ x ∈ xs :=
  ⟨xs[i.toNat]'(by omega), atI_i h0 (List.getElem?_eq_getElem _), List.getElem_mem _⟩
theorem sIx_pos (n d : Nat) {i : Int} (h : 0 ≤ i) : HT.sIx n d (some i) = min i.toNat n := by
  have := HT.sIx_nat n d i.toNat
  rwa [Int.toNat_of_nonneg h] at this
theorem cut_from {α : Type} (xs : List α) {i : Int} (h : 0 ≤ i) : cutN xs (some i) none = xs.drop i.toNat := by
  unfold cutN
  rw [sIx_pos _ _ h, HT.sIx_none]
  by_cases hi : i.toNat ≤ xs.length
  · rw [Nat.min_eq_left hi, List.take_of_length_le (by rw [List.length_drop]; omega)]
  · rw [Nat.min_eq_right (by omega), List.drop_of_length_le (Nat.le_refl _), List.drop_of_length_le (by omega)]
    simp
theorem cut_mid {α : Type} (xs : List α) {i j : Int} (h : 0 ≤ i) (h' : 0 ≤ j) : cutN xs (some i) (some j) = (xs.take j.toNat).drop i.toNat := by
  unfold cutN
  rw [sIx_pos _ _ h, sIx_pos _ _ h']
  apply List.ext_getElem?
  intro k
  rw [List.getElem?_take, List.getElem?_drop, List.getElem?_drop, List.getElem?_take]
  by_cases h1 : i.toNat ≤ xs.length
  · rw [Nat.min_eq_left h1]
    by_cases h2 : k < min j.toNat xs.length - i.toNat
    · rw [if_pos h2, if_pos (by omega)]
    · rw [if_neg h2]
      by_cases h3 : i.toNat + k < j.toNat
      · rw [if_pos h3, List.getElem?_eq_none (by omega)]
      · rw [if_neg h3]
  · rw [if_neg (by omega)]
    by_cases h3 : i.toNat + k < j.toNat
    · rw [if_pos h3, List.getElem?_eq_none (by omega)]
    · rw [if_neg h3]
theorem toD_rows {α : Type} (g : α → List D) (l : List α) : (M.lst (l.map fun t => M.lst ((g t).map M.dat))).toD = .lst (l.map fun t => .lst (g t)) := by
  rw [M.toD, M.toDs_eq, List.map_map]
  congr 1
  exact List.map_congr_left fun t _ => toD_lst (g t)
theorem flat_one {α : Type} (n : Nat) (x : α) : (List.replicate n [x]).flatten = List.replicate n x := by
  induction n with
  | zero => rfl
  | succ n ih => rw [List.replicate_succ, List.flatten_cons, ih]; rfl
theorem map_rep_int (n : Nat) (z : Int) : List.replicate n (D.int z) = (List.replicate n z).map D.int := by simp
end L2.Fn
/-! Fn, part I: dicts of one's own. -/
namespace L2.Fn
open PySem PySem.Spec PyProof.Rows

/-! ### keys -/
def atomD : D → Option (Int ⊕ List Nat)
  | .int i => some (.inl i)
  | .str s => some (.inr s)
  | _ => none
def atomsD : List D → Option PK
  | [] => some []
  | d :: r => (atomD d).bind fun k => (atomsD r).map (k :: ·)
def D.pk : Bool → D → Option PK
  | false, d => (atomD d).map ([·])
  | true, .tup ds => atomsD ds
  | _, _ => none
def dlook (kvs : List (PK × D)) (p : PK) : Option D := (kvs.find? fun kv => decide (kv.1 = p)).map (·.2)
def dput (kvs : List (PK × D)) (p : PK) (d : D) : List (PK × D) := if (kvs.any fun kv => decide (kv.1 = p)) = true then kvs.map (fun kv => if kv.1 = p then (kv.1, d) else kv) else kvs ++ [(p, d)]
theorem pkK_inj {a b : Key} (h : pkK a = pkK b) : a = b := by
  cases a with
  | inl i =>
    cases b with
    | inl j => injection h with h; rw [h]
    | inr y => cases h
  | inr x =>
    cases b with
    | inl j => cases h
    | inr y =>
      injection h with h
      have e : x.cps = y.cps := Array.toList_inj.mp h
      cases x
      cases y
      exact congrArg Sum.inr (congrArg Str.mk e)
theorem pkKs_inj : ∀ {a b : List Key}, a.map pkK = b.map pkK → a = b
  | [], [], _ => rfl
  | [], _ :: _, h => by cases h
  | _ :: _, [], h => by cases h
  | x :: a, y :: b, h => by injection h with h1 h2; rw [pkK_inj h1, pkKs_inj h2]
section
variable {T : Top} {φ : Ob} {H : Hp}
theorem atom_ok {v : V} {d : D} {p : Int ⊕ List Nat} (r : FD T φ H v d) (e : atomD d = some p) : ∃ k : Key, v = kV k ∧ p = pkK k := by
  cases r with
  | int i => cases e; exact ⟨.inl i, rfl, rfl⟩
  | str s => cases e; exact ⟨.inr ⟨s.toArray⟩, rfl, rfl⟩
  | _ => cases e
theorem atoms_ok : ∀ {vs : List V} {ds : List D} {p : PK}, FDs T φ H vs ds → atomsD ds = some p → ∃ k : List Key, vs = k.map kV ∧ p = k.map pkK
  | _, _, _, .nil, e => by cases e; exact ⟨[], rfl, rfl⟩
  | _, _, _, .cons (d := d) (ds := ds) x r, e => by
    rw [atomsD] at e
    cases q : atomD d with
    | none => rw [q] at e; cases e
    | some k =>
      rw [q] at e
      cases q2 : atomsD ds with
      | none => rw [q2] at e; cases e
      | some ks =>
        rw [q2] at e
        cases e
        obtain ⟨k1, h1, h2⟩ := atom_ok x q
        obtain ⟨k2, h3, h4⟩ := atoms_ok r q2
        exact ⟨k1 :: k2, by rw [h1, h3]; rfl, by rw [h2, h4]; rfl⟩
theorem pk_ok {v : V} {b : Bool} {d : D} {p : PK} (r : FD T φ H v d) (e : d.pk b = some p) : (b = false ∧ ∃ k : Key, v = kV k ∧ p = [pkK k]) ∨ b = true ∧ ∃ (k : List Key) (a : Addr), v = .ref a ∧ H a = some (.tup (k.map kV)) ∧ p = k.map pkK := by
  cases b with
  | false =>
    change Option.map (fun x => [x]) (atomD d) = some p at e
    cases q : atomD d with
    | none => rw [q] at e; cases e
    | some k =>
      rw [q] at e
      cases e
      obtain ⟨k, h1, h2⟩ := atom_ok r q
      exact .inl ⟨rfl, k, h1, by rw [h2]⟩
  | true =>
    cases r with
    | tup h rs =>
      obtain ⟨k, h1, h2⟩ := atoms_ok rs e
      exact .inr ⟨rfl, k, _, rfl, by rw [← h1]; exact h, h2⟩
    | _ => cases e
/-- entry by entry -/
inductive DRs (T : Top) (φ : Ob) (H : Hp) {κ : Type} (g : κ → PK) : List (κ × V) → List (PK × D) → Prop where
  | nil : DRs T φ H g [] []
  | cons {k : κ} {v : V} {d : D} {r : List (κ × V)} {r' : List (PK × D)} : FD T φ H v d → DRs T φ H g r r' → DRs T φ H g ((k, v) :: r) ((g k, d) :: r')
theorem DRs.of {κ : Type} {g : κ → PK} : ∀ {kvs : List (κ × V)} {l : List (PK × D)}, l.map (·.1) = kvs.map (fun p => g p.1) → FDs T φ H (kvs.map (·.2)) (l.map (·.2)) → DRs T φ H g kvs l
  | [], [], _, _ => .nil
  | [], _ :: _, e, _ => by cases e
  | _ :: _, [], e, _ => by cases e
  | (k, v) :: kvs, (p, d) :: l, e, r => by
    rw [List.map_cons, List.map_cons] at e
    injection e with e1 e2
    rw [List.map_cons, List.map_cons] at r
    cases r with
    | cons x r =>
      have e1 : p = g k := e1
      subst e1
      exact .cons x (DRs.of e2 r)
theorem DRs.keys {κ : Type} {g : κ → PK} : ∀ {kvs : List (κ × V)} {l : List (PK × D)}, DRs T φ H g kvs l → l.map (·.1) = kvs.map (fun p => g p.1)
  | _, _, .nil => rfl
  | _, _, .cons x r => by rw [List.map_cons, List.map_cons, r.keys]
theorem DRs.vals {κ : Type} {g : κ → PK} : ∀ {kvs : List (κ × V)} {l : List (PK × D)}, DRs T φ H g kvs l → FDs T φ H (kvs.map (·.2)) (l.map (·.2))
  | _, _, .nil => .nil
  | _, _, .cons x r => .cons x r.vals
theorem DRs.len {κ : Type} {g : κ → PK} {kvs : List (κ × V)} {l : List (PK × D)} (r : DRs T φ H g kvs l) : kvs.length = l.length := by
  have := congrArg List.length r.keys
  simpa using this.symm
theorem dlook_nil (p : PK) : dlook [] p = none := rfl
theorem dlook_pos {p : PK} {d : D} {r : List (PK × D)} : dlook ((p, d) :: r) p = some d := by simp [dlook, List.find?_cons]
theorem dlook_neg {p q : PK} {d : D} {r : List (PK × D)} (e : ¬ q = p) : dlook ((q, d) :: r) p = dlook r p := by simp [dlook, List.find?_cons, e]
theorem DRs.look {κ : Type} [DecidableEq κ] {g : κ → PK} (gi : ∀ a b, g a = g b → a = b) (k : κ) : ∀ {kvs : List (κ × V)} {l : List (PK × D)}, DRs T φ H g kvs l → (∀ d, dlook l (g k) = some d → ∃ v, valV kvs k = some v ∧ FD T φ H v d) ∧ (dlook l (g k) = none → valV kvs k = none)
  | _, _, .nil => ⟨fun d h => (nomatch h), fun _ => rfl⟩
  | _, _, .cons (k := k') (v := v) (d := d') x r => by
    obtain ⟨i1, i2⟩ := r.look gi k
    by_cases e : k' = k
    · subst e
      rw [dlook_pos, valV_pos rfl]
      exact ⟨fun d h => (by cases h; exact ⟨v, rfl, x⟩), fun h => nomatch h⟩
    · rw [dlook_neg (fun z => e (gi _ _ z)), valV_neg (p := (k', v)) e]
      exact ⟨i1, i2⟩
theorem DRs.any {κ : Type} [DecidableEq κ] {g : κ → PK} (gi : ∀ a b, g a = g b → a = b) (k : κ) : ∀ {kvs : List (κ × V)} {l : List (PK × D)}, DRs T φ H g kvs l → (kvs.any fun kv => decide (kv.1 = k)) = (l.any fun kv => decide (kv.1 = g k))
  | _, _, .nil => rfl
  | _, _, .cons (k := k') x r => by
    rw [List.any_cons, List.any_cons, r.any gi k]
    congr 1
    exact decide_eq_decide.mpr ⟨fun h => congrArg g h, fun h => gi _ _ h⟩
theorem DRs.mapP {κ : Type} [DecidableEq κ] {g : κ → PK} (gi : ∀ a b, g a = g b → a = b) (k : κ) {y : V} {e : D} (x : FD T φ H y e) : ∀ {kvs : List (κ × V)} {l : List (PK × D)}, DRs T φ H g kvs l →
    DRs T φ H g (kvs.map fun kv => if kv.1 = k then (kv.1, y) else kv) (l.map fun kv => if kv.1 = g k then (kv.1, e) else kv)
  | _, _, .nil => .nil
  | _, _, .cons (k := k') (v := v) (d := d') z r => by
    rw [List.map_cons, List.map_cons]
    by_cases h : k' = k
    · rw [if_pos h, if_pos (show g k' = g k by rw [h])]
      exact .cons x (r.mapP gi k x)
    · rw [if_neg h, if_neg (show ¬ g k' = g k from fun q => h (gi _ _ q))]
      exact .cons z (r.mapP gi k x)
theorem DRs.snoc {κ : Type} {g : κ → PK} {k : κ} {y : V} {e : D} (x : FD T φ H y e) : ∀ {kvs : List (κ × V)} {l : List (PK × D)}, DRs T φ H g kvs l → DRs T φ H g (kvs ++ [(k, y)]) (l ++ [(g k, e)])
  | _, _, .nil => .cons x .nil
  | _, _, .cons z r => .cons z (r.snoc x)
theorem DRs.put {κ : Type} [DecidableEq κ] {g : κ → PK} (gi : ∀ a b, g a = g b → a = b) (k : κ) {y : V} {e : D} (x : FD T φ H y e) {kvs : List (κ × V)} {l : List (PK × D)} (r : DRs T φ H g kvs l) : DRs T φ H g (putK kvs k y) (dput l (g k) e) := by
  unfold putK dput
  rw [← r.any gi k]
  split
  · exact r.mapP gi k x
  · exact r.snoc x
theorem DRs.ext {κ : Type} {g : κ → PK} {φ' : Ob} {H' : Hp} (e : Ext H H') (p : Pre φ φ') {kvs : List (κ × V)} {l : List (PK × D)} (r : DRs T φ H g kvs l) : DRs T φ' H' g kvs l := DRs.of r.keys (r.vals.ext e p)
/-- a dict as it is looked at -/
def M.asD : M → Option (Bool × List (PK × D))
  | .dct b kvs => some (b, kvs)
  | .dat (.dct b ks vs) => if ks.length = vs.length then some (b, ks.zip vs) else none
  | _ => none
abbrev gK (k : Key) : PK := [pkK k]
abbrev gT (k : List Key) : PK := k.map pkK
theorem gK_inj : ∀ a b, gK a = gK b → a = b := fun a b h => by injection h with h; exact pkK_inj h
theorem gT_inj : ∀ a b, gT a = gT b → a = b := fun a b h => pkKs_inj h
/-- what stands at a dict's place -/
def DHo (T : Top) (φ : Ob) (H : Hp) (b : Bool) (h : HO) (l : List (PK × D)) : Prop := (b = false ∧ ∃ K : List (Key × V), h = .dK K ∧ DRs T φ H gK K l) ∨ (b = true ∧ ∃ K : List (List Key × V), h = .dT K ∧ DRs T φ H gT K l)
theorem DHo.of {b : Bool} {h : HO} {ks : List PK} {xs : List V} {l : List (PK × D)} (d : DKV h b ks xs) (e : l.map (·.1) = ks) (r : FDs T φ H xs (l.map (·.2))) : DHo T φ H b h l := by
  cases d with
  | k K => exact .inl ⟨rfl, K, rfl, DRs.of e r⟩
  | t K => exact .inr ⟨rfl, K, rfl, DRs.of e r⟩
theorem DHo.rep {a : Addr} {b : Bool} {h : HO} {l : List (PK × D)} (d : DHo T φ H b h l) (e : H a = some h) : Rep T φ H (.ref a) (.dct b l) [a] := by
  rcases d with ⟨rfl, K, rfl, r⟩ | ⟨rfl, K, rfl, r⟩
  · exact .dct e (by rw [r.keys]; exact .k K) r.vals
  · exact .dct e (by rw [r.keys]; exact .t K) r.vals
theorem DHo.ext {b : Bool} {h : HO} {l : List (PK × D)} {φ' : Ob} {H' : Hp} (e : Ext H H') (p : Pre φ φ') (d : DHo T φ H b h l) : DHo T φ' H' b h l := by
  rcases d with ⟨rfl, K, rfl, r⟩ | ⟨rfl, K, rfl, r⟩
  · exact .inl ⟨rfl, K, rfl, r.ext e p⟩
  · exact .inr ⟨rfl, K, rfl, r.ext e p⟩
theorem asD_ok {v : V} {m : M} {f : List Addr} {b : Bool} {l : List (PK × D)} (r : Rep T φ H v m f) (e : m.asD = some (b, l)) : ∃ a h, v = .ref a ∧ Rd H a h ∧ DHo T φ H b h l := by
  cases r with
  | lst => cases e
  | dct h d rs => cases e; exact ⟨_, _, rfl, .inl h, DHo.of d rfl rs⟩
  | dat r =>
    cases r with
    | @dct a o h b ks xs vs hh d rs =>
      have e2 : (if ks.length = vs.length then some (b, ks.zip vs) else none) = some (_, l) := e
      split at e2
      · rename_i q
        cases e2
        refine ⟨a, h, rfl, .inr ⟨o, hh⟩, DHo.of d ?_ ?_⟩
        · exact List.map_fst_zip (by omega)
        · rw [List.map_snd_zip (by omega)]
          exact rs
      · cases e2
    | non => cases e
    | bl => cases e
    | int => cases e
    | str => cases e
    | tup => cases e
    | ktup => cases e
    | lst => cases e
    | obj => cases e
    | fn => cases e
    | exn => cases e
/-- looked up -/
theorem dget_ok {a : Addr} {h : HO} {b : Bool} {l : List (PK × D)} {y : V} {d : D} {p : PK} (hr : Rd H a h) (dh : DHo T φ H b h l) (ry : FD T φ H y d) (e : d.pk b = some p) :
    ∃ o, DGet H a y o ∧ (∀ c, dlook l p = some c → ∃ v, o = some v ∧ FD T φ H v c) ∧ (dlook l p = none → o = none) := by
  rcases dh with ⟨rfl, K, rfl, r⟩ | ⟨rfl, K, rfl, r⟩
  · rcases pk_ok ry e with ⟨_, k, rfl, rfl⟩ | ⟨z, _⟩
    · obtain ⟨h1, h2⟩ := r.look gK_inj k
      exact ⟨_, .inl ⟨K, k, hr, rfl, rfl⟩, h1, h2⟩
    · cases z
  · rcases pk_ok ry e with ⟨z, _⟩ | ⟨_, k, c, rfl, hc, rfl⟩
    · cases z
    · obtain ⟨h1, h2⟩ := r.look gT_inj k
      exact ⟨_, .inr ⟨K, k, c, hr, rfl, hc, rfl⟩, h1, h2⟩
end
/-! ### {}, d[k], k in d, d.get(k, x), d[k] = e -/
section
variable {X : Cx} {T : Top} {W : WX} {e a b o i x : Expr} {t ta tb td ty tx : FE} {pos apos cpos pos' : Pos} {rest body : List Stmt} {u w : FS}
def fDict (b : Bool) : FE := fun _ S Q _ => Q (.dct b []) S
theorem fe_dictK : PE X (.Dict [] [] pos) (LE T W (fDict false)) := PE.weak pe_dnewK fun σ H Q ⟨ρ, S, φ, fe, fs, E, Qm, G, w, hx, k⟩ p hp => by
  have F : Fresh H (upd H p (.dK [])) [p] := Fresh.upd hp
  exact k _ S (.ref p) _ φ fs [p] w (F.aft G.sto G.ndS) (.dct upd_same (.k []) .nil) (F.sto G.sto)
theorem fe_dictT : PE X (.Dict [] [] pos) (LE T W (fDict true)) := PE.weak pe_dnewT fun σ H Q ⟨ρ, S, φ, fe, fs, E, Qm, G, w, hx, k⟩ p hp => by
  have F : Fresh H (upd H p (.dT [])) [p] := Fresh.upd hp
  exact k _ S (.ref p) _ φ fs [p] w (F.aft G.sto G.ndS) (.dct upd_same (.t []) .nil) (F.sto G.sto)
def oDIx (m1 m2 : M) (Q : M → Prop) : Prop := ∃ b l, m1.asD = some (b, l) ∧ ∃ d, m2 = .dat d ∧ ∃ p, d.pk b = some p ∧ ∃ c, dlook l p = some c ∧ Q (.dat c)
theorem fe_dix (hu : X.A.units + 1 < cLine) (ho : PE X o (LB T W td)) (hi : PE X i (LB T W ty)) (hs : NoSl i) : PE X (.Subscript o i pos) (LE T W (fBin oDIx td ty)) :=
  PE.weak (pe_dget hu ho hi hs) fun σ H Q h => two_looks h fun φ H x y m1 m2 f1 f2 Qm r1 r2 w k => by
    obtain ⟨b, l, e1, d, rfl, p, e2, c, e3, w⟩ := w
    obtain ⟨a, h, rfl, hr, dh⟩ := asD_ok r1 e1
    cases r2 with
    | dat r2 =>
      obtain ⟨ov, g, g1, _⟩ := dget_ok hr dh r2 e2
      obtain ⟨v, rfl, rv⟩ := g1 c e3
      exact ⟨a, v, rfl, g, k _ v H [] w (Fresh.refl H) (.dat rv)⟩
def oDIn (neg : Bool) (m1 m2 : M) (Q : M → Prop) : Prop := ∃ b l, m2.asD = some (b, l) ∧ ∃ d, m1 = .dat d ∧ ∃ p, d.pk b = some p ∧ Q (.dat (.bl (neg ^^ (dlook l p).isSome)))
theorem din_ok {φ : Ob} {H : Hp} {x y : V} {m1 m2 : M} {f1 f2 : List Addr} {neg : Bool} {Q : VK} {Qm : M → Prop} (r1 : Rep T φ H x m1 f1) (r2 : Rep T φ H y m2 f2) (w : oDIn neg m1 m2 Qm) (k : ∀ m v H' fm, Qm m → Fresh H H' fm → Rep T φ H' v m fm → Q v H') :
    ∃ a o, y = .ref a ∧ DGet H a x o ∧ Q (.bl (neg ^^ o.isSome)) H := by
  obtain ⟨b, l, e1, d, rfl, p, e2, w⟩ := w
  obtain ⟨a, h, rfl, hr, dh⟩ := asD_ok r2 e1
  cases r1 with
  | dat r1 =>
    obtain ⟨ov, g, g1, g2⟩ := dget_ok hr dh r1 e2
    refine ⟨a, ov, rfl, g, ?_⟩
    have e : ov.isSome = (dlook l p).isSome := by
      cases q : dlook l p with
      | none => rw [g2 q]; rfl
      | some c =>
        obtain ⟨v, rfl, _⟩ := g1 c q
        rfl
    rw [e]
    exact k _ _ H [] w (Fresh.refl H) (.dat (.bl _))
theorem fe_din (hu : X.A.units + 1 < cLine) (hi : PE X i (LB T W ty)) (ho : PE X o (LB T W td)) (hm : behindInMarks .In o = false := by rfl) : PE X (.Compare i [.In] [o] pos) (LE T W (fBin (oDIn false) ty td)) :=
  PE.weak (pe_cmp (pc_din hu hi ho) hm) fun σ H Q h => two_looks h fun φ H x y m1 m2 f1 f2 Qm r1 r2 w k => by
    obtain ⟨a, ov, e1, g, q⟩ := din_ok r1 r2 w k
    exact ⟨a, ov, e1, g, by simpa using q⟩
theorem fe_dnotin (hu : X.A.units + 1 < cLine) (hi : PE X i (LB T W ty)) (ho : PE X o (LB T W td)) (hm : behindInMarks .NotIn o = false := by rfl) : PE X (.Compare i [.NotIn] [o] pos) (LE T W (fBin (oDIn true) ty td)) :=
  PE.weak (pe_cmp (pc_dnotin hu hi ho) hm) fun σ H Q h => two_looks h fun φ H x y m1 m2 f1 f2 Qm r1 r2 w k => by
    obtain ⟨a, ov, e1, g, q⟩ := din_ok r1 r2 w k
    exact ⟨a, ov, e1, g, by simpa using q⟩
theorem bl_of {σ : St} {H : Hp} {Q : Bool → Hp → Prop} {t : FE} (h : LT T W (fBl t) σ H Q) : LE T W t σ H fun x H' => ∃ c, x = .bl c ∧ Q c H' := by
  obtain ⟨ρ, S, φ, fe, fs, E, Qm, G, w, hx, k⟩ := h
  refine ⟨ρ, S, φ, fe, fs, E, _, G, w, hx, fun m S' v H' φ' fs' fm q A r R => ?_⟩
  obtain ⟨b, rfl, q⟩ := q
  cases r with
  | dat r =>
    cases r with
    | bl => exact ⟨b, rfl, k b S' H' φ' fs' q A.drop R⟩
theorem ft_din (hu : X.A.units + 1 < cLine) (hi : PE X i (LB T W ty)) (ho : PE X o (LB T W td)) (hm : behindInMarks .In o = false := by rfl) : PT X (.Compare i [.In] [o] pos) (LT T W (fBl (fBin (oDIn false) ty td))) :=
  PT.weak (pt_cmp (pc_din hu hi ho) hm) fun σ H Q h => two_looks (bl_of h) fun φ H x y m1 m2 f1 f2 Qm r1 r2 w k => by
    obtain ⟨a, ov, e1, g, q⟩ := din_ok r1 r2 w k
    exact ⟨a, ov, e1, g, by simpa using q⟩
theorem ft_dnotin (hu : X.A.units + 1 < cLine) (hi : PE X i (LB T W ty)) (ho : PE X o (LB T W td)) (hm : behindInMarks .NotIn o = false := by rfl) : PT X (.Compare i [.NotIn] [o] pos) (LT T W (fBl (fBin (oDIn true) ty td))) :=
  PT.weak (pt_cmp (pc_dnotin hu hi ho) hm) fun σ H Q h => two_looks (bl_of h) fun φ H x y m1 m2 f1 f2 Qm r1 r2 w k => by
    obtain ⟨a, ov, e1, g, q⟩ := din_ok r1 r2 w k
    exact ⟨a, ov, e1, g, by simpa using q⟩
def fDGet2 (td ty tx : FE) : FE := fun ρ S Q E => td ρ S (fun m1 S1 => ∃ b l, m1.asD = some (b, l) ∧ ty ρ S1 (fun m2 S2 => tx ρ S2 (fun m3 S3 => ∃ d, m2 = .dat d ∧ ∃ p, d.pk b = some p ∧ ∃ z, m3 = .dat z ∧ Q (.dat ((dlook l p).getD z)) S3) E) E) E
theorem isD_of {φ : Ob} {H : Hp} {a : Addr} {h : HO} {b : Bool} {l : List (PK × D)} (hr : Rd H a h) (d : DHo T φ H b h l) : IsD H a := by
  rcases d with ⟨_, K, rfl, _⟩ | ⟨_, K, rfl, _⟩
  · exact .inl ⟨K, hr⟩
  · exact .inr ⟨K, hr⟩
theorem fe_dget2 {f : Expr} (hu : X.A.units + 1 < cLine) (ho : PE X o (LB T W td)) (he : PE X e (LB T W ty)) (hf : PE X f (LB T W tx)) (m : M2 X o "get" apos e f cpos := by exact ⟨rfl, rfl, rfl, rfl⟩) :
    PE X (.Call (.Attribute o "get" apos) [e, f] [] cpos) (LE T W (fDGet2 td ty tx)) :=
  PE.weak (pe_dget2 hu ho he hf m) fun σ H Q ⟨ρ, S, φ, fe, fs, E, Qm, G, w, hx, k⟩ => by
    refine ⟨ρ, S, φ, fe, fs, E, _, G, w, hx, fun m1 S1 x H1 φ1 fs1 f1 w1 A1 r1 d1 R1 => ?_⟩
    obtain ⟨b, l, e1, w1⟩ := w1
    obtain ⟨a, h, rfl, hr, dh⟩ := asD_ok r1 e1
    have G1 := A1.good G R1
    refine ⟨a, rfl, isD_of hr dh, ρ, S1, φ1, fe, fs1, E, _, G1, w1, hx.aft A1, fun m2 S2 y H2 φ2 fs2 f2 w2 A2 r2 d2 R2 => ?_⟩
    have G2 := A2.good G1 R2
    refine ⟨ρ, S2, φ2, fe, fs2, E, _, G2, w2, (hx.aft A1).aft A2, fun m3 S3 z H3 φ3 fs3 f3 w3 A3 r3 d3 R3 => ?_⟩
    obtain ⟨d, rfl, p, e2, c, rfl, w3⟩ := w3
    obtain ⟨a', h', ea, hr', dh'⟩ := asD_ok ((A2.trans A3).rep R1 r1 d1) e1
    cases ea
    have r2' := A3.rep R2 r2 d2
    cases r2' with
    | dat r2' =>
      cases r3 with
      | dat r3 =>
        obtain ⟨ov, g, g1, g2⟩ := dget_ok hr' dh' r2' e2
        refine ⟨ov, g, ?_⟩
        have A := (A1.trans A2).trans A3
        cases q : dlook l p with
        | none =>
          rw [g2 q]
          rw [q] at w3
          exact k _ S3 z H3 φ3 fs3 [] w3 A (.dat r3) R3
        | some c2 =>
          obtain ⟨v, rfl, rv⟩ := g1 c2 q
          rw [q] at w3
          exact k _ S3 v H3 φ3 fs3 [] w3 A (.dat rv) R3
/-- d[k] = e -/
def fDSet (i : Nat) (tk t : FE) : FS := fun P ρ S => t ρ S (fun m S1 => ∃ d, m = .dat d ∧ ∃ b l, ρ[i]? = some (some (.dct b l)) ∧ l.length < sizeLine ∧ tk ρ S1 (fun mk S2 => ∃ kd, mk = .dat kd ∧ ∃ p, kd.pk b = some p ∧
  P.nx (ρ.set i (some (.dct b (dput l p d)))) S2) fun x S' => P.ex x ρ S') fun x S' => P.ex x ρ S'
theorem dput_ok {φ : Ob} {H : Hp} {a : Addr} {h : HO} {b : Bool} {l : List (PK × D)} {y v : V} {d c : D} {p : PK} (hr : H a = some h) (dh : DHo T φ H b h l) (ry : FD T φ H y d) (rv : FD T φ H v c) (e : d.pk b = some p) (hl : l.length < sizeLine) :
    ∃ h', DPut H a y v (upd H a h') ∧ DHo T φ H b h' (dput l p c) ∧ OwnO h := by
  rcases dh with ⟨rfl, K, rfl, r⟩ | ⟨rfl, K, rfl, r⟩
  · rcases pk_ok ry e with ⟨_, k, rfl, rfl⟩ | ⟨z, _⟩
    · exact ⟨_, DPut.k hr (by rw [r.len]; exact hl), .inl ⟨rfl, _, rfl, r.put gK_inj k rv⟩, trivial⟩
    · cases z
  · rcases pk_ok ry e with ⟨z, _⟩ | ⟨_, k, c, rfl, hc, rfl⟩
    · cases z
    · exact ⟨_, DPut.t hr hc (by rw [r.len]; exact hl), .inr ⟨rfl, _, rfl, r.put gT_inj k rv⟩, trivial⟩
theorem lDSet {D : Ends} {σ : St} {H : Hp} {i : Nat} {tk : FE} (h : LS T W (fDSet i tk t) D σ H) : sDPut (tVar i) (LB T W tk) (LE T W t) D σ H := by
  obtain ⟨ρ, S, φ, fe, fs, P, G, w, k⟩ := h
  refine ⟨ρ, S, φ, fe, fs, _, _, G, w, k.wx G, fun m S1 y H1 φ1 fs1 fm q1 A1 r1 R1 => ?_⟩
  have G1 := A1.good G R1
  obtain ⟨d, rfl, b, l, hm, hz, q1⟩ := q1
  obtain ⟨v, g, f1, f2, hv, r, e, wr⟩ := G1.env.at' hm
  have B1 : AftS φ fe fs H φ1 (fm ++ fe) fs1 H1 := A1.s
  have k1 := k.aft (B1.sub fun a z => List.mem_append_right fm z)
  refine ⟨v, hv, ρ, S1, φ1, fe, fs1, _, _, G1, q1, k1.wx G1, fun m2 S2 v2 H2 φ2 fs2 fm2 q2 A2 r2 d2 R2 => ?_⟩
  obtain ⟨kd, rfl, p, e2, q2⟩ := q2
  have G2 := A2.good G1 R2
  have ry := A2.rep R1 r1 A1.disj
  cases r1 with
  | dat r1 =>
    cases ry with
    | dat ry =>
      have A12 := A1.trans A2
      cases r2 with
      | dat r2 =>
        obtain ⟨v', g', f1', f2', hv', r', e', wr'⟩ := G2.env.at' hm
        rw [hv] at hv'
        cases hv'
        cases r' with
        | @dct a h b l xs hH dk rs =>
          obtain ⟨h', dp, dh', ow⟩ := dput_ok hH (DHo.of dk rfl rs) r2 ry e2 hz
          have ex : Ext H2 (upd H2 a h') := upd_extO hH ow
          obtain ⟨G3, A3⟩ := Good.wrO (fm := []) G2 e' List.mem_cons_self hH ow wr' ((dh'.ext ex (Pre.refl _)).rep upd_same) (fun b hb => by simpa using hb) (by simp) (fun _ z => nomatch z)
          refine ⟨a, _, rfl, dp, ?_⟩
          exact k.nx _ S2 σ _ φ2 _ fs2 q2 (A12.s.trans A3) G3
theorem fs_dset {i : Nat} {nm ix : Expr} {tk : FE} (hu : X.A.units + 1 < cLine) (he : PE X e (LE T W t)) (hn : PE X nm (tVar i)) (hk : PE X ix (LB T W tk)) (hs : swapsWith e (some (.Subscript nm ix pos')) pos.line X.env = pure false := by rfl) :
    PS X (.Assign [.Subscript nm ix pos'] e pos) (LS T W (fDSet i tk t)) := PS.weak (ps_dput hu hn hk he hs) fun D σ H h => lDSet h
end
end L2.Fn
/-! Fn, part J: sorted of tuples of ints and texts. -/
namespace L2.Fn
open PySem PySem.Spec PyProof.Rows

abbrev pkLt (a b : PK) : Bool := PyProof.Rows.lexLt itemOrd a b
def vK : V → Option (Int ⊕ List Nat)
  | .int i => some (.inl i)
  | .str x => some (.inr x.cps.toList)
  | _ => none
theorem vK_kV (k : Key) : vK (kV k) = some (pkK k) := by cases k <;> rfl
theorem vKs_kV (k : List Key) : (k.map kV).filterMap vK = k.map pkK := by
  induction k with
  | nil => rfl
  | cons k l ih => rw [List.map_cons, List.filterMap_cons, vK_kV, List.map_cons, ih]
def kx (H : Hp) (v : V) : PK := match v with
  | .ref t => match H t with
    | some (.tup its) => its.filterMap vK
    | _ => []
  | _ => []
theorem kx_at {H : Hp} {t : Addr} {k : List Key} (h : H t = some (.tup (k.map kV))) : kx H (.ref t) = k.map pkK := by
  show (match H t with | some (.tup its) => its.filterMap vK | _ => []) = _
  rw [h]
  exact vKs_kV k
theorem pk_swo {α : Type} (k : α → PK) : SrtO.Swo (fun v u : α => pkLt (k v) (k u)) := by
  refine ⟨fun x y h => ?_, fun x y z h1 h2 => ?_⟩
  · cases q : pkLt (k y) (k x) with
    | false => rfl
    | true =>
      have := PyProof.Rows.lex_trans (O := itemOrd) _ _ _ h q
      rw [PyProof.Rows.lex_irrefl] at this
      cases this
  · cases q : pkLt (k z) (k x) with
    | false => rfl
    | true =>
      rcases PyProof.Rows.lex_negTrans (O := itemOrd) _ (k y) _ q with r | r
      · exact (nomatch r.symm.trans h2)
      · exact (nomatch r.symm.trans h1)
theorem tupItems_of {shape : Nat → Bool} : ∀ {k : List Key} {us : List Value} {i : Nat}, Vals (k.map kV) us → (∀ j c, k[j]? = some c → shape (i + j) = c.isRight) → tupItems shape i us = some (k.map pkK)
  | [], us, i, r, _ => by
    rw [List.map_nil] at r
    cases r
    simp [tupItems]
  | c :: k, us, i, r, h => by
    rw [List.map_cons] at r
    cases r with
    | cons x r =>
      have ih := tupItems_of (i := i + 1) r fun j c' hj => by
        have := h (j + 1) c' (by simpa using hj)
        rw [← this]
        congr 1
        omega
      have h0 := h 0 c rfl
      rw [Nat.add_zero] at h0
      cases c with
      | inl n =>
        obtain ⟨t, rfl⟩ := x
        have h0 : shape i = false := h0
        simp only [tupItems, h0, ih]
        rfl
      | inr s =>
        obtain ⟨t, rfl⟩ := x
        have h0 : shape i = true := h0
        simp only [tupItems, h0, ih]
        rfl
/-- the tuples that are sorted -/
def TupK (H : Hp) (sh : List Bool) (x : V) : Prop := ∃ (t : Addr) (k : List Key), x = .ref t ∧ H t = some (.tup (k.map kV)) ∧ k.map Sum.isRight = sh
def rSortT (K : PySem.W.Frag) : List V → Hp → VK → Prop := fun vs H Q => ∃ (a : Addr) (xs : List V) (sh : List Bool), vs = [.ref a] ∧ SqL K H a xs ∧ sh ≠ [] ∧ (∀ x ∈ xs, TupK H sh x) ∧
  ∀ ys p, ys.Perm xs → ys.Pairwise (fun x y => pkLt (kx H y) (kx H x) = false) → H p = none → Q (.ref p) (upd H p (.lst ys))
section
variable {X : Cx}
/-- a value that is such a tuple in the heap -/
def IsTK (h : Heap) (sh : List Bool) (v : Value) (p : PK) : Prop := ∃ t o us n, v = .ref t ∧ h.get? t = some o ∧ o.cls = .type "tuple" ∧ o.data = .seq us n ∧ tupItems (fun i => sh.getD i false) 0 us.toList = some p ∧ us[0]?.isSome = true ∧
  (∀ f, us[0]? = some f → (sh.getD 0 false = false → ∃ k t, f = .int k t) ∧ (sh.getD 0 false = true → ∃ x t, f = .str x t))
theorem IsTK.keeps {h h' : Heap} {sh : List Bool} {v : Value} {p : PK} (x : IsTK h sh v p) (k : ∀ b o, h.get? b = some o → o.cls = .type "tuple" → h'.get? b = some o) : IsTK h' sh v p := by
  obtain ⟨t, o, us, n, e, ho, hc, r⟩ := x
  exact ⟨t, o, us, n, e, k t o ho hc, hc, r⟩
theorem IsTK.key {h : Heap} {sh : List Bool} {v : Value} {p : PK} (x : IsTK h sh v p) : tupKey h (fun i => sh.getD i false) v = some p := by
  obtain ⟨t, o, us, n, rfl, ho, hc, hd, hi, _⟩ := x
  simp only [tupKey, ho, hd, hi]
theorem tups_of {h : Heap} {sh : List Bool} : ∀ {vs : List Value}, (∀ v ∈ vs, ∃ p, IsTK h sh v p) → ∃ fs, fs.length = vs.length ∧ TupsOf h (fun i => sh.getD i false) vs fs
  | [], _ => ⟨[], rfl, .nil⟩
  | v :: vs, hv => by
    obtain ⟨fs, h1, h2⟩ := tups_of (vs := vs) fun u hu => hv u (List.mem_cons_of_mem _ hu)
    obtain ⟨p, t, o, us, n, e, ho, hc, hd, hi, hz, hf⟩ := hv v List.mem_cons_self
    cases q : us[0]? with
    | none => rw [q] at hz; cases hz
    | some f => exact ⟨f :: fs, by simp [h1], .cons ⟨t, o, us, n, e, ho, hc, hd, q, hf f q⟩ h2⟩
theorem tk_cmp {prog : Program} {w : World} {A : Around} {s : Shared} {sh : List Bool} {vs : List Value} {k : Value → PK} (hv : ∀ v ∈ vs, IsTK s.heap sh v (k v)) : SrtO.Cmp prog w A s (tuples' true) (fun p => p.1 ∈ vs) (SrtO.lt2 fun v u => pkLt (k v) (k u)) := by
  intro p q hp hq
  show wpAny (model prog w) A (keyLt' (tuples' true) p.1 q.1) (fun r s' => s' = s ∧ r = pkLt (k p.1) (k q.1)) (fun _ _ => False) s
  exact tup_ltAt (shape := fun i => sh.getD i false) true A _ p.1 q.1 (k p.1) (k q.1) (hv _ hp).key (hv _ hq).key ⟨rfl, rfl⟩
theorem cr_sortedT : CallR X (.builtin "sorted") (rSortT X.K) := by
  intro pins s σ H vs us Q I r h
  obtain ⟨a, xs, sh, rfl, hs, hsh, hx, q⟩ := h
  obtain ⟨its, rv, hl, hz⟩ := I.list hs
  obtain ⟨u, rfl, ru⟩ := vals1 r
  obtain rfl : u = Value.ref a := ru
  obtain ⟨e1, e2⟩ := refs_back rv fun x m => by
    obtain ⟨t, k, e, _⟩ := hx x m
    exact ⟨t, e⟩
  have hv : ∀ v ∈ its, IsTK s.heap sh v (kx H (backV v)) := fun v hm => by
    obtain ⟨t, rfl⟩ := e2 v hm
    have hm' : V.ref t ∈ xs := by rw [e1]; exact List.mem_map.mpr ⟨_, hm, rfl⟩
    obtain ⟨t', k, e, ht, hk⟩ := hx _ hm'
    cases e
    obtain ⟨_, us, r2, o, ho, hc, n, hd⟩ := I.hok _ _ ht
    have hi := tupItems_of (shape := fun i => sh.getD i false) (i := 0) r2 fun j c hj => by
      rw [← hk, Nat.zero_add]
      simp [List.getD, hj]
    have e3 : kx H (backV (.ref t)) = k.map pkK := kx_at ht
    rw [e3]
    refine ⟨t, o, us.toArray, n, rfl, ho, hc, hd, hi, ?_, fun f hf => ?_⟩
    · cases k with
      | nil => rw [List.map_nil] at hk; exact absurd hk.symm hsh
      | cons c k =>
        rw [List.map_cons] at r2
        cases r2
        rfl
    · cases k with
      | nil => rw [List.map_nil] at hk; exact absurd hk.symm hsh
      | cons c k =>
        rw [List.map_cons] at r2
        cases r2 with
        | cons x r2 =>
          have e4 : sh.getD 0 false = c.isRight := by rw [← hk]; rfl
          have hf : some _ = some f := hf
          cases hf
          rw [e4]
          cases c with
          | inl n =>
            obtain ⟨t, rfl⟩ := x
            exact ⟨fun _ => ⟨_, _, rfl⟩, fun z => nomatch z⟩
          | inr y =>
            obtain ⟨t, rfl⟩ := x
            exact ⟨fun z => (nomatch z), fun _ => ⟨_, _, rfl⟩⟩
  refine SrtO.sorted_ord (pk_swo fun v => kx H (backV v)) hl.isList (by rw [← rv.length]; exact hz) (fun h2 h₁ b hb kk => ?_) fun out h1 h2 => ?_
  · intro h' keep
    have hv' : ∀ v ∈ its, IsTK h' sh v (kx H (backV v)) := fun v hm => (hv v hm).keeps fun c o e cl => by
      obtain ⟨n1, n2⟩ := kk c o e
      exact keep c o n1 n2
    obtain ⟨fs, f1, f2⟩ := tups_of fun v hm => ⟨_, hv' v hm⟩
    exact ⟨tuples' true, fun Q E hq => tup_kind (shape := fun i => sh.getD i false) (s := { s with heap := h' }) (by omega) f2 hq, tk_cmp (s := { s with heap := h' }) hv'⟩
  · have h3 : ∀ u ∈ out, ∃ a, u = Value.ref a := fun u hu => e2 u (h2.perm.mem_iff.mp hu)
    have hp : (out.map backV).Perm xs := by rw [e1]; exact h2.perm.map backV
    obtain ⟨n, hn⟩ := sortedAll_at s.heap its out.toArray
    have hd : s.heap.objs.size ≤ s.heap.objs.size + 1 := Nat.le_succ _
    refine ⟨.ref _, upd H (s.heap.objs.size + 1) (.lst (out.map backV)), I.laid (t' := s.toks) (fun b o e => sortedAll_old e) hd ⟨?_, out, n, vals_back h3, hn⟩, rfl, q _ _ hp (List.pairwise_map.mpr h1) (I.hok.fresh hd)⟩
    rw [hp.length_eq]
    exact hz
/-! ### as a reading -/
theorem FDs.perm {T : Top} {φ : Ob} {H : Hp} {xs ys : List V} (p : ys.Perm xs) : ∀ {ds : List D}, FDs T φ H xs ds → ∃ es, FDs T φ H ys es ∧ es.Perm ds := by
  induction p with
  | nil => exact fun r => ⟨_, r, List.Perm.refl _⟩
  | cons x p ih =>
    intro ds r
    cases r with
    | cons r1 r =>
      obtain ⟨es, h1, h2⟩ := ih r
      exact ⟨_, .cons r1 h1, h2.cons _⟩
  | swap x y l =>
    intro ds r
    cases r with
    | cons r1 r =>
      cases r with
      | cons r2 r => exact ⟨_, .cons r2 (.cons r1 r), List.Perm.swap _ _ _⟩
  | trans p1 p2 ih1 ih2 =>
    intro ds r
    obtain ⟨es, h1, h2⟩ := ih2 r
    obtain ⟨fs, h3, h4⟩ := ih1 h1
    exact ⟨fs, h3, h4.trans h2⟩
theorem FDs.mem {T : Top} {φ : Ob} {H : Hp} : ∀ {xs : List V} {ds : List D}, FDs T φ H xs ds → ∀ d ∈ ds, ∃ x ∈ xs, FD T φ H x d
  | _, _, .nil, _, h => nomatch h
  | _, _, .cons a b, e, h => by
    rcases List.mem_cons.mp h with z | z
    · subst z; exact ⟨_, List.mem_cons_self, a⟩
    · obtain ⟨y, h1, h2⟩ := b.mem e z
      exact ⟨y, List.mem_cons_of_mem _ h1, h2⟩
theorem FDs.mem' {T : Top} {φ : Ob} {H : Hp} : ∀ {xs : List V} {ds : List D}, FDs T φ H xs ds → ∀ x ∈ xs, ∃ d ∈ ds, FD T φ H x d
  | _, _, .nil, _, h => nomatch h
  | _, _, .cons a b, e, h => by
    rcases List.mem_cons.mp h with z | z
    · subst z; exact ⟨_, List.mem_cons_self, a⟩
    · obtain ⟨y, h1, h2⟩ := b.mem' e z
      exact ⟨y, List.mem_cons_of_mem _ h1, h2⟩
def D.key (d : D) : PK := (d.pk true).getD []
theorem key_ok {T : Top} {φ : Ob} {H : Hp} {v : V} {d : D} {p : PK} (r : FD T φ H v d) (e : d.pk true = some p) : kx H v = p ∧ ∃ (t : Addr) (k : List Key), v = .ref t ∧ H t = some (.tup (k.map kV)) ∧ p = k.map pkK := by
  rcases pk_ok r e with ⟨z, _⟩ | ⟨_, k, a, rfl, h, rfl⟩
  · cases z
  · exact ⟨kx_at h, a, k, rfl, h, rfl⟩
theorem right_map (k : List Key) : (k.map pkK).map Sum.isRight = k.map Sum.isRight := by
  rw [List.map_map]
  exact List.map_congr_left fun c _ => by cases c <;> rfl
theorem FDs.pw {T : Top} {φ : Ob} {H : Hp} : ∀ {xs : List V} {ds : List D}, FDs T φ H xs ds → (∀ d ∈ ds, ∃ p, d.pk true = some p) → xs.Pairwise (fun x y => pkLt (kx H y) (kx H x) = false) → ds.Pairwise (fun x y => pkLt y.key x.key = false)
  | _, _, .nil, _, _ => List.Pairwise.nil
  | _, _, .cons (v := v) (vs := vs) (d := d) (ds := ds) r rs, h, p => by
    obtain ⟨p1, p2⟩ := List.pairwise_cons.mp p
    have kd : ∀ {v : V} {d : D}, FD T φ H v d → (∃ p, d.pk true = some p) → kx H v = d.key := fun {v d} r ⟨p, e⟩ => by
      rw [(key_ok r e).1]
      unfold D.key
      rw [e]
      rfl
    refine List.pairwise_cons.mpr ⟨fun e he => ?_, rs.pw (fun d hd => h d (List.mem_cons_of_mem _ hd)) p2⟩
    obtain ⟨y, hy, ry⟩ := rs.mem e he
    rw [← kd ry (h e (List.mem_cons_of_mem _ he)), ← kd r (h d List.mem_cons_self)]
    exact p1 y hy
/-- sorted(xs): the items tuples of ints and texts, alike in shape -/
def oSortT (ms : List M) (Q : M → Prop) : Prop := match ms with
  | [m] => ∃ ds, m.ld = some ds ∧ ∃ sh : List Bool, sh ≠ [] ∧ (∀ d ∈ ds, ∃ p, d.pk true = some p ∧ p.map Sum.isRight = sh) ∧ ∀ es : List D, es.Perm ds → es.Pairwise (fun x y => pkLt y.key x.key = false) → Q (.lst (es.map .dat))
  | _ => False
theorem o_sortT {T : Top} : OpN T (rSortT T.K) oSortT := by
  intro φ H vs ms f Q Qm r w k
  unfold oSortT at w
  split at w
  · obtain ⟨ds, e, sh, h1, h2, w⟩ := w
    cases r with
    | cons x r =>
      cases r
      obtain ⟨a, xs, rfl, h, rs⟩ := ld_ok x e
      refine ⟨a, xs, sh, rfl, h, h1, ?_, fun ys p hp hs hn => ?_⟩
      · intro x hx
        obtain ⟨d, hd, rd⟩ := rs.mem' x hx
        obtain ⟨p, e, hp⟩ := h2 d hd
        obtain ⟨_, t, k, e1, e2, e3⟩ := key_ok rd e
        exact ⟨t, k, e1, e2, by rw [← hp, e3, right_map]⟩
      · obtain ⟨es, h3, h4⟩ := rs.perm hp
        have F : Fresh H (upd H p (.lst ys)) [p] := Fresh.upd hn
        exact k _ _ _ [p] (w es h4 (h3.pw (fun d hd => by
          obtain ⟨p, e, _⟩ := h2 d (h4.mem_iff.mp hd)
          exact ⟨p, e⟩) hs)) F (.lst upd_same (h3.ext F.ext (Pre.refl _)).reps)
  · exact w.elim
end
end L2.Fn
/-! Fn, part K: enumerate and zip. -/
namespace PySem
open Sem (wp)
theorem fn_enum_new1B {v : Value} {o : Obj} {H : Heap → Prop} (B : Begins v o H) :
    Meets (Builtin.«enumerate.__new__» ⟨[.type "enumerate", v], []⟩) (fun _ R s => H s.heap ∧
      R (.ok (.ret (.ref (s.heap.push o).objs.size))) { s with heap := (s.heap.push o).push { cls := .type "enumerate", data := .fields #[.none, .bool false, .ref s.heap.objs.size, rawInt 0, .none, .none] } }) :=
  .of_wp fun prog w A R s h => by
    obtain ⟨hp, g, d, tk, os⟩ := s; obtain ⟨h1, h⟩ := h
    have hsub := sub_enumerate
    have q1 : ∀ {A' : Around} {E : Value → Shared → Prop} {Q : Value → Shared → Prop}, Q (.ref hp.objs.size) ⟨hp.push o, g, d, tk, os⟩ → wpAny (model prog w) A' (pyIter v) Q E ⟨hp, g, d, tk, os⟩ :=
      fun q => B.iter prog w _ _ ⟨hp, g, d, tk, os⟩ _ h1 q
    wp_walk using q1
    refine wpAny_stack_any fun st => wpAny_pure ?_
    split
    · rename_i c _ _ _ _ _
      cases (c == Value.type "enumerate")
      · wp_walk using q1
        exact ⟨_, rfl, h⟩
      · wp_walk using q1
        exact ⟨_, rfl, h⟩
    · wp_walk using q1
      exact ⟨_, rfl, h⟩
theorem fn_enum_call {prog : Program} {w : World} {A : Around} {E : Value → Shared → Prop} {s : Shared} {v : Value} {o : Obj} {H : Heap → Prop} {Q : Value → Shared → Prop} (B : Begins v o H) (h1 : H s.heap)
    (h : ∀ h', IsEnum h' (s.heap.objs.size + 1) s.heap.objs.size 0 .none → h'.get? s.heap.objs.size = some o → h'.objs.size = s.heap.objs.size + 2 →
      (∀ b o, s.heap.get? b = some o → h'.get? b = some o) → Q (.ref (s.heap.objs.size + 1)) { s with heap := h' }) :
    wpAny (model prog w) A (call (.type "enumerate") [v]) Q E s := by
  refine callType_new F.called_enumerate (by decide) (F.typeCall_enumerate_1 _) (F.newCall_enumerate_1 _) (fun obj => F.args_object_init_2 obj _) F.entry_enumerate_new
    (fn_enum_new1B B) ⟨h1, ?_⟩
  have hz : (s.heap.push o).objs.size = s.heap.objs.size + 1 := Heap.size_push ..
  show _ ∧ _
  rw [hz]
  have he : IsEnum ((s.heap.push o).push { cls := .type "enumerate", data := .fields #[.none, .bool false, .ref s.heap.objs.size, rawInt 0, .none, .none] }) (s.heap.objs.size + 1) s.heap.objs.size 0 .none := by
    have := Heap.get?_push_size (s.heap.push o) (o := { cls := .type "enumerate", data := .fields #[.none, .bool false, .ref s.heap.objs.size, rawInt 0, .none, .none] }) rfl
    rw [hz] at this; exact this
  refine ⟨⟨_, he, rfl⟩, h _ he (Heap.get?_push_of_some _ (Heap.get?_push_size _ B.free)) (by rw [Heap.size_push, hz]) fun b o x => Heap.get?_push_of_some _ (Heap.get?_push_of_some _ x)⟩
end PySem
namespace L2.Fn
open PySem PySem.Spec PyProof.Rows
theorem vals_get' : ∀ {xs : List V} {us : List Value} {j : Nat} {u : Value}, Vals xs us → us[j]? = some u → ∃ x, RelV x u ∧ xs[j]? = some x
  | _, _, j, u, .nil, h => by simp at h
  | _, _, 0, u, .cons x r, h => by
    simp at h
    subst h
    exact ⟨_, x, rfl⟩
  | _, _, j + 1, u, .cons x r, h => by
    obtain ⟨y, h1, h2⟩ := vals_get' (j := j) r (by simpa using h)
    exact ⟨y, h1, by simpa using h2⟩
/-- what a base iterator over fixed items is -/
structure EBase (P : Program) (w : World) (K : PySem.W.Frag) (it : Addr) (n : Nat) (G : Hp → Prop) (Y : Nat → V → Prop) (base : Nat → Heap → Prop) : Prop where
  obj : ∀ i h, base i h → ∃ o, h.get? it = some o ∧ ∀ v, o.data ≠ .cell v
  keep : ∀ i h h', base i h → (∀ o, h.get? it = some o → h'.get? it = some o) → base i h'
  up : ∀ (X : Cx), X.prog = P → X.w = w → X.K = K → ∀ (pins : List (Addr × Obj)) (s : Shared) (σ : St) (H : Hp), X.A.handled = none → Inv X pins σ H s → G H → ∀ i, base i s.heap → H it = none → ∃ (fp : List Addr) (P' : Nat → Value → Prop) (St' : Nat → Heap → Prop),
    Draws P w X.A.in1 it fp n P' St' ∧ St' i s.heap ∧ (∀ j h, St' j h → base j h) ∧ (∀ e o, s.heap.get? e = some o → H e = none → o.cls = .type "enumerate" → e ∉ fp) ∧ ∀ j u, P' j u → ∃ x, RelV x u ∧ Y j x
def IteD (n : Nat) (G : Hp → Prop) (Y : Nat → V → Prop) : It :=
  ⟨fun i H => G H ∧ i < n, fun i H v H' => ∃ T x, v = .ref T ∧ H T = none ∧ H' = upd H T (.tup [.int (i : Nat), x]) ∧ Y i x, fun i H => G H ∧ n ≤ i⟩
theorem turn_enumD {P : Program} {w : World} {K : PySem.W.Frag} {elts : List Expr} {kk : Nat} {tpos : Pos} {e it : Addr} {n : Nat} {G : Hp → Prop} {Y : Nat → V → Prop} {base : Nat → Heap → Prop} (B : EBase P w K it n G Y base) :
    Turn P w K (.Tuple elts kk tpos) (IteD n G Y) [e, it] e (fun i h => i ≤ n ∧ (∃ old, IsEnum h e it ((i : Nat) : Int) old) ∧ base i h ∧ e ≠ it) where
  mem := by simp
  obj := fun i h st b hb => by
    obtain ⟨_, ⟨old, he⟩, hbs, _⟩ := st
    have e' : b = e ∨ b = it := by simpa using hb
    rcases e' with z | z
    · rw [z]; exact ⟨_, he, fun v q => nomatch q⟩
    · rw [z]; exact B.obj i h hbs
  keep := fun i h h' st k => let ⟨hl, ⟨old, he⟩, hi, hne⟩ := st; ⟨hl, ⟨old, k e (by simp) _ he⟩, B.keep i h h' hi fun o q => k it (by simp) o q, hne⟩
  item := by
    intro X hP hw hK hc i pins s σ H E I hf st hg
    obtain ⟨hl, ⟨old, he⟩, hbs, hne⟩ := st
    obtain ⟨fp, P', St', D, hst, down, nin, hY⟩ := B.up X hP hw hK pins s σ H (I.ok.hd hc) I hg.1 i hbs (hf it (by simp)).1
    subst hP hw hK
    have hel : e < s.heap.objs.size := Heap.lt_size he
    have hil : it < s.heap.objs.size := by obtain ⟨o, q, _⟩ := B.obj i _ hbs; exact Heap.lt_size q
    refine wpAny_pyNext_enum_itemD D he hst hg.2 hne (nin e _ he (hf e (by simp)).1 rfl) fun u h' tk hu ho hst' hT hsz hk => ?_
    obtain ⟨x, ru, hx⟩ := hY i u hu
    have hbs' := down _ _ hst'
    refine ⟨_, rfl, wpAny_letOwnedTupleGo_enum (s := { s with heap := h', toks := tk + 1 }) ho fun h'' he' sb => ?_⟩
    have hT2 : h''.get? s.heap.objs.size = some { cls := .type "tuple", data := .seq #[.int i tk, u] } := (sb.2 _ (Nat.ne_of_gt hel)).trans hT
    have new : ObjOk X.prog X.w (upd H s.heap.objs.size (.tup [.int (i : Nat), x])) h'' s.heap.objs.size (.tup [.int (i : Nat), x]) :=
      ⟨by show 2 ≤ sizeLine; decide, [.int i tk, u], .cons ⟨_, rfl⟩ (.cons ru .nil), ⟨_, hT2, rfl, _, rfl⟩⟩
    have I1 : Inv X pins σ (upd H s.heap.objs.size (.tup [.int (i : Nat), x])) { s with heap := h'', toks := tk + 1 } :=
      I.turnedNew (ch := [e, it]) (fun b ob hb q => (sb.2 b (fun z => hb (by simp [z]))).trans (hk b ob (fun z => hb (by simp [z])) (fun z => hb (by simp [z])) q)) hf (Nat.le_refl _) new
    refine ⟨.ref s.heap.objs.size, _, I1, rfl, ⟨_, x, rfl, I.hok.fresh (Nat.le_refl _), rfl, hx⟩, ⟨hg.2, ⟨u, ?_⟩, B.keep _ _ _ hbs' fun o q => (sb.2 it (Ne.symm hne)).trans q, hne⟩, fun b hb => ?_⟩
    · have e1 : ((i + 1 : Nat) : Int) = (i : Int) + 1 := by omega
      rw [e1]; exact he'
    · have hb' : b < s.heap.objs.size := by
        have e' : b = e ∨ b = it := by simpa using hb
        rcases e' with z | z
        · rw [z]; exact hel
        · rw [z]; exact hil
      rw [upd_ne (Nat.ne_of_lt hb')]
      exact (hf b hb).1
  done := by
    intro X hP hw hK hc i pins s σ H E I hf st hg
    obtain ⟨hl, ⟨old, he⟩, hbs, hne⟩ := st
    have ei : i = n := Nat.le_antisymm hl hg.2
    obtain ⟨fp, P', St', D, hst, down, nin, hY⟩ := B.up X hP hw hK pins s σ H (I.ok.hd hc) I hg.1 i hbs (hf it (by simp)).1
    subst hP hw hK
    subst ei
    obtain ⟨f0, f1, f2, f3, f4, f5⟩ := hf it (by simp)
    exact wpAny_pyNext_enum_endD D he hst fun h' eb => ⟨rfl, I.turned (t' := s.toks) (fun b o hb q => eb b o hb q) f0 f1 f3 f4 f5⟩
  self := fun A i s Q E st h => let ⟨_, ⟨_, he⟩, _⟩ := st; wpAny_pyIter_enum he h
theorem ebase_tup {P : Program} {w : World} {K : PySem.W.Frag} {a it : Addr} {xs : List V} (hne : a ≠ it) : EBase P w K it xs.length (fun H => SqT K H a xs) (fun i x => xs[i]? = some x) (fun i h => h.IsTupleIter it a i) where
  obj := fun i h st => by
    obtain ⟨o, e, c, d⟩ := st
    exact ⟨o, e, fun v z => by rw [d] at z; cases z⟩
  keep := fun i h h' st k => st.at k
  up := by
    intro X hP hw hK pins s σ H hh I hG i st hn
    subst hP hw hK
    obtain ⟨its, rv, p, hz⟩ := I.tuple hG
    have D := Draws.tuple (prog := X.prog) (w := X.w) (A := X.A.in1) hh it a hne its.toArray
    rw [show its.toArray.size = xs.length by simp [rv.length]] at D
    refine ⟨_, _, _, D, ⟨st, p⟩, fun j h q => q.1, fun e o he hen hc hm => ?_, fun j u hu => ?_⟩
    · have e' : e = it ∨ e = a := by simpa using hm
      rcases e' with z | z
      · obtain ⟨o2, e2, c2, _⟩ := st
        rw [z, e2] at he
        cases he
        rw [c2] at hc
        exact absurd (Value.type.inj hc) (by decide)
      · obtain ⟨o2, e2, c2, _⟩ := p
        rw [z, e2] at he
        cases he
        rw [c2] at hc
        exact absurd (Value.type.inj hc) (by decide)
    · exact vals_get' rv (by simpa using hu)
theorem ebase_str {P : Program} {w : World} {K : PySem.W.Frag} {it : Addr} {z : Str} {t : Tok} : EBase P w K it z.cps.size (fun _ => True) (fun i x => ∃ c, z.cps[i]? = some c ∧ x = .str ⟨#[c]⟩) (fun i h => h.IsStrIter it (strIterType z) z t i) where
  obj := fun i h st => by
    obtain ⟨o, e, c, d⟩ := st
    exact ⟨o, e, fun v z => by rw [d] at z; cases z⟩
  keep := fun i h h' st k => let ⟨o, ho, r⟩ := st; ⟨o, k o ho, r⟩
  up := by
    intro X hP hw hK pins s σ H hh I hG i st hn
    subst hP hw hK
    refine ⟨_, _, _, Draws.text (A := X.A.in1) hh it z t, st, fun j h q => q, fun e o he hen hc hm => ?_, fun j u hu => ?_⟩
    · have e' : e = it := by simpa using hm
      obtain ⟨o2, e2, c2, _⟩ := st
      rw [e', e2] at he
      cases he
      rw [c2] at hc
      unfold strIterType at hc
      split at hc <;> exact absurd (Value.type.inj hc) (by decide)
    · obtain ⟨c, tk, hc, rfl⟩ := hu
      exact ⟨.str ⟨#[c]⟩, ⟨_, rfl⟩, c, hc, rfl⟩
/-- enumerate(list), enumerate(tuple), enumerate(text) -/
def iEnumA (K : PySem.W.Frag) (ta : TA) : TI := fun σ H R => ta σ H fun vs H1 => (∃ a xs, vs = [.ref a] ∧ SqL K H1 a xs ∧ R (Ite K a) H1) ∨ (∃ a xs, vs = [.ref a] ∧ SqT K H1 a xs ∧ R (IteD xs.length (fun H => SqT K H a xs) fun i x => xs[i]? = some x) H1) ∨
  ∃ z : Str, vs = [.str z] ∧ R (IteD z.cps.size (fun _ => True) fun i x => ∃ c, z.cps[i]? = some c ∧ x = .str ⟨#[c]⟩) H1
theorem pi_enumA {X : Cx} {e : Expr} {ta : TA} {p pos tpos : Pos} {elts : List Expr} {kk : Nat} (hg : Gl X "enumerate") (hm : X.mg "enumerate" = none) (ha : PA X [e] ta) (hs : starEach [e] X.env = [(false, eval e X.env)] := by rfl) :
    PI X (.Tuple elts kk tpos) (.Call (.Name "enumerate" p) [e] [] pos) (iEnumA X.K ta) := by
  refine ⟨fun pins s σ H R I h => ?_⟩
  refine Call_ (ld_blt I hg hm boot_enumerate (PyProof.Rows.callWith_type1 (thn (ha.run pos pins s σ H _ I h) fun us s1 ⟨vs, H1, I1, r1, q1⟩ => ?_) hs rfl))
  have fin : ∀ (h' : Heap) (J : It) (tn : Nat → Heap → Prop), (∀ b o, s1.heap.get? b = some o → h'.get? b = some o) → Turn X.prog X.w X.K (.Tuple elts kk tpos) J [s1.heap.objs.size + 1, s1.heap.objs.size] (s1.heap.objs.size + 1) tn → tn 0 h' → R J H1 →
      PIE X pins σ (.Tuple elts kk tpos) R (.ref (s1.heap.objs.size + 1)) { s1 with heap := h' } := fun h' J tn hk T st q => by
    refine ⟨s1.heap.objs.size + 1, [s1.heap.objs.size + 1, s1.heap.objs.size], tn, J, H1, rfl, I1.kept (t' := s1.toks) hk, T, st, fun b hb => ?_, q⟩
    have e' : b = s1.heap.objs.size + 1 ∨ b = s1.heap.objs.size := by simpa using hb
    have hle : s1.heap.objs.size ≤ b := by
      rcases e' with z | z
      · rw [z]; exact Nat.le_add_right _ _
      · rw [z]; exact Nat.le_refl _
    exact I1.fpOk hle (I1.hok.fresh hle)
  rcases q1 with ⟨a, xs, ex, hq, q⟩ | ⟨a, xs, ex, hq, q⟩ | ⟨z, ex, q⟩
  · subst ex
    cases r1 with
    | cons r rr =>
      cases rr
      cases r
      obtain ⟨its, rv, p', hz⟩ := I1.list hq
      refine call_enumerate_list p'.isList fun h' he hit hsz hk => wpAny_pyIter_enum he ?_
      exact fin h' _ _ hk (turn_enum a _ _) ⟨⟨.none, he⟩, hit, Nat.succ_ne_self _⟩ q
  · subst ex
    cases r1 with
    | cons r rr =>
      cases rr
      cases r
      obtain ⟨its, rv, p', hz⟩ := I1.tuple hq
      have hne : a ≠ s1.heap.objs.size := by
        obtain ⟨o, e, _⟩ := p'
        exact Nat.ne_of_lt (Heap.lt_size e)
      refine fn_enum_call (begins_tuple a its.toArray) p' fun h' he hit hsz hk => wpAny_pyIter_enum he ?_
      exact fin h' _ _ hk (turn_enumD (ebase_tup hne)) ⟨Nat.zero_le _, ⟨.none, he⟩, ⟨_, hit, rfl, rfl⟩, Nat.succ_ne_self _⟩ q
  · subst ex
    cases r1 with
    | cons r rr =>
      cases rr
      obtain ⟨t, rfl⟩ := r
      refine fn_enum_call (begins_text z t) trivial fun h' he hit hsz hk => wpAny_pyIter_enum he ?_
      exact fin h' _ _ hk (turn_enumD (ebase_str (z := z) (t := t))) ⟨Nat.zero_le _, ⟨.none, he⟩, ⟨_, hit, rfl, rfl⟩, Nat.succ_ne_self _⟩ q
/-! ### as readings -/
def enumD (ds : List D) : List D := ds.zipIdx.map fun p => .tup [.int (p.2 : Nat), p.1]
theorem enumD_get (ds : List D) (i : Nat) : (enumD ds)[i]? = (ds[i]?).map fun d => .tup [.int (i : Nat), d] := by
  unfold enumD
  rw [List.getElem?_map, List.getElem?_zipIdx]
  cases ds[i]? <;> simp
theorem enumD_len (ds : List D) : (enumD ds).length = ds.length := by simp [enumD]
def oEnum (ms : List M) (Q : List D → Prop) : Prop := match ms with
  | [m] => oWalk m fun ds => Q (enumD ds)
  | _ => False
section
variable {X : Cx} {T : Top} {W : WX} {e a b : Expr} {pos tpos p : Pos} {elts : List Expr} {kk : Nat}
theorem walks_pair {φ : Ob} {H : Hp} {J : It} {ds : List D} (Y : Nat → Hp → V → Prop)
    (hg : ∀ (i : Nat) (H2 : Hp) (φ2 : Ob), Ext H H2 → Pre φ φ2 → (i < ds.length → J.go i H2) ∧ (ds.length ≤ i → J.stop i H2))
    (hy : ∀ (i : Nat) (H2 : Hp) (φ2 : Ob) (x : V) (H3 : Hp) (d : D), Ext H H2 → Pre φ φ2 → ds[i]? = some d → J.yld i H2 x H3 → ∃ T' x1 x2 d1 d2, x = .ref T' ∧ H2 T' = none ∧ H3 = upd H2 T' (.tup [x1, x2]) ∧ d = .tup [d1, d2] ∧ FD T φ2 H2 x1 d1 ∧ FD T φ2 H2 x2 d2) : Walks T φ J H ds := by
  intro i H2 φ2 ex p
  obtain ⟨g1, g2⟩ := hg i H2 φ2 ex p
  refine ⟨fun d hd => ⟨g1 (List.getElem?_eq_some_iff.mp hd).1, fun x H3 hyl => ?_⟩, g2⟩
  obtain ⟨T', x1, x2, d1, d2, rfl, hn, rfl, rfl, r1, r2⟩ := hy i H2 φ2 x H3 d ex p hd hyl
  have F : Fresh H2 (upd H2 T' (.tup [x1, x2])) [] := Fresh.upd0 hn
  exact ⟨F, .tup upd_same (.cons (r1.ext F.ext (Pre.refl _)) (.cons (r2.ext F.ext (Pre.refl _)) .nil))⟩
theorem walks_enumD {φ : Ob} {H : Hp} {G : Hp → Prop} {Y : Nat → V → Prop} {ds : List D} (hG : ∀ H2, Ext H H2 → G H2) (hY : ∀ i x d, Y i x → ds[i]? = some d → FD T φ H x d) : Walks T φ (IteD ds.length G Y) H (enumD ds) := by
  refine walks_pair (fun _ _ _ => True) (fun i H2 φ2 ex p => ?_) fun i H2 φ2 x H3 d ex p hd hy => ?_
  · rw [enumD_len]
    exact ⟨fun h => ⟨hG H2 ex, h⟩, fun h => ⟨hG H2 ex, h⟩⟩
  · obtain ⟨T', x1, rfl, hn, rfl, hx⟩ := hy
    rw [enumD_get] at hd
    cases q : ds[i]? with
    | none => rw [q] at hd; cases hd
    | some d1 =>
      rw [q] at hd
      cases hd
      exact ⟨T', _, x1, _, d1, rfl, hn, rfl, rfl, .int _, (hY i x1 d1 hx q).ext ex p⟩
theorem fi_enum {ta : FA} (hK : X.K = T.K) (hg : Gl X "enumerate") (hm : X.mg "enumerate" = none) (ha : PA X [e] (LAB T W ta)) (hs : starEach [e] X.env = [(false, eval e X.env)] := by rfl) :
    PI X (.Tuple elts kk tpos) (.Call (.Name "enumerate" p) [e] [] pos) (LI T W (fRng oEnum ta)) := PI.weak (pi_enumA hg hm ha hs) fun σ H R ⟨ρ, S, φ, fe, fs, E, Qm, G, w, hx, k⟩ => by
  refine ⟨ρ, S, φ, fe, fs, E, _, G, w, hx, fun ms S' vs H' φ' fs' fm q A r d R' => ?_⟩
  rw [hK]
  unfold oEnum at q
  split at q
  · cases r with
    | cons x r =>
      cases r
      cases x with
      | lst => exact q.elim
      | dct => exact q.elim
      | dat x =>
        cases x with
        | @lst a xs ds h rs =>
          refine .inl ⟨a, xs, rfl, h.seq, k _ S' _ H' φ' fs' q A R' (walks_pair (fun _ _ _ => True) (fun i H2 φ2 ex p => ?_) fun i H2 φ2 x H3 d ex p hd hy => ?_)⟩
          · have h2 : SqL T.K H2 a xs := (ex.fzl h).seq
            rw [enumD_len, ← rs.len]
            exact ⟨fun hi => ⟨xs, xs[i], h2, List.getElem?_eq_getElem hi⟩, fun hi => ⟨xs, h2, hi⟩⟩
          · obtain ⟨T', x1, rfl, hn, rfl, hx⟩ := hy
            rw [enumD_get] at hd
            cases q : ds[i]? with
            | none => rw [q] at hd; cases hd
            | some d1 =>
              rw [q] at hd
              cases hd
              obtain ⟨y, hy1, hy2⟩ := rs.get q
              have e2 := hx xs (ex.fzl h).seq
              rw [hy1] at e2
              cases e2
              exact ⟨T', _, _, _, d1, rfl, hn, rfl, rfl, .int _, hy2.ext ex p⟩
        | @tup a xs ds h rs =>
          refine .inr (.inl ⟨a, xs, rfl, SqT.of h, ?_⟩)
          rw [rs.len]
          refine k _ S' _ H' φ' fs' q A R' (walks_enumD (fun H2 ex => SqT.of (ex.tup _ _ h)) fun i x d hx hd => ?_)
          obtain ⟨y, hy1, hy2⟩ := rs.get hd
          rw [hx] at hy1
          cases hy1
          exact hy2
        | @ktup a xs ds h rs =>
          refine .inr (.inl ⟨a, xs, rfl, .inr h, ?_⟩)
          rw [rs.len]
          refine k _ S' _ H' φ' fs' q A R' (walks_enumD (fun H2 ex => .inr h) fun i x d hx hd => ?_)
          obtain ⟨y, hy1, hy2⟩ := rs.get hd
          rw [hx] at hy1
          cases hy1
          exact hy2
        | str s =>
          refine .inr (.inr ⟨_, rfl, ?_⟩)
          have e : (⟨s.toArray⟩ : Str).cps.size = (s.map fun c => D.str [c]).length := by simp
          rw [e]
          refine k _ S' _ H' φ' fs' q A R' (walks_enumD (fun H2 ex => trivial) fun i x d ⟨c, hc, hx⟩ hd => ?_)
          rw [List.getElem?_map] at hd
          have hc : s[i]? = some c := by simpa using hc
          rw [hc] at hd
          cases hd
          rw [hx]
          exact .str [c]
        | _ => exact q.elim
  · exact q.elim
def zipD (ds es : List D) : List D := List.zipWith (fun d e => .tup [d, e]) ds es
def oZip (ms : List M) (Q : List D → Prop) : Prop := match ms with
  | [.dat (.lst ds), .dat (.lst es)] => ds.length = es.length ∧ Q (zipD ds es)
  | [.dat (.tup ds), .dat (.tup es)] => ds.length = es.length ∧ Q (zipD ds es)
  | _ => False
theorem zipD_some {ds es : List D} {i : Nat} {d : D} (h : (zipD ds es)[i]? = some d) : ∃ d1 d2, ds[i]? = some d1 ∧ es[i]? = some d2 ∧ d = .tup [d1, d2] := by
  unfold zipD at h
  rw [List.getElem?_zipWith] at h
  cases q1 : ds[i]? with
  | none => rw [q1] at h; cases h
  | some d1 =>
    cases q2 : es[i]? with
    | none => rw [q1, q2] at h; cases h
    | some d2 =>
      rw [q1, q2] at h
      cases h
      exact ⟨d1, d2, rfl, rfl, rfl⟩
theorem zipD_len {ds es : List D} (h : ds.length = es.length) : (zipD ds es).length = ds.length := by
  unfold zipD
  rw [List.length_zipWith, ← h, Nat.min_self]
theorem fi_zip {ta : FA} (hK : X.K = T.K) (hg : Gl X "zip") (hm : X.mg "zip" = none) (ha : PA X [a, b] (LAB T W ta)) (hs : starEach [a, b] X.env = (false, eval a X.env) :: starEach [b] X.env := by rfl) (hpl : (backTo pos (starEach [b] X.env)).any (·.1) = false := by rfl) :
    PI X (.Tuple elts kk tpos) (.Call (.Name "zip" p) [a, b] [] pos) (LI T W (fRng oZip ta)) := PI.weak (RZ.pi_zipA hg hm ha hs hpl) fun σ H R ⟨ρ, S, φ, fe, fs, E, Qm, G, w, hx, k⟩ => by
  refine ⟨ρ, S, φ, fe, fs, E, _, G, w, hx, fun ms S' vs H' φ' fs' fm q A r d R' => ?_⟩
  rw [hK]
  unfold oZip at q
  split at q
  · cases r with
    | cons x r =>
      cases r with
      | cons y r =>
        cases r
        cases x with
        | dat x =>
          cases y with
          | dat y =>
            cases x with
            | @lst c xs ds h1 rs1 =>
              cases y with
              | @lst c2 ys es h2 rs2 =>
                refine ⟨c, c2, xs, ys, rfl, .inl ⟨h1.seq, h2.seq, k _ S' _ H' φ' fs' q.2 A R' (walks_pair (fun _ _ _ => True) (fun i H2 φ2 ex p => ?_) fun i H2 φ2 x H3 d ex p hd hy => ?_)⟩⟩
                · have g1 : SqL T.K H2 c xs := (ex.fzl h1).seq
                  have g2 : SqL T.K H2 c2 ys := (ex.fzl h2).seq
                  rw [zipD_len q.1, ← rs1.len]
                  have e1 := rs1.len
                  have e2 := rs2.len
                  have e3 := q.1
                  exact ⟨fun hi => ⟨xs, ys, xs[i], ys[i]'(by omega), g1, g2, List.getElem?_eq_getElem hi, List.getElem?_eq_getElem _⟩, fun hi => ⟨xs, ys, g1, g2, .inl hi⟩⟩
                · obtain ⟨T', x1, x2, rfl, hn, rfl, hx1, hx2⟩ := hy
                  obtain ⟨d1, d2, e1, e2, rfl⟩ := zipD_some hd
                  obtain ⟨y1, hy1, ry1⟩ := rs1.get e1
                  obtain ⟨y2, hy2, ry2⟩ := rs2.get e2
                  have z1 := hx1 xs (ex.fzl h1).seq
                  have z2 := hx2 ys (ex.fzl h2).seq
                  rw [hy1] at z1
                  rw [hy2] at z2
                  cases z1
                  cases z2
                  exact ⟨T', _, _, d1, d2, rfl, hn, rfl, rfl, ry1.ext ex p, ry2.ext ex p⟩
  · cases r with
    | cons x r =>
      cases r with
      | cons y r =>
        cases r
        cases x with
        | dat x =>
          cases y with
          | dat y =>
            cases x with
            | @tup c xs ds h1 rs1 =>
              cases y with
              | @tup c2 ys es h2 rs2 =>
                refine ⟨c, c2, xs, ys, rfl, .inr ⟨SqT.of h1, SqT.of h2, k _ S' _ H' φ' fs' q.2 A R' (walks_pair (fun _ _ _ => True) (fun i H2 φ2 ex p => ?_) fun i H2 φ2 x H3 d ex p hd hy => ?_)⟩⟩
                · have g1 : SqT T.K H2 c xs := SqT.of (ex.tup _ _ h1)
                  have g2 : SqT T.K H2 c2 ys := SqT.of (ex.tup _ _ h2)
                  rw [zipD_len q.1, ← rs1.len]
                  have e1 := rs1.len
                  have e2 := rs2.len
                  have e3 := q.1
                  exact ⟨fun hi => ⟨xs, ys, xs[i], ys[i]'(by omega), g1, g2, List.getElem?_eq_getElem hi, List.getElem?_eq_getElem _⟩, fun hi => ⟨xs, ys, g1, g2, .inl hi⟩⟩
                · obtain ⟨T', x1, x2, rfl, hn, rfl, hx1, hx2⟩ := hy
                  obtain ⟨d1, d2, e1, e2, rfl⟩ := zipD_some hd
                  obtain ⟨y1, hy1, ry1⟩ := rs1.get e1
                  obtain ⟨y2, hy2, ry2⟩ := rs2.get e2
                  have z1 := hx1 xs (SqT.of (ex.tup _ _ h1))
                  have z2 := hx2 ys (SqT.of (ex.tup _ _ h2))
                  rw [hy1] at z1
                  rw [hy2] at z2
                  cases z1
                  cases z2
                  exact ⟨T', _, _, d1, d2, rfl, hn, rfl, rfl, ry1.ext ex p, ry2.ext ex p⟩
  · exact q.elim
end
end L2.Fn
/-! Fn, part L: errors of own classes: made, raised, caught, looked at. -/
namespace L2.Fn
open PySem PySem.Spec PyProof.Rows

/-! ### the class's own __init__: self.f = f -/
def spInit (K : PySem.W.Frag) (f : Str) : Sp := fun vs H Q E => ∃ (a C : Addr) (y : V), vs = [.ref a, y] ∧ OexC K C ∧ PySem.W.findIn K (.ref C) f = some none ∧ H a = some (exo a C none) ∧
  ∀ dx, H dx = none → dx ≠ a → Q .non (upd (upd H dx (exd dx [(f, y)])) a (exo a C (some dx)))
theorem init_ok {P : Program} {w : World} {K : PySem.W.Frag} {mg : Str → Option Value} {base : Heap} {x qual f : Str} {st : Stmt} {fa : Addr} {fd : FuncData} {k : Nat} (F : Fun K x qual st fa fd) (S : FnScope ["self", f] ["self", f] (defScope st))
    (hb : ∀ (cdv : Value) (A : Around) (outer : List Env) (s : Shared) (H : Hp) (E : XK), PSs (cxOf (L2.CX P w) P w K mg base ["self", f] qual (defScope st) fa cdv A outer s H E) (defBody st) (tOst K f (tVar 0) (tVar 1))) : FnOk P w K mg base (L2.CX P w) (k + 1) fa fd ["self", f] (spInit K f) := by
  refine F.okX S (fun vs H Q E h => ?_) (fun cdv A outer s H vs Q E hr h => ⟨_, hb cdv A outer s H E, ?_⟩)
  · obtain ⟨a, C, y, rfl, _⟩ := h
    rfl
  · obtain ⟨a, C, y, rfl, T, hno, ha, q⟩ := h
    exact ⟨y, rfl, .ref a, rfl, a, C, rfl, T, hno, .inl ⟨ha, fun dx hn ne => q dx hn ne⟩⟩
/-- the j-th statement of a class -/
def clsS (s : Stmt) (j : Nat) : Stmt := match s with
  | .ClassDef (body := b) .. => b.getD j (.Pass ⟨0, 0, 0, 0⟩)
  | _ => .Pass ⟨0, 0, 0, 0⟩
theorem cx_no {P : Program} {w : World} {outer : List Env} {H : Hp} {s : Shared} {e : Value} {s' : Shared} (h : L2.CX P w outer H s (fun _ _ _ => False) e s') : False := by
  obtain ⟨_, _, _, _, _, _, _, _, _, _, _, _, z⟩ := h
  exact z.elim
/-- an error class x with one attribute f -/
structure ExcAt (P : Program) (w : World) (K : PySem.W.Frag) (mg : Str → Option Value) (base : Heap) (x f : Str) (k : Nat) (C : Addr) : Prop where
  hm : mg x = some (.ref C)
  oex : OexC K C
  own : PySem.W.findIn K (.ref C) f = some none
  ini : ∃ (fI : Addr) (fd : FuncData), PySem.W.findIn K (.ref C) "__init__" = some (some (.ref fI)) ∧ PySem.W.typeIn K (.ref fI) = some (.type "function") ∧ FnOk P w K mg base (L2.CX P w) k fI fd ["self", f] (spInit K f) ∧ Binds K fd ["self", f] []
section
variable {X : Cx} {W : WX} {e a b : Expr} {t ta tb : FE} {pos pos' p : Pos} {es : List Expr} {rest body : List Stmt} {u w : FS} {x f : Str} {k : Nat} {C : Addr}
/-- raise x(e) -/
def fRaise1 (x f : Str) (t : FE) : FS := fun P ρ S => t ρ S (fun m S' => ∃ d, m = .dat d ∧ P.ex ⟨x, [(f, d)]⟩ ρ S') fun y S' => P.ex y ρ S'
theorem fs_raise1 (A : ExcAt X.prog X.w X.K X.mg X.base x f k C) (hc : X.calm = true) (hr : Room (k + 1) X.A) (tk : Takes X W) (hg : Gl X x) (he : PE X e (LB ⟨X.K, X.mg⟩ W t)) (hdb : (x == ("__debug__" : Str)) = false := by decide)
    (hs : starEach [e] X.env = [(false, eval e X.env)] := by rfl) : PS X (.Raise (some (.Call (.Name x p) [e] [] pos)) none pos') (LS ⟨X.K, X.mg⟩ W (fRaise1 x f t)) := by
  obtain ⟨hm, T, own, fI, fd, h1, h2, h3, h4⟩ := A
  refine PS.weak (L2.ps_raise hc tk (pmk_oex T h1 h2 h3 hr h4 .nil (fun pins σ H s e s' I h => (cx_no h).elim) hg hm (pa_cons he pa_nil (by rw [hs]; rfl)) hdb (by rw [hs]; rfl))) fun D σ H h => ?_
  obtain ⟨ρ, S, φ, fe, fs, P, G, w, k⟩ := h
  refine ⟨ρ, S, φ, fe, fs, _, _, G, w, k.wx G, fun m S1 v H1 φ1 fs1 fm q1 A1 r1 d1 R1 => ?_⟩
  obtain ⟨d, rfl, q1⟩ := q1
  cases r1 with
  | dat r1 =>
    refine ⟨by simp, fun a ha => ⟨a, C, v, rfl, T, own, upd_same, fun dx hdx ne => ?_⟩⟩
    have hdx1 : H1 dx = none := by
      rw [upd_ne ne] at hdx
      exact hdx
    refine ⟨rfl, dx, [(f, v)], upd_same, by rw [upd_ne ne, upd_same], hdx1, ?_⟩
    have e1 : upd (del (upd (upd (upd H1 a (exo a C none)) dx (exd dx [(f, v)])) a (exo a C (some dx))) a) dx (.xd [(f, v)]) = upd H1 dx (.xd [(f, v)]) := by
      funext c
      by_cases h1 : c = dx
      · subst h1
        rw [upd_same, upd_same]
      · rw [upd_ne h1, upd_ne h1]
        by_cases h2 : c = a
        · subst h2
          rw [del_same, ha]
        · rw [del_ne h2, upd_ne h2, upd_ne h1, upd_ne h2]
    rw [e1]
    have F : Fresh H1 (upd H1 dx (.xd [(f, v)])) [] := Fresh.upd0 hdx1
    have A2 := A1.drop.trans (F.aft R1 A1.ndS)
    have R2 := F.sto R1
    exact k.ex _ ρ S1 (.ref C) (some dx) σ _ φ1 fe fs1 q1 (A2.s.sub fun a z => List.mem_append_right _ z) (A2.good G R2) (.own1 hm upd_same (r1.ext F.ext (Pre.refl _)))
end
end L2.Fn
/-! Fn, part M: try with a named first clause that takes what is thrown. -/
namespace L2
open PySem PySem.Spec PyProof.Rows
/-- the first clause takes it, its name at the slot i -/
def wFst (K : PySem.W.Frag) (c : Value) (i : Nat) (ts : Addr → Value → Option Addr → TS) (D : Ends) : WX := fun kl dd τ G =>
  PySem.W.exmOne K kl c = some true ∧ ∀ a, G a = none → ts a kl dd { nx := fun τ1 G1 => D.nx (τ1.set i none) G1, rt := D.rt, bk := fun τ1 G1 => D.bk (τ1.set i none) G1, ct := fun τ1 G1 => D.ct (τ1.set i none) G1 } (τ.set i (some (.ref a))) G
section
variable {X : Cx} {x n : Str} {c : Value} {i : Nat} {body su : List Stmt} {s0 : Stmt} {hds : List ExceptHandler} {np pos pq : Pos} {tb : WX → TS} {ts : Addr → Value → Option Addr → TS}
theorem ps_try_fst (st : X.stack = X.env :: X.outer) (fr : X.env.frame = some X.env.locals) (nd : X.N.Nodup) (sl : X.N[i]? = some n) (kd : X.env.kindOf n = some .local) (nm : Names X x c)
    (run : ∀ (W : WX) (pn : List (Addr × Obj)) (xe : Value → Shared → Prop), Takes (X.tr pn xe) W → PassesOwn (model X.prog X.w) X.A X.env xe → PSs (X.tr pn xe) body (tb W))
    (take : ∀ (a : Addr) (oe : Obj) (kl : Value) (dd : Option Addr) (pn : List (Addr × Obj)), Zc kl dd oe → (∃ vs, oe.data = .fields vs) → PSs (X.suite a ((a, oe) :: pn)) (s0 :: su) (ts a kl dd)) :
    PS X (.Try body (.ExceptHandler (some (.Name x np)) (some n) (s0 :: su) pq :: hds) [] [] pos) (fun D τ G => tb (wFst X.K c i ts D) D τ G) := by
  refine ⟨fun pins r τ G D Iv wish => ?_⟩
  have okX := Iv.ok
  have frX : X.A.frames = some (X.env :: X.outer) := by rw [okX.frames, st]
  have lc : Loc X.env.scope n := .inl kd
  refine wpAny_Try_except ?_
  have start := run (wFst X.K c i ts D) (X.pn ++ pins) (fun e r1 => wpAny (model X.prog X.w) X.A (noteFrame e X.env) (fun _ r2 => wpAny (model X.prog X.w) X.A (setFlight e none) (fun _ r3 =>
    wpAny (model X.prog X.w) X.A (handleBy e X.env (.ExceptHandler (some (.Name x np)) (some n) (s0 :: su) pq :: hds)) (SP X pins D) X.xe r3) X.xe r2) X.xe r1)
  refine wpAny_mono ((start (fun u r' thr => ?_) PassesOwn.looking).run [] r τ G D (Iv.toTry _) wish) (fun fl r1 done => ?_) (fun e r1 he => he)
  · obtain ⟨a, B, rI, pins1, τ1, G1, kl, dd, rfl, Jt, nb, up0, sky0, fresh, oss, ag, mt, suited⟩ := thr
    have Jn : Inv X pins τ1 G1 rI := Jt.ofTry okX
    have sky1 : Sky B (X.env :: X.outer) a (Zc kl dd) X.env.locals r'.heap := by
      rw [← st]
      exact sky0
    show wpAny (model X.prog X.w) X.A (noteFrame (.ref a) X.env) _ _ _
    refine Sky.land Zc.steady frX fr sky1 fun g3 land3 up3 => ?_
    have Jl : Inv X pins τ1 G1 { r' with heap := g3 } := Jn.landed nb land3.1 (up0.trans up3) oss ag
    obtain ⟨o3, f3, get3, z3, dat3⟩ := land3.there
    have off : a ∉ frs (X.env :: X.outer) := fun hm => by
      obtain ⟨_, o', e', none'⟩ := land3.2.2.1.mem hm
      rw [get3] at e'
      cases e'
      exact none' _ dat3
    have offL : a ≠ X.env.locals := fun z => off (List.mem_filterMap.mpr ⟨X.env, List.mem_cons_self, by rw [fr, z]⟩)
    have offF : a ∉ X.fs := fun hm => by
      obtain ⟨ev, mem, eq⟩ := List.mem_filterMap.mp hm
      exact off (List.mem_filterMap.mpr ⟨ev, List.mem_cons_of_mem _ mem, eq⟩)
    have Js := Jl.suite get3 dat3 fresh offL offF
    refine wpAny_handleBy_cons (codeAny_handlers_test ?_) (by intro bad; cases bad)
    have lt : PySem.W.Looks (model X.prog X.w) g3 (typeOf (.ref a)) kl := fun A' Q' E' s' kp q => wpAny_typeOf_ref (kp _ _ get3) (by rw [z3.1]; exact q)
    have lm := PySem.W.exm_one (M := model X.prog X.w) (Jl.kIn) lt mt
    have named : ∀ {Q : Value → Shared → Prop} {E : Value → Shared → Prop}, Q c { r' with heap := g3 } → wpAny (model X.prog X.w) (X.A.mark (some (.ref a))) (eval (.Name x np) X.env) Q E { r' with heap := g3 } := fun {Q E} q => by
      obtain ⟨gl, dbg, own | ⟨own, blt, noN⟩⟩ := nm
      · exact ld_glob (X := X.suite a ((a, o3) :: (X.pn ++ pins))) Js gl own q dbg
      · exact ld_blt (X := X.suite a ((a, o3) :: (X.pn ++ pins))) Js gl own blt q noN dbg
    refine named (lm.here ?_)
    refine codeAny_handlers_suite_as ?_
    refine HandSPX.lands_againZ land3 fun g4 land4 up4 => ?_
    have J4 : Inv X pins τ1 G1 { r' with heap := g4 } := Jn.landed nb land4.1 ((up0.trans up3).trans up4) oss ag
    obtain ⟨o4, f4, get4, z4, dat4⟩ := land4.there
    have S4 := J4.suite get4 dat4 fresh offL offF
    refine store_ok (X := X.suite a ((a, o4) :: (X.pn ++ pins))) (v := .ref a) S4 nd sl lc rfl (fun r5 S5 => ?_) (.inr kd)
    refine wpAny_mono ((take a o4 kl dd (X.pn ++ pins) z4 ⟨_, dat4⟩).run [] r5 _ G1 _ S5 (suited a fresh)) (fun fl r6 out => ?_) (fun _ _ z => False.elim z)
    have gone : ∀ {τ6 : St} {G6 : Hp} {Q : Shared → Prop}, Inv (X.suite a ((a, o4) :: (X.pn ++ pins))) [] τ6 G6 r6 → (∀ r7, Inv X pins (τ6.set i none) G6 r7 → Q r7) →
        wpAny (model X.prog X.w) X.A (do bindName X.env n .none; unbindBehindTheSuite X.env n pq) (fun _ r7 => Q r7) X.xe r6 := fun {τ6 G6 Q} S6 hq => gone_ok (S6.unsuite okX) nd sl kd hq
    cases fl with
    | next =>
      obtain ⟨τ6, G6, S6, q6⟩ := out
      exact gone S6 fun r7 J7 => ⟨_, _, J7, q6⟩
    | brk =>
      obtain ⟨τ6, G6, S6, q6⟩ := out
      exact gone S6 fun r7 J7 => ⟨_, _, J7, q6⟩
    | cont =>
      obtain ⟨τ6, G6, S6, q6⟩ := out
      exact gone S6 fun r7 J7 => ⟨_, _, J7, q6⟩
    | ret u =>
      obtain ⟨v6, τ6, G6, S6, rv6, q6⟩ := out
      exact gone S6 fun r7 J7 => ⟨_, _, _, J7, rv6, q6⟩
  · cases fl with
    | next =>
      obtain ⟨τ1, G1, J1, q⟩ := done
      exact wpAny_execs_nil ⟨τ1, G1, J1.ofTry okX, q⟩
    | brk =>
      obtain ⟨τ1, G1, J1, q⟩ := done
      exact ⟨τ1, G1, J1.ofTry okX, q⟩
    | cont =>
      obtain ⟨τ1, G1, J1, q⟩ := done
      exact ⟨τ1, G1, J1.ofTry okX, q⟩
    | ret u =>
      obtain ⟨v, τ1, G1, J1, rv, q⟩ := done
      exact ⟨v, τ1, G1, J1.ofTry okX, rv, q⟩
end
end L2
/-! Fn, part N: caught errors as they are looked at; try as a reading. -/
namespace L2.Fn
open PySem PySem.Spec PyProof.Rows

/-! ### isinstance of the caught error -/
section
variable {X : Cx} {a D dd : Addr} {oe : Obj} {pn : List (Addr × Obj)}
theorem inst_of {K : PySem.W.Frag} {σ : St} {H : Hp} {s : Shared} {pins : List (Addr × Obj)} {fs : List (Str × V)} (hz : Zc (.ref D) (some dd) oe) (hf : ∃ vs, oe.data = .fields vs) (I : Inv (X.suite a ((a, oe) :: pn)) pins σ H s) (hd : H dd = some (.xd fs)) : ∃ od, PySem.W.InstAt s.heap a oe D (some od) := by
  obtain ⟨ha, _⟩ := I.pin (a, oe) (List.mem_append_left _ List.mem_cons_self)
  obtain ⟨vs, hv⟩ := hf
  have hx : ObjOk X.prog X.w H s.heap dd (.xd fs) := I.hok dd _ hd
  obtain ⟨mA, hns, hr⟩ := hx
  obtain ⟨od, ho, hl⟩ := lookIn_ns hns
  exact ⟨od, ha, hz.1, by unfold PySem.W.notCls; rw [hv] <;> rfl, by rw [hz.2]; exact ho⟩
theorem kit_exc {K : PySem.W.Frag} {x : Addr} {ox : Obj} {od : Option Obj} (C : ExcC K D) : PySem.W.KitX K (.ref x) (.ref D) (fun h => PySem.W.InstAt h x ox D od) := by
  have hcl : (PySem.W.clsIn K D).isSome = true := by
    obtain ⟨cd, hc, _⟩ := PySem.W.any_some C.hd
    rw [hc]
    rfl
  exact PySem.W.kitx_exc hcl C.hg C.hk C.hs C.ha C.hn C.ht C.hm
def rIsE1 (K : PySem.W.Frag) (D a dd : Addr) : List V → Hp → VK → Prop := fun xs H Q => ∃ (c : V) (cv : Value) (b : Bool) (fs : List (Str × V)), xs = [.ref a, c] ∧ ClsV c cv ∧ PySem.W.kitOne K (.ref D) cv = some b ∧ H dd = some (.xd fs) ∧ Q (.bl b) H
theorem call_isE1 (C : ExcC X.K D) (hz : Zc (.ref D) (some dd) oe) (hf : ∃ vs, oe.data = .fields vs) : CallR (X.suite a ((a, oe) :: pn)) (.builtin "isinstance") (rIsE1 X.K D a dd) := by
  intro pins s σ H xs us Q I r h
  obtain ⟨c, cv, b, fs, rfl, hcv, e, hd, q⟩ := h
  obtain ⟨u1, u2, rfl, r1, r2⟩ := vals2 r
  cases (show u1 = Value.ref a from r1)
  have ec := hcv.eq r2
  subst ec
  obtain ⟨od, J⟩ := inst_of (K := X.K) hz hf I hd
  exact PySem.W.kia_one (kit_exc C) I.kIn J e (fun z => nomatch z) fun tk => ⟨.bl b, H, I.tok tk, rfl, q⟩
def rIsE2 (K : PySem.W.Frag) (D a dd : Addr) : List V → Hp → VK → Prop := fun xs H Q => ∃ (tp : Addr) (cs : List V) (ws : List Value) (b : Bool) (fs : List (Str × V)), xs = [.ref a, .ref tp] ∧ H tp = some (.tup cs) ∧ Paired ClsV cs ws ∧ PySem.W.kitAny K (.ref D) ws = some b ∧ H dd = some (.xd fs) ∧ Q (.bl b) H
theorem call_isE2 (C : ExcC X.K D) (hz : Zc (.ref D) (some dd) oe) (hf : ∃ vs, oe.data = .fields vs) : CallR (X.suite a ((a, oe) :: pn)) (.builtin "isinstance") (rIsE2 X.K D a dd) := by
  intro pins s σ H xs us Q I r h
  obtain ⟨tp, cs, ws, b, fs, rfl, hT, k, e, hd, q⟩ := h
  obtain ⟨u1, u2, rfl, r1, r2⟩ := vals2 r
  cases (show u1 = Value.ref a from r1)
  cases (show u2 = Value.ref tp from r2)
  obtain ⟨od, J⟩ := inst_of (K := X.K) hz hf I hd
  obtain ⟨_, its, rv, o, h1, h2, n, h3⟩ := (show ObjOk X.prog X.w H s.heap tp (.tup cs) from I.hok tp _ hT)
  have e3 := ClsV.all k rv
  subst e3
  obtain ⟨oc, od2, dt, sl⟩ := o
  simp only at h2 h3
  subst h2 h3
  exact PySem.W.kia_tup (kit_exc C) I.kIn J h1 e (fun z => nomatch z) fun tk => ⟨.bl b, H, I.tok tk, rfl, q⟩
end
/-! ### readings -/
/-- what is told of a caught error of the class at C -/
structure Caught (X : Cx) (a : Addr) (oe : Obj) (C dd : Addr) (x : Str) : Prop where
  hz : Zc (.ref C) (some dd) oe
  hf : ∃ vs, oe.data = .fields vs
  hm : X.mg x = some (.ref C)
section
variable {X : Cx} {T : Top} {W : WX} {a C dd : Addr} {oe : Obj} {pn : List (Addr × Obj)} {x f : Str} {e : Expr} {t : FE} {d : D} {pos p pn' tpos : Pos} {es : List Expr} {kk : Nat}
def fXf (a dd : Addr) (x f : Str) (d : D) (t : FE) : FE := fun ρ S Q E => t ρ S (fun m S' => m = .dat (.exn a dd x f d) ∧ Q (.dat d) S') E
theorem exn_xd {φ : Ob} {H : Hp} {v : V} (r : FD T φ H v (.exn a dd x f d)) : v = .ref a ∧ ∃ u, H dd = some (.xd [(f, u)]) ∧ FD T φ H u d := by
  cases r with
  | exn h1 h2 r => exact ⟨rfl, _, h2, r⟩
theorem fe_xf (c : Caught X a oe C dd x) (A : XfC X.K C) (own : PySem.W.findIn X.K (.ref C) f = some none) (he : PE (X.suite a ((a, oe) :: pn)) e (LB T W t)) (hb : attributeBase e f X.env (eval e X.env) = eval e X.env := by rfl) :
    PE (X.suite a ((a, oe) :: pn)) (.Attribute e f pos) (LE T W (fXf a dd x f d t)) :=
  PE.weak (pe_xf A own c.hz c.hf he hb) fun σ H Q ⟨ρ, S, φ, fe, fs, E, Qm, G, w, hx, k⟩ => by
    refine ⟨ρ, S, φ, fe, fs, E, _, G, w, hx, fun m S' v H' φ' fs' fm q A' r dj R => ?_⟩
    obtain ⟨rfl, q⟩ := q
    cases r with
    | dat r =>
      obtain ⟨rfl, u, hu, ru⟩ := exn_xd r
      exact ⟨rfl, rfl, dd, _, u, rfl, hu, by simp [List.lookup], k _ S' u H' φ' fs' [] q A' (.dat ru) R⟩
def fIsE (a dd : Addr) (x f : Str) (d : D) (b : Bool) (t : FE) : FE := fun ρ S Q E => t ρ S (fun m S' => m = .dat (.exn a dd x f d) ∧ Q (.dat (.bl b)) S') E
theorem fe_isE1 {nm : Str} {c : V} {cv : Value} {b : Bool} (ct : Caught X a oe C dd x) (A : ExcC X.K C) (he : PE (X.suite a ((a, oe) :: pn)) e (LB T W t)) (hn : PE (X.suite a ((a, oe) :: pn)) (.Name nm pn') (tC c)) (hc : ClsV c cv) (hk : PySem.W.kitOne X.K (.ref C) cv = some b)
    (hg : Gl X "isinstance") (hm : X.mg "isinstance" = none)
    (hs : starEach [e, .Name nm pn'] X.env = (false, eval e X.env) :: starEach [.Name nm pn'] X.env := by rfl) (hs2 : starEach [.Name nm pn'] X.env = (false, eval (.Name nm pn') X.env) :: starEach [] X.env := by rfl)
    (hpl : (backTo pos (starEach [.Name nm pn'] X.env)).any (·.1) = false := by rfl) :
    PE (X.suite a ((a, oe) :: pn)) (.Call (.Name "isinstance" p) [e, .Name nm pn'] [] pos) (LE T W (fIsE a dd x f d b t)) :=
  PE.weak (pe_callB (X := X.suite a ((a, oe) :: pn)) (call_isE1 A ct.hz ct.hf) hg hm (by decide +kernel) (pa_cons he (pa_cons hn pa_nil hs2) hs) (by decide) (by decide) hs hpl) fun σ H Q ⟨ρ, S, φ, fe, fs, E, Qm, G, w, hx, k⟩ => by
    refine ⟨ρ, S, φ, fe, fs, E, _, G, w, hx, fun m S' v H' φ' fs' fm q A' r dj R => ?_⟩
    obtain ⟨rfl, q⟩ := q
    cases r with
    | dat r =>
      obtain ⟨rfl, u, hu, ru⟩ := exn_xd r
      exact ⟨c, cv, b, _, rfl, hc, hk, hu, k _ S' _ H' φ' fs' [] q A' (.dat (.bl b)) R⟩
theorem fe_isE2 {ta : TA} {cs : List V} {ws : List Value} {b : Bool} (ct : Caught X a oe C dd x) (A : ExcC X.K C) (he : PE (X.suite a ((a, oe) :: pn)) e (LB T W t)) (hn : PA (X.suite a ((a, oe) :: pn)) es ta) (hta : ∀ σ H (Q : List V → Hp → Prop), Q cs H → ta σ H Q) (hl : cs.length ≤ sizeLine) (hc : Paired ClsV cs ws)
    (hk : PySem.W.kitAny X.K (.ref C) ws = some b) (hg : Gl X "isinstance") (hm : X.mg "isinstance" = none)
    (hs : starEach [e, .Tuple es kk tpos] X.env = (false, eval e X.env) :: starEach [.Tuple es kk tpos] X.env := by rfl) (hs2 : starEach [.Tuple es kk tpos] X.env = (false, eval (.Tuple es kk tpos) X.env) :: starEach [] X.env := by rfl)
    (hpl : (backTo pos (starEach [.Tuple es kk tpos] X.env)).any (·.1) = false := by rfl) :
    PE (X.suite a ((a, oe) :: pn)) (.Call (.Name "isinstance" p) [e, .Tuple es kk tpos] [] pos) (LE T W (fIsE a dd x f d b t)) :=
  PE.weak (pe_callB (X := X.suite a ((a, oe) :: pn)) (call_isE2 A ct.hz ct.hf) hg hm (by decide +kernel) (pa_cons he (pa_cons (pe_tup hn) pa_nil hs2) hs) (by decide) (by decide) hs hpl) fun σ H Q ⟨ρ, S, φ, fe, fs, E, Qm, G, w, hx, k⟩ => by
    refine ⟨ρ, S, φ, fe, fs, E, _, G, w, hx, fun m S' v H' φ' fs' fm q A' r dj R => ?_⟩
    obtain ⟨rfl, q⟩ := q
    cases r with
    | dat r =>
      refine hta _ _ _ ⟨hl, fun tp htp => ?_⟩
      have F : Fresh H' (upd H' tp (.tup cs)) [] := Fresh.upd0 htp
      obtain ⟨rfl, u, hu, ru⟩ := exn_xd r
      exact ⟨tp, cs, ws, b, _, rfl, upd_same, hc, hk, F.keep _ _ hu, k _ S' _ _ φ' fs' [] q (A'.trans (F.aft R A'.ndS)) (.dat (.bl b)) (F.sto R)⟩
end
/-! ### try: .. except C as n: .. -/
theorem Good.unset {T : Top} {φ : Ob} {H : Hp} {σ : St} {ρ : Ev} {S : Sto} {fe fs : List Addr} (G : Good T φ H σ ρ S fe fs) (i : Nat) : ∃ fe', (∀ a ∈ fe', a ∈ fe) ∧ Good T φ H (σ.set i none) (ρ.set i none) S fe' fs := by
  obtain ⟨f', h1, h2⟩ := G.env.unset i
  exact ⟨f', fun a z => h2.subset z, h1, G.sto, List.nodup_append.mpr ⟨(List.nodup_append.mp G.nd).1.sublist h2, G.ndS, fun a h b h' => (List.nodup_append.mp G.nd).2.2 a (h2.subset h) b h'⟩⟩
def P0 (P : EndP) (i : Nat) : EndP := { nx := fun ρ S => P.nx (ρ.set i none) S, rt := P.rt, bk := fun ρ S => P.bk (ρ.set i none) S, ct := fun ρ S => P.ct (ρ.set i none) S, ex := fun _ _ _ => False }
def fTry (x f : Str) (i : Nat) (b : FS) (h : Addr → Addr → D → FS) : FS := fun P ρ S => b { P with ex := fun y ρ' S' => i < ρ'.length ∧ ∃ d, y = ⟨x, [(f, d)]⟩ ∧ ∀ a dd, h a dd d (P0 P i) (ρ'.set i (some (.dat (.exn a dd x f d)))) S' } ρ S
section
variable {X : Cx} {W : WX} {x f cn n : Str} {C : Addr} {cv : Value} {i : Nat} {body su : List Stmt} {s0 : Stmt} {hds : List ExceptHandler} {np pos pq : Pos} {b : FS} {h : Addr → Addr → D → FS}
theorem fs_try (hm : X.mg x = some (.ref C)) (st : X.stack = X.env :: X.outer) (fr : X.env.frame = some X.env.locals) (nd : X.N.Nodup) (sl : X.N[i]? = some n) (kd : X.env.kindOf n = some .local) (nm : Names X cn cv) (hex : PySem.W.exmOne X.K (.ref C) cv = some true)
    (run : ∀ (W' : WX) (pn : List (Addr × Obj)) (xe : Value → Shared → Prop), Takes (X.tr pn xe) W' → PassesOwn (model X.prog X.w) X.A X.env xe → PSs (X.tr pn xe) body (LS ⟨X.K, X.mg⟩ W' b))
    (take : ∀ (a : Addr) (oe : Obj) (dd : Addr) (pn : List (Addr × Obj)) (d : D), Caught X a oe C dd x → PSs (X.suite a ((a, oe) :: pn)) (s0 :: su) (LS ⟨X.K, X.mg⟩ W0 (h a dd d))) :
    PS X (.Try body (.ExceptHandler (some (.Name cn np)) (some n) (s0 :: su) pq :: hds) [] [] pos) (LS ⟨X.K, X.mg⟩ W (fTry x f i b h)) := by
  refine PS.weak (ps_try_fst (c := cv) (ts := fun a kl dd D σ H => ∃ ddv d, kl = .ref C ∧ dd = some ddv ∧ LS ⟨X.K, X.mg⟩ W0 (h a ddv d) D σ H) st fr nd sl kd nm run fun a oe kl dd pn hz hf => ⟨fun pins s σ H D I ⟨ddv, d, ek, ed, w⟩ => ?_⟩) fun D σ H w => ?_
  · subst ek ed
    exact (take a oe ddv pn d ⟨hz, hf, hm⟩).run pins s σ H D I w
  · obtain ⟨ρ, S, φ, fe, fs, P, G, w, k⟩ := w
    refine ⟨ρ, S, φ, fe, fs, _, G, w, ⟨k.nx, k.bk, k.ct, k.rt, fun y ρ1 S1 kl dopt σ1 H1 φ1 fe1 fs1 p A1 G1 r => ?_⟩⟩
    obtain ⟨hi, d, rfl, p⟩ := p
    cases r with
    | @own1 _ _ C' dd v _ hC hxd rv =>
      have hC' : X.mg x = some (.ref C') := hC
      rw [hm] at hC'
      cases hC'
      refine ⟨hex, fun a ha => ⟨dd, d, rfl, rfl, ?_⟩⟩
      have rx : Rep ⟨X.K, X.mg⟩ φ1 H1 (.ref a) (.dat (.exn a dd x f d)) [] := .dat (.exn hm hxd rv)
      obtain ⟨fe2, sub2, G2⟩ := G1.setN rx (List.nodup_append.mp G1.nd).1 (fun _ z => nomatch z) hi
      have B2 : AftS φ fe fs H φ1 fe2 fs1 H1 := A1.sub sub2
      have k2 := k.aft B2
      refine ⟨_, S1, φ1, fe2, fs1, _, G2, p a dd, ⟨fun ρ3 S3 σ3 H3 φ3 fe3 fs3 q A3 G3 => ?_, fun ρ3 S3 σ3 H3 φ3 fe3 fs3 q A3 G3 => ?_, fun ρ3 S3 σ3 H3 φ3 fe3 fs3 q A3 G3 => ?_, k2.rt, fun _ _ _ _ _ _ _ _ _ _ z => z.elim⟩⟩
      · obtain ⟨fe4, sub4, G4⟩ := G3.unset i
        exact k2.nx _ S3 _ H3 φ3 fe4 fs3 q (A3.sub sub4) G4
      · obtain ⟨fe4, sub4, G4⟩ := G3.unset i
        exact k2.bk _ S3 _ H3 φ3 fe4 fs3 q (A3.sub sub4) G4
      · obtain ⟨fe4, sub4, G4⟩ := G3.unset i
        exact k2.ct _ S3 _ H3 φ3 fe4 fs3 q (A3.sub sub4) G4
end
end L2.Fn
/-! Fn, part O: comprehensions of two fors. -/
namespace L2.Fn
open PySem PySem.Spec PyProof.Rows
def innerW (g1 : FG) (c1 : FT) (t : FE) (vs1 : List Nat) (ρ : Ev) (K : List M → Sto → Prop) : List D → List M → Sto → Prop
  | [], acc, S => K acc S
  | e :: es, acc, S => g1 (.dat e) (wipeE ρ vs1) fun ρ2 => c1 ρ2 S (fun b S2 => if b = true then t ρ2 S2 (fun m S3 => acc.length < sizeLine ∧ innerW g1 c1 t vs1 ρ K es (acc ++ [m]) S3) noX else innerW g1 c1 t vs1 ρ K es acc S2) noX
def compW2 (g : FG) (c : FT) (ti1 : FI) (g1 : FG) (c1 : FT) (t : FE) (vs vs1 : List Nat) (ρ : Ev) (Q : WP) : List D → List M → Sto → Prop
  | [], acc, S => Q (.lst acc) S
  | d :: ds, acc, S => g (.dat d) (wipeE ρ vs) fun ρ1 => c ρ1 S (fun b S2 => if b = true then ti1 ρ1 S2 (fun es S3 => innerW g1 c1 t vs1 ρ1 (compW2 g c ti1 g1 c1 t vs vs1 ρ Q ds) es acc S3) noX else compW2 g c ti1 g1 c1 t vs vs1 ρ Q ds acc S2) noX
def fComp2 (ti : FI) (g : FG) (c : FT) (ti1 : FI) (g1 : FG) (c1 : FT) (t : FE) (vs vs1 : List Nat) : FE := fun ρ S Q E => ti ρ S (fun ds S' => compW2 g c ti1 g1 c1 t vs vs1 ρ Q ds [] S') E
section
variable {T : Top} {W : WX}
/-- the list that grows, the store, relative to the start -/
structure CS (T : Top) (φ : Ob) (fs : List Addr) (H : Hp) (D : Addr) (acc : List M) (S1 : Sto) (φ1 : Ob) (fs1 fa : List Addr) (vs' : List V) (H1 : Hp) : Prop where
  aft : Aft φ fs H φ1 fs1 (D :: fa) H1
  at_ : H1 D = some (.lst vs')
  reps : Reps T φ1 H1 vs' acc fa
  sto : RepS T H1 φ1 φ1 S1 fs1
theorem CS.own {φ φ1 : Ob} {fs fs1 fa : List Addr} {H H1 : Hp} {D : Addr} {acc : List M} {S1 : Sto} {vs' : List V} (c : CS T φ fs H D acc S1 φ1 fs1 fa vs' H1) : ∀ a ∈ D :: fa, H1 a ≠ none := fun a ha => by
  rcases List.mem_cons.mp ha with z | z
  · rw [z, c.at_]; exact fun z => nomatch z
  · exact c.reps.own' a z
/-- a step beside it -/
theorem CS.step {φ φ1 φ2 : Ob} {fs fs1 fs2 fa fm : List Addr} {H H1 H2 : Hp} {D : Addr} {acc : List M} {S1 S2 : Sto} {vs' : List V} (c : CS T φ fs H D acc S1 φ1 fs1 fa vs' H1) (A : Aft φ1 fs1 H1 φ2 fs2 fm H2) (R : RepS T H2 φ2 φ2 S2 fs2) : CS T φ fs H D acc S2 φ2 fs2 fa vs' H2 ∧ Aft φ fs H φ2 fs2 ((D :: fa) ++ fm) H2 := by
  have B := c.aft.both A c.own
  have B0 := c.aft.both A.drop c.own
  rw [List.append_nil] at B0
  exact ⟨⟨B0, A.keep D _ (c.aft.disj D List.mem_cons_self) c.at_, A.reps c.sto c.reps (fun a ha => c.aft.disj a (List.mem_cons_of_mem _ ha)), R⟩, B⟩
/-- one item more -/
theorem CS.push {φ φ1 : Ob} {fs fs1 fa fm : List Addr} {H H1 : Hp} {D : Addr} {acc : List M} {S1 : Sto} {vs' : List V} {y : V} {m : M} (c : CS T φ fs H D acc S1 φ1 fs1 fa vs' H1) (B : Aft φ fs H φ1 fs1 ((D :: fa) ++ fm) H1) (r : Rep T φ1 H1 y m fm) :
    CS T φ fs H D (acc ++ [m]) S1 φ1 fs1 (fa ++ fm) (vs' ++ [y]) (upd H1 D (.lst (vs' ++ [y]))) := by
  have nD : ∀ b ∈ fa ++ fm, b ≠ D := fun b hb z => by
    have nd := (List.nodup_append.mp B.nd).1
    exact (List.nodup_cons.mp nd).1 (z ▸ hb)
  have nM : D ∉ fs1 ++ φ1.ads := B.disj D List.mem_cons_self
  have kp : ∀ b zs, b ∈ fa ++ fm → H1 b = some zs → upd H1 D (.lst (vs' ++ [y])) b = some zs := fun b zs hb h => by rw [upd_ne (nD b hb)]; exact h
  refine ⟨⟨B.pre, fun a o n h => ?_, B.new, B.nd⟩, upd_same, ?_, c.sto.wr c.at_ nM⟩
  · rw [upd_ne fun z => ?_]; exact B.keep a o n h
    subst z
    rcases B.new a List.mem_cons_self with q | q
    · exact n q
    · rw [q] at h; cases h
  · have rr : Reps T φ1 (upd H1 D (.lst (vs' ++ [y]))) (vs' ++ [y]) (acc ++ [m]) (fa ++ (fm ++ [])) :=
      Reps.app (c.reps.ext (upd_ext c.at_) (Pre.refl _) fun b zs hb => kp b zs (List.mem_append_left _ hb)) (.cons (r.ext (upd_ext c.at_) (Pre.refl _) fun b zs hb => kp b zs (List.mem_append_right _ hb)) .nil)
    rw [List.append_nil] at rr
    exact rr
theorem wiped_good {φ1 : Ob} {H2 : Hp} {σ : St} {ρ : Ev} {S1 : Sto} {fe fs1 : List Addr} (G2 : Good T φ1 H2 σ ρ S1 fe fs1) (vs : List Nat) : ∃ fw, (∀ a ∈ fw, a ∈ fe) ∧ Good T φ1 H2 (wipe σ vs) (wipeE ρ vs) S1 fw fs1 := by
  obtain ⟨fw, gw, sl⟩ := G2.env.wiped vs
  exact ⟨fw, fun a z => sl.subset z, gw, G2.sto, List.nodup_append.mpr ⟨(List.nodup_append.mp G2.nd).1.sublist sl, G2.ndS, fun a h b h' => (List.nodup_append.mp G2.nd).2.2 a (sl.subset h) b h'⟩⟩
/-- a frame whose own things are the start's -/
theorem frame_on {φ φ1 φ2 : Ob} {fs fs1 fs2 fe fe3 fm2 : List Addr} {H H1 H2 : Hp} {σ σ3 : St} {ρ ρ3 : Ev} {S S1 S2 : Sto} (G : Good T φ H σ ρ S fe fs) (G3 : Good T φ1 H1 σ3 ρ3 S1 fe3 fs1) (sub : ∀ a ∈ fe3, a ∈ fe) (A2 : Aft φ fs H φ2 fs2 fm2 H2) (A1 : ∃ fm1, Aft φ fs H φ1 fs1 fm1 H1)
    (ex : Ext H1 H2) (pr : Pre φ1 φ2) (R2 : RepS T H2 φ2 φ2 S2 fs2) : Good T φ2 H2 σ3 ρ3 S2 fe3 fs2 := by
  obtain ⟨fm1, A1⟩ := A1
  refine ⟨G3.env.ext ex pr fun a o ha h => ?_, R2, List.nodup_append.mpr ⟨(List.nodup_append.mp G3.nd).1, A2.ndS, fun a h b h' e => ?_⟩⟩
  · obtain ⟨u, hu, _⟩ := G.env.own a (sub a ha)
    have e1 := A1.keep a _ (G.disj a (sub a ha)) hu
    rw [h] at e1
    cases e1
    exact A2.keep a _ (G.disj a (sub a ha)) hu
  · subst e
    obtain ⟨u, hu, _⟩ := G.env.own a (sub a h)
    rcases A2.new a (List.mem_append_right _ h') with z | z
    · exact G.disj a (sub a h) z
    · rw [hu] at z; cases z
theorem lComp2 {ti ti1 : FI} {g g1 : FG} {c c1 : FT} {t : FE} {vs vs1 : List Nat} {σ : St} {H : Hp} {Q : VK} (h : LE T W (fComp2 ti g c ti1 g1 c1 t vs vs1) σ H Q) : tLc2 (LI T W ti) (LG T vs g) (LT T W0 c) (LI T W0 ti1) (LG T vs1 g1) (LT T W0 c1) (LE T W0 t) vs vs1 σ H Q := by
  obtain ⟨ρ, S, φ, fe, fs, E, Qm, G, w, hx, k⟩ := h
  refine ⟨ρ, S, φ, fe, fs, E, _, G, w, hx, fun ds S0 J H0 φ0 fs0 q0 A0 R0 wk D hD => ?_⟩
  have F0 : Fresh H0 (upd H0 D (.lst [])) [D] := Fresh.upd hD
  have B0 := F0.aft R0 A0.ndS
  refine ⟨fun i m H1 => i + m = ds.length ∧ ∃ (acc : List M) (vs' : List V) (fa : List Addr) (S1 : Sto) (φ1 : Ob) (fs1 : List Addr), compW2 g c ti1 g1 c1 t vs vs1 ρ Qm (ds.drop i) acc S1 ∧ CS T φ fs H D acc S1 φ1 fs1 fa vs' H1 ∧ Ext H0 H1 ∧ Pre φ0 φ1,
    ⟨ds.length, by omega, [], [], [], S0, φ0, fs0, q0, ⟨A0.trans B0, upd_same, .nil, F0.sto R0⟩, F0.ext, Pre.refl _⟩, ?_⟩
  intro i m H1 ⟨him, acc, vs', fa, S1, φ1, fs1, h1, cs1, ex1, pr1⟩
  have wk1 := wk i H1 φ1 ex1 pr1
  by_cases hi : ds.length ≤ i
  · rw [List.drop_of_length_le hi] at h1
    exact .inl ⟨wk1.2 hi, k _ S1 _ H1 φ1 fs1 (D :: fa) h1 cs1.aft (.lst cs1.at_ cs1.reps) cs1.sto⟩
  · have hlt : i < ds.length := by omega
    rw [List.drop_eq_getElem_cons hlt] at h1
    obtain ⟨go, yl⟩ := wk1.1 ds[i] (List.getElem?_eq_getElem hlt)
    refine .inr ⟨go, fun H' => ∃ (acc : List M) (vs' : List V) (fa : List Addr) (S1 : Sto) (φ1 : Ob) (fs1 : List Addr), compW2 g c ti1 g1 c1 t vs vs1 ρ Qm (ds.drop (i + 1)) acc S1 ∧ CS T φ fs H D acc S1 φ1 fs1 fa vs' H' ∧ Ext H0 H' ∧ Pre φ0 φ1, fun H' z => ⟨m - 1, by omega, by omega, z⟩, fun x H2 hy => ?_⟩
    obtain ⟨F2, rd⟩ := yl x H2 hy
    have A2 := F2.aft cs1.sto cs1.aft.ndS
    have R2 := F2.sto cs1.sto
    obtain ⟨cs2, _⟩ := cs1.step A2 R2
    have G2 := cs2.aft.good G R2
    obtain ⟨fw, sw, Gw⟩ := wiped_good G2 vs
    refine ⟨.dat ds[i], wipeE ρ vs, S1, φ1, [], fw, fs1, _, .dat rd, Gw, (List.nodup_append.mp Gw.nd).1, fun _ z => (nomatch z), h1, fun ρ3 σ3 fe3 q3 sub3 G3 hw => ⟨hw.trans (wipe_wipe σ vs vs fun _ z => z), ?_⟩⟩
    have s3 : ∀ a ∈ fe3, a ∈ fe := fun a ha => sw a (by simpa using sub3 a ha)
    refine ⟨ρ3, S1, φ1, fe3, fs1, noX, _, G3, q3, fun _ _ _ _ _ _ _ z => z.elim, fun b S4 H4 φ4 fs4 q4 A4 R4 => ?_⟩
    have G4 := A4.good G3 R4
    obtain ⟨cs4, _⟩ := cs2.step A4 R4
    have ex4 : Ext H0 H4 := (ex1.trans F2.ext).trans (A4.ext R2)
    have pr4 : Pre φ0 φ4 := pr1.trans A4.pre
    cases b with
    | false => exact ⟨acc, vs', fa, S4, φ4, fs4, q4, cs4, ex4, pr4⟩
    | true =>
      refine ⟨ρ3, S4, φ4, fe3, fs4, noX, _, G4, q4, fun _ _ _ _ _ _ _ z => z.elim, fun es S5 J1 H5 φ5 fs5 q5 A5 R5 wk5 => ?_⟩
      have G5 := A5.good G4 R5
      obtain ⟨cs5, _⟩ := cs4.step A5 R5
      have ex5 : Ext H0 H5 := ex4.trans (A5.ext R4)
      have pr5 : Pre φ0 φ5 := pr4.trans A5.pre
      refine ⟨fun j l H' => j + l = es.length ∧ ∃ (acc : List M) (vs' : List V) (fa : List Addr) (S1 : Sto) (φ1 : Ob) (fs1 : List Addr), innerW g1 c1 t vs1 ρ3 (compW2 g c ti1 g1 c1 t vs vs1 ρ Qm (ds.drop (i + 1))) (es.drop j) acc S1 ∧ CS T φ fs H D acc S1 φ1 fs1 fa vs' H' ∧ Ext H5 H' ∧ Pre φ5 φ1,
        ⟨es.length, by omega, acc, vs', fa, S5, φ5, fs5, q5, cs5, Ext.refl _, Pre.refl _⟩, ?_⟩
      intro j l H6 ⟨hjl, acc6, vs6, fa6, S6, φ6, fs6, h6, cs6, ex6, pr6⟩
      have wk6 := wk5 j H6 φ6 ex6 pr6
      by_cases hj : es.length ≤ j
      · rw [List.drop_of_length_le hj] at h6
        exact .inl ⟨wk6.2 hj, acc6, vs6, fa6, S6, φ6, fs6, h6, cs6, ex5.trans ex6, pr5.trans pr6⟩
      · have hlt6 : j < es.length := by omega
        rw [List.drop_eq_getElem_cons hlt6] at h6
        obtain ⟨go6, yl6⟩ := wk6.1 es[j] (List.getElem?_eq_getElem hlt6)
        refine .inr ⟨go6, fun H' => ∃ (acc : List M) (vs' : List V) (fa : List Addr) (S1 : Sto) (φ1 : Ob) (fs1 : List Addr), innerW g1 c1 t vs1 ρ3 (compW2 g c ti1 g1 c1 t vs vs1 ρ Qm (ds.drop (i + 1))) (es.drop (j + 1)) acc S1 ∧ CS T φ fs H D acc S1 φ1 fs1 fa vs' H' ∧ Ext H5 H' ∧ Pre φ5 φ1, fun H' z => ⟨l - 1, by omega, by omega, z⟩, fun x7 H7 hy7 => ?_⟩
        obtain ⟨F7, rd7⟩ := yl6 x7 H7 hy7
        have A7 := F7.aft cs6.sto cs6.aft.ndS
        have R7 := F7.sto cs6.sto
        obtain ⟨cs7, _⟩ := cs6.step A7 R7
        have G7 : Good T φ6 H7 σ3 ρ3 S6 fe3 fs6 := frame_on G G5 s3 cs7.aft ⟨_, cs5.aft⟩ (ex6.trans F7.ext) pr6 R7
        obtain ⟨fw7, sw7, Gw7⟩ := wiped_good G7 vs1
        refine ⟨.dat es[j], wipeE ρ3 vs1, S6, φ6, [], fw7, fs6, _, .dat rd7, Gw7, (List.nodup_append.mp Gw7.nd).1, fun _ z => (nomatch z), h6, fun ρ8 σ8 fe8 q8 sub8 G8 hw8 => ⟨hw8.trans (wipe_wipe σ3 vs1 vs1 fun _ z => z), ?_⟩⟩
        refine ⟨ρ8, S6, φ6, fe8, fs6, noX, _, G8, q8, fun _ _ _ _ _ _ _ z => z.elim, fun b S9 H9 φ9 fs9 q9 A9 R9 => ?_⟩
        have G9 := A9.good G8 R9
        obtain ⟨cs9, _⟩ := cs7.step A9 R9
        have ex9 : Ext H5 H9 := (ex6.trans F7.ext).trans (A9.ext R7)
        have pr9 : Pre φ5 φ9 := pr6.trans A9.pre
        cases b with
        | false => exact ⟨acc6, vs6, fa6, S9, φ9, fs9, q9, cs9, ex9, pr9⟩
        | true =>
          refine ⟨ρ8, S9, φ9, fe8, fs9, noX, _, G9, q9, fun _ _ _ _ _ _ _ z => z.elim, fun m10 S10 y H10 φ10 fs10 fm10 q10 A10 r10 R10 => ?_⟩
          obtain ⟨cs10, B10⟩ := cs9.step A10 R10
          refine ⟨vs6, cs10.at_, by rw [cs10.reps.len]; exact q10.1, acc6 ++ [m10], vs6 ++ [y], fa6 ++ fm10, S10, φ10, fs10, q10.2, cs10.push B10 r10, (ex9.trans (A10.ext R9)).trans (upd_ext cs10.at_), pr9.trans A10.pre⟩
end
/-- in the comprehension's block -/
abbrev InBlk (X : Cx) (sc : Scope) (p : Cx → Prop) : Prop := ∀ (s : Shared) (H : Hp) (C : Addr) (cl : List (Str × Addr)) (fp : List Addr), p (X.blk s H sc (compEnvC sc cl C X.env) fp)
section
variable {X : Cx} {T : Top} {W : WX} {elt tg iter tg1 iter1 : Expr} {ifs ifs1 : List Expr} {sc : Scope} {own : List (Str × Nat)} {vs1 : List Nat} {pos spos py : Pos} {ti ti1 : FI} {g g1 : FG} {c c1 : FT} {t : FE} {i : Nat} {y : Str}
theorem fe_lc2 (hc : X.calm = true) (hN : X.N.Nodup) (hi : PI X tg iter (LI T W ti)) (ok : BlkOk X.N X.env.scope sc own) (hv : ∀ i ∈ vs1, i ∈ own.map (·.2)) (hg : InBlk X sc fun Y => PG Y tg (LG T (own.map (·.2)) g)) (ht : InBlk X sc fun Y => PTs Y ifs (LT T W0 c))
    (hi1 : InBlk X sc fun Y => PI Y tg1 iter1 (LI T W0 ti1)) (hg1 : InBlk X sc fun Y => PG Y tg1 (LG T vs1 g1)) (ht1 : InBlk X sc fun Y => PTs Y ifs1 (LT T W0 c1)) (he : InBlk X sc fun Y => PE Y elt (LE T W0 t))
    (hs : ∀ x, foldedSetIterable iter X.env x = pure x := by intro _; rfl) (hs1 : ∀ env x, foldedSetIterable iter1 env x = pure x := by intro _ _; rfl) :
    PE X (.ListComp elt [⟨tg, iter, ifs, 0⟩, ⟨tg1, iter1, ifs1, 0⟩] sc pos) (LE T W (fComp2 ti g c ti1 g1 c1 t (own.map (·.2)) vs1)) :=
  PE.weak (pe_lc2 hc hN hi ok hv hg ht hi1 hg1 ht1 he hs hs1) fun σ H Q h => lComp2 h
theorem fs_setLc2 (hc : X.calm = true) (hN : X.N.Nodup) (hy : X.N[i]? = some y) (hyl : X.env.scope.names.lookup y = some .local) (hsw : swapsWith (.ListComp elt [⟨tg, iter, ifs, 0⟩, ⟨tg1, iter1, ifs1, 0⟩] sc pos) (some (.Name y py)) spos.line X.env = pure true)
    (hi : PI X tg iter (LI T W ti)) (ok : BlkOk X.N X.env.scope sc own) (hv : ∀ i ∈ vs1, i ∈ own.map (·.2)) (hg : InBlk X sc fun Y => PG Y tg (LG T (own.map (·.2)) g)) (ht : InBlk X sc fun Y => PTs Y ifs (LT T W0 c))
    (hi1 : InBlk X sc fun Y => PI Y tg1 iter1 (LI T W0 ti1)) (hg1 : InBlk X sc fun Y => PG Y tg1 (LG T vs1 g1)) (ht1 : InBlk X sc fun Y => PTs Y ifs1 (LT T W0 c1)) (he : InBlk X sc fun Y => PE Y elt (LE T W0 t))
    (hs : ∀ x, foldedSetIterable iter X.env x = pure x := by intro _; rfl) (hs1 : ∀ env x, foldedSetIterable iter1 env x = pure x := by intro _ _; rfl) :
    PS X (.Assign [.Name y py] (.ListComp elt [⟨tg, iter, ifs, 0⟩, ⟨tg1, iter1, ifs1, 0⟩] sc pos) spos) (LS T W (fAsg (fComp2 ti g c ti1 g1 c1 t (own.map (·.2)) vs1) (gN i))) :=
  PS.weak (ps_setLc2 hc hN hy hyl hsw hi ok hv hg ht hi1 hg1 ht1 he hs hs1) fun D σ H h => by
    obtain ⟨ρ, S, φ, fe, fs, E, Qm, G, w, hx, k⟩ := lSet h
    exact lComp2 ⟨ρ, S, φ, fe, fs, E, Qm, G, w, hx, k⟩
end
/-! ### a def that calls itself, level by level -/
theorem cal_zero {P : Program} {w : World} {K : PySem.W.Frag} {mg : Str → Option Value} {base : Heap} {x : Str} {st : Stmt} {N ps : List Str} {k : Nat} (F : DefAt K mg x st ps) (S : FnScope N ps (defScope st)) : Cal P w K mg base x (k + 1) ps (mkW N.length ps.length fun _ _ _ => False) :=
  cal_mk F S fun f cdv A outer s H E hr => ⟨fun pins s σ H D I ⟨_, _, _, _, _, _, _, w, _⟩ => w.elim⟩
end L2.Fn
/-! Fn, part Q: sum, min, max, abs, text * int, extend, data compared at any depth. -/
namespace L2.Fn
open PySem PySem.Spec PyProof.Rows
section
variable {X : Cx} {T : Top}
def intsOf : List D → Option (List Int)
  | [] => some []
  | .int i :: r => (intsOf r).map (i :: ·)
  | _ => none
theorem intsOf_map (ns : List Int) : intsOf (ns.map .int) = some ns := by
  induction ns with
  | nil => rfl
  | cons n ns ih => rw [List.map_cons, intsOf, ih]; rfl
theorem ints_ok {φ : Ob} {H : Hp} : ∀ {vs : List V} {ds : List D} {ns : List Int}, FDs T φ H vs ds → intsOf ds = some ns → vs = ns.map V.int
  | _, _, _, .nil, e => by cases e; rfl
  | _, _, _, .cons (d := d) (ds := ds) x r, e => by
    cases x with
    | int i =>
      rw [intsOf] at e
      cases q : intsOf ds with
      | none => rw [q] at e; cases e
      | some l =>
        rw [q] at e
        cases e
        rw [ints_ok r q]
        rfl
    | _ => cases e
def oSum (ms : List M) (Q : M → Prop) : Prop := match ms with
  | [m] => ∃ ds, m.ld = some ds ∧ ∃ ns, intsOf ds = some ns ∧ Q (.dat (.int ns.sum))
  | _ => False
theorem o_sum : OpN T (rSum T.K) oSum := by
  intro φ H vs ms f Q Qm r w k
  unfold oSum at w
  split at w
  · obtain ⟨ds, e, ns, e2, w⟩ := w
    cases r with
    | cons x r =>
      cases r
      obtain ⟨a, xs, rfl, h, rs⟩ := ld_ok x e
      exact ⟨a, ns, rfl, by rw [← ints_ok rs e2]; exact h, k _ _ H [] w (Fresh.refl H) (.dat (.int _))⟩
  · exact w.elim
def oI2 (g : Int → Int → Int) (ms : List M) (Q : M → Prop) : Prop := match ms with
  | [.dat (.int i), .dat (.int j)] => Q (.dat (.int (g i j)))
  | _ => False
theorem o_i2 {g : Int → Int → Int} : OpN T (fun xs H Q => ∃ i j, xs = [.int i, .int j] ∧ Q (.int (g i j)) H) (oI2 g) := by
  intro φ H vs ms f Q Qm r w k
  unfold oI2 at w
  split at w
  · cases r with
    | cons x r =>
      cases r with
      | cons y r =>
        cases r
        cases x with
        | dat x =>
          cases x
          cases y with
          | dat y =>
            cases y
            exact ⟨_, _, rfl, k _ _ H [] w (Fresh.refl H) (.dat (.int _))⟩
  · exact w.elim
def oMin2 := oI2 fun i j => if j < i then j else i
def oMax2 := oI2 fun i j => if j > i then j else i
theorem o_min2 : OpN T (fun xs H Q => ∃ i j, xs = [.int i, .int j] ∧ Q (.int (if j < i then j else i)) H) oMin2 := o_i2
theorem o_max2 : OpN T (fun xs H Q => ∃ i j, xs = [.int i, .int j] ∧ Q (.int (if j > i then j else i)) H) oMax2 := o_i2
def oAbs (ms : List M) (Q : M → Prop) : Prop := match ms with
  | [.dat (.int i)] => Q (.dat (.int (if i < 0 then -i else i)))
  | _ => False
theorem o_abs : OpN T (fun xs H Q => ∃ i, xs = [.int i] ∧ Q (.int (if i < 0 then -i else i)) H) oAbs := by
  intro φ H vs ms f Q Qm r w k
  unfold oAbs at w
  split at w
  · cases r with
    | cons x r =>
      cases r
      cases x with
      | dat x =>
        cases x
        exact ⟨_, rfl, k _ _ H [] w (Fresh.refl H) (.dat (.int _))⟩
  · exact w.elim
/-! ### text * int -/
def rMulS : R2 := fun x y H Q => ∃ (z : Str) (n : Int), x = .str z ∧ y = .int n ∧ MulOk z n ∧ Q (.str (Txt.mul z n)) H
theorem op_mulS : OpR X (binaryOp .Mult) rMulS := by
  intro pins s σ H x y v u Q I rx ry h
  obtain ⟨z, n, rfl, rfl, ok, q⟩ := h
  obtain ⟨t, rfl⟩ := rx
  obtain ⟨t', rfl⟩ := ry
  exact SB.mul ok fun t2 tk => ⟨.str (Txt.mul z n), H, I.tok _, ⟨_, rfl⟩, q⟩
def oMulS (a b : M) (Q : M → Prop) : Prop := match a, b with
  | .dat (.str s), .dat (.int n) => -(2 ^ 62) ≤ n ∧ n < 2 ^ 62 ∧ s.length * n.toNat ≤ 16000000 ∧ Q (.dat (.str (List.replicate n.toNat s).flatten))
  | _, _ => False
theorem fold_cat (x : Array Nat) : ∀ (n : Nat) (acc : Array Nat), ((List.replicate n x).foldl (· ++ ·) acc).toList = acc.toList ++ (List.replicate n x.toList).flatten
  | 0, acc => by simp
  | n + 1, acc => by
    rw [List.replicate_succ, List.foldl_cons, fold_cat x n, List.replicate_succ, List.flatten_cons, Array.toList_append, List.append_assoc]
theorem o_mulS : Op2 T rMulS oMulS := by
  intro φ H x y m1 m2 f1 f2 Q Qm r1 r2 w k
  unfold oMulS at w
  split at w
  · rename_i s n
    obtain ⟨h1, h2, h3, w⟩ := w
    cases r1 with
    | dat r1 =>
      cases r1
      cases r2 with
      | dat r2 =>
        cases r2
        have e : Txt.mul ⟨s.toArray⟩ n = ⟨(List.replicate n.toNat s).flatten.toArray⟩ := by
          unfold Txt.mul
          have len : (⟨s.toArray⟩ : Str).length = s.length := str_len s
          by_cases c1 : n < 1
          · rw [if_pos c1]
            have : n.toNat = 0 := by omega
            rw [this]
            rfl
          · rw [if_neg c1]
            by_cases c2 : (n == 1 || (⟨s.toArray⟩ : Str).length == 0) = true
            · rw [if_pos c2, len] at *
              rcases Bool.or_eq_true_iff.mp c2 with c | c
              · have : n = 1 := by simpa using c
                subst this
                simp
              · have : s = [] := List.eq_nil_of_length_eq_zero (by simpa using c)
                subst this
                simp
            · rw [if_neg c2]
              congr 1
              apply Array.toList_inj.mp
              rw [fold_cat]
              simp
        refine ⟨_, n, rfl, rfl, ⟨?_, fun c1 c2 => ?_, fun c1 c2 => ?_⟩, ?_⟩
        · rw [decide_eq_false (by omega), decide_eq_false (by omega)]
          rfl
        · rw [str_len] at c2 ⊢
          have hs : s.length ≤ 16000000 := Nat.le_trans (Nat.le_mul_of_pos_right _ (by omega)) h3
          intro h
          have h6 : (s.length : Int) * n ≤ 16000000 := by
            have hn : ((n.toNat : Nat) : Int) = n := Int.toNat_of_nonneg (by omega)
            have hp := Int.ofNat_le.mpr h3
            rw [Int.natCast_mul, hn] at hp
            exact hp
          have h7 : ((2 ^ 63 - 1) / n + 1) * n ≤ (s.length : Int) * n := Int.mul_le_mul_of_nonneg_right (by omega) (by omega)
          have h8 : (2 ^ 63 - 1 : Int) < ((2 ^ 63 - 1) / n + 1) * n := Int.lt_ediv_add_one_mul_self _ (by omega)
          omega
        · rw [str_len]
          unfold Builtin.Str.tooLong
          exact decide_eq_false (Nat.not_lt.mpr (Nat.le_trans h3 (by decide)))
        · rw [e]
          exact k _ _ H [] w (Fresh.refl H) (.dat (.str _))
  · exact w.elim
end
end L2.Fn
/-! Fn, part R: x.extend(xs). -/
namespace PySem
open PySem.AutoSeq1
theorem fn_ext_tup (l : Addr) (items : Array Value) (n : Nat) (b : Addr) (o : Obj) (items2 : Array Value) (n2 : Nat) (hc : o.cls = .type "tuple") (hd : o.data = .seq items2 n2)
    (h0 : ¬(!items.isEmpty && Builtin.List.listTooLong (items.size + items2.size)) = true) (h1 : items.size ≤ sizeLine) (h2 : items.size + items2.size ≤ sizeLine + 1) :
    Meets (Builtin.«list.extend» ⟨[.ref l, .ref b], []⟩) (fun _ R s => s.heap.get? l = some { cls := .type "list", dict := none, data := .seq items n, slots := #[] } ∧ s.heap.get? b = some o ∧ R (.ok (.ret Value.none)) { s with heap := s.heap.update l (Obj.mapSeq fun x => x ++ items2), toks := s.toks }) :=
  .of_wp fun prog w A R s h => by
    obtain ⟨oc, od, dt, sl⟩ := o
    simp only at hc hd
    subst hc hd
    obtain ⟨hp, g, d, tk, os⟩ := s
    obtain ⟨hl, hb, h⟩ := h
    have f1 := idx_int
    have f2 := sub_tuple_tuple
    have f3 := sub_list_list
    have f4 := sub_tuple_list
    have f5 := sub_list_tuple
    have hz' : (items ++ items2).size ≤ sizeLine + 1 := by
      rw [Array.size_append]
      exact h2
    wp_walk using (wpAny_updateSeq hl rfl (hz := h1) (_hz' := hz')), wpAny_loadPart' hl, wpAny_loadPart' hb
    exact ⟨_, rfl, h⟩
end PySem
namespace L2.Fn
open PySem PySem.Spec PyProof.Rows
def rExtA : V → List V → Hp → VK → Prop := fun x vs H Q => ∃ l b xs zs, x = .ref l ∧ vs = [.ref b] ∧ H l = some (.lst xs) ∧ (Rd H b (.lst zs) ∨ H b = some (.tup zs)) ∧ xs.length + zs.length ≤ sizeLine ∧ Q .non (upd H l (.lst (xs ++ zs)))
theorem mt_extA {X : Cx} : MtM X "list.extend" rExtA := by
  intro pins s σ H x vs v us Q I rx rv h
  obtain ⟨l, b, xs, zs, rfl, rfl, hH, hB, hz, q⟩ := h
  cases rx
  obtain ⟨u, rfl, ru⟩ := rv.one
  cases ru
  obtain ⟨z, its, n, r, hl, e⟩ := I.lstM hH
  have sm : ∀ its2 : List Value, zs.length = its2.length → its.toArray.size + its2.toArray.size ≤ sizeLine := fun its2 h2 => by
    rw [List.size_toArray, List.size_toArray]
    omega
  have lg : ∀ its2 : List Value, zs.length = its2.length → ¬ (!its.toArray.isEmpty && Builtin.List.listTooLong (its.toArray.size + its2.toArray.size)) = true := fun its2 h2 => by
    rw [notLongL (sm its2 h2), Bool.and_false]
    exact Bool.false_ne_true
  have s1 : its.toArray.size ≤ sizeLine := by
    rw [List.size_toArray]
    omega
  have fin : ∀ its2 : List Value, Vals zs its2 → EP X pins σ Q .none { s with heap := s.heap.update l (Obj.mapSeq fun x => x ++ its2.toArray), toks := s.toks } := fun its2 r2 => by
    refine ⟨.non, _, I.lset (its' := its ++ its2) hH e (by simp) (r.append r2) ?_, rfl, q⟩
    rw [List.length_append]
    exact hz
  rcases hB with hB | hB
  · obtain ⟨its2, n2, z2, r2, hl2, e2⟩ := inv_rdL I hB
    exact call_meets F.slot_list_extend ⟨_, e, rfl⟩ F.entry_list_extend (F.args_list_extend_2 _ _)
      (AutoSeq1.list_extend_list_list_0 l its.toArray n b its2.toArray n2 (lg its2 hl2) s1 (Nat.le_succ_of_le (sm its2 hl2))) ⟨e, e2, fin its2 r2⟩
  · obtain ⟨_, its2, r2, o, ho, hc, n2, hd⟩ := (show ObjOk X.prog X.w H s.heap b (.tup zs) from I.hok b _ hB)
    have hl2 := r2.length
    exact call_meets F.slot_list_extend ⟨_, e, rfl⟩ F.entry_list_extend (F.args_list_extend_2 _ _)
      (fn_ext_tup l its.toArray n b o its2.toArray n2 hc hd (lg its2 hl2) s1 (Nat.le_succ_of_le (sm its2 hl2))) ⟨e, ho, fin its2 r2⟩
def M.sqD (m : M) : Option (List D) := match m with
  | .dat (.tup ds) => some ds
  | m => m.ld
theorem sqD_ok {T : Top} (hN : NoLists T.K) {φ : Ob} {H : Hp} {v : V} {m : M} {f : List Addr} (r : Rep T φ H v m f) {ds : List D} (e : m.sqD = some ds) : ∃ a xs, v = .ref a ∧ (Rd H a (.lst xs) ∨ H a = some (.tup xs)) ∧ FDs T φ H xs ds := by
  unfold M.sqD at e
  split at e
  · cases e
    cases r with
    | dat r =>
      cases r with
      | tup h rs => exact ⟨_, _, rfl, .inr h, rs⟩
  · obtain ⟨a, xs, rfl, h, rs⟩ := ld_ok r e
    exact ⟨a, xs, rfl, .inl (sql_rd hN h), rs⟩
section
variable {X : Cx} {T : Top} {W : WX} {e : Expr} {t : FE} {pos : Pos}
def fExt (i : Nat) (t : FE) : FS := fun P ρ S => ∃ ms, ρ[i]? = some (some (.lst ms)) ∧ t ρ S (fun m S' => ∃ ds, m.sqD = some ds ∧ ms.length + ds.length ≤ sizeLine ∧ P.nx (ρ.set i (some (.lst (ms ++ ds.map .dat)))) S') fun x S' => P.ex x ρ S'
theorem lExt {D : Ends} {σ : St} {H : Hp} {i : Nat} (hN : NoLists T.K) (h : LS T W (fExt i t) D σ H) : tDrop (tBM X.K "list" rExtA (tVar i) (tCons (LB T W t) tNil)) D σ H := by
  obtain ⟨ρ, S, φ, fe, fs, P, G, ⟨ms, hm, w⟩, k⟩ := h
  obtain ⟨v, g, f1, f2, hv, r, e, wr⟩ := G.env.at' hm
  cases r with
  | @lst a vs ms f hH rs =>
    refine ⟨.ref a, hv, .inl ⟨rfl, vs, SqL.of hH⟩, ρ, S, φ, fe, fs, _, _, G, w, k.wx G, fun m S1 y H1 φ1 fs1 fm q A r1 d1 R1 => ?_⟩
    obtain ⟨ds, e2, hz, q⟩ := q
    have G1 := A.good G R1
    have afe : ∀ b ∈ a :: f, b ∈ fe := fun b hb => by rw [e]; exact List.mem_append_right _ (List.mem_append_left _ hb)
    have hH1 : H1 a = some (.lst vs) := A.keep a _ (G.disj a (afe a List.mem_cons_self)) hH
    obtain ⟨v', g', f1', f2', hv', r', e', wr'⟩ := G1.env.at' hm
    rw [hv] at hv'
    cases hv'
    cases r' with
    | @lst a' vs' ms' f' hH' rs' =>
      rw [hH1] at hH'
      cases hH'
      obtain ⟨b, zs, rfl, hb, rz⟩ := sqD_ok hN r1 e2
      have nde := (List.nodup_append.mp G1.nd).1
      have n1 := List.nodup_append.mp (e' ▸ nde)
      have n2 := (List.nodup_append.mp n1.2.1).1
      have nda := List.nodup_cons.mp n2
      have ex : Ext H1 (upd H1 a (.lst (vs ++ zs))) := upd_ext hH1
      have kp : ∀ b us, b ∈ f' → H1 b = some us → upd H1 a (.lst (vs ++ zs)) b = some us := fun b us hb q => by
        rw [upd_ne fun z => nda.1 (by rw [← z]; exact hb)]; exact q
      have rr : Rep T φ1 (upd H1 a (.lst (vs ++ zs))) (.ref a) (.lst (ms ++ ds.map .dat)) (a :: (f' ++ [])) :=
        .lst upd_same (Reps.app (rs'.ext ex (Pre.refl _) kp) (rz.ext ex (Pre.refl _)).reps)
      rw [List.append_nil] at rr
      obtain ⟨G2, A2⟩ := Good.wr (fm := []) G1 e' List.mem_cons_self hH1 wr' rr (fun b hb => by simpa using hb) n2 (fun _ z => nomatch z)
      refine ⟨a, b, vs, zs, rfl, rfl, hH1, hb, by rw [rs'.len, rz.len]; exact hz, ?_⟩
      exact k.nx _ S1 σ _ φ1 _ fs1 q (A.drop.s.trans A2) G2
theorem fs_extend {i : Nat} {ex : Expr} {apos cpos : Pos} (hN : NoLists T.K) (hx : PE X ex (tVar i)) (he : PE X e (LB T W t))
    (hbase : attributeBase ex "extend" X.env (eval ex X.env) = eval ex X.env := by rfl)
    (hpl : (((backTo cpos (starEach [e] X.env)).all fun x => !x.1) && (backToKw cpos (keywordEach [] X.env)).all (fun x => x.1.isSome) && decide ([e].length + ([] : List Keyword).length + (if ([] : List Keyword).isEmpty then 0 else 1) < 30)) = true := by rfl)
    (hline : (apos.endLine == cpos.line) = true := by rfl) (h1 : starEach [e] X.env = (false, eval e X.env) :: starEach [] X.env := by rfl) (h2 : (backTo cpos (starEach [] X.env)).any (·.1) = false := by rfl)
    (hs : swapsWith (.Call (.Attribute ex "extend" apos) [e] [] cpos) none pos.line X.env = pure false := by rfl) :
    PS X (.Expr (.Call (.Attribute ex "extend" apos) [e] [] cpos) pos) (LS T W (fExt i t)) :=
  PS.weak (ps_expr (pe_bm PySem.F.plainAttrs_list PySem.F.slot_list_extend PySem.F.type_list_extend mt_extA hx (pa_cons he pa_nil h1) hbase hpl hline h1 h2) hs) fun D σ H h => lExt hN h
end
end L2.Fn
/-! Fn, part S: list.index of tuples of ints and texts. -/
namespace L2.Fn
open PySem PySem.Spec PyProof.Rows
def pyA : Int ⊕ List Nat → PyData
  | .inl i => .int i
  | .inr s => .str ⟨s.toArray⟩
def pyK (p : PK) : PyData := .tuple (p.map pyA)
/-- its texts' signs are signs -/
def smallK (p : PK) : Prop := ∀ s : List Nat, Sum.inr s ∈ p → ∀ c ∈ s, c < 1114112
theorem eqv_atom (a b : Int ⊕ List Nat) : PyData.eqv (pyA a) (pyA b) = decide (a = b) := by
  cases a with
  | inl i =>
    cases b with
    | inl j =>
      show (i == j) = _
      by_cases h : i = j <;> simp [h]
    | inr t => rfl
  | inr s =>
    cases b with
    | inl j => rfl
    | inr t =>
      show ((⟨s.toArray⟩ : Str) == ⟨t.toArray⟩) = _
      by_cases h : s = t
      · simp [h]
      · have : ¬ ((⟨s.toArray⟩ : Str) = ⟨t.toArray⟩) := fun e => h (str_inj.mp e)
        simp [h, this]
theorem eqv_atoms : ∀ a b : PK, PyData.eqvAll (a.map pyA) (b.map pyA) = decide (a = b)
  | [], [] => rfl
  | [], _ :: _ => rfl
  | _ :: _, [] => rfl
  | x :: a, y :: b => by
    show (PyData.eqv (pyA x) (pyA y) && PyData.eqvAll (a.map pyA) (b.map pyA)) = _
    rw [eqv_atom, eqv_atoms a b]
    by_cases h1 : x = y <;> by_cases h2 : a = b <;> simp [h1, h2]
theorem eqv_key (a b : PK) : PyData.eqv (pyK a) (pyK b) = decide (a = b) := eqv_atoms a b
theorem can_atom (a : Int ⊕ List Nat) (h : ∀ s, a = .inr s → ∀ c ∈ s, c < 1114112) : (pyA a).canLay0 = true := by
  cases a with
  | inl i => rfl
  | inr s =>
    have := h s rfl
    show PyData.strOk _ = true
    unfold PyData.strOk
    simpa using this
theorem can_key : ∀ p : PK, smallK p → PyData.canLayAll0 (p.map pyA) = true
  | [], _ => rfl
  | a :: p, h => by
    show ((pyA a).canLay0 && PyData.canLayAll0 (p.map pyA)) = true
    rw [can_atom a fun s e => h s (by rw [e]; exact List.mem_cons_self), can_key p fun s hs => h s (List.mem_cons_of_mem _ hs)]
    rfl
theorem depth_atoms : ∀ p : PK, PyData.depthAll (p.map pyA) = 0
  | [] => rfl
  | a :: p => by
    show max (pyA a).depth (PyData.depthAll (p.map pyA)) = 0
    rw [depth_atoms p]
    cases a <;> rfl
theorem shaped_key (p : PK) (h : smallK p) : SeqAt.shaped (pyK p) = true := by
  show (PyData.canLayAll0 (p.map pyA) && decide (PyData.depthAll (p.map pyA) + 1 ≤ 64)) = true
  rw [can_key p h, depth_atoms]
  rfl
theorem shaped_keys (ps : List PK) (h : ∀ p ∈ ps, smallK p) : SeqAt.shaped (.list (ps.map pyK)) = true := by
  have h1 : PyData.canLayAll0 (ps.map pyK) = true := by
    induction ps with
    | nil => rfl
    | cons p ps ih =>
      show (PyData.canLayAll0 (p.map pyA) && PyData.canLayAll0 (ps.map pyK)) = true
      rw [can_key p (h p List.mem_cons_self), ih fun q hq => h q (List.mem_cons_of_mem _ hq)]
      rfl
  have h2 : PyData.depthAll (ps.map pyK) ≤ 1 := by
    clear h h1
    induction ps with
    | nil => exact Nat.zero_le _
    | cons p ps ih =>
      show max (PyData.depthAll (p.map pyA) + 1) (PyData.depthAll (ps.map pyK)) ≤ 1
      rw [depth_atoms]
      omega
  show (PyData.canLayAll0 (ps.map pyK) && decide (PyData.depthAll (ps.map pyK) + 1 ≤ 64)) = true
  rw [h1, decide_eq_true (by omega)]
  rfl
section
variable {X : Cx} {T : Top} {φ : Ob} {H : Hp}
theorem dp_atom {v : V} {d : D} {a : Int ⊕ List Nat} (r : FD T φ H v d) (e : atomD d = some a) : Dp T.K H v (pyA a) := by
  cases r with
  | int i => cases e; exact .int i
  | str s => cases e; exact .str _
  | _ => cases e
theorem dp_atoms : ∀ {vs : List V} {ds : List D} {p : PK}, FDs T φ H vs ds → atomsD ds = some p → DpAll T.K H vs (p.map pyA)
  | _, _, _, .nil, e => by cases e; exact .nil
  | _, _, _, .cons (d := d) (ds := ds) x r, e => by
    rw [atomsD] at e
    cases q : atomD d with
    | none => rw [q] at e; cases e
    | some k =>
      rw [q] at e
      cases q2 : atomsD ds with
      | none => rw [q2] at e; cases e
      | some ks =>
        rw [q2] at e
        cases e
        exact .cons (dp_atom x q) (dp_atoms r q2)
theorem dp_key {v : V} {d : D} {p : PK} (r : FD T φ H v d) (e : d.pk true = some p) : Dp T.K H v (pyK p) := by
  cases r with
  | tup h rs => exact .tup (SqT.of h) (dp_atoms rs e)
  | _ => cases e
/-- the keys of the items -/
def keysD : List D → Option (List PK)
  | [] => some []
  | d :: r => (d.pk true).bind fun k => (keysD r).map (k :: ·)
theorem dp_keys : ∀ {vs : List V} {ds : List D} {ps : List PK}, FDs T φ H vs ds → keysD ds = some ps → DpAll T.K H vs (ps.map pyK)
  | _, _, _, .nil, e => by cases e; exact .nil
  | _, _, _, .cons (d := d) (ds := ds) x r, e => by
    rw [keysD] at e
    cases q : d.pk true with
    | none => rw [q] at e; cases e
    | some k =>
      rw [q] at e
      cases q2 : keysD ds with
      | none => rw [q2] at e; cases e
      | some ks =>
        rw [q2] at e
        cases e
        exact .cons (dp_key x q) (dp_keys r q2)
/-- xs.index(x) -/
def oIdx (m : M) (ms : List M) (Q : M → Prop) : Prop := match ms with
  | [.dat d] => ∃ ds, m.ld = some ds ∧ ∃ ps, keysD ds = some ps ∧ (∀ p ∈ ps, smallK p) ∧ ∃ q, d.pk true = some q ∧ smallK q ∧ ∃ j, ps.findIdx? (fun p => decide (p = q)) = some j ∧ Q (.dat (.int (j : Nat)))
  | _ => False
theorem o_idx {x : V} {m : M} {f : List Addr} {vs : List V} {ms : List M} {g : List Addr} {Q : VK} {Qm : M → Prop} (rx : Rep T φ H x m f) (r : Reps T φ H vs ms g) (w : oIdx m ms Qm) (k : ∀ m v H' fm, Qm m → Fresh H H' fm → Rep T φ H' v m fm → Q v H') : rIndexD T.K x vs H Q := by
  unfold oIdx at w
  split at w
  · obtain ⟨ds, e, ps, e2, sm, q, e3, sq, j, hj, w⟩ := w
    cases r with
    | cons y r =>
      cases r
      cases y with
      | dat y =>
        obtain ⟨a, xs, rfl, h, rs⟩ := ld_ok rx e
        obtain ⟨hlt, hp, hno⟩ := List.findIdx?_eq_some_iff_getElem.mp hj
        refine ⟨a, _, pyK q, ps.map pyK, j, pyK ps[j], rfl, rfl, .lst h (dp_keys rs e2), dp_key y e3, shaped_keys ps sm, shaped_key q sq, by rw [List.getElem?_map, List.getElem?_eq_getElem hlt]; rfl, ?_, fun m z hm hz => ?_, k _ _ H [] w (Fresh.refl H) (.dat (.int _))⟩
        · rw [eqv_key]
          exact hp
        · have hml : m < ps.length := by omega
          rw [List.getElem?_map, List.getElem?_eq_getElem hml] at hz
          cases hz
          rw [eqv_key]
          have := hno m hm
          simpa using this
  · exact w.elim
end
def fIdx (t ta : FE) : FE := fun ρ S Q E => t ρ S (fun m S1 => (∃ ds, m.ld = some ds) ∧ ta ρ S1 (fun m2 S2 => oIdx m [m2] fun r => Q r S2) E) E
section
variable {X : Cx} {T : Top} {W : WX} {b e : Expr} {t ta : FE} {apos cpos : Pos}
theorem fe_idx (hK : X.K = T.K) (hu : X.A.units + 65 < cLine) (ho : PE X b (LB T W t)) (he : PE X e (LB T W ta)) (hbase : attributeBase b "index" X.env (eval b X.env) = eval b X.env := by rfl)
    (hpl : (((backTo cpos (starEach [e] X.env)).all fun x => !x.1) && (backToKw cpos (keywordEach [] X.env)).all (fun x => x.1.isSome) && decide ([e].length + ([] : List Keyword).length + (if ([] : List Keyword).isEmpty then 0 else 1) < 30)) = true := by rfl)
    (hline : (apos.endLine == cpos.line) = true := by rfl) (h3 : starEach [e] X.env = (false, eval e X.env) :: starEach [] X.env := by rfl) (h4 : (backTo cpos (starEach [] X.env)).any (·.1) = false := by rfl) :
    PE X (.Call (.Attribute b "index" apos) [e] [] cpos) (LE T W (fIdx t ta)) :=
  PE.weak (pe_bm PySem.F.plainAttrs_list PySem.F.slot_list_index PySem.F.type_list_index (mt_indexD hu) ho (pa_cons he pa_nil h3) hbase hpl hline h3 h4) fun σ H Q ⟨ρ, S, φ, fe, fs, E, Qm, G, w, hx, k⟩ => by
    refine ⟨ρ, S, φ, fe, fs, E, _, G, w, hx, fun m1 S1 x H1 φ1 fs1 f1 w1 A1 r1 d1 R1 => ?_⟩
    obtain ⟨⟨ds, e1⟩, w1⟩ := w1
    obtain ⟨a, xs, rfl, h, rs⟩ := ld_ok r1 e1
    have G1 := A1.good G R1
    refine ⟨.inl ⟨rfl, xs, by rw [hK]; exact h⟩, ρ, S1, φ1, fe, fs1, E, _, G1, w1, hx.aft A1, fun m2 S2 y H2 φ2 fs2 f2 w2 A2 r2 d2 R2 => ?_⟩
    have r1' := A2.rep R1 r1 d1
    rw [hK]
    have r2' : Reps T φ2 H2 [y] [m2] (f2 ++ []) := .cons r2 .nil
    exact o_idx (Qm := fun r => Qm r S2) r1' r2' w2 fun m v H' fm q F r => k m S2 v H' φ2 fs2 fm q ((A1.trans A2).trans (F.aft R2 A2.ndS)) r (F.sto R2)
end
end L2.Fn
/-! Fn, part T: -x, room. -/
namespace L2.Fn
open PySem PySem.Spec PyProof.Rows
theorem hu1 {k : Nat} {A : Around} (r : Room k A) : A.units + 1 < cLine := by have := r.un; omega
theorem hu65 {k : Nat} {A : Around} (r : Room k A) : A.units + 65 < cLine := by have := r.un; omega
/-- what is told of a class that is caught -/
structure ExcL (K : PySem.W.Frag) (C : Addr) (f : Str) : Prop where
  xf : XfC K C
  ec : ExcC K C
  own : PySem.W.findIn K (.ref C) f = some none
def fNeg (t : FE) : FE := fun ρ S Q E => t ρ S (fun m S' => ∃ i, m = .dat (.int i) ∧ Q (.dat (.int (-i))) S') E
theorem fe_neg {X : Cx} {T : Top} {W : WX} {e : Expr} {t : FE} {pos : Pos} (h : PE X e (LB T W t)) : PE X (.UnaryOp .USub e pos) (LE T W (fNeg t)) :=
  PE.weak (pe_un un_neg h) fun σ H Q ⟨ρ, S, φ, fe, fs, E, Qm, G, w, hx, k⟩ => by
    refine ⟨ρ, S, φ, fe, fs, E, _, G, w, hx, fun m S' v H' φ' fs' fm q A r d R => ?_⟩
    obtain ⟨i, rfl, q⟩ := q
    cases r with
    | dat r =>
      cases r
      exact ⟨i, rfl, k _ S' _ H' φ' fs' [] q A (.dat (.int _)) R⟩
end L2.Fn
/-! Fn, part U: tools for two-for comprehensions. -/
namespace L2.Fn
open PySem
theorem innerW_by {g1 : FG} {c1 : FT} {t : FE} {vs1 : List Nat} {ρ : Ev} {K : List M → Sto → Prop} {es : List D} {acc : List M} {S : Sto} (I : List D → List M → Sto → Prop) (h0 : I es acc S) (hd : ∀ acc S, I [] acc S → K acc S)
    (hs : ∀ e es acc S, (∀ acc' S', I es acc' S' → innerW g1 c1 t vs1 ρ K es acc' S') → I (e :: es) acc S → g1 (.dat e) (wipeE ρ vs1) fun ρ2 => c1 ρ2 S (fun b S2 => if b = true then t ρ2 S2 (fun m S3 => acc.length < sizeLine ∧ innerW g1 c1 t vs1 ρ K es (acc ++ [m]) S3) noX else innerW g1 c1 t vs1 ρ K es acc S2) noX) :
    innerW g1 c1 t vs1 ρ K es acc S := by
  induction es generalizing acc S with
  | nil => exact hd acc S h0
  | cons d ds ih => exact hs d ds acc S (fun acc' S' h => ih h) h0
theorem compW2_by {g : FG} {c : FT} {ti1 : FI} {g1 : FG} {c1 : FT} {t : FE} {vs vs1 : List Nat} {ρ : Ev} {Q : WP} {ds : List D} {acc : List M} {S : Sto} (I : List D → List M → Sto → Prop) (h0 : I ds acc S) (hd : ∀ acc S, I [] acc S → Q (.lst acc) S)
    (hs : ∀ d ds acc S, (∀ acc' S', I ds acc' S' → compW2 g c ti1 g1 c1 t vs vs1 ρ Q ds acc' S') → I (d :: ds) acc S →
      g (.dat d) (wipeE ρ vs) fun ρ1 => c ρ1 S (fun b S2 => if b = true then ti1 ρ1 S2 (fun es S3 => innerW g1 c1 t vs1 ρ1 (compW2 g c ti1 g1 c1 t vs vs1 ρ Q ds) es acc S3) noX else compW2 g c ti1 g1 c1 t vs vs1 ρ Q ds acc S2) noX) :
    compW2 g c ti1 g1 c1 t vs vs1 ρ Q ds acc S := by
  induction ds generalizing acc S with
  | nil => exact hd acc S h0
  | cons d ds ih => exact hs d ds acc S (fun acc' S' h => ih h) h0
end L2.Fn
/-! Fn, part V: rules for loops over lists that are images, the store unchanged. -/
namespace L2.Fn
open PySem
theorem forV {α : Type} {f : α → D} {g : FG} {b : FS} {P : EndP} {xs : List α} {ρ : Ev} {S : Sto} (I : List α → Ev → Prop) (h0 : I [] ρ) (hd : ∀ ρ, I xs ρ → P.nx ρ S)
    (hs : ∀ (l : List α) (x : α) (r : List α) (ρ : Ev) (W : Ev → Sto → Prop), xs = l ++ x :: r → I l ρ → (∀ ρ', I (l ++ [x]) ρ' → W ρ' S) → g (.dat (f x)) ρ fun ρ1 => b { P with nx := W, ct := W, bk := P.nx } ρ1 S) : forW g b P (xs.map f) ρ S := by
  have : ∀ (r l : List α) (ρ : Ev), xs = l ++ r → I l ρ → forW g b P (r.map f) ρ S := by
    intro r
    induction r with
    | nil => intro l ρ e h; rw [List.append_nil] at e; subst e; exact hd ρ h
    | cons x r ih => intro l ρ e h; exact hs l x r ρ _ e h fun ρ' h' => ih (l ++ [x]) ρ' (by rw [e]; simp) h'
  exact this xs [] ρ rfl h0
/-- .. with the store -/
theorem forVS {α : Type} {f : α → D} {g : FG} {b : FS} {P : EndP} {xs : List α} {ρ : Ev} {S : Sto} (I : List α → Ev → Sto → Prop) (h0 : I [] ρ S) (hd : ∀ ρ S, I xs ρ S → P.nx ρ S)
    (hs : ∀ (l : List α) (x : α) (r : List α) (ρ : Ev) (S : Sto) (W : Ev → Sto → Prop), xs = l ++ x :: r → I l ρ S → (∀ ρ' S', I (l ++ [x]) ρ' S' → W ρ' S') → g (.dat (f x)) ρ fun ρ1 => b { P with nx := W, ct := W, bk := P.nx } ρ1 S) : forW g b P (xs.map f) ρ S := by
  have : ∀ (r l : List α) (ρ : Ev) (S : Sto), xs = l ++ r → I l ρ S → forW g b P (r.map f) ρ S := by
    intro r
    induction r with
    | nil => intro l ρ S e h; rw [List.append_nil] at e; subst e; exact hd ρ S h
    | cons x r ih => intro l ρ S e h; exact hs l x r ρ S _ e h fun ρ' S' h' => ih (l ++ [x]) ρ' S' (by rw [e]; simp) h'
  exact this xs [] ρ S rfl h0
theorem forR {g : FG} {b : FS} {P : EndP} {lo : Int} {n : Nat} {ρ : Ev} {S : Sto} (I : Nat → Ev → Prop) (h0 : I 0 ρ) (hd : ∀ ρ, I n ρ → P.nx ρ S)
    (hs : ∀ (k : Nat) (ρ : Ev) (W : Ev → Sto → Prop), k < n → I k ρ → (∀ ρ', I (k + 1) ρ' → W ρ' S) → g (.dat (.int (lo + (k : Int)))) ρ fun ρ1 => b { P with nx := W, ct := W, bk := P.nx } ρ1 S) : forW g b P (rng lo n) ρ S := by
  have : ∀ (m k : Nat) (ρ : Ev), k + m = n → I k ρ → forW g b P ((rng lo n).drop k) ρ S := by
    intro m
    induction m with
    | zero =>
      intro k ρ e h
      rw [List.drop_of_length_le (by simp [rng]; omega)]
      have : k = n := by omega
      subst this
      exact hd ρ h
    | succ m ih =>
      intro k ρ e h
      have hlt : k < (rng lo n).length := by simp [rng]; omega
      rw [List.drop_eq_getElem_cons hlt]
      have e1 : (rng lo n)[k] = .int (lo + (k : Int)) := by simp [rng]
      rw [e1]
      exact hs k ρ _ (by omega) h fun ρ' h' => ih (k + 1) ρ' (by omega) h'
  exact this n 0 ρ (by omega) h0
theorem forRS {g : FG} {b : FS} {P : EndP} {lo : Int} {n : Nat} {ρ : Ev} {S : Sto} (I : Nat → Ev → Sto → Prop) (h0 : I 0 ρ S) (hd : ∀ ρ S, I n ρ S → P.nx ρ S)
    (hs : ∀ (k : Nat) (ρ : Ev) (S : Sto) (W : Ev → Sto → Prop), k < n → I k ρ S → (∀ ρ' S', I (k + 1) ρ' S' → W ρ' S') → g (.dat (.int (lo + (k : Int)))) ρ fun ρ1 => b { P with nx := W, ct := W, bk := P.nx } ρ1 S) : forW g b P (rng lo n) ρ S := by
  have : ∀ (m k : Nat) (ρ : Ev) (S : Sto), k + m = n → I k ρ S → forW g b P ((rng lo n).drop k) ρ S := by
    intro m
    induction m with
    | zero =>
      intro k ρ S e h
      rw [List.drop_of_length_le (by simp [rng]; omega)]
      have : k = n := by omega
      subst this
      exact hd ρ S h
    | succ m ih =>
      intro k ρ S e h
      have hlt : k < (rng lo n).length := by simp [rng]; omega
      rw [List.drop_eq_getElem_cons hlt]
      have e1 : (rng lo n)[k] = .int (lo + (k : Int)) := by simp [rng]
      rw [e1]
      exact hs k ρ S _ (by omega) h fun ρ' S' h' => ih (k + 1) ρ' S' (by omega) h'
  exact this n 0 ρ S (by omega) h0
theorem enumD_cons_aux (d : D) (ds : List D) (i : Nat) : ((d :: ds).zipIdx i).map (fun p => D.tup [.int (p.2 : Nat), p.1]) = .tup [.int (i : Nat), d] :: (ds.zipIdx (i + 1)).map (fun p => D.tup [.int (p.2 : Nat), p.1]) := by
  rw [List.zipIdx_cons, List.map_cons]
theorem forE {α : Type} {f : α → D} {g : FG} {b : FS} {P : EndP} {xs : List α} {ρ : Ev} {S : Sto} (I : List α → Ev → Prop) (h0 : I [] ρ) (hd : ∀ ρ, I xs ρ → P.nx ρ S)
    (hs : ∀ (l : List α) (x : α) (r : List α) (ρ : Ev) (W : Ev → Sto → Prop), xs = l ++ x :: r → I l ρ → (∀ ρ', I (l ++ [x]) ρ' → W ρ' S) → g (.dat (.tup [.int (l.length : Nat), f x])) ρ fun ρ1 => b { P with nx := W, ct := W, bk := P.nx } ρ1 S) : forW g b P (enumD (xs.map f)) ρ S := by
  have : ∀ (r l : List α) (ρ : Ev), xs = l ++ r → I l ρ → forW g b P (((r.map f).zipIdx l.length).map fun p => D.tup [.int (p.2 : Nat), p.1]) ρ S := by
    intro r
    induction r with
    | nil => intro l ρ e h; rw [List.append_nil] at e; subst e; exact hd ρ h
    | cons x r ih =>
      intro l ρ e h
      rw [List.map_cons, enumD_cons_aux]
      refine hs l x r ρ _ e h fun ρ' h' => ?_
      have := ih (l ++ [x]) ρ' (by rw [e]; simp) h'
      rw [List.length_append] at this
      exact this
  exact this xs [] ρ rfl h0
theorem zipD_map {α β : Type} {f : α → D} {g : β → D} : ∀ (xs : List α) (ys : List β), zipD (xs.map f) (ys.map g) = (xs.zip ys).map fun p => .tup [f p.1, g p.2]
  | [], _ => rfl
  | _ :: _, [] => rfl
  | x :: xs, y :: ys => by
    have := zipD_map (f := f) (g := g) xs ys
    unfold zipD at this ⊢
    simp [this]
theorem enumD_map {α : Type} {f : α → D} (xs : List α) : enumD (xs.map f) = xs.zipIdx.map fun p => .tup [.int (p.2 : Nat), f p.1] := by
  unfold enumD
  rw [List.zipIdx_map, List.map_map]
  rfl
theorem rng_map (lo : Int) (n : Nat) : rng lo n = (List.range n).map fun k => .int (lo + (k : Nat)) := rfl
/-! ### comprehensions -/
theorem compV {α : Type} {f : α → D} {g : FG} {c : FT} {t : FE} {vs : List Nat} {ρ : Ev} {Q : WP} {xs : List α} {acc : List M} {S : Sto} (I : List α → List M → Prop) (h0 : I [] acc) (hd : ∀ acc, I xs acc → Q (.lst acc) S)
    (hs : ∀ (l : List α) (x : α) (r : List α) (acc : List M) (W : List M → Sto → Prop), xs = l ++ x :: r → I l acc → (∀ acc', I (l ++ [x]) acc' → W acc' S) →
      g (.dat (f x)) (wipeE ρ vs) fun ρ1 => c ρ1 S (fun b S2 => if b = true then t ρ1 S2 (fun m S3 => acc.length < sizeLine ∧ W (acc ++ [m]) S3) noX else W acc S2) noX) :
    compW g c t vs ρ Q (xs.map f) acc S := by
  have : ∀ (r l : List α) (acc : List M), xs = l ++ r → I l acc → compW g c t vs ρ Q (r.map f) acc S := by
    intro r
    induction r with
    | nil => intro l ρ e h; rw [List.append_nil] at e; subst e; exact hd _ h
    | cons x r ih => intro l acc e h; exact hs l x r acc (fun a S' => compW g c t vs ρ Q (r.map f) a S') e h fun acc' h' => ih (l ++ [x]) acc' (by rw [e]; simp) h'
  exact this xs [] acc rfl h0
theorem innerV {α : Type} {f : α → D} {g1 : FG} {c1 : FT} {t : FE} {vs1 : List Nat} {ρ : Ev} {K : List M → Sto → Prop} {xs : List α} {acc : List M} {S : Sto} (I : List α → List M → Prop) (h0 : I [] acc) (hd : ∀ acc, I xs acc → K acc S)
    (hs : ∀ (l : List α) (x : α) (r : List α) (acc : List M) (W : List M → Sto → Prop), xs = l ++ x :: r → I l acc → (∀ acc', I (l ++ [x]) acc' → W acc' S) →
      g1 (.dat (f x)) (wipeE ρ vs1) fun ρ2 => c1 ρ2 S (fun b S2 => if b = true then t ρ2 S2 (fun m S3 => acc.length < sizeLine ∧ W (acc ++ [m]) S3) noX else W acc S2) noX) :
    innerW g1 c1 t vs1 ρ K (xs.map f) acc S := by
  have : ∀ (r l : List α) (acc : List M), xs = l ++ r → I l acc → innerW g1 c1 t vs1 ρ K (r.map f) acc S := by
    intro r
    induction r with
    | nil => intro l ρ e h; rw [List.append_nil] at e; subst e; exact hd _ h
    | cons x r ih => intro l acc e h; exact hs l x r acc (fun a S' => innerW g1 c1 t vs1 ρ K (r.map f) a S') e h fun acc' h' => ih (l ++ [x]) acc' (by rw [e]; simp) h'
  exact this xs [] acc rfl h0
theorem filter_le {α : Type} (p : α → Bool) (l r : List α) (x : α) {n : Nat} (h : (l ++ x :: r).length ≤ n) : (l.filter p).length < n := by
  have := List.length_filter_le p l
  simp at h
  omega
/-- [v for x in xs if p] -/
theorem compM {α : Type} {f : α → D} {g : FG} {c : FT} {t : FE} {vs : List Nat} {ρ : Ev} {Q : WP} {xs : List α} {S : Sto} (p : α → Bool) (v : α → M) (hl : xs.length ≤ 16000000) (hd : Q (.lst ((xs.filter p).map v)) S)
    (hs : ∀ (l : List α) (x : α) (r : List α) (K1 : M → Sto → Prop) (K2 : Sto → Prop), xs = l ++ x :: r → (p x = true → K1 (v x) S) → (p x = false → K2 S) →
      g (.dat (f x)) (wipeE ρ vs) fun ρ1 => c ρ1 S (fun b S2 => if b = true then t ρ1 S2 K1 noX else K2 S2) noX) :
    compW g c t vs ρ Q (xs.map f) [] S := by
  refine compV (fun l acc => acc = (l.filter p).map v) rfl (fun acc h => by rw [h]; exact hd) fun l x r acc W e h ih => ?_
  subst h
  refine hs l x r _ _ e (fun hp => ⟨small_line' ?_, ih _ ?_⟩) fun hp => ih _ ?_
  · rw [List.length_map]
    have := List.length_filter_le p l
    rw [e] at hl
    simp at hl
    omega
  · rw [List.filter_append, List.filter_cons, if_pos hp]; simp
  · rw [List.filter_append, List.filter_cons, if_neg (by simp [hp])]; simp
/-- [v for x in xs] -/
theorem compA {α : Type} {f : α → D} {g : FG} {t : FE} {vs : List Nat} {ρ : Ev} {Q : WP} {xs : List α} {S : Sto} (v : α → M) (hl : xs.length ≤ 16000000) (hd : Q (.lst (xs.map v)) S)
    (hs : ∀ (l : List α) (x : α) (r : List α) (K1 : M → Sto → Prop), xs = l ++ x :: r → K1 (v x) S → g (.dat (f x)) (wipeE ρ vs) fun ρ1 => t ρ1 S K1 noX) :
    compW g fYes t vs ρ Q (xs.map f) [] S := by
  refine compM (fun _ => true) v hl (by rw [List.filter_eq_self.mpr (by simp)]; exact hd) fun l x r K1 K2 e h1 h2 => ?_
  have := hs l x r K1 e (h1 rfl)
  simpa [fYes] using this
theorem innerM {α : Type} {f : α → D} {g1 : FG} {c1 : FT} {t : FE} {vs1 : List Nat} {ρ : Ev} {K : List M → Sto → Prop} {xs : List α} {acc : List M} {S : Sto} (p : α → Bool) (v : α → M) (hl : acc.length + xs.length ≤ 16000000) (hd : K (acc ++ (xs.filter p).map v) S)
    (hs : ∀ (l : List α) (x : α) (r : List α) (K1 : M → Sto → Prop) (K2 : Sto → Prop), xs = l ++ x :: r → (p x = true → K1 (v x) S) → (p x = false → K2 S) →
      g1 (.dat (f x)) (wipeE ρ vs1) fun ρ1 => c1 ρ1 S (fun b S2 => if b = true then t ρ1 S2 K1 noX else K2 S2) noX) :
    innerW g1 c1 t vs1 ρ K (xs.map f) acc S := by
  refine innerV (fun l a => a = acc ++ (l.filter p).map v) (by simp) (fun acc h => by rw [h]; exact hd) fun l x r a W e h ih => ?_
  subst h
  refine hs l x r _ _ e (fun hp => ⟨small_line' ?_, ih _ ?_⟩) fun hp => ih _ ?_
  · rw [List.length_append, List.length_map]
    have := List.length_filter_le p l
    rw [e] at hl
    simp at hl
    omega
  · rw [List.filter_append, List.filter_cons, if_pos hp]; simp
  · rw [List.filter_append, List.filter_cons, if_neg (by simp [hp])]; simp
theorem innerA {α : Type} {f : α → D} {g1 : FG} {t : FE} {vs1 : List Nat} {ρ : Ev} {K : List M → Sto → Prop} {xs : List α} {acc : List M} {S : Sto} (v : α → M) (hl : acc.length + xs.length ≤ 16000000) (hd : K (acc ++ xs.map v) S)
    (hs : ∀ (l : List α) (x : α) (r : List α) (K1 : M → Sto → Prop), xs = l ++ x :: r → K1 (v x) S → g1 (.dat (f x)) (wipeE ρ vs1) fun ρ1 => t ρ1 S K1 noX) :
    innerW g1 fYes t vs1 ρ K (xs.map f) acc S := by
  refine innerM (fun _ => true) v hl (by rw [List.filter_eq_self.mpr (by simp)]; exact hd) fun l x r K1 K2 e h1 h2 => ?_
  have := hs l x r K1 e (h1 rfl)
  simpa [fYes] using this
/-- two fors: what each x gives is appended -/
theorem comp2V {α : Type} {f : α → D} {g : FG} {c : FT} {ti1 : FI} {g1 : FG} {c1 : FT} {t : FE} {vs vs1 : List Nat} {ρ : Ev} {Q : WP} {xs : List α} {S : Sto} (vals : α → List M) (hd : Q (.lst (xs.flatMap vals)) S)
    (hs : ∀ (l : List α) (x : α) (r : List α) (acc : List M) (W : List M → Sto → Prop), xs = l ++ x :: r → acc = l.flatMap vals → W (acc ++ vals x) S →
      g (.dat (f x)) (wipeE ρ vs) fun ρ1 => c ρ1 S (fun b S2 => if b = true then ti1 ρ1 S2 (fun es S3 => innerW g1 c1 t vs1 ρ1 W es acc S3) noX else W acc S2) noX) :
    compW2 g c ti1 g1 c1 t vs vs1 ρ Q (xs.map f) [] S := by
  have : ∀ (r l : List α), xs = l ++ r → compW2 g c ti1 g1 c1 t vs vs1 ρ Q (r.map f) (l.flatMap vals) S := by
    intro r
    induction r with
    | nil => intro l e; rw [List.append_nil] at e; subst e; exact hd
    | cons x r ih =>
      intro l e
      refine hs l x r _ (fun a S' => compW2 g c ti1 g1 c1 t vs vs1 ρ Q (r.map f) a S') e rfl ?_
      have := ih (l ++ [x]) (by rw [e]; simp)
      simpa using this
  exact this xs [] rfl
theorem ex_pair {α β : Type} {x : α} {y : β} {p : α → β → Prop} : (∃ a b, (x, y) = (a, b) ∧ p a b) ↔ p x y := ⟨fun ⟨a, b, e, h⟩ => by cases e; exact h, fun h => ⟨x, y, rfl, h⟩⟩
theorem ex_dct {x : Bool} {y : List (PK × D)} {p : Bool → List (PK × D) → Prop} : (∃ a b, M.dct x y = M.dct a b ∧ p a b) ↔ p x y := ⟨fun ⟨a, b, e, h⟩ => by cases e; exact h, fun h => ⟨x, y, rfl, h⟩⟩
theorem ex_tups {y : List D} {p : List D → Prop} : (∃ b, D.tup y = D.tup b ∧ p b) ↔ p y := ⟨fun ⟨b, e, h⟩ => by cases e; exact h, fun h => ⟨y, rfl, h⟩⟩
theorem ex_cons2 {a : D} {l : List D} {p : D → List D → Prop} : (∃ d r, a :: l = d :: r ∧ p d r) ↔ p a l := ⟨fun ⟨d, r, e, h⟩ => by cases e; exact h, fun h => ⟨a, l, rfl, h⟩⟩
end L2.Fn
namespace K48
open PySem PySem.Spec PyProof.Rows L2 L2.Fn

def topS (i : Nat) : Stmt := PySem.Challenge.pw_plainbehind_k48_probes_whole.main.body.getD i (.Pass ⟨0, 0, 0, 0⟩)
def gv_LETTERS : D := .str [97, 98, 99, 100, 101]
def gv_ROWS : D := .int (300)
def gv_PROBES : D := .int (4000)
def r_orders_1 : FS := (fFz 2 (fAsg (fFrz (fBin oCat (fVar 1) (fVar 2))) (gN 1)))
def r_orders_2 : FS := (fRet (fCB oTupC (fCons (fVar 1) fNil)))
def r_orders_3 : FS := (fSeq (fFor (fRng oR1 (fCons (fVar 0) fNil)) (gN 3) (fSeq (fAsg (fComp2 (fWalk (fVar 2)) (gN 4) fYes (fWalk (fFrz (fSl (fC (gv_LETTERS)) fNoP (fPart (fVar 0))))) (gN 5) (fBl (fBin (oIn true) (fVar 5) (fVar 4))) (fBin oAdd (fVar 4) (fVar 5)) [4, 5] [5]) (gN 2))
    r_orders_1))
    r_orders_2)
def r_orders_4 : FS := (fSeq (fAsg (fFrz (fLst (fCons (fC (.str [])) fNil))) (gN 2))
    r_orders_3)
def r_orders : FS := (fSeq (fAsg (fFrz (fLst (fCons (fC (.str [])) fNil))) (gN 1))
    r_orders_4)
def w_orders : FF := mkW 6 1 r_orders
def r_between_variables : FS := (fRet (fCB oTupC (fCons (fCB oSortT (fCons (fComp2 (fRng oEnum (fCons (fVar 1) fNil)) (gTupP 2 (gConsP (gN 4) (gConsP (gN 3) gNilP))) fYes (fWalk (fFrz (fSl (fVar 1) (fPart (fVar 4)) fNoP))) (gN 2) fYes (fTup (fCons (fDat (fVar 0)) (fCons (fDat (fVar 2)) (fCons (fDat (fVar 3)) fNil)))) [4, 3, 2] [2]) fNil)) fNil)))
def w_between_variables : FF := mkW 5 2 r_between_variables
def r_least_number : FS := (fRet (fCB oIntC (fCons (fBin oEq (fBin oIx (fVar 0) (fC (.int 1))) (fBin oIx (fVar 0) (fC (.int 2)))) fNil)))
def w_least_number : FF := mkW 1 1 r_least_number
def r__law_cell_1 : FS := (fRet (fBin oMod (fCB oIntC (fCons (fBin oMul (fBin oMul (fBin oAdd (fVar 2) (fC (.int 7))) (fBin oAdd (fVar 1) (fC (.int 3)))) (fC (.int 69621))) fNil)) (fC (.int 2147483647))))
def r__law_cell_2 : FS := (fSeq (fFor (fWalk (fVar 0)) (gN 3) (fAsg (fBin oMod (fCB oIntC (fCons (fBin oAdd (fBin oMul (fVar 2) (fC (.int 31))) (fBin oMod (fCB oIntC (fCons (fVar 3) fNil)) (fC (.int 1000003)))) fNil)) (fC (.int 1000003))) (gN 2)))
    r__law_cell_1)
def r__law_cell_3 : FS := (fSeq (fAsg (fC (.int 17)) (gN 2))
    r__law_cell_2)
def r__law_cell : FS := (fSeq (fIfS (fBl (fBin oLt (fVar 1) (fCB oLen (fCons (fVar 0) fNil)))) (fRet (fDat (fBin oIx (fVar 0) (fVar 1)))) fNext)
    r__law_cell_3)
def w__law_cell : FF := mkW 4 2 r__law_cell
def r__law_digits_1 : FS := (fAsg (fBin oFDiv (fCB oIntC (fCons (fVar 4) fNil)) (fBin oIx (fVar 1) (fVar 5))) (gN 4))
def r__law_digits_2 : FS := (fApp 2 (fBin oMod (fBin oFDiv (fCB oIntC (fCons (fBin oAdd (fBin oMul (fVar 6) (fC (.int 2147483647))) (fVar 3)) fNil)) (fC (.int 19))) (fBin oIx (fVar 1) (fVar 5))))
def r__law_digits_3 : FS := (fIfS (fBl (fBin oGt (fVar 4) (fC (.int 0)))) (fSeq (fApp 2 (fBin oMod (fCB oIntC (fCons (fVar 4) fNil)) (fBin oIx (fVar 1) (fVar 5))))
    r__law_digits_1) (fSeq (fAsg (fBin oMod (fCB oIntC (fCons (fBin oMul (fVar 3) (fBin oAdd (fBin oFDiv (fVar 3) (fC (.int 65537))) (fC (.int 3)))) fNil)) (fC (.int 2147483629))) (gN 6))
    r__law_digits_2))
def r__law_digits_4 : FS := (fRetV 2)
def r__law_digits_5 : FS := (fSeq (fFor (fRng oR1 (fCons (fCB oLen (fCons (fVar 1) fNil)) fNil)) (gN 5) (fSeq (fAsg (fBin oMod (fCB oIntC (fCons (fBin oAdd (fBin oAdd (fBin oMul (fVar 3) (fC (.int 48271))) (fBin oMul (fC (.int 974711)) (fVar 5))) (fC (.int 12345))) fNil)) (fC (.int 2147483647))) (gN 3))
    r__law_digits_3))
    r__law_digits_4)
def r__law_digits_6 : FS := (fSeq (fAsg (fBin oSub (fCB oIntC (fCons (fVar 0) fNil)) (fBin oPow (fC (.int 10)) (fC (.int 18)))) (gN 4))
    r__law_digits_5)
def r__law_digits_7 : FS := (fSeq (fAsg (fBin oMod (fCB oIntC (fCons (fVar 0) fNil)) (fC (.int 2147483629))) (gN 3))
    r__law_digits_6)
def r__law_digits : FS := (fSeq (fAsg (fLst fNil) (gN 2))
    r__law_digits_7)
def w__law_digits : FF := mkW 7 2 r__law_digits
def r__law_orders_1 : FS := (fAsg (fFrz (fBin oCat (fVar 1) (fVar 2))) (gN 1))
def r__law_orders_2 : FS := (fSeq (fAsg (fFrz (fCB oLstC (fCons (fVar 4) fNil))) (gN 2))
    r__law_orders_1)
def r__law_orders_3 : FS := (fSeq (fFor (fWalk (fVar 2)) (gN 5) (fFor (fWalk (fSl (fC (.str [97, 98, 99, 100, 101])) fNoP (fPart (fVar 0)))) (gN 6) (fIfS (fBl (fBin (oIn true) (fVar 6) (fVar 5))) (fApp 4 (fBin oAdd (fVar 5) (fVar 6))) fNext)))
    r__law_orders_2)
def r__law_orders_4 : FS := (fRetV 1)
def r__law_orders_5 : FS := (fSeq (fFor (fRng oR1 (fCons (fVar 0) fNil)) (gN 3) (fSeq (fAsg (fLst fNil) (gN 4))
    r__law_orders_3))
    r__law_orders_4)
def r__law_orders_6 : FS := (fSeq (fAsg (fFrz (fLst (fCons (fC (.str [])) fNil))) (gN 2))
    r__law_orders_5)
def r__law_orders : FS := (fSeq (fAsg (fFrz (fLst (fCons (fC (.str [])) fNil))) (gN 1))
    r__law_orders_6)
def w__law_orders : FF := mkW 7 1 r__law_orders
def r__law_many_1 : FS := (fAsg (fBin oAdd (fVar 4) (fBin oMul (fVar 5) (fVar 6))) (gN 4))
def r__law_many_2 : FS := (fSeq (fFor (fRng oR1 (fCons (fVar 7) fNil)) (gN 8) (fAsg (fBin oMul (fVar 6) (fBin oAdd (fVar 1) (fC (.int 1)))) (gN 6)))
    r__law_many_1)
def r__law_many_3 : FS := (fAsg (fBin oMul (fVar 2) (fVar 4)) (gN 2))
def r__law_many_4 : FS := (fSeq (fFor (fRng oR2 (fCons (fC (.int 1)) (fCons (fBin oAdd (fVar 3) (fC (.int 1))) fNil))) (gN 7) (fSeq (fAsg (fBin oMul (fVar 5) (fBin oSub (fBin oAdd (fVar 3) (fC (.int 1))) (fVar 7))) (gN 5))
    r__law_many_2))
    r__law_many_3)
def r__law_many_5 : FS := (fSeq (fAsg (fC (.int 1)) (gN 6))
    r__law_many_4)
def r__law_many_6 : FS := (fSeq (fAsg (fC (.int 1)) (gN 5))
    r__law_many_5)
def r__law_many_7 : FS := (fRetV 2)
def r__law_many_8 : FS := (fSeq (fFor (fWalk (fVar 0)) (gN 3) (fSeq (fAsg (fC (.int 1)) (gN 4))
    r__law_many_6))
    r__law_many_7)
def r__law_many : FS := (fSeq (fAsg (fC (.int 1)) (gN 2))
    r__law_many_8)
def w__law_many : FF := mkW 9 2 r__law_many
def r__law_texts_1 : FS := (fAsg (fFrz (fCB oLstC (fCons (fVar 9) fNil))) (gN 4))
def r__law_texts_2 : FS := (fSeq (fFor (fWalk (fVar 4)) (gN 7) (fFor (fRng oR1 (fCons (fBin oAdd (fVar 1) (fC (.int 1))) fNil)) (gN 11) (fApp 9 (fFrz (fBin oCat (fVar 7) (fLst (fCons (fBin oAdd (fVar 11) (fCB oIntC (fCons (fBin oEq (fBin oIx (fVar 5) (fC (.int 0))) (fBin oIx (fVar 5) (fC (.int 1)))) fNil))) fNil)))))))
    r__law_texts_1)
def r__law_texts_3 : FS := (fApp 6 (fDat (fVar 10)))
def r__law_texts_4 : FS := (fSeq (fFor (fRng oR1 (fCons (fCB oLen (fCons (fVar 0) fNil)) fNil)) (gN 3) (fFor (fWalk (fBin oAdd (fSl (fVar 0) (fPart (fBin oAdd (fVar 3) (fC (.int 1)))) fNoP) (fBin oIx (fVar 0) (fVar 3)))) (gN 12) (fAsg (fBin oAdd (fVar 10) (fBin oMulS (fVar 12) (fBin oIx (fVar 7) (fIdx (fVar 2) (fTup (fCons (fDat (fVar 12)) (fCons (fDat (fBin oIx (fVar 0) (fVar 3))) fNil))))))) (gN 10))))
    r__law_texts_3)
def r__law_texts_5 : FS := (fRetV 6)
def r__law_texts_6 : FS := (fSeq (fFor (fWalk (fVar 4)) (gN 7) (fSeq (fAsg (fC (.str [])) (gN 10))
    r__law_texts_4))
    r__law_texts_5)
def r__law_texts_7 : FS := (fSeq (fAsg (fLst fNil) (gN 6))
    r__law_texts_6)
def r__law_texts_8 : FS := (fFz 2 (fSeq (fFor (fWalk (fVar 2)) (gN 5) (fSeq (fAsg (fLst fNil) (gN 9))
    r__law_texts_2))
    r__law_texts_7))
def r__law_texts_9 : FS := (fSeq (fAsg (fFrz (fLst (fCons (fLst fNil) fNil))) (gN 4))
    r__law_texts_8)
def r__law_texts_10 : FS := (fSeq (fAsg (fCB oSortT (fCons (fVar 2) fNil)) (gN 2))
    r__law_texts_9)
def r__law_texts_11 : FS := (fSeq (fFor (fRng oR1 (fCons (fCB oLen (fCons (fVar 0) fNil)) fNil)) (gN 3) (fFor (fRng oR1 (fCons (fBin oAdd (fVar 3) (fC (.int 1))) fNil)) (gN 8) (fApp 2 (fTup (fCons (fDat (fBin oIx (fVar 0) (fVar 3))) (fCons (fDat (fBin oIx (fVar 0) (fVar 8))) fNil))))))
    r__law_texts_10)
def r__law_texts : FS := (fSeq (fAsg (fLst fNil) (gN 2))
    r__law_texts_11)
def w__law_texts : FF := mkW 13 2 r__law_texts
def r_choice_count_1 : FS := (fRetV 1)
def r_choice_count_2 : FS := (fSeq (fFor (fWalk (fVar 0)) (gN 2) (fAsg (fBin oMul (fVar 1) (fCB oLen (fCons (fCall w_orders (fCons (fVar 2) fNil)) fNil))) (gN 1)))
    r_choice_count_1)
def r_choice_count : FS := (fSeq (fAsg (fC (.int 1)) (gN 1))
    r_choice_count_2)
def w_choice_count : FF := mkW 3 1 r_choice_count
def r_order_rows_1 : FS := (fRet (fCB oTupC (fCons (fVar 1) fNil)))
def r_order_rows_2 : FS := (fSeq (fFor (fWalk (fVar 0)) (gN 2) (fFz 1 (fAsg (fComp2 (fWalk (fVar 1)) (gN 3) fYes (fWalk (fCall w_orders (fCons (fVar 2) fNil))) (gN 4) fYes (fBin oAdd (fVar 3) (fTup (fCons (fDat (fVar 4)) fNil))) [3, 4] [4]) (gN 1))))
    r_order_rows_1)
def r_order_rows : FS := (fSeq (fAsg (fFrz (fLst (fCons (fTup fNil) fNil))) (gN 1))
    r_order_rows_2)
def w_order_rows : FF := mkW 5 1 r_order_rows
def r_choice_variables_1 : FS := (fRet (fCB oTupC (fCons (fVar 1) fNil)))
def r_choice_variables_2 : FS := (fSeq (fFor (fRng oEnum (fCons (fVar 0) fNil)) (gTupP 2 (gConsP (gN 2) (gConsP (gN 3) gNilP))) (fExt 1 (fCall w_between_variables (fCons (fVar 2) (fCons (fVar 3) fNil)))))
    r_choice_variables_1)
def r_choice_variables : FS := (fSeq (fAsg (fLst fNil) (gN 1))
    r_choice_variables_2)
def w_choice_variables : FF := mkW 4 1 r_choice_variables
def r__law_greatest_1 : FS := (fIfS (fBl (fBin oLe (fCall w__law_many (fCons (fVar 0) (fCons (fVar 5) fNil))) (fVar 1))) (fAsg (fDat (fVar 5)) (gN 2)) (fAsg (fBin oSub (fVar 5) (fC (.int 1))) (gN 3)))
def r__law_greatest_2 : FS := (fRetV 2)
def r__law_greatest_3 : FS := (fSeq (fFor (fRng oR1 (fCons (fC (.int 13)) fNil)) (gN 4) (fSeq (fAsg (fBin oFDiv (fBin oAdd (fBin oAdd (fVar 2) (fVar 3)) (fC (.int 1))) (fC (.int 2))) (gN 5))
    r__law_greatest_1))
    r__law_greatest_2)
def r__law_greatest_4 : FS := (fSeq (fAsg (fC (.int 4200)) (gN 3))
    r__law_greatest_3)
def r__law_greatest : FS := (fSeq (fAsg (fC (.int 0)) (gN 2))
    r__law_greatest_4)
def w__law_greatest : FF := mkW 6 2 r__law_greatest
def r__law_due_1 : FS := (fAsg (fFrz (fCB oLstC (fCons (fVar 7) fNil))) (gN 2))
def r__law_due_2 : FS := (fSeq (fFor (fWalk (fVar 2)) (gN 6) (fFor (fWalk (fFrz (fCall w__law_orders (fCons (fVar 3) fNil)))) (gN 9) (fApp 7 (fBin oAdd (fVar 6) (fTup (fCons (fDat (fVar 9)) fNil))))))
    r__law_due_1)
def r__law_due_3 : FS := (fAsg (fFrz (fCB oLstC (fCons (fVar 7) fNil))) (gN 8))
def r__law_due_4 : FS := (fSeq (fFor (fWalk (fVar 8)) (gN 10) (fFor (fWalk (fBin oDIx (fVar 4) (fVar 9))) (gN 11) (fApp 7 (fBin oAdd (fVar 10) (fTup (fCons (fDat (fVar 11)) fNil))))))
    r__law_due_3)
def r__law_due_5 : FS := (fSeq (fAsg (fLst fNil) (gN 7))
    r__law_due_4)
def r__law_due_6 : FS := (fExt 5 (fVar 8))
def r__law_due_7 : FS := (fSeq (fFor (fWalk (fVar 6)) (gN 9) (fSeq (fIfS (fBl (fBin (oDIn true) (fVar 9) (fVar 4))) (fDSet 4 (fVar 9) (fFrz (fCall w__law_texts (fCons (fVar 9) (fCons (fVar 1) fNil))))) fNext)
    r__law_due_5))
    r__law_due_6)
def r__law_due_8 : FS := (fRet (fCB oTupC (fCons (fVar 5) fNil)))
def r__law_due_9 : FS := (fSeq (fFor (fWalk (fVar 2)) (gN 6) (fSeq (fAsg (fFrz (fLst (fCons (fTup fNil) fNil))) (gN 8))
    r__law_due_7))
    r__law_due_8)
def r__law_due_10 : FS := (fSeq (fAsg (fLst fNil) (gN 5))
    r__law_due_9)
def r__law_due_11 : FS := (fSeq (fAsg (fDict false) (gN 4))
    r__law_due_10)
def r__law_due_12 : FS := (fSeq (fFor (fWalk (fVar 0)) (gN 3) (fSeq (fAsg (fLst fNil) (gN 7))
    r__law_due_2))
    r__law_due_11)
def r__law_due : FS := (fSeq (fAsg (fFrz (fLst (fCons (fTup fNil) fNil))) (gN 2))
    r__law_due_12)
def w__law_due : FF := mkW 12 2 r__law_due
def r_text_between_1 : FS := (fAsg (fBin oAdd (fVar 5) (fBin oMulS (fVar 8) (fBin oDIx (fVar 3) (fTup (fCons (fDat (fVar 0)) (fCons (fDat (fVar 8)) (fCons (fDat (fVar 8)) fNil))))))) (gN 5))
def r_text_between_2 : FS := (fRetV 5)
def r_text_between_3 : FS := (fSeq (fFor (fRng oEnum (fCons (fVar 1) fNil)) (gTupP 2 (gConsP (gN 7) (gConsP (gN 8) gNilP))) (fSeq (fFor (fWalk (fSl (fVar 1) (fPart (fBin oAdd (fVar 7) (fC (.int 1)))) fNoP)) (gN 9) (fAsg (fBin oAdd (fVar 5) (fBin oMulS (fVar 9) (fBin oDIx (fVar 3) (fTup (fCons (fDat (fVar 0)) (fCons (fDat (fVar 9)) (fCons (fDat (fVar 8)) fNil))))))) (gN 5)))
    r_text_between_1))
    r_text_between_2)
def r_text_between_4 : FS := (fSeq (fAsg (fC (.str [])) (gN 5))
    r_text_between_3)
def r_text_between_5 : FS := (fSeq (fFor (fWalk (fCall w_between_variables (fCons (fVar 0) (fCons (fVar 1) fNil)))) (gN 4) (fIfS (fBl (fBin oLt (fDGet2 (fVar 3) (fVar 4) (fNeg (fC (.int 1)))) (fCB oIntC (fCons (fBin oEq (fBin oIx (fVar 4) (fC (.int 1))) (fBin oIx (fVar 4) (fC (.int 2)))) fNil)))) (fRaise1 "Malformed" "what" (fC (.str [112, 111, 105, 110, 116]))) fNext))
    r_text_between_4)
def r_text_between_6 : FS := (fSeq (fFor (fWalk (fVar 2)) (gTupP 2 (gConsP (gN 4) (gConsP (gN 6) gNilP))) (fDSet 3 (fVar 4) (fDat (fVar 6))))
    r_text_between_5)
def r_text_between : FS := (fSeq (fAsg (fDict true) (gN 3))
    r_text_between_6)
def w_text_between : FF := mkW 10 3 r_text_between
def r_point_count_1 : FS := (fRetV 2)
def r_point_count_2 : FS := (fSeq (fFor (fWalk (fCall w_choice_variables (fCons (fVar 0) fNil))) (gN 3) (fAsg (fBin oMul (fVar 2) (fBin oAdd (fVar 1) (fC (.int 1)))) (gN 2)))
    r_point_count_1)
def r_point_count : FS := (fSeq (fAsg (fC (.int 1)) (gN 2))
    r_point_count_2)
def w_point_count : FF := mkW 4 2 r_point_count
def r__points_1 : FS := (fFz 2 (fAsg (fComp2 (fWalk (fVar 2)) (gN 5) fYes (fRng oR1 (fCons (fBin oAdd (fVar 1) (fC (.int 1))) fNil)) (gN 6) fYes (fBin oAdd (fVar 5) (fTup (fCons (fBin oAdd (fVar 4) (fVar 6)) fNil))) [5, 6] [6]) (gN 2)))
def r__points_2 : FS := (fRetV 2)
def r__points_3 : FS := (fSeq (fFor (fWalk (fCall w_choice_variables (fCons (fVar 0) fNil))) (gN 3) (fSeq (fAsg (fCall w_least_number (fCons (fVar 3) fNil)) (gN 4))
    r__points_1))
    r__points_2)
def r__points : FS := (fSeq (fAsg (fFrz (fLst (fCons (fTup fNil) fNil))) (gN 2))
    r__points_3)
def w__points : FF := mkW 7 2 r__points
def r__law_question_1 : FS := (fRet (fLst (fCons (fDat (fVar 3)) (fCons (fDat (fVar 4)) fNil))))
def r__law_question_2 : FS := (fSeq (fIfS (fAnd (fNot (fTru (fVar 1))) (fAnd (fBl (fBin oNe (fBin oIx (fVar 2) (fC (.int 5))) (fC (.int 1)))) (fAnd (fBl (fBin oNe (fBin oIx (fVar 2) (fC (.int 5))) (fC (.int 3)))) (fBl (fBin oGt (fCall w__law_many (fCons (fVar 3) (fCons (fVar 4) fNil))) (fC (.int 200))))))) (fAsg (fCB oMin2 (fCons (fVar 4) (fCons (fCall w__law_greatest (fCons (fVar 3) (fCons (fC (.int 200)) fNil))) fNil))) (gN 4)) fNext)
    r__law_question_1)
def r__law_question_3 : FS := (fSeq (fIfS (fAnd (fTru (fVar 1)) (fBl (fBin oEq (fBin oIx (fVar 2) (fC (.int 5))) (fC (.int 2))))) (fAsg (fDat (fBin oIx (fVar 2) (fC (.int 7)))) (gN 4)) fNext)
    r__law_question_2)
def r__law_question_4 : FS := (fSeq (fIfS (fAnd (fTru (fVar 1)) (fBl (fBin oEq (fBin oIx (fVar 2) (fC (.int 5))) (fC (.int 0))))) (fAsg (fCall w__law_greatest (fCons (fVar 3) (fCons (fC (.int 4000)) fNil))) (gN 4)) fNext)
    r__law_question_3)
def r__law_question_5 : FS := (fSeq (fIfS (fBl (fBin oEq (fBin oIx (fVar 2) (fC (.int 5))) (fC (.int 3)))) (fAsg (fDat (fBin oIx (fVar 2) (fC (.int 8)))) (gN 4)) fNext)
    r__law_question_4)
def r__law_question_6 : FS := (fSeq (fIfS (fBl (fBin oEq (fBin oIx (fVar 2) (fC (.int 5))) (fC (.int 1)))) (fAsg (fBin oAdd (fCall w__law_greatest (fCons (fVar 3) (fCons (fC (.int 4000)) fNil))) (fC (.int 1))) (gN 4)) fNext)
    r__law_question_5)
def r__law_question_7 : FS := (fSeq (fIfS (fBl (fBin oEq (fBin oIx (fVar 2) (fC (.int 5))) (fC (.int 6)))) (fAsg (fC (.int 3)) (gN 4)) fNext)
    r__law_question_6)
def r__law_question_8 : FS := (fSeq (fAsg (fDat (fBin oIx (fLst (fCons (fC (.int 0)) (fCons (fC (.int 1)) (fCons (fC (.int 1)) (fCons (fC (.int 2)) fNil))))) (fBin oIx (fVar 2) (fC (.int 6))))) (gN 4))
    r__law_question_7)
def r__law_question_9 : FS := (fSeq (fAsg (fCB oTupC (fCons (fComp (fRng oR1 (fCons (fBin oIx (fLst (fCons (fC (.int 0)) (fCons (fC (.int 1)) (fCons (fC (.int 1)) (fCons (fC (.int 1)) (fCons (fC (.int 2)) (fCons (fC (.int 2)) (fCons (fC (.int 2)) (fCons (fC (.int 2)) (fCons (fC (.int 3)) (fCons (fC (.int 3)) (fCons (fC (.int 4)) (fCons (fC (.int 4)) fNil))))))))))))) (fBin oIx (fVar 2) (fC (.int 0)))) fNil)) (gN 5) fYes (fDat (fBin oIx (fLst (fCons (fC (.int 1)) (fCons (fC (.int 1)) (fCons (fC (.int 1)) (fCons (fC (.int 1)) (fCons (fC (.int 2)) (fCons (fC (.int 2)) (fCons (fC (.int 2)) (fCons (fC (.int 2)) (fCons (fC (.int 3)) (fCons (fC (.int 3)) (fCons (fC (.int 4)) (fCons (fC (.int 5)) fNil))))))))))))) (fBin oIx (fVar 2) (fBin oAdd (fC (.int 1)) (fVar 5))))) [5]) fNil)) (gN 3))
    r__law_question_8)
def r__law_question : FS := (fSeq (fAsg (fFrz (fCall w__law_digits (fCons (fVar 0) (fCons (fFrz (fLst (fCons (fC (.int 12)) (fCons (fC (.int 12)) (fCons (fC (.int 12)) (fCons (fC (.int 12)) (fCons (fC (.int 12)) (fCons (fC (.int 16)) (fCons (fC (.int 4)) (fCons (fC (.int 4200)) (fCons (fBin oPow (fC (.int 10)) (fC (.int 15))) fNil))))))))))) fNil)))) (gN 2))
    r__law_question_9)
def w__law_question : FF := mkW 6 2 r__law_question
def r_check_probes_1 : FS := (fRetV 2)
def r_check_probes_2 : FS := (fSeq (fIfS (fBl (fBin oGt (fVar 2) (fC (gv_PROBES)))) (fRaise1 "TooMuch" "what" (fC (.str [112, 114, 111, 98, 101, 115]))) fNext)
    r_check_probes_1)
def r_check_probes_3 : FS := (fSeq (fAsg (fCB oSum (fCons (fComp (fWalk (fCall w_order_rows (fCons (fVar 0) fNil))) (gN 3) fYes (fCall w_point_count (fCons (fVar 3) (fCons (fVar 1) fNil))) [3]) fNil)) (gN 2))
    r_check_probes_2)
def r_check_probes : FS := (fSeq (fIfS (fBl (fBin oGt (fCall w_choice_count (fCons (fVar 0) fNil)) (fC (gv_ROWS)))) (fRaise1 "TooMuch" "what" (fC (.str [114, 111, 119, 115]))) fNext)
    r_check_probes_3)
def w_check_probes : FF := mkW 4 2 r_check_probes
def r_probes_1 : FS := (fApp 2 (fCB oTupC (fCons (fComp (fRng oEnum (fCons (fVar 3) fNil)) (gTupP 2 (gConsP (gN 9) (gConsP (gN 10) gNilP))) fYes (fCall w_text_between (fCons (fVar 9) (fCons (fVar 10) (fCons (fVar 6) fNil)))) [9, 10]) fNil)))
def r_probes_2 : FS := (fFor (fWalk (fFrz (fCall w__points (fCons (fVar 3) (fCons (fVar 1) fNil))))) (gN 5) (fSeq (fAsg (fCB oTupC (fCons (fComp (fRng oZip (fCons (fVar 4) (fCons (fVar 5) fNil))) (gTupP 2 (gConsP (gN 7) (gConsP (gN 8) gNilP))) fYes (fTup (fCons (fDat (fVar 7)) (fCons (fDat (fVar 8)) fNil))) [7, 8]) fNil)) (gN 6))
    r_probes_1))
def r_probes_3 : FS := (fRet (fCB oTupC (fCons (fVar 2) fNil)))
def r_probes_4 : FS := (fSeq (fFor (fWalk (fCall w_order_rows (fCons (fVar 0) fNil))) (gN 3) (fSeq (fAsg (fCall w_choice_variables (fCons (fVar 3) fNil)) (gN 4))
    r_probes_2))
    r_probes_3)
def r_probes_5 : FS := (fSeq (fAsg (fLst fNil) (gN 2))
    r_probes_4)
def r_probes : FS := (fSeq (fDrop (fCall w_check_probes (fCons (fVar 0) (fCons (fVar 1) fNil))))
    r_probes_5)
def w_probes : FF := mkW 11 2 r_probes
def r__law_same_1 (w : FF) : FS := (fRet (fC (.bl true)))
def r__law_same_2 (w : FF) : FS := (fSeq (fFor (fRng oR1 (fCons (fCB oLen (fCons (fVar 1) fNil)) fNil)) (gN 2) (fIfS (fNot (fTru (fCall w (fCons (fBin oIx (fVar 0) (fVar 2)) (fCons (fBin oIx (fVar 1) (fVar 2)) fNil))))) (fRet (fC (.bl false))) fNext))
    (r__law_same_1 w))
def r__law_same_3 (w : FF) : FS := (fRet (fAndV (fIsi (fVar 0) "str") (fBin oEq (fVar 0) (fVar 1))))
def r__law_same (w : FF) : FS := (fSeq (fIfS (fTru (fIsi (fVar 1) "tuple")) (fSeq (fIfS (fOr (fNot (fTru (fIsi (fVar 0) "tuple"))) (fBl (fBin oNe (fCB oLen (fCons (fVar 0) fNil)) (fCB oLen (fCons (fVar 1) fNil))))) (fRet (fC (.bl false))) fNext)
    (r__law_same_2 w)) fNext)
    (r__law_same_3 w))
def w__law_same : Nat → FF
  | 0 => mkW 3 2 fun _ _ _ => False
  | k + 1 => mkW 3 2 (r__law_same (w__law_same k))
def r__law_refused_1 : FS := (fRet (fC (.bl false)))
def r__law_refused : FS := (fSeq (fTry "TooMuch" "what" 3 (fDrop (fCall w_probes (fCons (fVar 0) (fCons (fVar 1) fNil)))) fun a dd d => (fSeq (fIfS (fOr (fNot (fTru (fIsE a dd "TooMuch" "what" d true (fVar 3)))) (fNot (fTru (fIsE a dd "TooMuch" "what" d true (fVar 3))))) (fRet (fC (.bl false))) fNext)
    (fSeq (fIfS (fTru (fIsE a dd "TooMuch" "what" d false (fVar 3))) (fRet (fC (.bl false))) fNext)
    (fRet (fAndV (fIsi (fXf a dd "TooMuch" "what" d (fVar 3)) "str") (fBin oEq (fXf a dd "TooMuch" "what" d (fVar 3)) (fVar 2)))))))
    r__law_refused_1)
def w__law_refused : FF := mkW 4 3 r__law_refused
def r__law_holds_1 : FS := (fRet (fCall (w__law_same 5) (fCons (fCall w_probes (fCons (fVar 0) (fCons (fVar 1) fNil))) (fCons (fCall w__law_due (fCons (fVar 0) (fCons (fVar 1) fNil))) fNil))))
def r__law_holds_2 : FS := (fSeq (fIfS (fBl (fBin oGt (fCall w__law_many (fCons (fVar 0) (fCons (fVar 1) fNil))) (fC (.int 4000)))) (fRet (fCall w__law_refused (fCons (fVar 0) (fCons (fVar 1) (fCons (fC (.str [112, 114, 111, 98, 101, 115])) fNil))))) fNext)
    r__law_holds_1)
def r__law_holds : FS := (fSeq (fIfS (fBl (fBin oGt (fCall w__law_many (fCons (fVar 0) (fCons (fC (.int 0)) fNil))) (fC (.int 300)))) (fRet (fCall w__law_refused (fCons (fVar 0) (fCons (fVar 1) (fCons (fC (.str [114, 111, 119, 115])) fNil))))) fNext)
    r__law_holds_2)
def w__law_holds : FF := mkW 2 2 r__law_holds
def r_law_1 : FS := (fRet (fC (.bl true)))
def r_law_2 : FS := (fFz 1 (fSeq (fFor (fWalk (fVar 1)) (gN 3) (fIfS (fNot (fTru (fCall w__law_holds (fCons (fBin oIx (fVar 3) (fC (.int 0))) (fCons (fBin oIx (fVar 3) (fC (.int 1))) fNil))))) (fRet (fC (.bl false))) fNext))
    r_law_1))
def r_law_3 : FS := (fSeq (fApp 1 (fDat (fBin oIx (fVar 1) (fC (.int 1)))))
    r_law_2)
def r_law_4 : FS := (fSeq (fFor (fRng oR1 (fCons (fC (.int 3)) fNil)) (gN 2) (fApp 1 (fFrz (fCall w__law_question (fCons (fCall w__law_cell (fCons (fVar 0) (fCons (fVar 2) fNil))) (fCons (fBin oEq (fVar 2) (fC (.int 0))) fNil))))))
    r_law_3)
def r_law : FS := (fSeq (fAsg (fLst fNil) (gN 1))
    r_law_4)
def w_law : FF := mkW 4 1 r_law
section
variable {P : Program} {w : World} {K : PySem.W.Frag} {mg : Str → Option Value} {base : Heap}
abbrev st_orders : Stmt := topS 14
theorem sc_orders : FnScope ["count", "found", "layer", "_", "order", "letter"] ["count"] (defScope st_orders) := ⟨rfl, rfl, rfl, by decide +kernel, rfl, by decide +kernel, by decide +kernel⟩
theorem ok_orders (F : DefAt K mg "orders" st_orders ["count"]) (z_range : mg "range" = none) (z_tuple : mg "tuple" = none) (g_LETTERS : GlobD ⟨K, mg⟩ "LETTERS" gv_LETTERS) (hNL : NoLists K) : Cal P w K mg base "orders" 1 ["count"] w_orders := by
  refine cal_mk (r := r_orders) F sc_orders fun f cdv A outer s H E hr => ?_
  exact (fs_cons (fs_set (i := 1) sc_orders.nd rfl (by first | exact Or.inl rfl | exact Or.inr rfl) (fe_frz (fe_lst (fa_cons (fe_c pe_str fun _ _ => FD.str' (by decide +kernel)) fa_nil))))
    (fs_cons (fs_set (i := 2) sc_orders.nd rfl (by first | exact Or.inl rfl | exact Or.inr rfl) (fe_frz (fe_lst (fa_cons (fe_c pe_str fun _ _ => FD.str' (by decide +kernel)) fa_nil))))
    (fs_cons (fs_for (vs := [3]) (passes_of rfl) rfl (fi_rng1 (by rfl) z_range (fb_cons (fe_var (pv 0)) fb_nil)) (fg_name (pg_name (i := 3) sc_orders.nd rfl (by first | exact Or.inl rfl | exact Or.inr rfl))) (fs_cons (fs_setLc2 (i := 2) (own := [("order", 4), ("letter", 5)]) (vs1 := [5]) rfl sc_orders.nd rfl rfl (sw_true rfl rfl rfl (by decide +kernel)) (fi_any rfl (fe_var (pv 2))) (blkOk_by (own := [("order", 4), ("letter", 5)]) (N := ["count", "found", "layer", "_", "order", "letter"]) (sc := defScope st_orders) (by decide +kernel)) (by decide) (fun _ _ _ _ _ => (fg_name (pg_name (i := 4) sc_orders.nd rfl (by first | exact Or.inl rfl | exact Or.inr rfl)))) (fun _ _ _ _ _ => fts_nil) (fun _ _ _ _ _ => (fi_any rfl (fe_lb (fe_frz (fe_slice rfl (fe_lb (fe_glob g_LETTERS (by rfl))) fo_none (fo_some (fe_var (pv 0)))))))) (fun _ _ _ _ _ => (fg_name (pg_name (i := 5) sc_orders.nd rfl (by first | exact Or.inl rfl | exact Or.inr rfl)))) (fun _ _ _ _ _ => (fts_one (ft_cmp op_notInA (o_in (neg := true)) (fe_var (pv 5)) (fe_var (pv 4)) (by rfl)))) (fun _ _ _ _ _ => (fe_op op_addA o_add (fe_var (pv 4)) (fe_var (pv 5)))))
    (fs_fz (i := 2) (fs_one (fs_set (i := 1) sc_orders.nd rfl (by first | exact Or.inl rfl | exact Or.inr rfl) (fe_frz (fe_op op_catR (o_cat hNL) (fe_var (pv 1)) (fe_var (pv 2)))))))))
    (fs_one (fs_ret (fe_callTy call_tuple_of o_tupC (by rfl) z_tuple (by decide +kernel) (fb_cons (fe_var (pv 1)) fb_nil)))))))
abbrev st_between_variables : Stmt := topS 18
theorem sc_between_variables : FnScope ["argument", "order", "letter", "mark", "at"] ["argument", "order"] (defScope st_between_variables) := ⟨rfl, rfl, rfl, by decide +kernel, rfl, by decide +kernel, by decide +kernel⟩
theorem ok_between_variables (F : DefAt K mg "between_variables" st_between_variables ["argument", "order"]) (z_enumerate : mg "enumerate" = none) (z_sorted : mg "sorted" = none) (z_tuple : mg "tuple" = none) : Cal P w K mg base "between_variables" 1 ["argument", "order"] w_between_variables := by
  refine cal_mk (r := r_between_variables) F sc_between_variables fun f cdv A outer s H E hr => ?_
  exact (fs_one (fs_ret (fe_callTy call_tuple_of o_tupC (by rfl) z_tuple (by decide +kernel) (fb_cons (fe_lb (fe_callB cr_sortedT o_sortT (by rfl) z_sorted (by decide +kernel) (fb_cons (fe_lb (fe_lc2 (own := [("at", 4), ("mark", 3), ("letter", 2)]) (vs1 := [2]) rfl sc_between_variables.nd (fi_enum rfl (by rfl) z_enumerate (fb_cons (fe_var (pv 1)) fb_nil)) (blkOk_by (own := [("at", 4), ("mark", 3), ("letter", 2)]) (N := ["argument", "order", "letter", "mark", "at"]) (sc := defScope st_between_variables) (by decide +kernel)) (by decide) (fun _ _ _ _ _ => (fg_tup rfl rfl (fgs_cons (fg_name (pg_name (i := 4) sc_between_variables.nd rfl (by first | exact Or.inl rfl | exact Or.inr rfl))) (fgs_cons (fg_name (pg_name (i := 3) sc_between_variables.nd rfl (by first | exact Or.inl rfl | exact Or.inr rfl))) fgs_nil)))) (fun _ _ _ _ _ => fts_nil) (fun _ _ _ _ _ => (fi_any rfl (fe_lb (fe_frz (fe_slice rfl (fe_var (pv 1)) (fo_some (fe_var (pv 4))) fo_none))))) (fun _ _ _ _ _ => (fg_name (pg_name (i := 2) sc_between_variables.nd rfl (by first | exact Or.inl rfl | exact Or.inr rfl)))) (fun _ _ _ _ _ => fts_nil) (fun _ _ _ _ _ => (fe_tup (fa_cons (fe_dat (fe_var (pv 0))) (fa_cons (fe_dat (fe_var (pv 2))) (fa_cons (fe_dat (fe_var (pv 3))) fa_nil))))))) fb_nil))) fb_nil))))
abbrev st_least_number : Stmt := topS 24
theorem sc_least_number : FnScope ["variable"] ["variable"] (defScope st_least_number) := ⟨rfl, rfl, rfl, by decide +kernel, rfl, by decide +kernel, by decide +kernel⟩
theorem ok_least_number (F : DefAt K mg "least_number" st_least_number ["variable"]) (z_int : mg "int" = none) : Cal P w K mg base "least_number" 1 ["variable"] w_least_number := by
  refine cal_mk (r := r_least_number) F sc_least_number fun f cdv A outer s H E hr => ?_
  exact (fs_one (fs_ret (fe_callTy call_int1 o_intC (by rfl) z_int (by decide +kernel) (fb_cons (fe_lb (fe_cmp op_eq o_eq (fb_ix ix_seq o_ix (fe_var (pv 0)) (fe_lb (fe_c pe_int fun _ _ => .int _)) (fun _ _ => rfl)) (fb_ix ix_seq o_ix (fe_var (pv 0)) (fe_lb (fe_c pe_int fun _ _ => .int _)) (fun _ _ => rfl)) (nomark _))) fb_nil))))
abbrev st__law_cell : Stmt := topS 30
theorem sc__law_cell : FnScope ["script", "k", "seed", "cell"] ["script", "k"] (defScope st__law_cell) := ⟨rfl, rfl, rfl, by decide +kernel, rfl, by decide +kernel, by decide +kernel⟩
theorem ok__law_cell (F : DefAt K mg "_law_cell" st__law_cell ["script", "k"]) (z_len : mg "len" = none) (z_int : mg "int" = none) : Cal P w K mg base "_law_cell" 1 ["script", "k"] w__law_cell := by
  refine cal_mk (r := r__law_cell) F sc__law_cell fun f cdv A outer s H E hr => ?_
  exact (fs_cons (fs_if (ft_cmp op_lt o_lt (fe_var (pv 1)) (fe_lb (fe_callB call_len o_len (by rfl) z_len (by decide +kernel) (fb_cons (fe_var (pv 0)) fb_nil))) (nomark _)) (fs_one (fs_ret (fe_dat (fb_ix ix_seq o_ix (fe_var (pv 0)) (fe_var (pv 1)) (fun _ _ => rfl))))) fs_nil)
    (fs_cons (fs_set (i := 2) sc__law_cell.nd rfl (by first | exact Or.inl rfl | exact Or.inr rfl) (fe_c pe_int fun _ _ => .int _))
    (fs_cons (fs_for (vs := [3]) (passes_of rfl) rfl (fi_any rfl (fe_var (pv 0))) (fg_name (pg_name (i := 3) sc__law_cell.nd rfl (by first | exact Or.inl rfl | exact Or.inr rfl))) (fs_one (fs_set (i := 2) sc__law_cell.nd rfl (by first | exact Or.inl rfl | exact Or.inr rfl) (fe_op op_mod o_mod (fe_lb (fe_callTy call_int1 o_intC (by rfl) z_int (by decide +kernel) (fb_cons (fe_lb (fe_op op_addA o_add (fe_lb (fe_op op_mulW o_mul (fe_var (pv 2)) (fe_lb (fe_c pe_int fun _ _ => .int _)))) (fe_lb (fe_op op_mod o_mod (fe_lb (fe_callTy call_int1 o_intC (by rfl) z_int (by decide +kernel) (fb_cons (fe_var (pv 3)) fb_nil))) (fe_lb (fe_c pe_int fun _ _ => .int _)))))) fb_nil))) (fe_lb (fe_c pe_int fun _ _ => .int _))))))
    (fs_one (fs_ret (fe_op op_mod o_mod (fe_lb (fe_callTy call_int1 o_intC (by rfl) z_int (by decide +kernel) (fb_cons (fe_lb (fe_op op_mulW o_mul (fe_lb (fe_op op_mulW o_mul (fe_lb (fe_op op_addA o_add (fe_var (pv 2)) (fe_lb (fe_c pe_int fun _ _ => .int _)))) (fe_lb (fe_op op_addA o_add (fe_var (pv 1)) (fe_lb (fe_c pe_int fun _ _ => .int _)))))) (fe_lb (fe_c pe_int fun _ _ => .int _)))) fb_nil))) (fe_lb (fe_c pe_int fun _ _ => .int _))))))))
abbrev st__law_digits : Stmt := topS 31
theorem sc__law_digits : FnScope ["cell", "sizes", "row", "seed", "rest", "k", "twice"] ["cell", "sizes"] (defScope st__law_digits) := ⟨rfl, rfl, rfl, by decide +kernel, rfl, by decide +kernel, by decide +kernel⟩
theorem ok__law_digits (F : DefAt K mg "_law_digits" st__law_digits ["cell", "sizes"]) (z_int : mg "int" = none) (z_len : mg "len" = none) (z_range : mg "range" = none) : Cal P w K mg base "_law_digits" 1 ["cell", "sizes"] w__law_digits := by
  refine cal_mk (r := r__law_digits) F sc__law_digits fun f cdv A outer s H E hr => ?_
  exact (fs_cons (fs_set (i := 2) sc__law_digits.nd rfl (by first | exact Or.inl rfl | exact Or.inr rfl) (fe_lst fa_nil))
    (fs_cons (fs_set (i := 3) sc__law_digits.nd rfl (by first | exact Or.inl rfl | exact Or.inr rfl) (fe_op op_mod o_mod (fe_lb (fe_callTy call_int1 o_intC (by rfl) z_int (by decide +kernel) (fb_cons (fe_var (pv 0)) fb_nil))) (fe_lb (fe_c pe_int fun _ _ => .int _))))
    (fs_cons (fs_set (i := 4) sc__law_digits.nd rfl (by first | exact Or.inl rfl | exact Or.inr rfl) (fe_op op_sub o_sub (fe_lb (fe_callTy call_int1 o_intC (by rfl) z_int (by decide +kernel) (fb_cons (fe_var (pv 0)) fb_nil))) (fe_lb (fe_op op_pow o_pow (fe_lb (fe_c pe_int fun _ _ => .int _)) (fe_lb (fe_c pe_int fun _ _ => .int _))))))
    (fs_cons (fs_for (vs := [5]) (passes_of rfl) rfl (fi_rng1 (by rfl) z_range (fb_cons (fe_lb (fe_callB call_len o_len (by rfl) z_len (by decide +kernel) (fb_cons (fe_var (pv 1)) fb_nil))) fb_nil)) (fg_name (pg_name (i := 5) sc__law_digits.nd rfl (by first | exact Or.inl rfl | exact Or.inr rfl))) (fs_cons (fs_set (i := 3) sc__law_digits.nd rfl (by first | exact Or.inl rfl | exact Or.inr rfl) (fe_op op_mod o_mod (fe_lb (fe_callTy call_int1 o_intC (by rfl) z_int (by decide +kernel) (fb_cons (fe_lb (fe_op op_addA o_add (fe_lb (fe_op op_addA o_add (fe_lb (fe_op op_mulW o_mul (fe_var (pv 3)) (fe_lb (fe_c pe_int fun _ _ => .int _)))) (fe_lb (fe_op op_mulW o_mul (fe_lb (fe_c pe_int fun _ _ => .int _)) (fe_var (pv 5)))))) (fe_lb (fe_c pe_int fun _ _ => .int _)))) fb_nil))) (fe_lb (fe_c pe_int fun _ _ => .int _))))
    (fs_one (fs_if (ft_cmp op_gt o_gt (fe_var (pv 4)) (fe_lb (fe_c pe_int fun _ _ => .int _)) (nomark _)) (fs_cons (fs_append (i := 2) rfl (pv 2) (fe_op op_mod o_mod (fe_lb (fe_callTy call_int1 o_intC (by rfl) z_int (by decide +kernel) (fb_cons (fe_var (pv 4)) fb_nil))) (fb_ix ix_seq o_ix (fe_var (pv 1)) (fe_var (pv 5)) (fun _ _ => rfl))))
    (fs_one (fs_set (i := 4) sc__law_digits.nd rfl (by first | exact Or.inl rfl | exact Or.inr rfl) (fe_op op_fdivW o_fdiv (fe_lb (fe_callTy call_int1 o_intC (by rfl) z_int (by decide +kernel) (fb_cons (fe_var (pv 4)) fb_nil))) (fb_ix ix_seq o_ix (fe_var (pv 1)) (fe_var (pv 5)) (fun _ _ => rfl)))))) (fs_cons (fs_set (i := 6) sc__law_digits.nd rfl (by first | exact Or.inl rfl | exact Or.inr rfl) (fe_op op_mod o_mod (fe_lb (fe_callTy call_int1 o_intC (by rfl) z_int (by decide +kernel) (fb_cons (fe_lb (fe_op op_mulW o_mul (fe_var (pv 3)) (fe_lb (fe_op op_addA o_add (fe_lb (fe_op op_fdivW o_fdiv (fe_var (pv 3)) (fe_lb (fe_c pe_int fun _ _ => .int _)))) (fe_lb (fe_c pe_int fun _ _ => .int _)))))) fb_nil))) (fe_lb (fe_c pe_int fun _ _ => .int _))))
    (fs_one (fs_append (i := 2) rfl (pv 2) (fe_op op_mod o_mod (fe_lb (fe_op op_fdivW o_fdiv (fe_lb (fe_callTy call_int1 o_intC (by rfl) z_int (by decide +kernel) (fb_cons (fe_lb (fe_op op_addA o_add (fe_lb (fe_op op_mulW o_mul (fe_var (pv 6)) (fe_lb (fe_c pe_int fun _ _ => .int _)))) (fe_var (pv 3)))) fb_nil))) (fe_lb (fe_c pe_int fun _ _ => .int _)))) (fb_ix ix_seq o_ix (fe_var (pv 1)) (fe_var (pv 5)) (fun _ _ => rfl))))))))))
    (fs_one (fs_retV (i := 2) (pv 2)))))))
abbrev st__law_orders : Stmt := topS 33
theorem sc__law_orders : FnScope ["count", "rows", "layer", "size", "grown", "order", "letter"] ["count"] (defScope st__law_orders) := ⟨rfl, rfl, rfl, by decide +kernel, rfl, by decide +kernel, by decide +kernel⟩
theorem ok__law_orders (F : DefAt K mg "_law_orders" st__law_orders ["count"]) (z_range : mg "range" = none) (z_list : mg "list" = none) (hNL : NoLists K) : Cal P w K mg base "_law_orders" 1 ["count"] w__law_orders := by
  refine cal_mk (r := r__law_orders) F sc__law_orders fun f cdv A outer s H E hr => ?_
  exact (fs_cons (fs_set (i := 1) sc__law_orders.nd rfl (by first | exact Or.inl rfl | exact Or.inr rfl) (fe_frz (fe_lst (fa_cons (fe_c pe_str fun _ _ => FD.str' (by decide +kernel)) fa_nil))))
    (fs_cons (fs_set (i := 2) sc__law_orders.nd rfl (by first | exact Or.inl rfl | exact Or.inr rfl) (fe_frz (fe_lst (fa_cons (fe_c pe_str fun _ _ => FD.str' (by decide +kernel)) fa_nil))))
    (fs_cons (fs_for (vs := [3]) (passes_of rfl) rfl (fi_rng1 (by rfl) z_range (fb_cons (fe_var (pv 0)) fb_nil)) (fg_name (pg_name (i := 3) sc__law_orders.nd rfl (by first | exact Or.inl rfl | exact Or.inr rfl))) (fs_cons (fs_set (i := 4) sc__law_orders.nd rfl (by first | exact Or.inl rfl | exact Or.inr rfl) (fe_lst fa_nil))
    (fs_cons (fs_for (vs := [5]) (passes_of rfl) rfl (fi_any rfl (fe_var (pv 2))) (fg_name (pg_name (i := 5) sc__law_orders.nd rfl (by first | exact Or.inl rfl | exact Or.inr rfl))) (fs_one (fs_for (vs := [6]) (passes_of rfl) rfl (fi_any rfl (fe_lb (fe_slice rfl (fe_lb (fe_c pe_str fun _ _ => FD.str' (by decide +kernel))) fo_none (fo_some (fe_var (pv 0)))))) (fg_name (pg_name (i := 6) sc__law_orders.nd rfl (by first | exact Or.inl rfl | exact Or.inr rfl))) (fs_one (fs_if (ft_cmp op_notInA (o_in (neg := true)) (fe_var (pv 6)) (fe_var (pv 5)) (by rfl)) (fs_one (fs_append (i := 4) rfl (pv 4) (fe_op op_addA o_add (fe_var (pv 5)) (fe_var (pv 6))))) fs_nil)))))
    (fs_cons (fs_set (i := 2) sc__law_orders.nd rfl (by first | exact Or.inl rfl | exact Or.inr rfl) (fe_frz (fe_callTy call_list_of o_lstC (by rfl) z_list (by decide +kernel) (fb_cons (fe_var (pv 4)) fb_nil))))
    (fs_one (fs_set (i := 1) sc__law_orders.nd rfl (by first | exact Or.inl rfl | exact Or.inr rfl) (fe_frz (fe_op op_catR (o_cat hNL) (fe_var (pv 1)) (fe_var (pv 2))))))))))
    (fs_one (fs_retV (i := 1) (pv 1))))))
abbrev st__law_many : Stmt := topS 34
theorem sc__law_many : FnScope ["counts", "most", "total", "count", "sums", "rows", "points", "size", "k"] ["counts", "most"] (defScope st__law_many) := ⟨rfl, rfl, rfl, by decide +kernel, rfl, by decide +kernel, by decide +kernel⟩
theorem ok__law_many (F : DefAt K mg "_law_many" st__law_many ["counts", "most"]) (z_range : mg "range" = none) : Cal P w K mg base "_law_many" 1 ["counts", "most"] w__law_many := by
  refine cal_mk (r := r__law_many) F sc__law_many fun f cdv A outer s H E hr => ?_
  exact (fs_cons (fs_set (i := 2) sc__law_many.nd rfl (by first | exact Or.inl rfl | exact Or.inr rfl) (fe_c pe_int fun _ _ => .int _))
    (fs_cons (fs_for (vs := [3]) (passes_of rfl) rfl (fi_any rfl (fe_var (pv 0))) (fg_name (pg_name (i := 3) sc__law_many.nd rfl (by first | exact Or.inl rfl | exact Or.inr rfl))) (fs_cons (fs_set (i := 4) sc__law_many.nd rfl (by first | exact Or.inl rfl | exact Or.inr rfl) (fe_c pe_int fun _ _ => .int _))
    (fs_cons (fs_set (i := 5) sc__law_many.nd rfl (by first | exact Or.inl rfl | exact Or.inr rfl) (fe_c pe_int fun _ _ => .int _))
    (fs_cons (fs_set (i := 6) sc__law_many.nd rfl (by first | exact Or.inl rfl | exact Or.inr rfl) (fe_c pe_int fun _ _ => .int _))
    (fs_cons (fs_for (vs := [7]) (passes_of rfl) rfl (fi_rng2 (by rfl) z_range (fb_cons (fe_lb (fe_c pe_int fun _ _ => .int _)) (fb_cons (fe_lb (fe_op op_addA o_add (fe_var (pv 3)) (fe_lb (fe_c pe_int fun _ _ => .int _)))) fb_nil))) (fg_name (pg_name (i := 7) sc__law_many.nd rfl (by first | exact Or.inl rfl | exact Or.inr rfl))) (fs_cons (fs_set (i := 5) sc__law_many.nd rfl (by first | exact Or.inl rfl | exact Or.inr rfl) (fe_op op_mulW o_mul (fe_var (pv 5)) (fe_lb (fe_op op_sub o_sub (fe_lb (fe_op op_addA o_add (fe_var (pv 3)) (fe_lb (fe_c pe_int fun _ _ => .int _)))) (fe_var (pv 7))))))
    (fs_cons (fs_for (vs := [8]) (passes_of rfl) rfl (fi_rng1 (by rfl) z_range (fb_cons (fe_var (pv 7)) fb_nil)) (fg_name (pg_name (i := 8) sc__law_many.nd rfl (by first | exact Or.inl rfl | exact Or.inr rfl))) (fs_one (fs_set (i := 6) sc__law_many.nd rfl (by first | exact Or.inl rfl | exact Or.inr rfl) (fe_op op_mulW o_mul (fe_var (pv 6)) (fe_lb (fe_op op_addA o_add (fe_var (pv 1)) (fe_lb (fe_c pe_int fun _ _ => .int _))))))))
    (fs_one (fs_set (i := 4) sc__law_many.nd rfl (by first | exact Or.inl rfl | exact Or.inr rfl) (fe_op op_addA o_add (fe_var (pv 4)) (fe_lb (fe_op op_mulW o_mul (fe_var (pv 5)) (fe_var (pv 6))))))))))
    (fs_one (fs_set (i := 2) sc__law_many.nd rfl (by first | exact Or.inl rfl | exact Or.inr rfl) (fe_op op_mulW o_mul (fe_var (pv 2)) (fe_var (pv 4))))))))))
    (fs_one (fs_retV (i := 2) (pv 2)))))
abbrev st__law_texts : Stmt := topS 36
theorem sc__law_texts : FnScope ["order", "most", "names", "k", "rows", "name", "texts", "row", "j", "grown", "text", "more", "letter"] ["order", "most"] (defScope st__law_texts) := ⟨rfl, rfl, rfl, by decide +kernel, rfl, by decide +kernel, by decide +kernel⟩
theorem ok__law_texts (F : DefAt K mg "_law_texts" st__law_texts ["order", "most"]) (z_len : mg "len" = none) (z_range : mg "range" = none) (z_sorted : mg "sorted" = none) (z_int : mg "int" = none) (z_list : mg "list" = none) (hNL : NoLists K) : Cal P w K mg base "_law_texts" 1 ["order", "most"] w__law_texts := by
  refine cal_mk (r := r__law_texts) F sc__law_texts fun f cdv A outer s H E hr => ?_
  exact (fs_cons (fs_set (i := 2) sc__law_texts.nd rfl (by first | exact Or.inl rfl | exact Or.inr rfl) (fe_lst fa_nil))
    (fs_cons (fs_for (vs := [3]) (passes_of rfl) rfl (fi_rng1 (by rfl) z_range (fb_cons (fe_lb (fe_callB call_len o_len (by rfl) z_len (by decide +kernel) (fb_cons (fe_var (pv 0)) fb_nil))) fb_nil)) (fg_name (pg_name (i := 3) sc__law_texts.nd rfl (by first | exact Or.inl rfl | exact Or.inr rfl))) (fs_one (fs_for (vs := [8]) (passes_of rfl) rfl (fi_rng1 (by rfl) z_range (fb_cons (fe_lb (fe_op op_addA o_add (fe_var (pv 3)) (fe_lb (fe_c pe_int fun _ _ => .int _)))) fb_nil)) (fg_name (pg_name (i := 8) sc__law_texts.nd rfl (by first | exact Or.inl rfl | exact Or.inr rfl))) (fs_one (fs_append (i := 2) rfl (pv 2) (fe_tup (fa_cons (fe_dat (fb_ix ix_seq o_ix (fe_var (pv 0)) (fe_var (pv 3)) (fun _ _ => rfl))) (fa_cons (fe_dat (fb_ix ix_seq o_ix (fe_var (pv 0)) (fe_var (pv 8)) (fun _ _ => rfl))) fa_nil))))))))
    (fs_cons (fs_set (i := 2) sc__law_texts.nd rfl (by first | exact Or.inl rfl | exact Or.inr rfl) (fe_callB cr_sortedT o_sortT (by rfl) z_sorted (by decide +kernel) (fb_cons (fe_var (pv 2)) fb_nil)))
    (fs_cons (fs_set (i := 4) sc__law_texts.nd rfl (by first | exact Or.inl rfl | exact Or.inr rfl) (fe_frz (fe_lst (fa_cons (fe_lst fa_nil) fa_nil))))
    (fs_fz (i := 2) (fs_cons (fs_for (vs := [5]) (passes_of rfl) rfl (fi_any rfl (fe_var (pv 2))) (fg_name (pg_name (i := 5) sc__law_texts.nd rfl (by first | exact Or.inl rfl | exact Or.inr rfl))) (fs_cons (fs_set (i := 9) sc__law_texts.nd rfl (by first | exact Or.inl rfl | exact Or.inr rfl) (fe_lst fa_nil))
    (fs_cons (fs_for (vs := [7]) (passes_of rfl) rfl (fi_any rfl (fe_var (pv 4))) (fg_name (pg_name (i := 7) sc__law_texts.nd rfl (by first | exact Or.inl rfl | exact Or.inr rfl))) (fs_one (fs_for (vs := [11]) (passes_of rfl) rfl (fi_rng1 (by rfl) z_range (fb_cons (fe_lb (fe_op op_addA o_add (fe_var (pv 1)) (fe_lb (fe_c pe_int fun _ _ => .int _)))) fb_nil)) (fg_name (pg_name (i := 11) sc__law_texts.nd rfl (by first | exact Or.inl rfl | exact Or.inr rfl))) (fs_one (fs_append (i := 9) rfl (pv 9) (fe_frz (fe_op op_catR (o_cat hNL) (fe_var (pv 7)) (fe_lb (fe_lst (fa_cons (fe_op op_addA o_add (fe_var (pv 11)) (fe_lb (fe_callTy call_int1 o_intC (by rfl) z_int (by decide +kernel) (fb_cons (fe_lb (fe_cmp op_eq o_eq (fb_ix ix_seq o_ix (fe_var (pv 5)) (fe_lb (fe_c pe_int fun _ _ => .int _)) (fun _ _ => rfl)) (fb_ix ix_seq o_ix (fe_var (pv 5)) (fe_lb (fe_c pe_int fun _ _ => .int _)) (fun _ _ => rfl)) (nomark _))) fb_nil)))) fa_nil))))))))))
    (fs_one (fs_set (i := 4) sc__law_texts.nd rfl (by first | exact Or.inl rfl | exact Or.inr rfl) (fe_frz (fe_callTy call_list_of o_lstC (by rfl) z_list (by decide +kernel) (fb_cons (fe_var (pv 9)) fb_nil))))))))
    (fs_cons (fs_set (i := 6) sc__law_texts.nd rfl (by first | exact Or.inl rfl | exact Or.inr rfl) (fe_lst fa_nil))
    (fs_cons (fs_for (vs := [7]) (passes_of rfl) rfl (fi_any rfl (fe_var (pv 4))) (fg_name (pg_name (i := 7) sc__law_texts.nd rfl (by first | exact Or.inl rfl | exact Or.inr rfl))) (fs_cons (fs_set (i := 10) sc__law_texts.nd rfl (by first | exact Or.inl rfl | exact Or.inr rfl) (fe_c pe_str fun _ _ => FD.str' (by decide +kernel)))
    (fs_cons (fs_for (vs := [3]) (passes_of rfl) rfl (fi_rng1 (by rfl) z_range (fb_cons (fe_lb (fe_callB call_len o_len (by rfl) z_len (by decide +kernel) (fb_cons (fe_var (pv 0)) fb_nil))) fb_nil)) (fg_name (pg_name (i := 3) sc__law_texts.nd rfl (by first | exact Or.inl rfl | exact Or.inr rfl))) (fs_one (fs_for (vs := [12]) (passes_of rfl) rfl (fi_any rfl (fe_lb (fe_op op_addA o_add (fe_lb (fe_slice rfl (fe_var (pv 0)) (fo_some (fe_lb (fe_op op_addA o_add (fe_var (pv 3)) (fe_lb (fe_c pe_int fun _ _ => .int _))))) fo_none)) (fb_ix ix_seq o_ix (fe_var (pv 0)) (fe_var (pv 3)) (fun _ _ => rfl))))) (fg_name (pg_name (i := 12) sc__law_texts.nd rfl (by first | exact Or.inl rfl | exact Or.inr rfl))) (fs_one (fs_set (i := 10) sc__law_texts.nd rfl (by first | exact Or.inl rfl | exact Or.inr rfl) (fe_op op_addA o_add (fe_var (pv 10)) (fe_lb (fe_op op_mulS o_mulS (fe_var (pv 12)) (fb_ix ix_seq o_ix (fe_var (pv 7)) (fe_lb (fe_idx rfl (hu65 hr) (fe_var (pv 2)) (fe_lb (fe_tup (fa_cons (fe_dat (fe_var (pv 12))) (fa_cons (fe_dat (fb_ix ix_seq o_ix (fe_var (pv 0)) (fe_var (pv 3)) (fun _ _ => rfl))) fa_nil)))))) (fun _ _ => rfl))))))))))
    (fs_one (fs_append (i := 6) rfl (pv 6) (fe_dat (fe_var (pv 10))))))))
    (fs_one (fs_retV (i := 6) (pv 6)))))))))))
abbrev st_choice_count : Stmt := topS 15
theorem sc_choice_count : FnScope ["counts", "many", "count"] ["counts"] (defScope st_choice_count) := ⟨rfl, rfl, rfl, by decide +kernel, rfl, by decide +kernel, by decide +kernel⟩
theorem ok_choice_count (F : DefAt K mg "choice_count" st_choice_count ["counts"]) (c_orders : Cal P w K mg base "orders" 1 ["count"] w_orders) (z_len : mg "len" = none) : Cal P w K mg base "choice_count" 2 ["counts"] w_choice_count := by
  refine cal_mk (r := r_choice_count) F sc_choice_count fun f cdv A outer s H E hr => ?_
  exact (fs_cons (fs_set (i := 1) sc_choice_count.nd rfl (by first | exact Or.inl rfl | exact Or.inr rfl) (fe_c pe_int fun _ _ => .int _))
    (fs_cons (fs_for (vs := [2]) (passes_of rfl) rfl (fi_any rfl (fe_var (pv 0))) (fg_name (pg_name (i := 2) sc_choice_count.nd rfl (by first | exact Or.inl rfl | exact Or.inr rfl))) (fs_one (fs_set (i := 1) sc_choice_count.nd rfl (by first | exact Or.inl rfl | exact Or.inr rfl) (fe_op op_mulW o_mul (fe_var (pv 1)) (fe_lb (fe_callB call_len o_len (by rfl) z_len (by decide +kernel) (fb_cons (fe_lb (fe_cal c_orders (hr.mono (by decide)) (by rfl) (takes_of rfl rfl rfl rfl) (fb_cons (fe_var (pv 2)) fb_nil))) fb_nil)))))))
    (fs_one (fs_retV (i := 1) (pv 1)))))
abbrev st_order_rows : Stmt := topS 16
theorem sc_order_rows : FnScope ["counts", "choices", "count", "choice", "order"] ["counts"] (defScope st_order_rows) := ⟨rfl, rfl, rfl, by decide +kernel, rfl, by decide +kernel, by decide +kernel⟩
theorem ok_order_rows (F : DefAt K mg "order_rows" st_order_rows ["counts"]) (c_orders : Cal P w K mg base "orders" 1 ["count"] w_orders) (z_tuple : mg "tuple" = none) : Cal P w K mg base "order_rows" 2 ["counts"] w_order_rows := by
  refine cal_mk (r := r_order_rows) F sc_order_rows fun f cdv A outer s H E hr => ?_
  exact (fs_cons (fs_set (i := 1) sc_order_rows.nd rfl (by first | exact Or.inl rfl | exact Or.inr rfl) (fe_frz (fe_lst (fa_cons (fe_tup fa_nil) fa_nil))))
    (fs_cons (fs_for (vs := [2]) (passes_of rfl) rfl (fi_any rfl (fe_var (pv 0))) (fg_name (pg_name (i := 2) sc_order_rows.nd rfl (by first | exact Or.inl rfl | exact Or.inr rfl))) (fs_fz (i := 1) (fs_one (fs_setLc2 (i := 1) (own := [("choice", 3), ("order", 4)]) (vs1 := [4]) rfl sc_order_rows.nd rfl rfl (sw_true rfl rfl rfl (by decide +kernel)) (fi_any rfl (fe_var (pv 1))) (blkOk_by (own := [("choice", 3), ("order", 4)]) (N := ["counts", "choices", "count", "choice", "order"]) (sc := defScope st_order_rows) (by decide +kernel)) (by decide) (fun _ _ _ _ _ => (fg_name (pg_name (i := 3) sc_order_rows.nd rfl (by first | exact Or.inl rfl | exact Or.inr rfl)))) (fun _ _ _ _ _ => fts_nil) (fun _ _ _ _ _ => (fi_any rfl (fe_lb (fe_cal c_orders (hr.mono (by decide)) (by rfl) takes0 (fb_cons (fe_var (pv 2)) fb_nil))))) (fun _ _ _ _ _ => (fg_name (pg_name (i := 4) sc_order_rows.nd rfl (by first | exact Or.inl rfl | exact Or.inr rfl)))) (fun _ _ _ _ _ => fts_nil) (fun _ _ _ _ _ => (fe_op op_addA o_add (fe_var (pv 3)) (fe_lb (fe_tup (fa_cons (fe_dat (fe_var (pv 4))) fa_nil)))))))))
    (fs_one (fs_ret (fe_callTy call_tuple_of o_tupC (by rfl) z_tuple (by decide +kernel) (fb_cons (fe_var (pv 1)) fb_nil))))))
abbrev st_choice_variables : Stmt := topS 23
theorem sc_choice_variables : FnScope ["choice", "found", "argument", "order"] ["choice"] (defScope st_choice_variables) := ⟨rfl, rfl, rfl, by decide +kernel, rfl, by decide +kernel, by decide +kernel⟩
theorem ok_choice_variables (F : DefAt K mg "choice_variables" st_choice_variables ["choice"]) (c_between_variables : Cal P w K mg base "between_variables" 1 ["argument", "order"] w_between_variables) (z_enumerate : mg "enumerate" = none) (z_tuple : mg "tuple" = none) (hNL : NoLists K) : Cal P w K mg base "choice_variables" 2 ["choice"] w_choice_variables := by
  refine cal_mk (r := r_choice_variables) F sc_choice_variables fun f cdv A outer s H E hr => ?_
  exact (fs_cons (fs_set (i := 1) sc_choice_variables.nd rfl (by first | exact Or.inl rfl | exact Or.inr rfl) (fe_lst fa_nil))
    (fs_cons (fs_for (vs := [2, 3]) (passes_of rfl) rfl (fi_enum rfl (by rfl) z_enumerate (fb_cons (fe_var (pv 0)) fb_nil)) (fg_tup rfl rfl (fgs_cons (fg_name (pg_name (i := 2) sc_choice_variables.nd rfl (by first | exact Or.inl rfl | exact Or.inr rfl))) (fgs_cons (fg_name (pg_name (i := 3) sc_choice_variables.nd rfl (by first | exact Or.inl rfl | exact Or.inr rfl))) fgs_nil))) (fs_one (fs_extend (i := 1) hNL (pv 1) (fe_lb (fe_cal c_between_variables (hr.mono (by decide)) (by rfl) (takes_of rfl rfl rfl rfl) (fb_cons (fe_var (pv 2)) (fb_cons (fe_var (pv 3)) fb_nil)))))))
    (fs_one (fs_ret (fe_callTy call_tuple_of o_tupC (by rfl) z_tuple (by decide +kernel) (fb_cons (fe_var (pv 1)) fb_nil))))))
abbrev st__law_greatest : Stmt := topS 35
theorem sc__law_greatest : FnScope ["counts", "many", "low", "high", "k", "middle"] ["counts", "many"] (defScope st__law_greatest) := ⟨rfl, rfl, rfl, by decide +kernel, rfl, by decide +kernel, by decide +kernel⟩
theorem ok__law_greatest (F : DefAt K mg "_law_greatest" st__law_greatest ["counts", "many"]) (c__law_many : Cal P w K mg base "_law_many" 1 ["counts", "most"] w__law_many) (z_range : mg "range" = none) : Cal P w K mg base "_law_greatest" 2 ["counts", "many"] w__law_greatest := by
  refine cal_mk (r := r__law_greatest) F sc__law_greatest fun f cdv A outer s H E hr => ?_
  exact (fs_cons (fs_set (i := 2) sc__law_greatest.nd rfl (by first | exact Or.inl rfl | exact Or.inr rfl) (fe_c pe_int fun _ _ => .int _))
    (fs_cons (fs_set (i := 3) sc__law_greatest.nd rfl (by first | exact Or.inl rfl | exact Or.inr rfl) (fe_c pe_int fun _ _ => .int _))
    (fs_cons (fs_for (vs := [4]) (passes_of rfl) rfl (fi_rng1 (by rfl) z_range (fb_cons (fe_lb (fe_c pe_int fun _ _ => .int _)) fb_nil)) (fg_name (pg_name (i := 4) sc__law_greatest.nd rfl (by first | exact Or.inl rfl | exact Or.inr rfl))) (fs_cons (fs_set (i := 5) sc__law_greatest.nd rfl (by first | exact Or.inl rfl | exact Or.inr rfl) (fe_op op_fdivW o_fdiv (fe_lb (fe_op op_addA o_add (fe_lb (fe_op op_addA o_add (fe_var (pv 2)) (fe_var (pv 3)))) (fe_lb (fe_c pe_int fun _ _ => .int _)))) (fe_lb (fe_c pe_int fun _ _ => .int _))))
    (fs_one (fs_if (ft_cmp op_le o_le (fe_lb (fe_cal c__law_many (hr.mono (by decide)) (by rfl) (takes_of rfl rfl rfl rfl) (fb_cons (fe_var (pv 0)) (fb_cons (fe_var (pv 5)) fb_nil)))) (fe_var (pv 1)) (nomark _)) (fs_one (fs_set (i := 2) sc__law_greatest.nd rfl (by first | exact Or.inl rfl | exact Or.inr rfl) (fe_dat (fe_var (pv 5))))) (fs_one (fs_set (i := 3) sc__law_greatest.nd rfl (by first | exact Or.inl rfl | exact Or.inr rfl) (fe_op op_sub o_sub (fe_var (pv 5)) (fe_lb (fe_c pe_int fun _ _ => .int _)))))))))
    (fs_one (fs_retV (i := 2) (pv 2))))))
abbrev st__law_due : Stmt := topS 37
theorem sc__law_due : FnScope ["counts", "most", "choices", "count", "known", "found", "choice", "grown", "rows", "order", "row", "text"] ["counts", "most"] (defScope st__law_due) := ⟨rfl, rfl, rfl, by decide +kernel, rfl, by decide +kernel, by decide +kernel⟩
theorem ok__law_due (F : DefAt K mg "_law_due" st__law_due ["counts", "most"]) (c__law_orders : Cal P w K mg base "_law_orders" 1 ["count"] w__law_orders) (c__law_texts : Cal P w K mg base "_law_texts" 1 ["order", "most"] w__law_texts) (z_list : mg "list" = none) (z_tuple : mg "tuple" = none) (hNL : NoLists K) : Cal P w K mg base "_law_due" 2 ["counts", "most"] w__law_due := by
  refine cal_mk (r := r__law_due) F sc__law_due fun f cdv A outer s H E hr => ?_
  exact (fs_cons (fs_set (i := 2) sc__law_due.nd rfl (by first | exact Or.inl rfl | exact Or.inr rfl) (fe_frz (fe_lst (fa_cons (fe_tup fa_nil) fa_nil))))
    (fs_cons (fs_for (vs := [3]) (passes_of rfl) rfl (fi_any rfl (fe_var (pv 0))) (fg_name (pg_name (i := 3) sc__law_due.nd rfl (by first | exact Or.inl rfl | exact Or.inr rfl))) (fs_cons (fs_set (i := 7) sc__law_due.nd rfl (by first | exact Or.inl rfl | exact Or.inr rfl) (fe_lst fa_nil))
    (fs_cons (fs_for (vs := [6]) (passes_of rfl) rfl (fi_any rfl (fe_var (pv 2))) (fg_name (pg_name (i := 6) sc__law_due.nd rfl (by first | exact Or.inl rfl | exact Or.inr rfl))) (fs_one (fs_for (vs := [9]) (passes_of rfl) rfl (fi_any rfl (fe_lb (fe_frz (fe_cal c__law_orders (hr.mono (by decide)) (by rfl) (takes_of rfl rfl rfl rfl) (fb_cons (fe_var (pv 3)) fb_nil))))) (fg_name (pg_name (i := 9) sc__law_due.nd rfl (by first | exact Or.inl rfl | exact Or.inr rfl))) (fs_one (fs_append (i := 7) rfl (pv 7) (fe_op op_addA o_add (fe_var (pv 6)) (fe_lb (fe_tup (fa_cons (fe_dat (fe_var (pv 9))) fa_nil)))))))))
    (fs_one (fs_set (i := 2) sc__law_due.nd rfl (by first | exact Or.inl rfl | exact Or.inr rfl) (fe_frz (fe_callTy call_list_of o_lstC (by rfl) z_list (by decide +kernel) (fb_cons (fe_var (pv 7)) fb_nil))))))))
    (fs_cons (fs_set (i := 4) sc__law_due.nd rfl (by first | exact Or.inl rfl | exact Or.inr rfl) fe_dictK)
    (fs_cons (fs_set (i := 5) sc__law_due.nd rfl (by first | exact Or.inl rfl | exact Or.inr rfl) (fe_lst fa_nil))
    (fs_cons (fs_for (vs := [6]) (passes_of rfl) rfl (fi_any rfl (fe_var (pv 2))) (fg_name (pg_name (i := 6) sc__law_due.nd rfl (by first | exact Or.inl rfl | exact Or.inr rfl))) (fs_cons (fs_set (i := 8) sc__law_due.nd rfl (by first | exact Or.inl rfl | exact Or.inr rfl) (fe_frz (fe_lst (fa_cons (fe_tup fa_nil) fa_nil))))
    (fs_cons (fs_for (vs := [9]) (passes_of rfl) rfl (fi_any rfl (fe_var (pv 6))) (fg_name (pg_name (i := 9) sc__law_due.nd rfl (by first | exact Or.inl rfl | exact Or.inr rfl))) (fs_cons (fs_if (ft_dnotin (hu1 hr) (fe_var (pv 9)) (fe_var (pv 4)) (by rfl)) (fs_one (fs_dset (i := 4) (hu1 hr) (fe_frz (fe_cal c__law_texts (hr.mono (by decide)) (by rfl) (takes_of rfl rfl rfl rfl) (fb_cons (fe_var (pv 9)) (fb_cons (fe_var (pv 1)) fb_nil)))) (pv 4) (fe_var (pv 9)))) fs_nil)
    (fs_cons (fs_set (i := 7) sc__law_due.nd rfl (by first | exact Or.inl rfl | exact Or.inr rfl) (fe_lst fa_nil))
    (fs_cons (fs_for (vs := [10]) (passes_of rfl) rfl (fi_any rfl (fe_var (pv 8))) (fg_name (pg_name (i := 10) sc__law_due.nd rfl (by first | exact Or.inl rfl | exact Or.inr rfl))) (fs_one (fs_for (vs := [11]) (passes_of rfl) rfl (fi_any rfl (fe_lb (fe_dix (hu1 hr) (fe_var (pv 4)) (fe_var (pv 9)) (fun _ _ => rfl)))) (fg_name (pg_name (i := 11) sc__law_due.nd rfl (by first | exact Or.inl rfl | exact Or.inr rfl))) (fs_one (fs_append (i := 7) rfl (pv 7) (fe_op op_addA o_add (fe_var (pv 10)) (fe_lb (fe_tup (fa_cons (fe_dat (fe_var (pv 11))) fa_nil)))))))))
    (fs_one (fs_set (i := 8) sc__law_due.nd rfl (by first | exact Or.inl rfl | exact Or.inr rfl) (fe_frz (fe_callTy call_list_of o_lstC (by rfl) z_list (by decide +kernel) (fb_cons (fe_var (pv 7)) fb_nil)))))))))
    (fs_one (fs_extend (i := 5) hNL (pv 5) (fe_var (pv 8)))))))
    (fs_one (fs_ret (fe_callTy call_tuple_of o_tupC (by rfl) z_tuple (by decide +kernel) (fb_cons (fe_var (pv 5)) fb_nil)))))))))
abbrev st_text_between : Stmt := topS 19
theorem sc_text_between : FnScope ["argument", "order", "point", "numbers", "named", "text", "number", "at", "mark", "letter"] ["argument", "order", "point"] (defScope st_text_between) := ⟨rfl, rfl, rfl, by decide +kernel, rfl, by decide +kernel, by decide +kernel⟩
theorem ok_text_between {C_Malformed : Addr} (h_Malformed : mg "Malformed" = some (.ref C_Malformed)) (e_Malformed : ExcAt P w K mg base "Malformed" "what" 1 C_Malformed) (F : DefAt K mg "text_between" st_text_between ["argument", "order", "point"]) (c_between_variables : Cal P w K mg base "between_variables" 1 ["argument", "order"] w_between_variables) (z_int : mg "int" = none) (z_enumerate : mg "enumerate" = none) : Cal P w K mg base "text_between" 3 ["argument", "order", "point"] w_text_between := by
  refine cal_mk (r := r_text_between) F sc_text_between fun f cdv A outer s H E hr => ?_
  exact (fs_cons (fs_set (i := 3) sc_text_between.nd rfl (by first | exact Or.inl rfl | exact Or.inr rfl) fe_dictT)
    (fs_cons (fs_for (vs := [4, 6]) (passes_of rfl) rfl (fi_any rfl (fe_var (pv 2))) (fg_tup rfl rfl (fgs_cons (fg_name (pg_name (i := 4) sc_text_between.nd rfl (by first | exact Or.inl rfl | exact Or.inr rfl))) (fgs_cons (fg_name (pg_name (i := 6) sc_text_between.nd rfl (by first | exact Or.inl rfl | exact Or.inr rfl))) fgs_nil))) (fs_one (fs_dset (i := 3) (hu1 hr) (fe_dat (fe_var (pv 6))) (pv 3) (fe_var (pv 4)))))
    (fs_cons (fs_for (vs := [4]) (passes_of rfl) rfl (fi_any rfl (fe_lb (fe_cal c_between_variables (hr.mono (by decide)) (by rfl) (takes_of rfl rfl rfl rfl) (fb_cons (fe_var (pv 0)) (fb_cons (fe_var (pv 1)) fb_nil))))) (fg_name (pg_name (i := 4) sc_text_between.nd rfl (by first | exact Or.inl rfl | exact Or.inr rfl))) (fs_one (fs_if (ft_cmp op_lt o_lt (fe_lb (fe_dget2 (hu1 hr) (fe_var (pv 3)) (fe_var (pv 4)) (fe_lb (fe_neg (fe_lb (fe_c pe_int fun _ _ => .int _)))))) (fe_lb (fe_callTy call_int1 o_intC (by rfl) z_int (by decide +kernel) (fb_cons (fe_lb (fe_cmp op_eq o_eq (fb_ix ix_seq o_ix (fe_var (pv 4)) (fe_lb (fe_c pe_int fun _ _ => .int _)) (fun _ _ => rfl)) (fb_ix ix_seq o_ix (fe_var (pv 4)) (fe_lb (fe_c pe_int fun _ _ => .int _)) (fun _ _ => rfl)) (nomark _))) fb_nil))) (nomark _)) (fs_one (fs_raise1 e_Malformed rfl (hr.mono (by decide)) (takes_of rfl rfl rfl rfl) (by rfl) (fe_lb (fe_c pe_str fun _ _ => FD.str' (by decide +kernel))))) fs_nil)))
    (fs_cons (fs_set (i := 5) sc_text_between.nd rfl (by first | exact Or.inl rfl | exact Or.inr rfl) (fe_c pe_str fun _ _ => FD.str' (by decide +kernel)))
    (fs_cons (fs_for (vs := [7, 8]) (passes_of rfl) rfl (fi_enum rfl (by rfl) z_enumerate (fb_cons (fe_var (pv 1)) fb_nil)) (fg_tup rfl rfl (fgs_cons (fg_name (pg_name (i := 7) sc_text_between.nd rfl (by first | exact Or.inl rfl | exact Or.inr rfl))) (fgs_cons (fg_name (pg_name (i := 8) sc_text_between.nd rfl (by first | exact Or.inl rfl | exact Or.inr rfl))) fgs_nil))) (fs_cons (fs_for (vs := [9]) (passes_of rfl) rfl (fi_any rfl (fe_lb (fe_slice rfl (fe_var (pv 1)) (fo_some (fe_lb (fe_op op_addA o_add (fe_var (pv 7)) (fe_lb (fe_c pe_int fun _ _ => .int _))))) fo_none))) (fg_name (pg_name (i := 9) sc_text_between.nd rfl (by first | exact Or.inl rfl | exact Or.inr rfl))) (fs_one (fs_set (i := 5) sc_text_between.nd rfl (by first | exact Or.inl rfl | exact Or.inr rfl) (fe_op op_addA o_add (fe_var (pv 5)) (fe_lb (fe_op op_mulS o_mulS (fe_var (pv 9)) (fe_lb (fe_dix (hu1 hr) (fe_var (pv 3)) (fe_lb (fe_tup (fa_cons (fe_dat (fe_var (pv 0))) (fa_cons (fe_dat (fe_var (pv 9))) (fa_cons (fe_dat (fe_var (pv 8))) fa_nil))))) (fun _ _ => rfl)))))))))
    (fs_one (fs_set (i := 5) sc_text_between.nd rfl (by first | exact Or.inl rfl | exact Or.inr rfl) (fe_op op_addA o_add (fe_var (pv 5)) (fe_lb (fe_op op_mulS o_mulS (fe_var (pv 8)) (fe_lb (fe_dix (hu1 hr) (fe_var (pv 3)) (fe_lb (fe_tup (fa_cons (fe_dat (fe_var (pv 0))) (fa_cons (fe_dat (fe_var (pv 8))) (fa_cons (fe_dat (fe_var (pv 8))) fa_nil))))) (fun _ _ => rfl))))))))))
    (fs_one (fs_retV (i := 5) (pv 5))))))))
abbrev st_point_count : Stmt := topS 25
theorem sc_point_count : FnScope ["choice", "degree", "many", "_"] ["choice", "degree"] (defScope st_point_count) := ⟨rfl, rfl, rfl, by decide +kernel, rfl, by decide +kernel, by decide +kernel⟩
theorem ok_point_count (F : DefAt K mg "point_count" st_point_count ["choice", "degree"]) (c_choice_variables : Cal P w K mg base "choice_variables" 2 ["choice"] w_choice_variables) : Cal P w K mg base "point_count" 3 ["choice", "degree"] w_point_count := by
  refine cal_mk (r := r_point_count) F sc_point_count fun f cdv A outer s H E hr => ?_
  exact (fs_cons (fs_set (i := 2) sc_point_count.nd rfl (by first | exact Or.inl rfl | exact Or.inr rfl) (fe_c pe_int fun _ _ => .int _))
    (fs_cons (fs_for (vs := [3]) (passes_of rfl) rfl (fi_any rfl (fe_lb (fe_cal c_choice_variables (hr.mono (by decide)) (by rfl) (takes_of rfl rfl rfl rfl) (fb_cons (fe_var (pv 0)) fb_nil)))) (fg_name (pg_name (i := 3) sc_point_count.nd rfl (by first | exact Or.inl rfl | exact Or.inr rfl))) (fs_one (fs_set (i := 2) sc_point_count.nd rfl (by first | exact Or.inl rfl | exact Or.inr rfl) (fe_op op_mulW o_mul (fe_var (pv 2)) (fe_lb (fe_op op_addA o_add (fe_var (pv 1)) (fe_lb (fe_c pe_int fun _ _ => .int _))))))))
    (fs_one (fs_retV (i := 2) (pv 2)))))
abbrev st__points : Stmt := topS 26
theorem sc__points : FnScope ["choice", "degree", "points", "variable", "least", "point", "more"] ["choice", "degree"] (defScope st__points) := ⟨rfl, rfl, rfl, by decide +kernel, rfl, by decide +kernel, by decide +kernel⟩
theorem ok__points (F : DefAt K mg "_points" st__points ["choice", "degree"]) (c_choice_variables : Cal P w K mg base "choice_variables" 2 ["choice"] w_choice_variables) (c_least_number : Cal P w K mg base "least_number" 1 ["variable"] w_least_number) (z_range : mg "range" = none) : Cal P w K mg base "_points" 3 ["choice", "degree"] w__points := by
  refine cal_mk (r := r__points) F sc__points fun f cdv A outer s H E hr => ?_
  exact (fs_cons (fs_set (i := 2) sc__points.nd rfl (by first | exact Or.inl rfl | exact Or.inr rfl) (fe_frz (fe_lst (fa_cons (fe_tup fa_nil) fa_nil))))
    (fs_cons (fs_for (vs := [3]) (passes_of rfl) rfl (fi_any rfl (fe_lb (fe_cal c_choice_variables (hr.mono (by decide)) (by rfl) (takes_of rfl rfl rfl rfl) (fb_cons (fe_var (pv 0)) fb_nil)))) (fg_name (pg_name (i := 3) sc__points.nd rfl (by first | exact Or.inl rfl | exact Or.inr rfl))) (fs_cons (fs_set (i := 4) sc__points.nd rfl (by first | exact Or.inl rfl | exact Or.inr rfl) (fe_cal c_least_number (hr.mono (by decide)) (by rfl) (takes_of rfl rfl rfl rfl) (fb_cons (fe_var (pv 3)) fb_nil)))
    (fs_fz (i := 2) (fs_one (fs_setLc2 (i := 2) (own := [("point", 5), ("more", 6)]) (vs1 := [6]) rfl sc__points.nd rfl rfl (sw_true rfl rfl rfl (by decide +kernel)) (fi_any rfl (fe_var (pv 2))) (blkOk_by (own := [("point", 5), ("more", 6)]) (N := ["choice", "degree", "points", "variable", "least", "point", "more"]) (sc := defScope st__points) (by decide +kernel)) (by decide) (fun _ _ _ _ _ => (fg_name (pg_name (i := 5) sc__points.nd rfl (by first | exact Or.inl rfl | exact Or.inr rfl)))) (fun _ _ _ _ _ => fts_nil) (fun _ _ _ _ _ => (fi_rng1 (by rfl) z_range (fb_cons (fe_lb (fe_op op_addA o_add (fe_var (pv 1)) (fe_lb (fe_c pe_int fun _ _ => .int _)))) fb_nil))) (fun _ _ _ _ _ => (fg_name (pg_name (i := 6) sc__points.nd rfl (by first | exact Or.inl rfl | exact Or.inr rfl)))) (fun _ _ _ _ _ => fts_nil) (fun _ _ _ _ _ => (fe_op op_addA o_add (fe_var (pv 5)) (fe_lb (fe_tup (fa_cons (fe_op op_addA o_add (fe_var (pv 4)) (fe_var (pv 6))) fa_nil))))))))))
    (fs_one (fs_retV (i := 2) (pv 2)))))
abbrev st__law_question : Stmt := topS 38
theorem sc__law_question : FnScope ["cell", "whole", "row", "counts", "most", "k"] ["cell", "whole"] (defScope st__law_question) := ⟨rfl, rfl, rfl, by decide +kernel, rfl, by decide +kernel, by decide +kernel⟩
theorem ok__law_question (F : DefAt K mg "_law_question" st__law_question ["cell", "whole"]) (c__law_digits : Cal P w K mg base "_law_digits" 1 ["cell", "sizes"] w__law_digits) (c__law_greatest : Cal P w K mg base "_law_greatest" 2 ["counts", "many"] w__law_greatest) (c__law_many : Cal P w K mg base "_law_many" 1 ["counts", "most"] w__law_many) (z_range : mg "range" = none) (z_tuple : mg "tuple" = none) (z_min : mg "min" = none) : Cal P w K mg base "_law_question" 3 ["cell", "whole"] w__law_question := by
  refine cal_mk (r := r__law_question) F sc__law_question fun f cdv A outer s H E hr => ?_
  exact (fs_cons (fs_set (i := 2) sc__law_question.nd rfl (by first | exact Or.inl rfl | exact Or.inr rfl) (fe_frz (fe_cal c__law_digits (hr.mono (by decide)) (by rfl) (takes_of rfl rfl rfl rfl) (fb_cons (fe_var (pv 0)) (fb_cons (fe_lb (fe_frz (fe_lst (fa_cons (fe_c pe_int fun _ _ => .int _) (fa_cons (fe_c pe_int fun _ _ => .int _) (fa_cons (fe_c pe_int fun _ _ => .int _) (fa_cons (fe_c pe_int fun _ _ => .int _) (fa_cons (fe_c pe_int fun _ _ => .int _) (fa_cons (fe_c pe_int fun _ _ => .int _) (fa_cons (fe_c pe_int fun _ _ => .int _) (fa_cons (fe_c pe_int fun _ _ => .int _) (fa_cons (fe_op op_pow o_pow (fe_lb (fe_c pe_int fun _ _ => .int _)) (fe_lb (fe_c pe_int fun _ _ => .int _))) fa_nil)))))))))))) fb_nil)))))
    (fs_cons (fs_set (i := 3) sc__law_question.nd rfl (by first | exact Or.inl rfl | exact Or.inr rfl) (fe_callTy call_tuple_of o_tupC (by rfl) z_tuple (by decide +kernel) (fb_cons (fe_lb (fe_lc (own := [("k", 5)]) rfl sc__law_question.nd (fi_rng1 (by rfl) z_range (fb_cons (fb_ix ix_seq o_ix (fe_lb (fe_lst (fa_cons (fe_c pe_int fun _ _ => .int _) (fa_cons (fe_c pe_int fun _ _ => .int _) (fa_cons (fe_c pe_int fun _ _ => .int _) (fa_cons (fe_c pe_int fun _ _ => .int _) (fa_cons (fe_c pe_int fun _ _ => .int _) (fa_cons (fe_c pe_int fun _ _ => .int _) (fa_cons (fe_c pe_int fun _ _ => .int _) (fa_cons (fe_c pe_int fun _ _ => .int _) (fa_cons (fe_c pe_int fun _ _ => .int _) (fa_cons (fe_c pe_int fun _ _ => .int _) (fa_cons (fe_c pe_int fun _ _ => .int _) (fa_cons (fe_c pe_int fun _ _ => .int _) fa_nil)))))))))))))) (fb_ix ix_seq o_ix (fe_var (pv 2)) (fe_lb (fe_c pe_int fun _ _ => .int _)) (fun _ _ => rfl)) (fun _ _ => rfl)) fb_nil)) (blkOk_by (own := [("k", 5)]) (N := ["cell", "whole", "row", "counts", "most", "k"]) (sc := defScope st__law_question) (by decide +kernel)) (fun _ _ _ _ _ => (fg_name (pg_name (i := 5) sc__law_question.nd rfl (by first | exact Or.inl rfl | exact Or.inr rfl)))) (fun _ _ _ _ _ => fts_nil) (fun _ _ _ _ _ => (fe_dat (fb_ix ix_seq o_ix (fe_lb (fe_lst (fa_cons (fe_c pe_int fun _ _ => .int _) (fa_cons (fe_c pe_int fun _ _ => .int _) (fa_cons (fe_c pe_int fun _ _ => .int _) (fa_cons (fe_c pe_int fun _ _ => .int _) (fa_cons (fe_c pe_int fun _ _ => .int _) (fa_cons (fe_c pe_int fun _ _ => .int _) (fa_cons (fe_c pe_int fun _ _ => .int _) (fa_cons (fe_c pe_int fun _ _ => .int _) (fa_cons (fe_c pe_int fun _ _ => .int _) (fa_cons (fe_c pe_int fun _ _ => .int _) (fa_cons (fe_c pe_int fun _ _ => .int _) (fa_cons (fe_c pe_int fun _ _ => .int _) fa_nil)))))))))))))) (fb_ix ix_seq o_ix (fe_var (pv 2)) (fe_lb (fe_op op_addA o_add (fe_lb (fe_c pe_int fun _ _ => .int _)) (fe_var (pv 5)))) (fun _ _ => rfl)) (fun _ _ => rfl)))))) fb_nil)))
    (fs_cons (fs_set (i := 4) sc__law_question.nd rfl (by first | exact Or.inl rfl | exact Or.inr rfl) (fe_dat (fb_ix ix_seq o_ix (fe_lb (fe_lst (fa_cons (fe_c pe_int fun _ _ => .int _) (fa_cons (fe_c pe_int fun _ _ => .int _) (fa_cons (fe_c pe_int fun _ _ => .int _) (fa_cons (fe_c pe_int fun _ _ => .int _) fa_nil)))))) (fb_ix ix_seq o_ix (fe_var (pv 2)) (fe_lb (fe_c pe_int fun _ _ => .int _)) (fun _ _ => rfl)) (fun _ _ => rfl))))
    (fs_cons (fs_if (ft_cmp op_eq o_eq (fb_ix ix_seq o_ix (fe_var (pv 2)) (fe_lb (fe_c pe_int fun _ _ => .int _)) (fun _ _ => rfl)) (fe_lb (fe_c pe_int fun _ _ => .int _)) (nomark _)) (fs_one (fs_set (i := 4) sc__law_question.nd rfl (by first | exact Or.inl rfl | exact Or.inr rfl) (fe_c pe_int fun _ _ => .int _))) fs_nil)
    (fs_cons (fs_if (ft_cmp op_eq o_eq (fb_ix ix_seq o_ix (fe_var (pv 2)) (fe_lb (fe_c pe_int fun _ _ => .int _)) (fun _ _ => rfl)) (fe_lb (fe_c pe_int fun _ _ => .int _)) (nomark _)) (fs_one (fs_set (i := 4) sc__law_question.nd rfl (by first | exact Or.inl rfl | exact Or.inr rfl) (fe_op op_addA o_add (fe_lb (fe_cal c__law_greatest (hr.mono (by decide)) (by rfl) (takes_of rfl rfl rfl rfl) (fb_cons (fe_var (pv 3)) (fb_cons (fe_lb (fe_c pe_int fun _ _ => .int _)) fb_nil)))) (fe_lb (fe_c pe_int fun _ _ => .int _))))) fs_nil)
    (fs_cons (fs_if (ft_cmp op_eq o_eq (fb_ix ix_seq o_ix (fe_var (pv 2)) (fe_lb (fe_c pe_int fun _ _ => .int _)) (fun _ _ => rfl)) (fe_lb (fe_c pe_int fun _ _ => .int _)) (nomark _)) (fs_one (fs_set (i := 4) sc__law_question.nd rfl (by first | exact Or.inl rfl | exact Or.inr rfl) (fe_dat (fb_ix ix_seq o_ix (fe_var (pv 2)) (fe_lb (fe_c pe_int fun _ _ => .int _)) (fun _ _ => rfl))))) fs_nil)
    (fs_cons (fs_if (PW.pt (fw_and (ft_val rfl (fe_var (pv 1))) (fw_one_and (ft_cmp op_eq o_eq (fb_ix ix_seq o_ix (fe_var (pv 2)) (fe_lb (fe_c pe_int fun _ _ => .int _)) (fun _ _ => rfl)) (fe_lb (fe_c pe_int fun _ _ => .int _)) (nomark _))))) (fs_one (fs_set (i := 4) sc__law_question.nd rfl (by first | exact Or.inl rfl | exact Or.inr rfl) (fe_cal c__law_greatest (hr.mono (by decide)) (by rfl) (takes_of rfl rfl rfl rfl) (fb_cons (fe_var (pv 3)) (fb_cons (fe_lb (fe_c pe_int fun _ _ => .int _)) fb_nil))))) fs_nil)
    (fs_cons (fs_if (PW.pt (fw_and (ft_val rfl (fe_var (pv 1))) (fw_one_and (ft_cmp op_eq o_eq (fb_ix ix_seq o_ix (fe_var (pv 2)) (fe_lb (fe_c pe_int fun _ _ => .int _)) (fun _ _ => rfl)) (fe_lb (fe_c pe_int fun _ _ => .int _)) (nomark _))))) (fs_one (fs_set (i := 4) sc__law_question.nd rfl (by first | exact Or.inl rfl | exact Or.inr rfl) (fe_dat (fb_ix ix_seq o_ix (fe_var (pv 2)) (fe_lb (fe_c pe_int fun _ _ => .int _)) (fun _ _ => rfl))))) fs_nil)
    (fs_cons (fs_if (PW.pt (fw_and (ft_not (ft_val rfl (fe_var (pv 1)))) (fw_and (ft_cmp op_ne o_ne (fb_ix ix_seq o_ix (fe_var (pv 2)) (fe_lb (fe_c pe_int fun _ _ => .int _)) (fun _ _ => rfl)) (fe_lb (fe_c pe_int fun _ _ => .int _)) (nomark _)) (fw_and (ft_cmp op_ne o_ne (fb_ix ix_seq o_ix (fe_var (pv 2)) (fe_lb (fe_c pe_int fun _ _ => .int _)) (fun _ _ => rfl)) (fe_lb (fe_c pe_int fun _ _ => .int _)) (nomark _)) (fw_one_and (ft_cmp op_gt o_gt (fe_lb (fe_cal c__law_many (hr.mono (by decide)) (by rfl) (takes_of rfl rfl rfl rfl) (fb_cons (fe_var (pv 3)) (fb_cons (fe_var (pv 4)) fb_nil)))) (fe_lb (fe_c pe_int fun _ _ => .int _)) (nomark _))))))) (fs_one (fs_set (i := 4) sc__law_question.nd rfl (by first | exact Or.inl rfl | exact Or.inr rfl) (fe_callB (call_min2 rfl) o_min2 (by rfl) z_min (by decide +kernel) (fb_cons (fe_var (pv 4)) (fb_cons (fe_lb (fe_cal c__law_greatest (hr.mono (by decide)) (by rfl) (takes_of rfl rfl rfl rfl) (fb_cons (fe_var (pv 3)) (fb_cons (fe_lb (fe_c pe_int fun _ _ => .int _)) fb_nil)))) fb_nil))))) fs_nil)
    (fs_one (fs_ret (fe_lst (fa_cons (fe_dat (fe_var (pv 3))) (fa_cons (fe_dat (fe_var (pv 4))) fa_nil))))))))))))))
abbrev st_check_probes : Stmt := topS 27
theorem sc_check_probes : FnScope ["counts", "degree", "many", "choice"] ["counts", "degree"] (defScope st_check_probes) := ⟨rfl, rfl, rfl, by decide +kernel, rfl, by decide +kernel, by decide +kernel⟩
theorem ok_check_probes {C_TooMuch : Addr} (h_TooMuch : mg "TooMuch" = some (.ref C_TooMuch)) (e_TooMuch : ExcAt P w K mg base "TooMuch" "what" 1 C_TooMuch) (F : DefAt K mg "check_probes" st_check_probes ["counts", "degree"]) (c_choice_count : Cal P w K mg base "choice_count" 2 ["counts"] w_choice_count) (c_order_rows : Cal P w K mg base "order_rows" 2 ["counts"] w_order_rows) (c_point_count : Cal P w K mg base "point_count" 3 ["choice", "degree"] w_point_count) (z_sum : mg "sum" = none) (g_ROWS : GlobD ⟨K, mg⟩ "ROWS" gv_ROWS) (g_PROBES : GlobD ⟨K, mg⟩ "PROBES" gv_PROBES) : Cal P w K mg base "check_probes" 4 ["counts", "degree"] w_check_probes := by
  refine cal_mk (r := r_check_probes) F sc_check_probes fun f cdv A outer s H E hr => ?_
  exact (fs_cons (fs_if (ft_cmp op_gt o_gt (fe_lb (fe_cal c_choice_count (hr.mono (by decide)) (by rfl) (takes_of rfl rfl rfl rfl) (fb_cons (fe_var (pv 0)) fb_nil))) (fe_lb (fe_glob g_ROWS (by rfl))) (nomark _)) (fs_one (fs_raise1 e_TooMuch rfl (hr.mono (by decide)) (takes_of rfl rfl rfl rfl) (by rfl) (fe_lb (fe_c pe_str fun _ _ => FD.str' (by decide +kernel))))) fs_nil)
    (fs_cons (fs_set (i := 2) sc_check_probes.nd rfl (by first | exact Or.inl rfl | exact Or.inr rfl) (fe_callB (cr_sum rfl) o_sum (by rfl) z_sum (by decide +kernel) (fb_cons (fe_lb (fe_lc (own := [("choice", 3)]) rfl sc_check_probes.nd (fi_any rfl (fe_lb (fe_cal c_order_rows (hr.mono (by decide)) (by rfl) (takes_of rfl rfl rfl rfl) (fb_cons (fe_var (pv 0)) fb_nil)))) (blkOk_by (own := [("choice", 3)]) (N := ["counts", "degree", "many", "choice"]) (sc := defScope st_check_probes) (by decide +kernel)) (fun _ _ _ _ _ => (fg_name (pg_name (i := 3) sc_check_probes.nd rfl (by first | exact Or.inl rfl | exact Or.inr rfl)))) (fun _ _ _ _ _ => fts_nil) (fun _ _ _ _ _ => (fe_cal c_point_count (hr.mono (by decide)) (by rfl) takes0 (fb_cons (fe_var (pv 3)) (fb_cons (fe_var (pv 1)) fb_nil)))))) fb_nil)))
    (fs_cons (fs_if (ft_cmp op_gt o_gt (fe_var (pv 2)) (fe_lb (fe_glob g_PROBES (by rfl))) (nomark _)) (fs_one (fs_raise1 e_TooMuch rfl (hr.mono (by decide)) (takes_of rfl rfl rfl rfl) (by rfl) (fe_lb (fe_c pe_str fun _ _ => FD.str' (by decide +kernel))))) fs_nil)
    (fs_one (fs_retV (i := 2) (pv 2))))))
abbrev st_probes : Stmt := topS 28
theorem sc_probes : FnScope ["counts", "degree", "found", "choice", "variables", "numbers", "point", "variable", "number", "argument", "order"] ["counts", "degree"] (defScope st_probes) := ⟨rfl, rfl, rfl, by decide +kernel, rfl, by decide +kernel, by decide +kernel⟩
theorem ok_probes (F : DefAt K mg "probes" st_probes ["counts", "degree"]) (c_check_probes : Cal P w K mg base "check_probes" 4 ["counts", "degree"] w_check_probes) (c_order_rows : Cal P w K mg base "order_rows" 2 ["counts"] w_order_rows) (c_choice_variables : Cal P w K mg base "choice_variables" 2 ["choice"] w_choice_variables) (c__points : Cal P w K mg base "_points" 3 ["choice", "degree"] w__points) (c_text_between : Cal P w K mg base "text_between" 3 ["argument", "order", "point"] w_text_between) (z_zip : mg "zip" = none) (z_tuple : mg "tuple" = none) (z_enumerate : mg "enumerate" = none) : Cal P w K mg base "probes" 5 ["counts", "degree"] w_probes := by
  refine cal_mk (r := r_probes) F sc_probes fun f cdv A outer s H E hr => ?_
  exact (fs_cons (fs_expr (fe_lb (fe_cal c_check_probes (hr.mono (by decide)) (by rfl) (takes_of rfl rfl rfl rfl) (fb_cons (fe_var (pv 0)) (fb_cons (fe_var (pv 1)) fb_nil)))))
    (fs_cons (fs_set (i := 2) sc_probes.nd rfl (by first | exact Or.inl rfl | exact Or.inr rfl) (fe_lst fa_nil))
    (fs_cons (fs_for (vs := [3]) (passes_of rfl) rfl (fi_any rfl (fe_lb (fe_cal c_order_rows (hr.mono (by decide)) (by rfl) (takes_of rfl rfl rfl rfl) (fb_cons (fe_var (pv 0)) fb_nil)))) (fg_name (pg_name (i := 3) sc_probes.nd rfl (by first | exact Or.inl rfl | exact Or.inr rfl))) (fs_cons (fs_set (i := 4) sc_probes.nd rfl (by first | exact Or.inl rfl | exact Or.inr rfl) (fe_cal c_choice_variables (hr.mono (by decide)) (by rfl) (takes_of rfl rfl rfl rfl) (fb_cons (fe_var (pv 3)) fb_nil)))
    (fs_one (fs_for (vs := [5]) (passes_of rfl) rfl (fi_any rfl (fe_lb (fe_frz (fe_cal c__points (hr.mono (by decide)) (by rfl) (takes_of rfl rfl rfl rfl) (fb_cons (fe_var (pv 3)) (fb_cons (fe_var (pv 1)) fb_nil)))))) (fg_name (pg_name (i := 5) sc_probes.nd rfl (by first | exact Or.inl rfl | exact Or.inr rfl))) (fs_cons (fs_set (i := 6) sc_probes.nd rfl (by first | exact Or.inl rfl | exact Or.inr rfl) (fe_callTy call_tuple_of o_tupC (by rfl) z_tuple (by decide +kernel) (fb_cons (fe_lb (fe_lc (own := [("variable", 7), ("number", 8)]) rfl sc_probes.nd (fi_zip rfl (by rfl) z_zip (fb_cons (fe_var (pv 4)) (fb_cons (fe_var (pv 5)) fb_nil))) (blkOk_by (own := [("variable", 7), ("number", 8)]) (N := ["counts", "degree", "found", "choice", "variables", "numbers", "point", "variable", "number", "argument", "order"]) (sc := defScope st_probes) (by decide +kernel)) (fun _ _ _ _ _ => (fg_tup rfl rfl (fgs_cons (fg_name (pg_name (i := 7) sc_probes.nd rfl (by first | exact Or.inl rfl | exact Or.inr rfl))) (fgs_cons (fg_name (pg_name (i := 8) sc_probes.nd rfl (by first | exact Or.inl rfl | exact Or.inr rfl))) fgs_nil)))) (fun _ _ _ _ _ => fts_nil) (fun _ _ _ _ _ => (fe_tup (fa_cons (fe_dat (fe_var (pv 7))) (fa_cons (fe_dat (fe_var (pv 8))) fa_nil)))))) fb_nil)))
    (fs_one (fs_append (i := 2) rfl (pv 2) (fe_callTy call_tuple_of o_tupC (by rfl) z_tuple (by decide +kernel) (fb_cons (fe_lb (fe_lc (own := [("argument", 9), ("order", 10)]) rfl sc_probes.nd (fi_enum rfl (by rfl) z_enumerate (fb_cons (fe_var (pv 3)) fb_nil)) (blkOk_by (own := [("argument", 9), ("order", 10)]) (N := ["counts", "degree", "found", "choice", "variables", "numbers", "point", "variable", "number", "argument", "order"]) (sc := defScope st_probes) (by decide +kernel)) (fun _ _ _ _ _ => (fg_tup rfl rfl (fgs_cons (fg_name (pg_name (i := 9) sc_probes.nd rfl (by first | exact Or.inl rfl | exact Or.inr rfl))) (fgs_cons (fg_name (pg_name (i := 10) sc_probes.nd rfl (by first | exact Or.inl rfl | exact Or.inr rfl))) fgs_nil)))) (fun _ _ _ _ _ => fts_nil) (fun _ _ _ _ _ => (fe_cal c_text_between (hr.mono (by decide)) (by rfl) takes0 (fb_cons (fe_var (pv 9)) (fb_cons (fe_var (pv 10)) (fb_cons (fe_var (pv 6)) fb_nil))))))) fb_nil)))))))))
    (fs_one (fs_ret (fe_callTy call_tuple_of o_tupC (by rfl) z_tuple (by decide +kernel) (fb_cons (fe_var (pv 2)) fb_nil)))))))
abbrev st__law_same : Stmt := topS 32
theorem sc__law_same : FnScope ["told", "due", "k"] ["told", "due"] (defScope st__law_same) := ⟨rfl, rfl, rfl, by decide +kernel, rfl, by decide +kernel, by decide +kernel⟩
theorem ok__law_same (F : DefAt K mg "_law_same" st__law_same ["told", "due"]) (z_tuple : mg "tuple" = none) (z_isinstance : mg "isinstance" = none) (z_len : mg "len" = none) (z_range : mg "range" = none) (z_str : mg "str" = none) : ∀ k, Cal P w K mg base "_law_same" (0 + k + 1) ["told", "due"] (w__law_same k)
  | 0 => cal_zero F sc__law_same
  | k + 1 => by
    have c__law_same := ok__law_same F z_tuple z_isinstance z_len z_range z_str k
    refine cal_mk (r := r__law_same (w__law_same k)) (k := 0 + k + 1) F sc__law_same fun f cdv A outer s H E hr => ?_
    exact (fs_cons (fs_if (ft_val rfl (fe_lb (fe_isi rfl (fe_var (pv 1)) (pe_bltn (by rfl) z_tuple (by decide +kernel) rfl) (by rfl) z_isinstance))) (fs_cons (fs_if (PW.pt (fw_or (ft_not (ft_val rfl (fe_lb (fe_isi rfl (fe_var (pv 0)) (pe_bltn (by rfl) z_tuple (by decide +kernel) rfl) (by rfl) z_isinstance)))) (fw_one_or (ft_cmp op_ne o_ne (fe_lb (fe_callB call_len o_len (by rfl) z_len (by decide +kernel) (fb_cons (fe_var (pv 0)) fb_nil))) (fe_lb (fe_callB call_len o_len (by rfl) z_len (by decide +kernel) (fb_cons (fe_var (pv 1)) fb_nil))) (nomark _))))) (fs_one (fs_ret (fe_c pe_bl fun _ _ => .bl _))) fs_nil)
    (fs_cons (fs_for (vs := [2]) (passes_of rfl) rfl (fi_rng1 (by rfl) z_range (fb_cons (fe_lb (fe_callB call_len o_len (by rfl) z_len (by decide +kernel) (fb_cons (fe_var (pv 1)) fb_nil))) fb_nil)) (fg_name (pg_name (i := 2) sc__law_same.nd rfl (by first | exact Or.inl rfl | exact Or.inr rfl))) (fs_one (fs_if (ft_not (ft_val rfl (fe_lb (fe_cal c__law_same (hr.mono (by omega)) (by rfl) (takes_of rfl rfl rfl rfl) (fb_cons (fb_ix ix_seq o_ix (fe_var (pv 0)) (fe_var (pv 2)) (fun _ _ => rfl)) (fb_cons (fb_ix ix_seq o_ix (fe_var (pv 1)) (fe_var (pv 2)) (fun _ _ => rfl)) fb_nil)))))) (fs_one (fs_ret (fe_c pe_bl fun _ _ => .bl _))) fs_nil)))
    (fs_one (fs_ret (fe_c pe_bl fun _ _ => .bl _))))) fs_nil)
    (fs_one (fs_ret (fe_and (op := .And) (fe_isi rfl (fe_var (pv 0)) (pe_bltn (by rfl) z_str (by decide +kernel) rfl) (by rfl) z_isinstance) (fe_one (fe_cmp op_eq o_eq (fe_var (pv 0)) (fe_var (pv 1)) (nomark _)))))))
abbrev st__law_refused : Stmt := topS 39
theorem sc__law_refused : FnScope ["counts", "most", "due", "e"] ["counts", "most", "due"] (defScope st__law_refused) := ⟨rfl, rfl, rfl, by decide +kernel, rfl, by decide +kernel, by decide +kernel⟩
theorem ok__law_refused {C_TooMuch : Addr} (h_TooMuch : mg "TooMuch" = some (.ref C_TooMuch)) (x_TooMuch : ExcL K C_TooMuch "what") {C_PlainError : Addr} (h_PlainError : mg "PlainError" = some (.ref C_PlainError)) {C_BadText : Addr} (h_BadText : mg "BadText" = some (.ref C_BadText)) {C_Clash : Addr} (h_Clash : mg "Clash" = some (.ref C_Clash)) {C_Malformed : Addr} (h_Malformed : mg "Malformed" = some (.ref C_Malformed)) {C_Misfit : Addr} (h_Misfit : mg "Misfit" = some (.ref C_Misfit)) {C_NoStep : Addr} (h_NoStep : mg "NoStep" = some (.ref C_NoStep)) {C_NoSuch : Addr} (h_NoSuch : mg "NoSuch" = some (.ref C_NoSuch)) {C_NothingBack : Addr} (h_NothingBack : mg "NothingBack" = some (.ref C_NothingBack)) {C_Ring : Addr} (h_Ring : mg "Ring" = some (.ref C_Ring)) {C_Unbound : Addr} (h_Unbound : mg "Unbound" = some (.ref C_Unbound)) (i_TooMuch_ValueError : PySem.W.kitOne K (.ref C_TooMuch) (.type "ValueError") = some true) (i_TooMuch_PlainError : PySem.W.kitOne K (.ref C_TooMuch) (.ref C_PlainError) = some true) (i_TooMuch_BadText_Clash_Malformed_Misfit_NoStep_NoSuch_NothingBack_Ring_Unbound : PySem.W.kitAny K (.ref C_TooMuch) [.ref C_BadText, .ref C_Clash, .ref C_Malformed, .ref C_Misfit, .ref C_NoStep, .ref C_NoSuch, .ref C_NothingBack, .ref C_Ring, .ref C_Unbound] = some false) (m_TooMuch_TooMuch : PySem.W.exmOne K (.ref C_TooMuch) (.ref C_TooMuch) = some true) (F : DefAt K mg "_law_refused" st__law_refused ["counts", "most", "due"]) (c_probes : Cal P w K mg base "probes" 5 ["counts", "degree"] w_probes) (z_ValueError : mg "ValueError" = none) (z_isinstance : mg "isinstance" = none) (z_str : mg "str" = none) : Cal P w K mg base "_law_refused" 6 ["counts", "most", "due"] w__law_refused := by
  refine cal_mk (r := r__law_refused) F sc__law_refused fun f cdv A outer s H E hr => ?_
  exact (fs_cons (fs_try (C := C_TooMuch) (cv := .ref C_TooMuch) h_TooMuch rfl rfl sc__law_refused.nd rfl rfl ⟨by rfl, by decide, .inl h_TooMuch⟩ m_TooMuch_TooMuch (fun _ _ _ tk ps => (fs_one (fs_expr (fe_lb (fe_cal c_probes (hr.mono (by decide)) (by rfl) tk (fb_cons (fe_var (pv 0)) (fb_cons (fe_var (pv 1)) fb_nil))))))) (fun a oe dd pn d ct => (fs_cons (fs_if (PW.pt (fw_or (ft_not (ft_val rfl (fe_lb (fe_isE1 (c := .ref C_PlainError) ct x_TooMuch.ec (fe_var (pv 3)) (pe_glob (v := .ref C_PlainError) (by rfl) (h_PlainError) rfl) (.own _) i_TooMuch_PlainError (by rfl) z_isinstance)))) (fw_one_or (ft_not (ft_val rfl (fe_lb (fe_isE1 (c := .ty "ValueError") ct x_TooMuch.ec (fe_var (pv 3)) (pe_bltn (by rfl) z_ValueError (by decide +kernel) rfl) (.ty _) i_TooMuch_ValueError (by rfl) z_isinstance))))))) (fs_one (fs_ret (fe_c pe_bl fun _ _ => .bl _))) fs_nil)
    (fs_cons (fs_if (ft_val rfl (fe_lb (fe_isE2 (cs := [.ref C_BadText, .ref C_Clash, .ref C_Malformed, .ref C_Misfit, .ref C_NoStep, .ref C_NoSuch, .ref C_NothingBack, .ref C_Ring, .ref C_Unbound]) ct x_TooMuch.ec (fe_var (pv 3)) (pa_cons (pe_glob (v := .ref C_BadText) (by rfl) (h_BadText) rfl) (pa_cons (pe_glob (v := .ref C_Clash) (by rfl) (h_Clash) rfl) (pa_cons (pe_glob (v := .ref C_Malformed) (by rfl) (h_Malformed) rfl) (pa_cons (pe_glob (v := .ref C_Misfit) (by rfl) (h_Misfit) rfl) (pa_cons (pe_glob (v := .ref C_NoStep) (by rfl) (h_NoStep) rfl) (pa_cons (pe_glob (v := .ref C_NoSuch) (by rfl) (h_NoSuch) rfl) (pa_cons (pe_glob (v := .ref C_NothingBack) (by rfl) (h_NothingBack) rfl) (pa_cons (pe_glob (v := .ref C_Ring) (by rfl) (h_Ring) rfl) (pa_cons (pe_glob (v := .ref C_Unbound) (by rfl) (h_Unbound) rfl) pa_nil))))))))) (fun _ _ _ h => h) (by show 9 ≤ sizeLine; decide) (.cons (.own _) (.cons (.own _) (.cons (.own _) (.cons (.own _) (.cons (.own _) (.cons (.own _) (.cons (.own _) (.cons (.own _) (.cons (.own _) .nil))))))))) i_TooMuch_BadText_Clash_Malformed_Misfit_NoStep_NoSuch_NothingBack_Ring_Unbound (by rfl) z_isinstance))) (fs_one (fs_ret (fe_c pe_bl fun _ _ => .bl _))) fs_nil)
    (fs_one (fs_ret (fe_and (op := .And) (fe_isi rfl (fe_lb (fe_xf ct x_TooMuch.xf x_TooMuch.own (fe_var (pv 3)))) (pe_bltn (by rfl) z_str (by decide +kernel) rfl) (by rfl) z_isinstance) (fe_one (fe_cmp op_eq o_eq (fe_lb (fe_xf ct x_TooMuch.xf x_TooMuch.own (fe_var (pv 3)))) (fe_var (pv 2)) (nomark _))))))))))
    (fs_one (fs_ret (fe_c pe_bl fun _ _ => .bl _))))
abbrev st__law_holds : Stmt := topS 40
theorem sc__law_holds : FnScope ["counts", "most"] ["counts", "most"] (defScope st__law_holds) := ⟨rfl, rfl, rfl, by decide +kernel, rfl, by decide +kernel, by decide +kernel⟩
theorem ok__law_holds (F : DefAt K mg "_law_holds" st__law_holds ["counts", "most"]) (c__law_many : Cal P w K mg base "_law_many" 1 ["counts", "most"] w__law_many) (c__law_refused : Cal P w K mg base "_law_refused" 6 ["counts", "most", "due"] w__law_refused) (c__law_due : Cal P w K mg base "_law_due" 2 ["counts", "most"] w__law_due) (c_probes : Cal P w K mg base "probes" 5 ["counts", "degree"] w_probes) (c__law_same : Cal P w K mg base "_law_same" 6 ["told", "due"] (w__law_same 5)) : Cal P w K mg base "_law_holds" 7 ["counts", "most"] w__law_holds := by
  refine cal_mk (r := r__law_holds) F sc__law_holds fun f cdv A outer s H E hr => ?_
  exact (fs_cons (fs_if (ft_cmp op_gt o_gt (fe_lb (fe_cal c__law_many (hr.mono (by decide)) (by rfl) (takes_of rfl rfl rfl rfl) (fb_cons (fe_var (pv 0)) (fb_cons (fe_lb (fe_c pe_int fun _ _ => .int _)) fb_nil)))) (fe_lb (fe_c pe_int fun _ _ => .int _)) (nomark _)) (fs_one (fs_ret (fe_cal c__law_refused (hr.mono (by decide)) (by rfl) (takes_of rfl rfl rfl rfl) (fb_cons (fe_var (pv 0)) (fb_cons (fe_var (pv 1)) (fb_cons (fe_lb (fe_c pe_str fun _ _ => FD.str' (by decide +kernel))) fb_nil)))))) fs_nil)
    (fs_cons (fs_if (ft_cmp op_gt o_gt (fe_lb (fe_cal c__law_many (hr.mono (by decide)) (by rfl) (takes_of rfl rfl rfl rfl) (fb_cons (fe_var (pv 0)) (fb_cons (fe_var (pv 1)) fb_nil)))) (fe_lb (fe_c pe_int fun _ _ => .int _)) (nomark _)) (fs_one (fs_ret (fe_cal c__law_refused (hr.mono (by decide)) (by rfl) (takes_of rfl rfl rfl rfl) (fb_cons (fe_var (pv 0)) (fb_cons (fe_var (pv 1)) (fb_cons (fe_lb (fe_c pe_str fun _ _ => FD.str' (by decide +kernel))) fb_nil)))))) fs_nil)
    (fs_one (fs_ret (fe_cal c__law_same (hr.mono (by decide)) (by rfl) (takes_of rfl rfl rfl rfl) (fb_cons (fe_lb (fe_cal c_probes (hr.mono (by decide)) (by rfl) (takes_of rfl rfl rfl rfl) (fb_cons (fe_var (pv 0)) (fb_cons (fe_var (pv 1)) fb_nil)))) (fb_cons (fe_lb (fe_cal c__law_due (hr.mono (by decide)) (by rfl) (takes_of rfl rfl rfl rfl) (fb_cons (fe_var (pv 0)) (fb_cons (fe_var (pv 1)) fb_nil)))) fb_nil)))))))
abbrev st_law : Stmt := topS 41
theorem sc_law : FnScope ["script", "asked", "k", "question"] ["script"] (defScope st_law) := ⟨rfl, rfl, rfl, by decide +kernel, rfl, by decide +kernel, by decide +kernel⟩
theorem ok_law {f : Addr} {fd : FuncData} (F : Fun K "law" "law" st_law f fd) (c__law_cell : Cal P w K mg base "_law_cell" 1 ["script", "k"] w__law_cell) (c__law_question : Cal P w K mg base "_law_question" 3 ["cell", "whole"] w__law_question) (c__law_holds : Cal P w K mg base "_law_holds" 7 ["counts", "most"] w__law_holds) (z_range : mg "range" = none) : FnOk P w K mg base (L2.CX P w) 8 f fd ["script"] (LF ⟨K, mg⟩ w_law) := by
  refine fn_ok (r := r_law) F sc_law fun cdv A outer s H E hr => ?_
  exact (fs_cons (fs_set (i := 1) sc_law.nd rfl (by first | exact Or.inl rfl | exact Or.inr rfl) (fe_lst fa_nil))
    (fs_cons (fs_for (vs := [2]) (passes_of rfl) rfl (fi_rng1 (by rfl) z_range (fb_cons (fe_lb (fe_c pe_int fun _ _ => .int _)) fb_nil)) (fg_name (pg_name (i := 2) sc_law.nd rfl (by first | exact Or.inl rfl | exact Or.inr rfl))) (fs_one (fs_append (i := 1) rfl (pv 1) (fe_frz (fe_cal c__law_question (hr.mono (by decide)) (by rfl) (takes_of rfl rfl rfl rfl) (fb_cons (fe_lb (fe_cal c__law_cell (hr.mono (by decide)) (by rfl) (takes_of rfl rfl rfl rfl) (fb_cons (fe_var (pv 0)) (fb_cons (fe_var (pv 2)) fb_nil)))) (fb_cons (fe_lb (fe_cmp op_eq o_eq (fe_var (pv 2)) (fe_lb (fe_c pe_int fun _ _ => .int _)) (nomark _))) fb_nil)))))))
    (fs_cons (fs_append (i := 1) rfl (pv 1) (fe_dat (fb_ix ix_seq o_ix (fe_var (pv 1)) (fe_lb (fe_c pe_int fun _ _ => .int _)) (fun _ _ => rfl))))
    (fs_fz (i := 1) (fs_cons (fs_for (vs := [3]) (passes_of rfl) rfl (fi_any rfl (fe_var (pv 1))) (fg_name (pg_name (i := 3) sc_law.nd rfl (by first | exact Or.inl rfl | exact Or.inr rfl))) (fs_one (fs_if (ft_not (ft_val rfl (fe_lb (fe_cal c__law_holds (hr.mono (by decide)) (by rfl) (takes_of rfl rfl rfl rfl) (fb_cons (fb_ix ix_seq o_ix (fe_var (pv 3)) (fe_lb (fe_c pe_int fun _ _ => .int _)) (fun _ _ => rfl)) (fb_cons (fb_ix ix_seq o_ix (fe_var (pv 3)) (fe_lb (fe_c pe_int fun _ _ => .int _)) (fun _ _ => rfl)) fb_nil)))))) (fs_one (fs_ret (fe_c pe_bl fun _ _ => .bl _))) fs_nil)))
    (fs_one (fs_ret (fe_c pe_bl fun _ _ => .bl _))))))))
end
end K48
namespace K48
open PySem L2 L2.Fn
local macro_rules | `(tactic| walk_at "fx") => `(tactic| try simp only [mkW, fSeq, fAsg, gN, fC, fVar, fBin, fDat, fFrz, oAdd, oInt0, oInt, oIx, fIfS, fTru, oTru, fBl, fNot, fAnd, fOr, fNext, fRet, fRetV, fRetN, fLst, fTup, fNil, fCons, fCB, oLen, oIntC, oStrI, oTupC, oLstC, fApp, fSl, fPart, fNoP, oSl, fIf, fAndV, fOrV, fNotV, fIsi, M.ty, fM1, oIn, oEq, oNe, eqF, fDrop, fFor, fWalk, oWalk, fRng, oR1, oR2, fCall, fComp, fYes, wipeE, oCat, oRep,
  fComp2, oMulS, fNeg, oSum, fExt, M.sqD, oMin2, oI2, gTupP, gConsP, gNilP, fDict, fDSet, oDIx, oDIn, fDGet2, M.asD, oEnum, oZip, fFz,
  List.length_cons, List.length_nil, List.map_cons, List.map_nil, List.cons_append, List.nil_append, List.append_nil, blanks, List.getElem?_cons_zero, List.getElem?_cons_succ, List.set_cons_zero, List.set_cons_succ, Option.some.injEq, exists_eq_left', true_and, and_true, Nat.reduceSub, Nat.reduceAdd, Nat.reduceLT, Nat.lt_add_one, M.dat.injEq, D.bl.injEq, D.int.injEq, Nat.zero_lt_succ, Nat.succ_lt_succ_iff, Nat.zero_lt_one, exists_eq_left, List.getElem?_nil, Bool.false_bne, Bool.false_xor, decide_eq_true_eq,
  ex_nil, ex_cons, ex_map, toD_lst, toD_dat, dats_nil, dats_cons, ld_l, ld_dat, ld_lst, Option.map_some, ex_some, kitI isi_int_int, kitI isi_int_bool, kitI isi_str_str, kitI isi_tup_tup, kitI isi_str_tup, M.lst.injEq, List.length_map, Bool.not_true, Bool.not_false, Bool.false_eq_true, if_true, if_false, reduceIte, endOf_nx, endOf_rt, endOf_ex])
/-- so many digits, each below its size -/
def Digs (ds sizes : List Int) : Prop := ds.length = sizes.length ∧ ∀ (i : Nat) (d z : Int), ds[i]? = some d → sizes[i]? = some z → 0 ≤ d ∧ d < z
theorem digs_snoc {ds zs : List Int} {d z : Int} (h : Digs ds zs) (h0 : 0 ≤ d) (h1 : d < z) : Digs (ds ++ [d]) (zs ++ [z]) := by
  refine ⟨by simp [h.1], fun i a b ha hb => ?_⟩
  by_cases hi : i < ds.length
  · rw [List.getElem?_append_left hi] at ha
    rw [List.getElem?_append_left (by rw [← h.1]; exact hi)] at hb
    exact h.2 i a b ha hb
  · have e : i = ds.length := by
      have := (List.getElem?_eq_some_iff.mp ha).1
      simp at this
      omega
    subst e
    rw [List.getElem?_append_right (Nat.le_refl _)] at ha
    rw [List.getElem?_append_right (by rw [h.1]; exact Nat.le_refl _)] at hb
    simp at ha
    rw [h.1] at hb
    simp at hb
    subst ha hb
    exact ⟨h0, h1⟩
theorem digs_cons {ds zs : List Int} {z : Int} (h : Digs ds (z :: zs)) : ∃ d r, ds = d :: r ∧ 0 ≤ d ∧ d < z ∧ Digs r zs := by
  cases ds with
  | nil => have := h.1; simp at this
  | cons d r =>
    have h0 := h.2 0 d z rfl rfl
    exact ⟨d, r, rfl, h0.1, h0.2, by have := h.1; simp at this; exact this, fun i a b ha hb => h.2 (i + 1) a b (by simpa using ha) (by simpa using hb)⟩
theorem digits_ok (c : Int) (sizes : List Int) (S : Sto) (Q : WP) (E : XP) (hz : ∀ z ∈ sizes, 0 < z ∧ z.natAbs.log2 < 9000) (hl : sizes.length ≤ 1000)
    (h : ∀ ds, Digs ds sizes → Q (.lst ((ds.map D.int).map M.dat)) S) : w__law_digits [.int c, .lst (sizes.map D.int)] S Q E := by
  unfold w__law_digits r__law_digits
  walk_at "fx"
  refine ⟨small_line (by decide), ?_⟩
  unfold r__law_digits_7
  walk_at "fx"
  refine ⟨by decide, ?_⟩
  unfold r__law_digits_6
  walk_at "fx"
  refine ⟨⟨by decide, by decide, by decide⟩, ?_⟩
  unfold r__law_digits_5
  walk_at "fx"
  refine ⟨by omega, by omega, ?_⟩
  refine forW_by (fun l ρ S' => S' = S ∧ ∃ (k : Nat) (ds : List Int) (seed rest : Int) (x y : Option M), l = (rng 0 ((sizes.length : Int)).toNat).drop k ∧ k ≤ sizes.length ∧ Digs ds (sizes.take k) ∧ 0 ≤ seed ∧ seed < 2147483647 ∧
    ρ = [some (.dat (.int c)), some (.dat (.lst (sizes.map D.int))), some (.lst ((ds.map D.int).map M.dat)), some (.dat (.int seed)), some (.dat (.int rest)), x, y])
    ⟨rfl, 0, [], _, _, none, none, rfl, Nat.zero_le _, ⟨by simp, fun i a b ha _ => by simp at ha⟩, Int.emod_nonneg _ (by decide), Int.lt_trans (Int.emod_lt_of_pos _ (by decide)) (by decide), rfl⟩ ?_ ?_
  · rintro ρ S' ⟨rfl, k, ds, seed, rest, x, y, e1, hk, hd, h0, h1, rfl⟩
    have e2 := rng_end (by simpa using hk) e1
    have e3 : k = sizes.length := by simpa using e2
    subst e3
    rw [List.take_length] at hd
    unfold r__law_digits_4
    walk_at "fx"
    exact h ds hd
  · rintro d l ρ S' ih ⟨rfl, k, ds, seed, rest, x, y, e1, hk, hd, h0, h1, rfl⟩
    obtain ⟨hlt', rfl, e2⟩ := rng_step e1
    have hlt : k < sizes.length := by simpa using hlt'
    have hz0 : (0 : Int) + (k : Int) = (k : Int) := by omega
    walk_at "fx"
    rw [hz0]
    have hz' := hz sizes[k] (List.getElem_mem hlt)
    have hat : atI (sizes.map D.int) (k : Int) = some (.int sizes[k]) := atI_n (by rw [List.getElem?_map, List.getElem?_eq_getElem hlt]; rfl)
    have x1 := Int.emod_nonneg (seed * 48271 + 974711 * k + 12345) (show (2147483647 : Int) ≠ 0 by decide)
    have x2 := Int.emod_lt_of_pos (seed * 48271 + 974711 * k + 12345) (show (0 : Int) < 2147483647 by decide)
    refine ⟨cmulS (by omega) (by omega) (by decide) (by decide), cmulS (by decide) (by decide) (by omega) (by omega), by decide, ?_⟩
    generalize hs' : (seed * 48271 + 974711 * (k : Int) + 12345) % 2147483647 = seed' at x1 x2
    have lenk : ds.length = k := by have := hd.1; rw [List.length_take] at this; omega
    have snoc : ∀ v : Int, Digs (ds ++ [v % sizes[k]]) (sizes.take (k + 1)) := fun v => by
      rw [List.take_succ_eq_append_getElem hlt]
      exact digs_snoc hd (Int.emod_nonneg _ (by omega)) (Int.emod_lt_of_pos _ hz'.1)
    generalize hW : forW (gN 5) _ _ l = W at ih ⊢
    unfold r__law_digits_3
    walk_at "fx"
    refine ite2 (fun g => ?_) fun g => ?_
    · refine ⟨small_line' (by omega), _, hat, ?_⟩
      walk_at "fx"
      refine ⟨hz'.1, ?_⟩
      unfold r__law_digits_1
      walk_at "fx"
      refine ⟨_, hat, ?_⟩
      walk_at "fx"
      refine ⟨⟨hz'.1, hz'.2⟩, ?_⟩
      exact ih _ _ ⟨rfl, k + 1, ds ++ [rest % sizes[k]], seed', rest / sizes[k], some (.dat (.int k)), y, e2, hlt, snoc rest, x1, x2, by simp⟩
    · have x3 : seed' / 65537 < 40000 := Int.ediv_lt_of_lt_mul (by decide) (by omega)
      have x4 : 0 ≤ seed' / 65537 := Int.ediv_nonneg x1 (by decide)
      refine ⟨⟨by decide, by decide⟩, cmulS (by omega) (by omega) (by omega) (by omega), by decide, ?_⟩
      have t0 := Int.emod_nonneg (seed' * (seed' / 65537 + 3)) (show (2147483629 : Int) ≠ 0 by decide)
      have t1 := Int.emod_lt_of_pos (seed' * (seed' / 65537 + 3)) (show (0 : Int) < 2147483629 by decide)
      generalize seed' * (seed' / 65537 + 3) % 2147483629 = tw at t0 t1
      unfold r__law_digits_2
      walk_at "fx"
      refine ⟨small_line' (by omega), cmulS (by omega) (by omega) (by decide) (by decide), ⟨by decide, by decide⟩, _, hat, ?_⟩
      walk_at "fx"
      refine ⟨hz'.1, ?_⟩
      exact ih _ _ ⟨rfl, k + 1, ds ++ [(tw * 2147483647 + seed') / 19 % sizes[k]], seed', rest, some (.dat (.int k)), some (.dat (.int tw)), e2, hlt, snoc _, x1, x2, by simp⟩
inductive TT : Nat → D → Prop where
  | str (n : Nat) (s : List Nat) : TT (n + 1) (.str s)
  | tup (n : Nat) (ds : List D) : ds.length ≤ 16000000 → (∀ d ∈ ds, TT n d) → TT (n + 1) (.tup ds)
theorem same_ok (S : Sto) (E : XP) : ∀ (n : Nat) (d : D) (Q : WP), TT n d → Q (.dat (.bl true)) S → w__law_same n [d, d] S Q E
  | 0, d, Q, t, h => by cases t
  | n + 1, d, Q, t, h => by
    unfold w__law_same r__law_same
    cases t with
    | str _ s =>
      walk_at "fx"
      unfold r__law_same_3
      walk_at "fx"
      rw [decide_eq_true trivial]
      exact h
    | tup _ ds hl hd =>
      walk_at "fx"
      rw [decide_eq_true trivial]
      walk_at "fx"
      unfold r__law_same_2
      walk_at "fx"
      refine ⟨by omega, by omega, ?_⟩
      refine forW_by (fun l ρ S' => S' = S ∧ ∃ (k : Nat) (x : Option M), l = (rng 0 ((ds.length : Int)).toNat).drop k ∧ ρ = [some (.dat (.tup ds)), some (.dat (.tup ds)), x]) ⟨rfl, 0, none, rfl, rfl⟩ ?_ ?_
      · rintro ρ S' ⟨rfl, k, x, e, rfl⟩
        unfold r__law_same_1
        walk_at "fx"
        exact h
      · rintro d l ρ S' ih ⟨rfl, k, x, e, rfl⟩
        obtain ⟨hlt, rfl, e2⟩ := rng_step e
        have hk : k < ds.length := by simpa using hlt
        have hz0 : (0 : Int) + (k : Int) = (k : Int) := by omega
        walk_at "fx"
        rw [hz0]
        have hat : atI ds (k : Int) = some ds[k] := atI_n (List.getElem?_eq_getElem hk)
        refine ⟨_, hat, _, hat, ?_⟩
        refine same_ok _ _ n ds[k] _ (hd _ (List.getElem_mem hk)) ?_
        walk_at "fx"
        exact ih _ _ ⟨rfl, k + 1, _, e2, rfl⟩
end K48
namespace K48
open PySem L2 L2.Fn
local macro_rules | `(tactic| walk_at "fx") => `(tactic| try simp only [mkW, fSeq, fAsg, gN, fC, fVar, fBin, fDat, fFrz, oAdd, oInt0, oInt, oIx, fIfS, fTru, oTru, fBl, fNot, fAnd, fOr, fNext, fRet, fRetV, fRetN, fLst, fTup, fNil, fCons, fCB, oLen, oIntC, oStrI, oTupC, oLstC, fApp, fSl, fPart, fNoP, oSl, fIf, fAndV, fOrV, fNotV, fIsi, M.ty, fM1, oIn, oEq, oNe, eqF, fDrop, fFor, fWalk, oWalk, fRng, oR1, oR2, fCall, fComp, fYes, wipeE, oCat, oRep,
  fComp2, oMulS, fNeg, oSum, fExt, M.sqD, oMin2, oI2, gTupP, gConsP, gNilP, fDict, fDSet, oDIx, oDIn, fDGet2, M.asD, oEnum, oZip, fFz,
  List.length_cons, List.length_nil, List.map_cons, List.map_nil, List.cons_append, List.nil_append, List.append_nil, blanks, List.getElem?_cons_zero, List.getElem?_cons_succ, List.set_cons_zero, List.set_cons_succ, Option.some.injEq, exists_eq_left', true_and, and_true, Nat.reduceSub, Nat.reduceAdd, Nat.reduceLT, Nat.lt_add_one, M.dat.injEq, D.bl.injEq, D.int.injEq, Nat.zero_lt_succ, Nat.succ_lt_succ_iff, Nat.zero_lt_one, exists_eq_left, List.getElem?_nil, Bool.false_bne, Bool.false_xor, decide_eq_true_eq,
  ex_nil, ex_cons, ex_map, toD_lst, toD_dat, dats_nil, dats_cons, ld_l, ld_dat, ld_lst, Option.map_some, ex_some, kitI isi_int_int, kitI isi_int_bool, kitI isi_str_str, kitI isi_tup_tup, kitI isi_str_tup, M.lst.injEq, List.length_map, Bool.not_true, Bool.not_false, Bool.false_eq_true, if_true, if_false, reduceIte, endOf_nx, endOf_rt, endOf_ex])
def LET : List Nat := [97, 98, 99, 100, 101]
/-- one letter more on each -/
def stepO (c : Nat) (L : List (List Nat)) : List (List Nat) := L.flatMap fun o => ((LET.take c).filter fun l => decide (l ∉ o)).map fun l => o ++ [l]
def layerO (c : Nat) : Nat → List (List Nat)
  | 0 => [[]]
  | k + 1 => stepO c (layerO c k)
def foundO (c : Nat) : Nat → List (List Nat)
  | 0 => [[]]
  | k + 1 => foundO c k ++ layerO c (k + 1)
def ordersN (c : Nat) : List (List Nat) := foundO c c
theorem stepO_len (c : Nat) (L : List (List Nat)) : (stepO c L).length ≤ 5 * L.length := by
  unfold stepO
  induction L with
  | nil => simp
  | cons o L ih =>
    rw [List.flatMap_cons, List.length_append, List.length_map, List.length_cons]
    have h1 : ((LET.take c).filter fun l => decide (l ∉ o)).length ≤ 5 := Nat.le_trans (List.length_filter_le _ _) (by rw [List.length_take]; exact Nat.min_le_right _ _)
    omega
theorem layerO_len (c : Nat) : ∀ k, (layerO c k).length ≤ 5 ^ k
  | 0 => by simp [layerO]
  | k + 1 => by
    have := stepO_len c (layerO c k)
    have h2 := layerO_len c k
    rw [layerO, Nat.pow_succ]
    omega
theorem layerO_text (c : Nat) : ∀ k, ∀ o ∈ layerO c k, o.length = k
  | 0, o, h => by simp [layerO] at h; rw [h]; rfl
  | k + 1, o, h => by
    rw [layerO, stepO] at h
    obtain ⟨p, hp, h⟩ := List.mem_flatMap.mp h
    obtain ⟨l, hl, rfl⟩ := List.mem_map.mp h
    have := layerO_text c k p hp
    simp [this]
theorem foundO_len (c : Nat) : ∀ k, (foundO c k).length ≤ (k + 1) * 5 ^ k
  | 0 => by simp [foundO]
  | k + 1 => by
    have h1 := foundO_len c k
    have h2 := layerO_len c (k + 1)
    rw [foundO, List.length_append]
    have h3 : (k + 1) * 5 ^ k ≤ (k + 1) * 5 ^ (k + 1) := Nat.mul_le_mul_left _ (Nat.pow_le_pow_right (by decide) (Nat.le_succ k))
    have h4 : (k + 1 + 1) * 5 ^ (k + 1) = (k + 1) * 5 ^ (k + 1) + 5 ^ (k + 1) := by rw [Nat.succ_mul]
    omega
theorem small5 {k : Nat} (h : k ≤ 5) : 5 ^ k ≤ 3125 ∧ (k + 1) * 5 ^ k ≤ 18750 := by
  have : k = 0 ∨ k = 1 ∨ k = 2 ∨ k = 3 ∨ k = 4 ∨ k = 5 := by omega
  rcases this with h | h | h | h | h | h <;> subst h <;> decide
theorem stepO_app (c : Nat) (L M : List (List Nat)) : stepO c (L ++ M) = stepO c L ++ stepO c M := by
  unfold stepO
  rw [List.flatMap_append]
theorem orders_ok (c : Nat) (S : Sto) (Q : WP) (E : XP) (hc : c ≤ 5) (h : Q (.dat (.tup ((ordersN c).map D.str))) S) : w_orders [.int c] S Q E := by
  unfold w_orders r_orders
  walk_at "fx"
  refine ⟨small_line (by decide), ?_⟩
  unfold r_orders_4
  walk_at "fx"
  refine ⟨small_line (by decide), ?_⟩
  unfold r_orders_3
  walk_at "fx"
  refine ⟨by omega, by omega, ?_⟩
  refine forW_by (fun l ρ S' => S' = S ∧ ∃ (k : Nat) (x : Option M), l = (rng 0 ((c : Int)).toNat).drop k ∧ k ≤ c ∧ ρ = [some (.dat (.int c)), some (.dat (.lst ((foundO c k).map D.str))), some (.dat (.lst ((layerO c k).map D.str))), x, none, none]) ⟨rfl, 0, none, rfl, Nat.zero_le _, ?_⟩ ?_ ?_
  · rfl
  · rintro ρ S' ⟨rfl, k, x, e, hk, rfl⟩
    have e2 := rng_end (by simpa using hk) e
    have e3 : k = c := by simpa using e2
    subst e3
    unfold r_orders_2
    walk_at "fx"
    exact h
  · rintro d l ρ S' ih ⟨rfl, k, x, e, hk, rfl⟩
    obtain ⟨hlt, rfl, e2⟩ := rng_step e
    have hk' : k < c := by simpa using hlt
    generalize hW : forW (gN 3) _ _ l = W at ih ⊢
    walk_at "fx"
    refine compW2_by (fun ds acc S2 => S2 = S' ∧ ∃ L1 L2, layerO c k = L1 ++ L2 ∧ ds = L2.map D.str ∧ acc = ((stepO c L1).map D.str).map M.dat) ⟨rfl, [], _, rfl, rfl, rfl⟩ ?_ ?_
    · rintro acc S2 ⟨rfl, L1, L2, e1, e3, rfl⟩
      have e4 : L2 = [] := by cases L2 with
        | nil => rfl
        | cons a b => simp at e3
      rw [e4, List.append_nil] at e1
      rw [← e1]
      unfold r_orders_1
      walk_at "fx"
      have b1 := small5 (Nat.le_trans hk hc)
      have b2 := foundO_len c k
      have b3 := layerO_len c (k + 1)
      rw [layerO, Nat.pow_succ] at b3
      refine ⟨small_line (by omega), ?_⟩
      exact ih _ _ ⟨rfl, k + 1, _, e2, hk', by rw [foundO, layerO, List.map_append]⟩
    · rintro d ds acc S2 ih2 ⟨rfl, L1, L2, e1, e3, rfl⟩
      cases L2 with
      | nil => simp at e3
      | cons o L2 =>
        rw [List.map_cons] at e3
        injection e3 with e3 e4
        subst e3 e4
        generalize hW2 : compW2 (gN 4) fYes _ _ _ _ _ _ _ _ (L2.map D.str) = W2 at ih2 ⊢
        walk_at "fx"
        show _ ∧ innerW (gN 5) _ _ _ _ _ _ _ _
        refine ⟨by decide, ?_⟩
        have hcut : (cutN [97, 98, 99, 100, 101] none (some (c : Int))) = LET.take c := by
          have : c = 0 ∨ c = 1 ∨ c = 2 ∨ c = 3 ∨ c = 4 ∨ c = 5 := by omega
          rcases this with h | h | h | h | h | h <;> subst h <;> rfl
        rw [hcut]
        refine innerW_by (fun es acc S3 => S3 = S2 ∧ ∃ P1 P2, LET.take c = P1 ++ P2 ∧ es = P2.map (fun l => D.str [l]) ∧ acc = ((stepO c L1 ++ ((P1.filter fun l => decide (l ∉ o)).map fun l => o ++ [l])).map D.str).map M.dat) ⟨rfl, [], _, rfl, rfl, by simp⟩ ?_ ?_
        · rintro acc S3 ⟨rfl, P1, P2, f1, f3, rfl⟩
          have f4 : P2 = [] := by cases P2 with
            | nil => rfl
            | cons a b => simp at f3
          rw [f4, List.append_nil] at f1
          rw [← f1]
          exact ih2 _ _ ⟨rfl, L1 ++ [o], L2, by rw [e1]; simp, rfl, by rw [stepO_app]; simp [stepO]⟩
        · rintro d ds acc S3 ih3 ⟨rfl, P1, P2, f1, f3, rfl⟩
          cases P2 with
          | nil => simp at f3
          | cons p P2 =>
            rw [List.map_cons] at f3
            injection f3 with f3 f4
            subst f3 f4
            walk_at "fx"
            have o1 : o.length = k := layerO_text c k o (by rw [e1]; simp)
            have b0 := stepO_len c L1
            have b1 : L1.length ≤ 5 ^ k := by
              have := layerO_len c k
              rw [e1, List.length_append] at this
              omega
            have b2 := small5 (Nat.le_trans hk hc)
            have b3 : (P1.filter fun l => decide (l ∉ o)).length ≤ 5 := by
              have h1 := List.length_filter_le (fun l => decide (l ∉ o)) P1
              have h2 : P1.length ≤ 5 := by
                have h3 := congrArg List.length f1
                rw [List.length_take, List.length_append] at h3
                have h4 : LET.length = 5 := rfl
                omega
              omega
            by_cases g : p ∈ o
            · rw [if_neg (by simp [g])]
              exact ih3 _ _ ⟨rfl, P1 ++ [p], P2, by rw [f1]; simp, rfl, by simp [g]⟩
            · rw [if_pos (by simp [g])]
              refine ⟨small_line (by omega), small_line' (by rw [List.length_append, List.length_map]; omega), ?_⟩
              exact ih3 _ _ ⟨rfl, P1 ++ [p], P2, by rw [f1]; simp, rfl, by simp [g]⟩
theorem lorders_ok (c : Nat) (S : Sto) (Q : WP) (E : XP) (hc : c ≤ 5) (h : Q (.dat (.lst ((ordersN c).map D.str))) S) : w__law_orders [.int c] S Q E := by
  unfold w__law_orders r__law_orders
  walk_at "fx"
  refine ⟨small_line (by decide), ?_⟩
  unfold r__law_orders_6
  walk_at "fx"
  refine ⟨small_line (by decide), ?_⟩
  unfold r__law_orders_5
  walk_at "fx"
  refine ⟨by omega, by omega, ?_⟩
  refine forW_by (fun l ρ S' => S' = S ∧ ∃ (k : Nat) (x y z w : Option M), l = (rng 0 ((c : Int)).toNat).drop k ∧ k ≤ c ∧ ρ = [some (.dat (.int c)), some (.dat (.lst ((foundO c k).map D.str))), some (.dat (.lst ((layerO c k).map D.str))), x, y, z, w]) ⟨rfl, 0, none, none, none, none, rfl, Nat.zero_le _, ?_⟩ ?_ ?_
  · rfl
  · rintro ρ S' ⟨rfl, k, x, y, z, w, e, hk, rfl⟩
    have e2 := rng_end (by simpa using hk) e
    have e3 : k = c := by simpa using e2
    subst e3
    unfold r__law_orders_4
    walk_at "fx"
    exact h
  · rintro d l ρ S' ih ⟨rfl, k, x, y, z, w, e, hk, rfl⟩
    obtain ⟨hlt, rfl, e2⟩ := rng_step e
    have hk' : k < c := by simpa using hlt
    generalize hW : forW (gN 3) _ _ l = W at ih ⊢
    walk_at "fx"
    unfold r__law_orders_3
    walk_at "fx"
    have hcut : (cutN [97, 98, 99, 100, 101] none (some (c : Int))) = LET.take c := by
      have : c = 0 ∨ c = 1 ∨ c = 2 ∨ c = 3 ∨ c = 4 ∨ c = 5 := by omega
      rcases this with h | h | h | h | h | h <;> subst h <;> rfl
    refine ⟨small_line (by decide), ?_⟩
    refine forW_by (fun ds ρ S2 => S2 = S' ∧ ∃ L1 L2 y z, layerO c k = L1 ++ L2 ∧ ds = L2.map D.str ∧ ρ = [some (.dat (.int c)), some (.dat (.lst ((foundO c k).map D.str))), some (.dat (.lst ((layerO c k).map D.str))), some (.dat (.int (0 + (k : Int)))), some (.lst (((stepO c L1).map D.str).map M.dat)), y, z]) ⟨rfl, [], _, _, _, rfl, rfl, rfl⟩ ?_ ?_
    · rintro ρ S2 ⟨rfl, L1, L2, y, z, e1, e3, rfl⟩
      have e4 : L2 = [] := by cases L2 with
        | nil => rfl
        | cons a b => simp at e3
      rw [e4, List.append_nil] at e1
      rw [← e1]
      unfold r__law_orders_2
      walk_at "fx"
      unfold r__law_orders_1
      walk_at "fx"
      have b1 := small5 (Nat.le_trans hk hc)
      have b2 := foundO_len c k
      have b3 := layerO_len c (k + 1)
      rw [layerO, Nat.pow_succ] at b3
      refine ⟨_, dats_map _, by rw [List.length_map]; exact small_line (by omega), ?_⟩
      exact ih _ _ ⟨rfl, k + 1, _, _, _, _, e2, hk', by rw [foundO, layerO, List.map_append]⟩
    · rintro d ds ρ S2 ih2 ⟨rfl, L1, L2, y, z, e1, e3, rfl⟩
      cases L2 with
      | nil => simp at e3
      | cons o L2 =>
        rw [List.map_cons] at e3
        injection e3 with e3 e4
        subst e3 e4
        generalize hW2 : forW (gN 5) _ _ (L2.map D.str) = W2 at ih2 ⊢
        walk_at "fx"
        refine ⟨by decide, ?_⟩
        rw [hcut]
        refine forW_by (fun es ρ S3 => S3 = S2 ∧ ∃ P1 P2 z, LET.take c = P1 ++ P2 ∧ es = P2.map (fun l => D.str [l]) ∧ ρ = [some (.dat (.int c)), some (.dat (.lst ((foundO c k).map D.str))), some (.dat (.lst ((layerO c k).map D.str))), some (.dat (.int (0 + (k : Int)))), some (.lst (((stepO c L1 ++ ((P1.filter fun l => decide (l ∉ o)).map fun l => o ++ [l])).map D.str).map M.dat)), some (.dat (.str o)), z]) ⟨rfl, [], _, z, rfl, rfl, by simp⟩ ?_ ?_
        · rintro ρ S3 ⟨rfl, P1, P2, z, f1, f3, rfl⟩
          have f4 : P2 = [] := by cases P2 with
            | nil => rfl
            | cons a b => simp at f3
          rw [f4, List.append_nil] at f1
          rw [← f1]
          exact ih2 _ _ ⟨rfl, L1 ++ [o], L2, some (.dat (.str o)), z, by rw [e1]; simp, rfl, by rw [stepO_app]; simp [stepO]⟩
        · rintro d ds ρ S3 ih3 ⟨rfl, P1, P2, z, f1, f3, rfl⟩
          cases P2 with
          | nil => simp at f3
          | cons p P2 =>
            rw [List.map_cons] at f3
            injection f3 with f3 f4
            subst f3 f4
            generalize hW3 : forW (gN 6) _ _ (P2.map fun l => D.str [l]) = W3 at ih3 ⊢
            walk_at "fx"
            have o1 : o.length = k := layerO_text c k o (by rw [e1]; simp)
            have b0 := stepO_len c L1
            have b1 : L1.length ≤ 5 ^ k := by
              have := layerO_len c k
              rw [e1, List.length_append] at this
              omega
            have b2 := small5 (Nat.le_trans hk hc)
            have b3 : (P1.filter fun l => decide (l ∉ o)).length ≤ 5 := by
              have h1 := List.length_filter_le (fun l => decide (l ∉ o)) P1
              have h2 : P1.length ≤ 5 := by
                have h3 := congrArg List.length f1
                rw [List.length_take, List.length_append] at h3
                have h4 : LET.length = 5 := rfl
                omega
              omega
            by_cases g : p ∈ o
            · rw [if_neg (by simp [g])]
              exact ih3 _ _ ⟨rfl, P1 ++ [p], P2, some (.dat (.str [p])), by rw [f1]; simp, rfl, by simp [g]⟩
            · rw [if_pos (by simp [g])]
              refine ⟨small_line' (by rw [List.length_append, List.length_map]; omega), small_line (by omega), ?_⟩
              exact ih3 _ _ ⟨rfl, P1 ++ [p], P2, some (.dat (.str [p])), by rw [f1]; simp, rfl, by rw [List.filter_append]; simp [g]⟩
end K48
namespace K48
open PySem L2 L2.Fn
local macro_rules | `(tactic| walk_at "fx") => `(tactic| try simp only [mkW, fSeq, fAsg, gN, fC, fVar, fBin, fDat, fFrz, oAdd, oInt0, oInt, oIx, fIfS, fTru, oTru, fBl, fNot, fAnd, fOr, fNext, fRet, fRetV, fRetN, fLst, fTup, fNil, fCons, fCB, oLen, oIntC, oStrI, oTupC, oLstC, fApp, fSl, fPart, fNoP, oSl, fIf, fAndV, fOrV, fNotV, fIsi, M.ty, fM1, oIn, oEq, oNe, eqF, fDrop, fFor, fWalk, oWalk, fRng, oR1, oR2, fCall, fComp, fYes, wipeE, oCat, oRep,
  fComp2, oMulS, fNeg, oSum, fExt, M.sqD, oMin2, oI2, gTupP, gConsP, gNilP, fDict, fDSet, oDIx, oDIn, fDGet2, M.asD, oEnum, oZip, fFz,
  List.length_cons, List.length_nil, List.map_cons, List.map_nil, List.cons_append, List.nil_append, List.append_nil, blanks, List.getElem?_cons_zero, List.getElem?_cons_succ, List.set_cons_zero, List.set_cons_succ, Option.some.injEq, exists_eq_left', true_and, and_true, Nat.reduceSub, Nat.reduceAdd, Nat.reduceLT, Nat.lt_add_one, M.dat.injEq, D.bl.injEq, D.int.injEq, Nat.zero_lt_succ, Nat.succ_lt_succ_iff, Nat.zero_lt_one, exists_eq_left, List.getElem?_nil, Bool.false_bne, Bool.false_xor, decide_eq_true_eq,
  ex_nil, ex_cons, ex_map, toD_lst, toD_dat, dats_nil, dats_cons, ld_l, ld_dat, ld_lst, Option.map_some, ex_some, kitI isi_int_int, kitI isi_int_bool, kitI isi_str_str, kitI isi_tup_tup, kitI isi_str_tup, M.lst.injEq, List.length_map, Bool.not_true, Bool.not_false, Bool.false_eq_true, if_true, if_false, reduceIte, endOf_nx, endOf_rt, endOf_ex])
theorem cell_ok (ns : List Int) (k : Int) (S : Sto) (Q : WP) (E : XP) (h0 : 0 ≤ k) (h1 : k < 1000000) (h : ∀ c : Int, Q (.dat (.int c)) S) : w__law_cell [.lst (ns.map D.int), .int k] S Q E := by
  unfold w__law_cell r__law_cell
  walk_at "fx"
  by_cases hk : k < (ns.length : Int)
  · rw [if_pos (by simpa using hk)]
    have hlt : k.toNat < ns.length := by omega
    exact ⟨_, atI_i h0 (by rw [List.getElem?_map, List.getElem?_eq_getElem hlt]; rfl), h _⟩
  · rw [if_neg (by simpa using hk)]
    unfold r__law_cell_3
    walk_at "fx"
    unfold r__law_cell_2
    walk_at "fx"
    refine forW_by (fun l ρ S' => S' = S ∧ ∃ (zs : List Int) (seed : Int) (x : Option M), l = zs.map D.int ∧ 0 ≤ seed ∧ seed < 1000003 ∧ ρ = [some (.dat (.lst (ns.map D.int))), some (.dat (.int k)), some (.dat (.int seed)), x])
      ⟨rfl, ns, 17, none, rfl, by decide, by decide, rfl⟩ ?_ ?_
    · rintro ρ S' ⟨rfl, zs, seed, x, e, h2, h3, rfl⟩
      unfold r__law_cell_1
      walk_at "fx"
      exact ⟨cmulS (by omega) (by omega) (by omega) (by omega), cmulS (by
        have : 0 ≤ (seed + 7) * (k + 3) := Int.mul_nonneg (by omega) (by omega)
        omega) (by
        have : (seed + 7) * (k + 3) ≤ 2000000 * 2000000 := Int.mul_le_mul (by omega) (by omega) (by omega) (by decide)
        omega) (by decide) (by decide), by decide, h _⟩
    · rintro d l ρ S' ih ⟨rfl, zs, seed, x, e, h2, h3, rfl⟩
      cases zs with
      | nil => cases e
      | cons z zs =>
        rw [List.map_cons] at e
        injection e with e1 e2
        subst e1
        generalize hW : forW (gN 3) _ _ l = W at ih ⊢
        walk_at "fx"
        refine ⟨cmulS (by omega) (by omega) (by decide) (by decide), by decide, by decide, ?_⟩
        exact ih _ _ ⟨rfl, zs, _, some (.dat (.int z)), e2, Int.emod_nonneg _ (by decide), Int.emod_lt_of_pos _ (by decide), rfl⟩
end K48
namespace K48
open PySem L2 L2.Fn
local macro_rules | `(tactic| walk_at "fx") => `(tactic| try simp only [mkW, fSeq, fAsg, gN, fC, fVar, fBin, fDat, fFrz, oAdd, oInt0, oInt, oIx, fIfS, fTru, oTru, fBl, fNot, fAnd, fOr, fNext, fRet, fRetV, fRetN, fLst, fTup, fNil, fCons, fCB, oLen, oIntC, oStrI, oTupC, oLstC, fApp, fSl, fPart, fNoP, oSl, fIf, fAndV, fOrV, fNotV, fIsi, M.ty, fM1, oIn, oEq, oNe, eqF, fDrop, fFor, fWalk, oWalk, fRng, oR1, oR2, fCall, fComp, fYes, wipeE, oCat, oRep,
  fComp2, oMulS, fNeg, oSum, fExt, M.sqD, oMin2, oI2, gTupP, gConsP, gNilP, fDict, fDSet, oDIx, oDIn, fDGet2, M.asD, oEnum, oZip, fFz,
  List.length_cons, List.length_nil, List.map_cons, List.map_nil, List.cons_append, List.nil_append, List.append_nil, blanks, List.getElem?_cons_zero, List.getElem?_cons_succ, List.set_cons_zero, List.set_cons_succ, Option.some.injEq, exists_eq_left', true_and, and_true, Nat.reduceSub, Nat.reduceAdd, Nat.reduceLT, Nat.lt_add_one, M.dat.injEq, D.bl.injEq, D.int.injEq, Nat.zero_lt_succ, Nat.succ_lt_succ_iff, Nat.zero_lt_one, exists_eq_left, List.getElem?_nil, Bool.false_bne, Bool.false_xor, decide_eq_true_eq,
  ex_nil, ex_cons, ex_map, toD_lst, toD_dat, dats_nil, dats_cons, ld_l, ld_dat, ld_lst, Option.map_some, ex_some, kitI isi_int_int, kitI isi_int_bool, kitI isi_str_str, kitI isi_tup_tup, kitI isi_str_tup, M.lst.injEq, List.length_map, Bool.not_true, Bool.not_false, Bool.false_eq_true, if_true, if_false, reduceIte, endOf_nx, endOf_rt, endOf_ex])
def tri : Nat → Nat
  | 0 => 0
  | k + 1 => tri k + (k + 1)
def fall (c : Nat) : Nat → Nat
  | 0 => 1
  | k + 1 => fall c k * (c - k)
def manyK (c x : Nat) : Nat → Nat
  | 0 => 1
  | k + 1 => manyK c x k + fall c (k + 1) * x ^ tri (k + 1)
def manyC (c x : Nat) : Nat := manyK c x c
def manyL (x : Nat) : List Nat → Nat
  | [] => 1
  | c :: cs => manyC c x * manyL x cs
theorem manyL_app (x : Nat) : ∀ P Q : List Nat, manyL x (P ++ Q) = manyL x P * manyL x Q
  | [], Q => by simp [manyL]
  | c :: P, Q => by rw [List.cons_append, manyL, manyL, manyL_app x P Q, Nat.mul_assoc]
theorem tri_le : ∀ {k c : Nat}, k ≤ c → tri k ≤ tri c
  | k, 0, h => by rw [Nat.le_zero.mp h]; exact Nat.le_refl _
  | k, c + 1, h => by
    rcases Nat.lt_or_ge k (c + 1) with g | g
    · have := tri_le (Nat.le_of_lt_succ g)
      rw [tri]
      omega
    · rw [Nat.le_antisymm h g]
      exact Nat.le_refl _
theorem fall_le {c : Nat} (hc : c ≤ 5) : ∀ k, k ≤ c → fall c k ≤ 120 := by
  have : c = 0 ∨ c = 1 ∨ c = 2 ∨ c = 3 ∨ c = 4 ∨ c = 5 := by omega
  rcases this with h | h | h | h | h | h <;> subst h <;> decide
theorem pow_le {x k : Nat} (hx : x < 2 ^ 60) (hk : k ≤ 15) : x ^ k ≤ 2 ^ 900 := by
  have h1 : x ^ k ≤ (2 ^ 60) ^ k := Nat.pow_le_pow_left (Nat.le_of_lt hx) k
  have h2 : (2 ^ 60) ^ k ≤ (2 ^ 60) ^ 15 := Nat.pow_le_pow_right (by decide) hk
  exact Nat.le_trans h1 (Nat.le_trans h2 (by decide))
theorem log2_le {n k : Nat} (h : n ≤ 2 ^ k) : n.log2 ≤ k := by
  by_cases h0 : n = 0
  · subst h0; exact Nat.zero_le _
  · exact Nat.le_of_not_lt fun g => by
      have h1 := Nat.log2_self_le h0
      have h2 : 2 ^ (k + 1) ≤ 2 ^ n.log2 := Nat.pow_le_pow_right (by decide) g
      rw [Nat.pow_succ] at h2
      have h3 := Nat.two_pow_pos k
      omega
theorem cmulN {a b k l : Nat} (h : a ≤ 2 ^ k) (h' : b ≤ 2 ^ l) (hk : k + l < 1000000) : CMulW (a : Int) (b : Int) := by
  have h1 := log2_le h
  have h2 := log2_le h'
  show ((a : Int).natAbs).log2 + ((b : Int).natAbs).log2 < 1000000
  rw [Int.natAbs_natCast, Int.natAbs_natCast]
  omega
theorem manyK_le {c x : Nat} (hc : c ≤ 5) (hx : x < 2 ^ 60) : ∀ k, k ≤ c → manyK c x k ≤ (k + 1) * 2 ^ 907
  | 0, _ => by rw [manyK, Nat.zero_add, Nat.one_mul]; exact Nat.one_le_two_pow
  | k + 1, h => by
    have h1 := manyK_le hc hx k (by omega)
    have h2 := fall_le hc (k + 1) h
    have h3 : tri (k + 1) ≤ 15 := Nat.le_trans (tri_le (Nat.le_trans h hc)) (by decide)
    have h4 := pow_le hx h3
    have h5 : fall c (k + 1) * x ^ tri (k + 1) ≤ 2 ^ 7 * 2 ^ 900 := Nat.mul_le_mul (by omega) h4
    rw [← Nat.pow_add] at h5
    rw [manyK, Nat.succ_mul]
    omega
theorem manyC_le {c x : Nat} (hc : c ≤ 5) (hx : x < 2 ^ 60) : manyC c x ≤ 2 ^ 910 := by
  have h1 := manyK_le hc hx c (Nat.le_refl _)
  have h2 : (c + 1) * 2 ^ 907 ≤ 2 ^ 3 * 2 ^ 907 := Nat.mul_le_mul_right _ (by omega)
  rw [← Nat.pow_add] at h2
  exact Nat.le_trans h1 h2
theorem manyL_le {x : Nat} (hx : x < 2 ^ 60) : ∀ cs : List Nat, (∀ c ∈ cs, c ≤ 5) → manyL x cs ≤ 2 ^ (910 * cs.length)
  | [], _ => by simp [manyL]
  | c :: cs, h => by
    have h1 := manyC_le (h c (List.mem_cons_self ..)) hx
    have h2 := manyL_le hx cs fun d m => h d (List.mem_cons_of_mem _ m)
    rw [manyL, List.length_cons, Nat.mul_succ, Nat.add_comm, Nat.pow_add]
    exact Nat.mul_le_mul h1 h2
theorem manyI_ok (cs : List Nat) (m : Nat) (S : Sto) (Q : WP) (E : XP) (hl : cs.length ≤ 4) (hc : ∀ c ∈ cs, c ≤ 5) (hm : m + 1 < 2 ^ 60) (h : Q (.dat (.int (manyL (m + 1) cs : Nat))) S) :
    w__law_many [.tup (cs.map fun (c : Nat) => D.int (c : Int)), .int m] S Q E := by
  unfold w__law_many r__law_many
  walk_at "fx"
  unfold r__law_many_8
  walk_at "fx"
  refine forW_by (fun l ρ S' => S' = S ∧ ∃ (P R : List Nat) (x y z w u v : Option M), cs = P ++ R ∧ l = R.map (fun (c : Nat) => D.int (c : Int)) ∧ ρ = [some (.dat (.tup (cs.map fun (c : Nat) => D.int (c : Int)))), some (.dat (.int m)), some (.dat (.int (manyL (m + 1) P : Nat))), x, y, z, w, u, v]) ⟨rfl, [], cs, _, _, _, _, _, _, rfl, rfl, rfl⟩ ?_ ?_
  · rintro ρ S' ⟨rfl, P, R, x, y, z, w, u, v, e1, e2, rfl⟩
    have e4 : R = [] := by cases R with
      | nil => rfl
      | cons a b => simp at e2
    rw [e4, List.append_nil] at e1
    subst e1
    unfold r__law_many_7
    walk_at "fx"
    exact h
  · rintro d l ρ S' ih ⟨rfl, P, R, x, y, z, w, u, v, e1, e2, rfl⟩
    cases R with
    | nil => simp at e2
    | cons c R =>
      rw [List.map_cons] at e2
      injection e2 with e2 e3
      subst e2 e3
      have hcc : c ≤ 5 := hc c (by rw [e1]; simp)
      generalize hW : forW (gN 3) _ _ (R.map fun (c : Nat) => D.int (c : Int)) = W at ih ⊢
      walk_at "fx"
      unfold r__law_many_6
      walk_at "fx"
      unfold r__law_many_5
      walk_at "fx"
      unfold r__law_many_4
      walk_at "fx"
      refine ⟨⟨by decide, by decide, by omega, by omega⟩, ?_⟩
      have hn : ((c : Int) + 1 - 1).toNat = c := by omega
      rw [hn]
      refine forW_by (fun l ρ S2 => S2 = S' ∧ ∃ (k : Nat) (u v : Option M), l = (rng 1 c).drop k ∧ k ≤ c ∧ ρ = [some (.dat (.tup (cs.map fun (c : Nat) => D.int (c : Int)))), some (.dat (.int m)), some (.dat (.int (manyL (m + 1) P : Nat))), some (.dat (.int c)), some (.dat (.int (manyK c (m + 1) k : Nat))), some (.dat (.int (fall c k : Nat))), some (.dat (.int ((m + 1) ^ tri k : Nat))), u, v]) ⟨rfl, 0, _, _, rfl, Nat.zero_le _, rfl⟩ ?_ ?_
      · rintro ρ S2 ⟨rfl, k, u, v, f1, hk, rfl⟩
        have f2 := rng_end hk f1
        subst f2
        unfold r__law_many_3
        walk_at "fx"
        have b1 := manyL_le hm P fun d hd => hc d (by rw [e1]; simp [hd])
        have b2 := manyC_le hcc hm
        have b3 : P.length ≤ 4 := by rw [e1] at hl; simp at hl; omega
        refine ⟨cmulN b1 b2 (by omega), ?_⟩
        have hq : ((manyL (m + 1) (P ++ [k]) : Nat) : Int) = (manyL (m + 1) P : Nat) * (manyK k (m + 1) k : Nat) := by
          rw [manyL_app, manyL, manyL, Nat.mul_one, Int.natCast_mul]
          rfl
        rw [← hq]
        exact ih _ _ ⟨rfl, P ++ [k], R, _, _, _, _, _, _, by rw [e1]; simp, rfl, rfl⟩
      · rintro d l ρ S2 ih2 ⟨rfl, k, u, v, f1, hk, rfl⟩
        obtain ⟨hlt, rfl, f2⟩ := rng_step f1
        generalize hW2 : forW (gN 7) _ _ l = W2 at ih2 ⊢
        walk_at "fx"
        have g1 := fall_le hcc k hk
        refine ⟨cmulS (by omega) (by omega) (by omega) (by omega), ?_⟩
        unfold r__law_many_2
        walk_at "fx"
        refine ⟨by omega, by omega, ?_⟩
        have hn2 : (1 + (k : Int)).toNat = k + 1 := by omega
        rw [hn2]
        refine forW_by (fun l ρ S3 => S3 = S2 ∧ ∃ (j : Nat) (v : Option M), l = (rng 0 (k + 1)).drop j ∧ j ≤ k + 1 ∧ ρ = [some (.dat (.tup (cs.map fun (c : Nat) => D.int (c : Int)))), some (.dat (.int m)), some (.dat (.int (manyL (m + 1) P : Nat))), some (.dat (.int c)), some (.dat (.int (manyK c (m + 1) k : Nat))), some (.dat (.int (fall c (k + 1) : Nat))), some (.dat (.int ((m + 1) ^ (tri k + j) : Nat))), some (.dat (.int (1 + (k : Int)))), v]) ⟨rfl, 0, v, rfl, Nat.zero_le _, ?_⟩ ?_ ?_
        · have : ((fall c (k + 1) : Nat) : Int) = (fall c k : Int) * ((c : Int) + 1 - (1 + (k : Int))) := by
            rw [fall, Int.natCast_mul]
            congr 1
            omega
          rw [this]
          rfl
        · rintro ρ S3 ⟨rfl, j, v, f3, hj, rfl⟩
          have f4 := rng_end hj f3
          subst f4
          unfold r__law_many_1
          walk_at "fx"
          have g2 := fall_le hcc (k + 1) hlt
          have g3 : tri (k + 1) ≤ 15 := Nat.le_trans (tri_le (Nat.le_trans hlt hcc)) (by decide)
          have g4 := pow_le hm g3
          refine ⟨cmulN (k := 7) (by omega) g4 (by omega), ?_⟩
          have hq : ((manyK c (m + 1) (k + 1) : Nat) : Int) = (manyK c (m + 1) k : Nat) + (fall c (k + 1) : Nat) * (((m + 1) ^ (tri k + (k + 1)) : Nat) : Int) := by
            rw [manyK, Int.natCast_add, Int.natCast_mul]
            rfl
          rw [← hq]
          exact ih2 _ _ ⟨rfl, k + 1, _, _, f2, hlt, rfl⟩
        · rintro d l ρ S3 ih3 ⟨rfl, j, v, f3, hj, rfl⟩
          obtain ⟨hlt3, rfl, f4⟩ := rng_step f3
          generalize hW3 : forW (gN 8) _ _ l = W3 at ih3 ⊢
          walk_at "fx"
          have g3 : tri k + j ≤ 15 := Nat.le_trans (Nat.le_trans (by rw [tri]; omega) (tri_le (Nat.le_trans hlt hcc))) (show tri 5 ≤ 15 by decide)
          have g4 := pow_le hm g3
          have g5 : m + 1 ≤ 2 ^ 60 := Nat.le_of_lt hm
          refine ⟨cmulN g4 g5 (by omega), ?_⟩
          have hq : (((m + 1) ^ (tri k + (j + 1)) : Nat) : Int) = (((m + 1) ^ (tri k + j) : Nat) : Int) * ((m : Int) + 1) := by
            rw [← Nat.add_assoc, Nat.pow_succ, Int.natCast_mul]
            rfl
          rw [← hq]
          exact ih3 _ _ ⟨rfl, j + 1, _, f4, hlt3, rfl⟩
end K48
namespace K48
open PySem L2 L2.Fn
local macro_rules | `(tactic| walk_at "fx") => `(tactic| try simp only [mkW, fSeq, fAsg, gN, fC, fVar, fBin, fDat, fFrz, oAdd, oInt0, oInt, oIx, fIfS, fTru, oTru, fBl, fNot, fAnd, fOr, fNext, fRet, fRetV, fRetN, fLst, fTup, fNil, fCons, fCB, oLen, oIntC, oStrI, oTupC, oLstC, fApp, fSl, fPart, fNoP, oSl, fIf, fAndV, fOrV, fNotV, fIsi, M.ty, fM1, oIn, oEq, oNe, eqF, fDrop, fFor, fWalk, oWalk, fRng, oR1, oR2, fCall, fComp, fYes, wipeE, oCat, oRep,
  fComp2, oMulS, fNeg, oSum, fExt, M.sqD, oMin2, oI2, gTupP, gConsP, gNilP, fDict, fDSet, oDIx, oDIn, fDGet2, M.asD, oEnum, oZip, fFz,
  List.length_cons, List.length_nil, List.map_cons, List.map_nil, List.cons_append, List.nil_append, List.append_nil, blanks, List.getElem?_cons_zero, List.getElem?_cons_succ, List.set_cons_zero, List.set_cons_succ, Option.some.injEq, exists_eq_left', true_and, and_true, Nat.reduceSub, Nat.reduceAdd, Nat.reduceLT, Nat.lt_add_one, M.dat.injEq, D.bl.injEq, D.int.injEq, Nat.zero_lt_succ, Nat.succ_lt_succ_iff, Nat.zero_lt_one, exists_eq_left, List.getElem?_nil, Bool.false_bne, Bool.false_xor, decide_eq_true_eq,
  ex_nil, ex_cons, ex_map, toD_lst, toD_dat, dats_nil, dats_cons, ld_l, ld_dat, ld_lst, Option.map_some, ex_some, kitI isi_int_int, kitI isi_int_bool, kitI isi_str_str, kitI isi_tup_tup, kitI isi_str_tup, M.lst.injEq, List.length_map, Bool.not_true, Bool.not_false, Bool.false_eq_true, if_true, if_false, reduceIte, endOf_nx, endOf_rt, endOf_ex])
theorem layer_count {c : Nat} (hc : c ≤ 5) : ∀ k, k ≤ c → (layerO c k).length = fall c k := by
  have : c = 0 ∨ c = 1 ∨ c = 2 ∨ c = 3 ∨ c = 4 ∨ c = 5 := by omega
  rcases this with h | h | h | h | h | h <;> subst h <;> decide +kernel
/-- the weight of a list of orders -/
def wt (x : Nat) : List (List Nat) → Nat
  | [] => 0
  | o :: L => x ^ tri o.length + wt x L
theorem wt_app (x : Nat) : ∀ L M, wt x (L ++ M) = wt x L + wt x M
  | [], M => by simp [wt]
  | o :: L, M => by rw [List.cons_append, wt, wt, wt_app x L M, Nat.add_assoc]
theorem wt_const (x k : Nat) : ∀ L : List (List Nat), (∀ o ∈ L, o.length = k) → wt x L = L.length * x ^ tri k
  | [], _ => by simp [wt]
  | o :: L, h => by
    rw [wt, h o (List.mem_cons_self ..), wt_const x k L fun p m => h p (List.mem_cons_of_mem _ m), List.length_cons, Nat.succ_mul, Nat.add_comm]
theorem found_wt {c : Nat} (hc : c ≤ 5) (x : Nat) : ∀ k, k ≤ c → wt x (foundO c k) = manyK c x k
  | 0, _ => by simp [foundO, wt, manyK, tri]
  | k + 1, h => by
    rw [foundO, wt_app, found_wt hc x k (by omega), manyK, wt_const x (k + 1) _ (layerO_text c (k + 1)), layer_count hc _ h]
theorem orders_wt {c : Nat} (hc : c ≤ 5) (x : Nat) : wt x (ordersN c) = manyC c x := found_wt hc x c (Nat.le_refl _)
theorem wt_one : ∀ L : List (List Nat), wt 1 L = L.length
  | [] => rfl
  | o :: L => by rw [wt, wt_one L, Nat.one_pow, List.length_cons, Nat.add_comm]
theorem orders_len {c : Nat} (hc : c ≤ 5) : (ordersN c).length = manyC c 1 := by rw [← wt_one, orders_wt hc]
/-- all rows of orders -/
def rowsO : List Nat → List (List (List Nat))
  | [] => [[]]
  | c :: cs => (ordersN c).flatMap fun o => (rowsO cs).map fun r => o :: r
theorem choice_count_ok (cs : List Nat) (S : Sto) (Q : WP) (E : XP) (hl : cs.length ≤ 4) (hc : ∀ c ∈ cs, c ≤ 5) (h : Q (.dat (.int (manyL 1 cs : Nat))) S) :
    w_choice_count [.tup (cs.map fun (c : Nat) => D.int (c : Int))] S Q E := by
  unfold w_choice_count r_choice_count
  walk_at "fx"
  unfold r_choice_count_2
  walk_at "fx"
  refine forW_by (fun l ρ S' => S' = S ∧ ∃ (P R : List Nat) (x : Option M), cs = P ++ R ∧ l = R.map (fun (c : Nat) => D.int (c : Int)) ∧ ρ = [some (.dat (.tup (cs.map fun (c : Nat) => D.int (c : Int)))), some (.dat (.int (manyL 1 P : Nat))), x]) ⟨rfl, [], cs, _, rfl, rfl, rfl⟩ ?_ ?_
  · rintro ρ S' ⟨rfl, P, R, x, e1, e2, rfl⟩
    have e4 : R = [] := by cases R with
      | nil => rfl
      | cons a b => simp at e2
    rw [e4, List.append_nil] at e1
    subst e1
    unfold r_choice_count_1
    walk_at "fx"
    exact h
  · rintro d l ρ S' ih ⟨rfl, P, R, x, e1, e2, rfl⟩
    cases R with
    | nil => simp at e2
    | cons c R =>
      rw [List.map_cons] at e2
      injection e2 with e2 e3
      subst e2 e3
      have hcc : c ≤ 5 := hc c (by rw [e1]; simp)
      generalize hW : forW (gN 2) _ _ (R.map fun (c : Nat) => D.int (c : Int)) = W at ih ⊢
      walk_at "fx"
      refine orders_ok c _ _ _ hcc ?_
      walk_at "fx"
      rw [orders_len hcc]
      have b1 := manyL_le (x := 1) (by decide) P fun d hd => hc d (by rw [e1]; simp [hd])
      have b2 := manyC_le (x := 1) hcc (by decide)
      have b3 : P.length ≤ 4 := by rw [e1] at hl; simp at hl; omega
      refine ⟨cmulN b1 b2 (by omega), ?_⟩
      have hq : ((manyL 1 (P ++ [c]) : Nat) : Int) = (manyL 1 P : Nat) * (manyC c 1 : Nat) := by
        rw [manyL_app, manyL, manyL, Nat.mul_one, Int.natCast_mul]
      rw [← hq]
      exact ih _ _ ⟨rfl, P ++ [c], R, _, by rw [e1]; simp, rfl, rfl⟩
end K48
namespace K48
open PySem L2 L2.Fn
local macro_rules | `(tactic| walk_at "fx") => `(tactic| try simp only [mkW, fSeq, fAsg, gN, fC, fVar, fBin, fDat, fFrz, oAdd, oInt0, oInt, oIx, fIfS, fTru, oTru, fBl, fNot, fAnd, fOr, fNext, fRet, fRetV, fRetN, fLst, fTup, fNil, fCons, fCB, oLen, oIntC, oStrI, oTupC, oLstC, fApp, fSl, fPart, fNoP, oSl, fIf, fAndV, fOrV, fNotV, fIsi, M.ty, fM1, oIn, oEq, oNe, eqF, fDrop, fFor, fWalk, oWalk, fRng, oR1, oR2, fCall, fComp, fYes, wipeE, oCat, oRep,
  fComp2, oMulS, fNeg, oSum, fExt, M.sqD, oMin2, oI2, gTupP, gConsP, gNilP, fDict, fDSet, oDIx, oDIn, fDGet2, M.asD, oEnum, oZip, fFz,
  List.length_cons, List.length_nil, List.map_cons, List.map_nil, List.cons_append, List.nil_append, List.append_nil, blanks, List.getElem?_cons_zero, List.getElem?_cons_succ, List.set_cons_zero, List.set_cons_succ, Option.some.injEq, exists_eq_left', true_and, and_true, Nat.reduceSub, Nat.reduceAdd, Nat.reduceLT, Nat.lt_add_one, M.dat.injEq, D.bl.injEq, D.int.injEq, Nat.zero_lt_succ, Nat.succ_lt_succ_iff, Nat.zero_lt_one, exists_eq_left, List.getElem?_nil, Bool.false_bne, Bool.false_xor, decide_eq_true_eq,
  ex_nil, ex_cons, ex_map, toD_lst, toD_dat, dats_nil, dats_cons, ld_l, ld_dat, ld_lst, Option.map_some, ex_some, kitI isi_int_int, kitI isi_int_bool, kitI isi_str_str, kitI isi_tup_tup, kitI isi_str_tup, M.lst.injEq, List.length_map, Bool.not_true, Bool.not_false, Bool.false_eq_true, if_true, if_false, reduceIte, endOf_nx, endOf_rt, endOf_ex])
theorem manyC_pos (c x : Nat) : 1 ≤ manyC c x := by
  have : ∀ k, 1 ≤ manyK c x k := fun k => by
    induction k with
    | zero => exact Nat.le_refl _
    | succ k ih => rw [manyK]; omega
  exact this c
theorem manyL_pos (x : Nat) : ∀ cs, 1 ≤ manyL x cs
  | [] => Nat.le_refl _
  | c :: cs => by
    have h1 := manyC_pos c x
    have h2 := manyL_pos x cs
    rw [manyL]
    exact Nat.mul_le_mul h1 h2
theorem manyL_pre (x : Nat) (P R : List Nat) : manyL x P ≤ manyL x (P ++ R) := by
  rw [manyL_app]
  exact Nat.le_mul_of_pos_right _ (manyL_pos x R)
/-- one order more on each row -/
def stepR (c : Nat) (L : List (List (List Nat))) : List (List (List Nat)) := L.flatMap fun r => (ordersN c).map fun o => r ++ [o]
theorem stepR_app (c : Nat) (L M) : stepR c (L ++ M) = stepR c L ++ stepR c M := by
  unfold stepR
  rw [List.flatMap_append]
def rowsF : List Nat → List (List (List Nat)) → List (List (List Nat))
  | [], L => L
  | c :: cs, L => rowsF cs (stepR c L)
theorem rowsF_app : ∀ P R L, rowsF (P ++ R) L = rowsF R (rowsF P L)
  | [], R, L => rfl
  | c :: P, R, L => by rw [List.cons_append, rowsF, rowsF, rowsF_app P R]
theorem stepR_len {c : Nat} (hc : c ≤ 5) (L) : (stepR c L).length = L.length * manyC c 1 := by
  rw [← orders_len hc]
  unfold stepR
  induction L with
  | nil => simp
  | cons r L ih => rw [List.flatMap_cons, List.length_append, ih, List.length_map, List.length_cons, Nat.succ_mul, Nat.add_comm]
theorem rowsF_len : ∀ (cs : List Nat) (L), (∀ c ∈ cs, c ≤ 5) → (rowsF cs L).length = L.length * manyL 1 cs
  | [], L, _ => by simp [rowsF, manyL]
  | c :: cs, L, h => by
    rw [rowsF, rowsF_len cs _ fun d m => h d (List.mem_cons_of_mem _ m), stepR_len (h c (List.mem_cons_self ..)), manyL, Nat.mul_assoc]
theorem stepR_mem {c n : Nat} {L} (h : ∀ r ∈ L, r.length = n) : ∀ r ∈ stepR c L, r.length = n + 1 := by
  intro r m
  obtain ⟨p, hp, m⟩ := List.mem_flatMap.mp m
  obtain ⟨o, ho, rfl⟩ := List.mem_map.mp m
  simp [h p hp]
theorem rowsF_mem : ∀ (cs : List Nat) {n : Nat} {L}, (∀ r ∈ L, r.length = n) → ∀ r ∈ rowsF cs L, r.length = n + cs.length
  | [], n, L, h, r, m => h r m
  | c :: cs, n, L, h, r, m => by
    rw [rowsF_mem cs (stepR_mem h) r m, List.length_cons]
    omega
def rowD (r : List (List Nat)) : D := .tup (r.map D.str)
theorem order_rows_ok (cs : List Nat) (S : Sto) (Q : WP) (E : XP) (hc : ∀ c ∈ cs, c ≤ 5) (hl : cs.length ≤ 4) (hr : manyL 1 cs ≤ 300) (h : Q (.dat (.tup ((rowsF cs [[]]).map rowD))) S) :
    w_order_rows [.tup (cs.map fun (c : Nat) => D.int (c : Int))] S Q E := by
  unfold w_order_rows r_order_rows
  walk_at "fx"
  refine ⟨small_line (by decide), ?_⟩
  refine ⟨small_line (by decide), ?_⟩
  unfold r_order_rows_2
  walk_at "fx"
  refine forW_by (fun l ρ S' => S' = S ∧ ∃ (P R : List Nat) (m : M) (x y z : Option M), cs = P ++ R ∧ l = R.map (fun (c : Nat) => D.int (c : Int)) ∧ (m = .dat (.lst ((rowsF P [[]]).map rowD)) ∨ m = .lst (((rowsF P [[]]).map rowD).map .dat)) ∧ ρ = [some (.dat (.tup (cs.map fun (c : Nat) => D.int (c : Int)))), some m, x, y, z]) ⟨rfl, [], cs, .dat (.lst [.tup []]), none, none, none, rfl, rfl, Or.inl rfl, ?_⟩ ?_ ?_
  · rfl
  · rintro ρ S' ⟨rfl, P, R, m, x, y, z, e1, e2, e3, rfl⟩
    have e4 : R = [] := by cases R with
      | nil => rfl
      | cons a b => simp at e2
    rw [e4, List.append_nil] at e1
    subst e1
    unfold r_order_rows_1
    rcases e3 with rfl | rfl
    · walk_at "fx"
      exact h
    · walk_at "fx"
      exact ⟨_, dats_map _, h⟩
  · rintro d l ρ S' ih ⟨rfl, P, R, m, x, y, z, e1, e2, e3, rfl⟩
    cases R with
    | nil => simp at e2
    | cons c R =>
      rw [List.map_cons] at e2
      injection e2 with e2 e5
      subst e2 e5
      have hcc : c ≤ 5 := hc c (by rw [e1]; simp)
      generalize hW : forW (gN 2) _ _ (R.map fun (c : Nat) => D.int (c : Int)) = W at ih ⊢
      have e6 : (M.dat m.toD) = .dat (.lst ((rowsF P [[]]).map rowD)) := by
        rcases e3 with rfl | rfl
        · rfl
        · rw [toD_lst]
      walk_at "fx"
      rw [e6]
      walk_at "fx"
      have lenP : (rowsF P [[]]).length = manyL 1 P := by
        rw [rowsF_len P _ fun d hd => hc d (by rw [e1]; simp [hd])]
        simp
      have lenPc : manyL 1 P * manyC c 1 ≤ 300 := by
        have h1 := manyL_pre 1 (P ++ [c]) R
        rw [manyL_app, manyL, manyL, Nat.mul_one, List.append_assoc, List.singleton_append, ← e1] at h1
        exact Nat.le_trans h1 hr
      refine compW2_by (fun ds acc S2 => S2 = S' ∧ ∃ L1 L2, rowsF P [[]] = L1 ++ L2 ∧ ds = L2.map rowD ∧ acc = ((stepR c L1).map rowD).map M.dat) ⟨rfl, [], _, rfl, rfl, rfl⟩ ?_ ?_
      · rintro acc S2 ⟨rfl, L1, L2, f1, f3, rfl⟩
        have f4 : L2 = [] := by cases L2 with
          | nil => rfl
          | cons a b => simp at f3
        rw [f4, List.append_nil] at f1
        rw [← f1]
        exact ih _ _ ⟨rfl, P ++ [c], R, _, _, _, _, by rw [e1]; simp, rfl, Or.inr (by rw [rowsF_app]; rfl), rfl⟩
      · rintro d ds acc S2 ih2 ⟨rfl, L1, L2, f1, f3, rfl⟩
        cases L2 with
        | nil => simp at f3
        | cons r L2 =>
          rw [List.map_cons] at f3
          injection f3 with f3 f4
          subst f3 f4
          generalize hW2 : compW2 (gN 3) fYes _ _ _ _ _ _ _ _ (L2.map rowD) = W2 at ih2 ⊢
          walk_at "fx"
          refine orders_ok c _ _ _ hcc ?_
          walk_at "fx"
          refine innerW_by (fun es acc S3 => S3 = S2 ∧ ∃ P1 P2, ordersN c = P1 ++ P2 ∧ es = P2.map D.str ∧ acc = ((stepR c L1 ++ (P1.map fun o => r ++ [o])).map rowD).map M.dat) ⟨rfl, [], _, rfl, rfl, by simp⟩ ?_ ?_
          · rintro acc S3 ⟨rfl, P1, P2, g1, g3, rfl⟩
            have g4 : P2 = [] := by cases P2 with
              | nil => rfl
              | cons a b => simp at g3
            rw [g4, List.append_nil] at g1
            rw [← g1]
            exact ih2 _ _ ⟨rfl, L1 ++ [r], L2, by rw [f1]; simp, rfl, by rw [stepR_app]; simp [stepR]⟩
          · rintro d ds acc S3 ih3 ⟨rfl, P1, P2, g1, g3, rfl⟩
            cases P2 with
            | nil => simp at g3
            | cons o P2 =>
              rw [List.map_cons] at g3
              injection g3 with g3 g4
              subst g3 g4
              rw [rowD]
              walk_at "fx"
              have k1 : r.length = 0 + P.length := rowsF_mem P (L := [[]]) (n := 0) (by simp) r (by rw [f1]; simp)
              have k2 : P.length ≤ 4 := by rw [e1] at hl; simp at hl; omega
              have k3 : P1.length ≤ manyC c 1 := by
                have := congrArg List.length g1
                rw [orders_len hcc, List.length_append] at this
                omega
              have k4 : (L1.length + 1) * manyC c 1 ≤ 300 := by
                have := congrArg List.length f1
                rw [lenP, List.length_append, List.length_cons] at this
                exact Nat.le_trans (Nat.mul_le_mul_right _ (by omega)) lenPc
              have k5 := stepR_len hcc L1
              rw [Nat.succ_mul, ← k5] at k4
              refine ⟨small_line (by decide), small_line (by omega), small_line' (by rw [List.length_append, List.length_map]; omega), ?_⟩
              exact ih3 _ _ ⟨rfl, P1 ++ [o], P2, by rw [g1]; simp, rfl, by simp [rowD]⟩
end K48
namespace K48
open PySem L2 L2.Fn
local macro_rules | `(tactic| walk_at "fx") => `(tactic| try simp only [mkW, fSeq, fAsg, gN, fC, fVar, fBin, fDat, fFrz, oAdd, oInt0, oInt, oIx, fIfS, fTru, oTru, fBl, fNot, fAnd, fOr, fNext, fRet, fRetV, fRetN, fLst, fTup, fNil, fCons, fCB, oLen, oIntC, oStrI, oTupC, oLstC, fApp, fSl, fPart, fNoP, oSl, fIf, fAndV, fOrV, fNotV, fIsi, M.ty, fM1, oIn, oEq, oNe, eqF, fDrop, fFor, fWalk, oWalk, fRng, oR1, oR2, fCall, fComp, fYes, wipeE, oCat, oRep,
  fComp2, oMulS, fNeg, oSum, fExt, M.sqD, oMin2, oI2, gTupP, gConsP, gNilP, fDict, fDSet, oDIx, oDIn, fDGet2, M.asD, oEnum, oZip, fFz,
  List.length_cons, List.length_nil, List.map_cons, List.map_nil, List.cons_append, List.nil_append, List.append_nil, blanks, List.getElem?_cons_zero, List.getElem?_cons_succ, List.set_cons_zero, List.set_cons_succ, Option.some.injEq, exists_eq_left', true_and, and_true, Nat.reduceSub, Nat.reduceAdd, Nat.reduceLT, Nat.lt_add_one, M.dat.injEq, D.bl.injEq, D.int.injEq, Nat.zero_lt_succ, Nat.succ_lt_succ_iff, Nat.zero_lt_one, exists_eq_left, List.getElem?_nil, Bool.false_bne, Bool.false_xor, decide_eq_true_eq,
  ex_nil, ex_cons, ex_map, toD_lst, toD_dat, dats_nil, dats_cons, ld_l, ld_dat, ld_lst, Option.map_some, ex_some, kitI isi_int_int, kitI isi_int_bool, kitI isi_str_str, kitI isi_tup_tup, kitI isi_str_tup, M.lst.injEq, List.length_map, Bool.not_true, Bool.not_false, Bool.false_eq_true, if_true, if_false, reduceIte, endOf_nx, endOf_rt, endOf_ex])
theorem sort_unique {es fs : List D} (h1 : es.Perm fs) (s1 : es.Pairwise fun x y => pkLt y.key x.key = false) (s2 : fs.Pairwise fun x y => pkLt y.key x.key = false) (inj : ∀ a ∈ es, ∀ b ∈ fs, a.key = b.key → a = b) : es = fs :=
  List.Perm.eq_of_pairwise (le := fun x y : D => pkLt y.key x.key = false) (fun a b ha hb h h' => inj a ha b hb (PyProof.Rows.lex_total (O := PyProof.Rows.itemOrd) _ _ h' h)) s1 s2 h1
def pkey (p : Nat × Nat) : PK := [.inr [p.1], .inr [p.2]]
def pairD (p : Nat × Nat) : D := .tup [.str [p.1], .str [p.2]]
def tripD (a : Nat) (p : Nat × Nat) : D := .tup [.int a, .str [p.1], .str [p.2]]
theorem pairD_key (p : Nat × Nat) : (pairD p).key = pkey p := rfl
theorem tripD_key (a : Nat) (p : Nat × Nat) : (tripD a p).key = .inl (a : Int) :: pkey p := rfl
def pairLe (p q : Nat × Nat) : Bool := !pkLt (pkey q) (pkey p)
def srtN (L : List (Nat × Nat)) : List (Nat × Nat) := L.mergeSort pairLe
theorem srtN_perm (L : List (Nat × Nat)) : (srtN L).Perm L := List.mergeSort_perm L pairLe
theorem srtN_sorted (L : List (Nat × Nat)) : (srtN L).Pairwise fun p q => pairLe p q = true := by
  refine List.pairwise_mergeSort (fun a b c h1 h2 => ?_) (fun a b => ?_) L
  · unfold pairLe at *
    cases q : pkLt (pkey c) (pkey a) with
    | false => rfl
    | true =>
      have h3 := (pk_swo pkey).2 a b c
      simp at h1 h2
      simp_all
  · unfold pairLe
    cases q : pkLt (pkey b) (pkey a) with
    | false => simp
    | true =>
      have := (pk_swo pkey).1 b a q
      simp at this ⊢
      exact this
theorem pair_inj {p q : Nat × Nat} (h : pairD p = pairD q) : p = q := by
  cases p; cases q
  simpa [pairD] using h
theorem pair_sorted {es : List D} {L : List (Nat × Nat)} (hp : es.Perm (L.map pairD)) (hs : es.Pairwise fun x y => pkLt y.key x.key = false) : es = (srtN L).map pairD := by
  refine sort_unique (hp.trans ((srtN_perm L).symm.map _)) hs ?_ fun a ha b hb e => ?_
  · rw [List.pairwise_map]
    exact (srtN_sorted L).imp fun {p q} h => by simpa [pairLe, pairD_key] using h
  · obtain ⟨q, _, rfl⟩ := List.mem_map.mp hb
    obtain ⟨p, _, rfl⟩ := List.mem_map.mp (hp.subset ha)
    cases p; cases q
    simp [pairD_key, pkey] at e
    simp [pairD, e]
theorem trip_lt (a : Nat) (p q : Nat × Nat) : pkLt (tripD a p).key (tripD a q).key = pkLt (pkey p) (pkey q) := by
  rw [tripD_key, tripD_key]
  show PyProof.Rows.lexLt PyProof.Rows.itemOrd _ _ = _
  rw [PyProof.Rows.lex_cons, PyProof.Rows.itemOrd.irrefl]
  rfl
theorem trip_sorted (a : Nat) {es : List D} {L : List (Nat × Nat)} (hp : es.Perm (L.map (tripD a))) (hs : es.Pairwise fun x y => pkLt y.key x.key = false) : es = (srtN L).map (tripD a) := by
  refine sort_unique (hp.trans ((srtN_perm L).symm.map _)) hs ?_ fun c hc b hb e => ?_
  · rw [List.pairwise_map]
    exact (srtN_sorted L).imp fun {p q} h => by rw [trip_lt]; simpa [pairLe] using h
  · obtain ⟨q, _, rfl⟩ := List.mem_map.mp hb
    obtain ⟨p, _, rfl⟩ := List.mem_map.mp (hp.subset hc)
    cases p; cases q
    simp [tripD_key, pkey] at e
    simp [tripD, e]
/-- the pairs as the program lays them -/
def progP : List Nat → List (Nat × Nat)
  | [] => []
  | m :: r => (m :: r).map (fun l => (l, m)) ++ progP r
theorem progP_len : ∀ o : List Nat, (progP o).length = tri o.length
  | [] => rfl
  | m :: r => by rw [progP, List.length_append, List.length_map, progP_len r, List.length_cons, tri, Nat.add_comm]
/-- the pairs as the law lays them -/
def lawP (o : List Nat) : List (Nat × Nat) := (List.range o.length).flatMap fun i => (o.take (i + 1)).map fun m => (o.getD i 0, m)
theorem law_prog {c : Nat} (hc : c ≤ 5) : ∀ o ∈ ordersN c, (lawP o).isPerm (progP o) = true := by
  have : c = 0 ∨ c = 1 ∨ c = 2 ∨ c = 3 ∨ c = 4 ∨ c = 5 := by omega
  rcases this with h | h | h | h | h | h <;> subst h <;> decide +kernel
end K48
namespace K48
open PySem L2 L2.Fn
local macro_rules | `(tactic| walk_at "fx") => `(tactic| try simp only [mkW, fSeq, fAsg, gN, fC, fVar, fBin, fDat, fFrz, oAdd, oInt0, oInt, oIx, fIfS, fTru, oTru, fBl, fNot, fAnd, fOr, fNext, fRet, fRetV, fRetN, fLst, fTup, fNil, fCons, fCB, oLen, oIntC, oStrI, oTupC, oLstC, fApp, fSl, fPart, fNoP, oSl, fIf, fAndV, fOrV, fNotV, fIsi, M.ty, fM1, oIn, oEq, oNe, eqF, fDrop, fFor, fWalk, oWalk, fRng, oR1, oR2, fCall, fComp, fYes, wipeE, oCat, oRep,
  fComp2, oMulS, fNeg, oSum, fExt, M.sqD, oMin2, oI2, gTupP, gConsP, gNilP, fDict, fDSet, oDIx, oDIn, fDGet2, M.asD, oEnum, oZip, fFz,
  List.length_cons, List.length_nil, List.map_cons, List.map_nil, List.cons_append, List.nil_append, List.append_nil, blanks, List.getElem?_cons_zero, List.getElem?_cons_succ, List.set_cons_zero, List.set_cons_succ, Option.some.injEq, exists_eq_left', true_and, and_true, Nat.reduceSub, Nat.reduceAdd, Nat.reduceLT, Nat.lt_add_one, M.dat.injEq, D.bl.injEq, D.int.injEq, Nat.zero_lt_succ, Nat.succ_lt_succ_iff, Nat.zero_lt_one, exists_eq_left, List.getElem?_nil, Bool.false_bne, Bool.false_xor, decide_eq_true_eq,
  ex_nil, ex_cons, ex_map, toD_lst, toD_dat, dats_nil, dats_cons, ld_l, ld_dat, ld_lst, Option.map_some, ex_some, kitI isi_int_int, kitI isi_int_bool, kitI isi_str_str, kitI isi_tup_tup, kitI isi_str_tup, M.lst.injEq, List.length_map, Bool.not_true, Bool.not_false, Bool.false_eq_true, if_true, if_false, reduceIte, endOf_nx, endOf_rt, endOf_ex])
theorem enum_step {L : List D} {i : Nat} {d : D} {ds : List D} (e : d :: ds = (enumD L).drop i) : ∃ h : i < L.length, d = .tup [.int (i : Nat), L[i]] ∧ ds = (enumD L).drop (i + 1) := by
  have hlt : i < (enumD L).length := by
    have := congrArg List.length e
    rw [List.length_cons, List.length_drop] at this
    omega
  have hl : i < L.length := by rw [enumD_len] at hlt; exact hlt
  rw [List.drop_eq_getElem_cons hlt] at e
  injection e with e1 e2
  refine ⟨hl, ?_, e2⟩
  have := enumD_get L i
  rw [List.getElem?_eq_getElem hlt, List.getElem?_eq_getElem hl] at this
  rw [e1]
  simpa using this
theorem enum_end {L : List D} {i : Nat} (e : [] = (enumD L).drop i) : L.length ≤ i := by
  have := congrArg List.length e
  rw [List.length_nil, List.length_drop, enumD_len] at this
  omega
theorem trip_pk (a : Nat) (A : List (Nat × Nat)) : ∀ d ∈ A.map (tripD a), ∃ p, d.pk true = some p ∧ p.map Sum.isRight = [false, true, true] := by
  intro d hd
  obtain ⟨p, _, rfl⟩ := List.mem_map.mp hd
  exact ⟨_, rfl, rfl⟩
theorem between_ok (a : Nat) (o : List Nat) (S : Sto) (Q : WP) (E : XP) (ha : a ≤ 4) (ho : o.length ≤ 5) (h : Q (.dat (.tup ((srtN (progP o)).map (tripD a)))) S) :
    w_between_variables [.int a, .str o] S Q E := by
  unfold w_between_variables r_between_variables
  walk_at "fx"
  refine compW2_by (fun ds acc S2 => S2 = S ∧ ∃ (i : Nat) (A : List (Nat × Nat)), progP o = A ++ progP (o.drop i) ∧ ds = (enumD (o.map fun c => D.str [c])).drop i ∧ acc = (A.map (tripD a)).map M.dat) ⟨rfl, 0, [], rfl, rfl, rfl⟩ ?_ ?_
  · rintro acc S2 ⟨rfl, i, A, e1, e2, rfl⟩
    have hi := enum_end e2
    rw [List.length_map] at hi
    rw [List.drop_eq_nil_of_le hi] at e1
    rw [progP, List.append_nil] at e1
    subst e1
    refine ⟨_, ld_lst _, [false, true, true], by simp, trip_pk a _, fun es hp hs => ?_⟩
    rw [trip_sorted a hp hs]
    exact ⟨_, ld_lst _, h⟩
  · rintro d ds acc S2 ih ⟨rfl, i, A, e1, e2, rfl⟩
    obtain ⟨hlt, rfl, rfl⟩ := enum_step e2
    rw [List.length_map] at hlt
    generalize hW2 : compW2 (gTupP 2 (gConsP (gN 4) (gConsP (gN 3) gNilP))) fYes _ _ _ _ _ _ _ _ ((enumD (o.map fun c => D.str [c])).drop (i + 1)) = W2 at ih ⊢
    walk_at "fx"
    refine ⟨_, _, rfl, _, _, rfl, rfl, ?_⟩
    show _ ∧ innerW (gN 2) _ _ _ _ _ _ _ _
    refine ⟨small_line (by omega), ?_⟩
    rw [cut_from _ (by omega), Int.toNat_natCast, List.getElem_map]
    have hd := List.drop_eq_getElem_cons hlt
    generalize o[i] = mk at hd
    rw [hd, progP, ← hd] at e1
    refine innerW_by (fun es acc S3 => S3 = S2 ∧ ∃ P1 P2, o.drop i = P1 ++ P2 ∧ es = P2.map (fun l => D.str [l]) ∧ acc = ((A ++ P1.map fun l => (l, mk)).map (tripD a)).map M.dat) ⟨rfl, [], _, rfl, rfl, by simp⟩ ?_ ?_
    · rintro acc S3 ⟨rfl, P1, P2, g1, g3, rfl⟩
      have g4 : P2 = [] := by cases P2 with
        | nil => rfl
        | cons a b => simp at g3
      rw [g4, List.append_nil] at g1
      rw [← g1]
      exact ih _ _ ⟨rfl, i + 1, _, by rw [e1, List.append_assoc], rfl, rfl⟩
    · rintro d ds acc S3 ih3 ⟨rfl, P1, P2, g1, g3, rfl⟩
      cases P2 with
      | nil => simp at g3
      | cons p P2 =>
        rw [List.map_cons] at g3
        injection g3 with g3 g4
        subst g3 g4
        walk_at "fx"
        have k1 : A.length ≤ 15 := by
          have h1 := congrArg List.length e1
          rw [progP_len, List.length_append] at h1
          have h2 : tri o.length ≤ 15 := Nat.le_trans (tri_le ho) (by decide)
          omega
        have k2 : P1.length ≤ 5 := by
          have h1 := congrArg List.length g1
          rw [List.length_drop, List.length_append] at h1
          omega
        refine ⟨small_line (by decide), small_line' (by rw [List.length_append, List.length_map]; omega), ?_⟩
        exact ih3 _ _ ⟨rfl, P1 ++ [p], P2, by rw [g1]; simp, rfl, by simp [tripD]⟩
end K48
namespace K48
open PySem L2 L2.Fn
local macro_rules | `(tactic| walk_at "fx") => `(tactic| try simp only [mkW, fSeq, fAsg, gN, fC, fVar, fBin, fDat, fFrz, oAdd, oInt0, oInt, oIx, fIfS, fTru, oTru, fBl, fNot, fAnd, fOr, fNext, fRet, fRetV, fRetN, fLst, fTup, fNil, fCons, fCB, oLen, oIntC, oStrI, oTupC, oLstC, fApp, fSl, fPart, fNoP, oSl, fIf, fAndV, fOrV, fNotV, fIsi, M.ty, fM1, oIn, oEq, oNe, eqF, fDrop, fFor, fWalk, oWalk, fRng, oR1, oR2, fCall, fComp, fYes, wipeE, oCat, oRep,
  fComp2, oMulS, fNeg, oSum, fExt, M.sqD, oMin2, oI2, gTupP, gConsP, gNilP, fDict, fDSet, oDIx, oDIn, fDGet2, M.asD, oEnum, oZip, fFz,
  List.length_cons, List.length_nil, List.map_cons, List.map_nil, List.cons_append, List.nil_append, List.append_nil, blanks, List.getElem?_cons_zero, List.getElem?_cons_succ, List.set_cons_zero, List.set_cons_succ, Option.some.injEq, exists_eq_left', true_and, and_true, Nat.reduceSub, Nat.reduceAdd, Nat.reduceLT, Nat.lt_add_one, M.dat.injEq, D.bl.injEq, D.int.injEq, Nat.zero_lt_succ, Nat.succ_lt_succ_iff, Nat.zero_lt_one, exists_eq_left, List.getElem?_nil, Bool.false_bne, Bool.false_xor, decide_eq_true_eq,
  ex_nil, ex_cons, ex_map, toD_lst, toD_dat, dats_nil, dats_cons, ld_l, ld_dat, ld_lst, Option.map_some, ex_some, kitI isi_int_int, kitI isi_int_bool, kitI isi_str_str, kitI isi_tup_tup, kitI isi_str_tup, M.lst.injEq, List.length_map, Bool.not_true, Bool.not_false, Bool.false_eq_true, if_true, if_false, reduceIte, endOf_nx, endOf_rt, endOf_ex])
def varsF : Nat → List (List Nat) → List D
  | _, [] => []
  | a, o :: r => (srtN (progP o)).map (tripD a) ++ varsF (a + 1) r
theorem srtN_len (L : List (Nat × Nat)) : (srtN L).length = L.length := (srtN_perm L).length_eq
theorem choice_variables_ok (r : List (List Nat)) (S : Sto) (Q : WP) (E : XP) (hr : r.length ≤ 4) (ho : ∀ o ∈ r, o.length ≤ 5) (h : Q (.dat (.tup (varsF 0 r))) S) :
    w_choice_variables [rowD r] S Q E := by
  unfold w_choice_variables r_choice_variables
  rw [rowD]
  walk_at "fx"
  refine ⟨small_line (by decide), ?_⟩
  unfold r_choice_variables_2
  walk_at "fx"
  refine forW_by (fun ds ρ S2 => S2 = S ∧ ∃ (i : Nat) (A : List D) (x y : Option M), varsF 0 r = A ++ varsF i (r.drop i) ∧ A.length ≤ 15 * i ∧ ds = (enumD (r.map D.str)).drop i ∧ ρ = [some (.dat (.tup (r.map D.str))), some (.lst (A.map .dat)), x, y]) ⟨rfl, 0, [], _, _, rfl, Nat.le_refl _, rfl, rfl⟩ ?_ ?_
  · rintro ρ S2 ⟨rfl, i, A, x, y, e1, e3, e2, rfl⟩
    have hi := enum_end e2
    rw [List.length_map] at hi
    rw [List.drop_eq_nil_of_le hi, varsF, List.append_nil] at e1
    subst e1
    unfold r_choice_variables_1
    walk_at "fx"
    exact ⟨_, dats_map _, h⟩
  · rintro d ds ρ S2 ih ⟨rfl, i, A, x, y, e1, e3, e2, rfl⟩
    obtain ⟨hlt, rfl, rfl⟩ := enum_step e2
    rw [List.length_map] at hlt
    generalize hW : forW (gTupP 2 (gConsP (gN 2) (gConsP (gN 3) gNilP))) _ _ ((enumD (r.map D.str)).drop (i + 1)) = W at ih ⊢
    walk_at "fx"
    refine ⟨_, _, rfl, _, _, rfl, rfl, ?_⟩
    rw [List.getElem_map]
    have hd := List.drop_eq_getElem_cons hlt
    have h5 : r[i].length ≤ 5 := ho _ (List.getElem_mem hlt)
    have h6 := progP_len r[i]
    have h7 : tri r[i].length ≤ 15 := Nat.le_trans (tri_le h5) (by decide)
    rw [hd, varsF] at e1
    refine between_ok i r[i] _ _ _ (by omega) h5 ?_
    refine ⟨_, rfl, small_line (by rw [List.length_map, srtN_len]; omega), ?_⟩
    rw [← List.map_append]
    exact ih _ _ ⟨rfl, i + 1, _, _, _, by rw [e1, List.append_assoc], by rw [List.length_append, List.length_map, srtN_len]; omega, rfl, rfl⟩
end K48
namespace K48
open PySem L2 L2.Fn
local macro_rules | `(tactic| walk_at "fx") => `(tactic| try simp only [mkW, fSeq, fAsg, gN, fC, fVar, fBin, fDat, fFrz, oAdd, oInt0, oInt, oIx, fIfS, fTru, oTru, fBl, fNot, fAnd, fOr, fNext, fRet, fRetV, fRetN, fLst, fTup, fNil, fCons, fCB, oLen, oIntC, oStrI, oTupC, oLstC, fApp, fSl, fPart, fNoP, oSl, fIf, fAndV, fOrV, fNotV, fIsi, M.ty, fM1, oIn, oEq, oNe, eqF, fDrop, fFor, fWalk, oWalk, fRng, oR1, oR2, fCall, fComp, fYes, wipeE, oCat, oRep,
  fComp2, oMulS, fNeg, oSum, fExt, M.sqD, oMin2, oI2, gTupP, gConsP, gNilP, fDict, fDSet, oDIx, oDIn, fDGet2, M.asD, oEnum, oZip, fFz,
  List.length_cons, List.length_nil, List.map_cons, List.map_nil, List.cons_append, List.nil_append, List.append_nil, blanks, List.getElem?_cons_zero, List.getElem?_cons_succ, List.set_cons_zero, List.set_cons_succ, Option.some.injEq, exists_eq_left', true_and, and_true, Nat.reduceSub, Nat.reduceAdd, Nat.reduceLT, Nat.lt_add_one, M.dat.injEq, D.bl.injEq, D.int.injEq, Nat.zero_lt_succ, Nat.succ_lt_succ_iff, Nat.zero_lt_one, exists_eq_left, List.getElem?_nil, Bool.false_bne, Bool.false_xor, decide_eq_true_eq,
  ex_nil, ex_cons, ex_map, toD_lst, toD_dat, dats_nil, dats_cons, ld_l, ld_dat, ld_lst, Option.map_some, ex_some, kitI isi_int_int, kitI isi_int_bool, kitI isi_str_str, kitI isi_tup_tup, kitI isi_str_tup, M.lst.injEq, List.length_map, Bool.not_true, Bool.not_false, Bool.false_eq_true, if_true, if_false, reduceIte, endOf_nx, endOf_rt, endOf_ex])
def trisum : List (List Nat) → Nat
  | [] => 0
  | o :: r => tri o.length + trisum r
theorem varsF_len : ∀ (r : List (List Nat)) (a : Nat), (varsF a r).length = trisum r
  | [], _ => rfl
  | o :: r, a => by rw [varsF, List.length_append, List.length_map, srtN_len, progP_len, varsF_len r, trisum]
theorem trisum_le : ∀ (r : List (List Nat)), (∀ o ∈ r, o.length ≤ 5) → trisum r ≤ 15 * r.length
  | [], _ => Nat.le_refl _
  | o :: r, h => by
    have h1 := trisum_le r fun p m => h p (List.mem_cons_of_mem _ m)
    have h2 : tri o.length ≤ 15 := Nat.le_trans (tri_le (h o (List.mem_cons_self ..))) (by decide)
    rw [trisum, List.length_cons]
    omega
theorem point_count_ok (r : List (List Nat)) (m : Nat) (S : Sto) (Q : WP) (E : XP) (hr : r.length ≤ 4) (ho : ∀ o ∈ r, o.length ≤ 5) (hm : m + 1 < 2 ^ 60) (h : Q (.dat (.int ((m + 1) ^ trisum r : Nat))) S) :
    w_point_count [rowD r, .int m] S Q E := by
  unfold w_point_count r_point_count
  walk_at "fx"
  unfold r_point_count_2
  walk_at "fx"
  refine choice_variables_ok r _ _ _ hr ho ?_
  walk_at "fx"
  refine forW_by (fun ds ρ S2 => S2 = S ∧ ∃ (i : Nat) (x : Option M), i ≤ trisum r ∧ ds = (varsF 0 r).drop i ∧ ρ = [some (.dat (rowD r)), some (.dat (.int m)), some (.dat (.int ((m + 1) ^ i : Nat))), x]) ⟨rfl, 0, _, Nat.zero_le _, rfl, rfl⟩ ?_ ?_
  · rintro ρ S2 ⟨rfl, i, x, hi, e, rfl⟩
    have h1 := congrArg List.length e
    rw [List.length_nil, List.length_drop, varsF_len] at h1
    have h2 : i = trisum r := by omega
    subst h2
    unfold r_point_count_1
    walk_at "fx"
    exact h
  · rintro d ds ρ S2 ih ⟨rfl, i, x, hi, e, rfl⟩
    have h1 := congrArg List.length e
    rw [List.length_cons, List.length_drop, varsF_len] at h1
    have hlt : i < (varsF 0 r).length := by rw [varsF_len]; omega
    rw [List.drop_eq_getElem_cons hlt] at e
    injection e with e1 e2
    subst e1 e2
    generalize hW : forW (gN 3) _ _ ((varsF 0 r).drop (i + 1)) = W at ih ⊢
    walk_at "fx"
    have t1 := trisum_le r ho
    have t2 : (m + 1) ^ i ≤ (2 ^ 60) ^ 60 := Nat.le_trans (Nat.pow_le_pow_left (Nat.le_of_lt hm) i) (Nat.pow_le_pow_right (by decide) (by omega))
    rw [← Nat.pow_mul] at t2
    refine ⟨cmulN t2 (Nat.le_of_lt hm) (by omega), ?_⟩
    have hq : (((m + 1) ^ (i + 1) : Nat) : Int) = (((m + 1) ^ i : Nat) : Int) * ((m : Int) + 1) := by
      rw [Nat.pow_succ, Int.natCast_mul]
      rfl
    rw [← hq]
    exact ih _ _ ⟨rfl, i + 1, _, by omega, rfl, rfl⟩
end K48
namespace K48
open PySem L2 L2.Fn
local macro_rules | `(tactic| walk_at "fx") => `(tactic| try simp only [mkW, fSeq, fAsg, gN, fC, fVar, fBin, fDat, fFrz, oAdd, oInt0, oInt, oIx, fIfS, fTru, oTru, fBl, fNot, fAnd, fOr, fNext, fRet, fRetV, fRetN, fLst, fTup, fNil, fCons, fCB, oLen, oIntC, oStrI, oTupC, oLstC, fApp, fSl, fPart, fNoP, oSl, fIf, fAndV, fOrV, fNotV, fIsi, M.ty, fM1, oIn, oEq, oNe, eqF, fDrop, fFor, fWalk, oWalk, fRng, oR1, oR2, fCall, fComp, fYes, wipeE, oCat, oRep,
  fComp2, oMulS, fNeg, oSum, fExt, M.sqD, oMin2, oI2, gTupP, gConsP, gNilP, fDict, fDSet, oDIx, oDIn, fDGet2, M.asD, oEnum, oZip, fFz,
  List.length_cons, List.length_nil, List.map_cons, List.map_nil, List.cons_append, List.nil_append, List.append_nil, blanks, List.getElem?_cons_zero, List.getElem?_cons_succ, List.set_cons_zero, List.set_cons_succ, Option.some.injEq, exists_eq_left', true_and, and_true, Nat.reduceSub, Nat.reduceAdd, Nat.reduceLT, Nat.lt_add_one, M.dat.injEq, D.bl.injEq, D.int.injEq, Nat.zero_lt_succ, Nat.succ_lt_succ_iff, Nat.zero_lt_one, exists_eq_left, List.getElem?_nil, Bool.false_bne, Bool.false_xor, decide_eq_true_eq,
  ex_nil, ex_cons, ex_map, toD_lst, toD_dat, dats_nil, dats_cons, ld_l, ld_dat, ld_lst, Option.map_some, ex_some, kitI isi_int_int, kitI isi_int_bool, kitI isi_str_str, kitI isi_tup_tup, kitI isi_str_tup, M.lst.injEq, List.length_map, Bool.not_true, Bool.not_false, Bool.false_eq_true, if_true, if_false, reduceIte, endOf_nx, endOf_rt, endOf_ex])
def rowSum (x : Nat) : List (List (List Nat)) → Nat
  | [] => 0
  | r :: L => x ^ trisum r + rowSum x L
theorem rowSum_app (x : Nat) : ∀ L M, rowSum x (L ++ M) = rowSum x L + rowSum x M
  | [], M => by simp [rowSum]
  | r :: L, M => by rw [List.cons_append, rowSum, rowSum, rowSum_app x L M, Nat.add_assoc]
theorem trisum_snoc (o : List Nat) : ∀ r, trisum (r ++ [o]) = trisum r + tri o.length
  | [] => by simp [trisum]
  | p :: r => by rw [List.cons_append, trisum, trisum, trisum_snoc o r, Nat.add_assoc]
theorem rowSum_one (x : Nat) (r : List (List Nat)) : ∀ P : List (List Nat), rowSum x (P.map fun o => r ++ [o]) = x ^ trisum r * wt x P
  | [] => rfl
  | o :: P => by rw [List.map_cons, rowSum, rowSum_one x r P, wt, trisum_snoc, Nat.pow_add, Nat.mul_add]
theorem rowSum_step {c : Nat} (hc : c ≤ 5) (x : Nat) : ∀ L, rowSum x (stepR c L) = rowSum x L * manyC c x
  | [] => by simp [stepR, rowSum]
  | r :: L => by
    have h : stepR c (r :: L) = ((ordersN c).map fun o => r ++ [o]) ++ stepR c L := rfl
    rw [h, rowSum_app, rowSum_one, rowSum_step hc x L, orders_wt hc, rowSum, Nat.add_mul]
theorem rowSum_all (x : Nat) : ∀ (cs : List Nat) (L), (∀ c ∈ cs, c ≤ 5) → rowSum x (rowsF cs L) = rowSum x L * manyL x cs
  | [], L, _ => by simp [rowsF, manyL]
  | c :: cs, L, h => by
    rw [rowsF, rowSum_all x cs _ fun d m => h d (List.mem_cons_of_mem _ m), rowSum_step (h c (List.mem_cons_self ..)), manyL, Nat.mul_assoc]
theorem found_mem {c : Nat} : ∀ k, ∀ o ∈ foundO c k, o.length ≤ k
  | 0, o, h => by simp [foundO] at h; rw [h]; exact Nat.le_refl _
  | k + 1, o, h => by
    rw [foundO] at h
    rcases List.mem_append.mp h with h | h
    · exact Nat.le_succ_of_le (found_mem k o h)
    · rw [layerO_text c (k + 1) o h]
      exact Nat.le_refl _
end K48
namespace K48
open PySem L2 L2.Fn
local macro_rules | `(tactic| walk_at "fx") => `(tactic| try simp only [mkW, fSeq, fAsg, gN, fC, fVar, fBin, fDat, fFrz, oAdd, oInt0, oInt, oIx, fIfS, fTru, oTru, fBl, fNot, fAnd, fOr, fNext, fRet, fRetV, fRetN, fLst, fTup, fNil, fCons, fCB, oLen, oIntC, oStrI, oTupC, oLstC, fApp, fSl, fPart, fNoP, oSl, fIf, fAndV, fOrV, fNotV, fIsi, M.ty, fM1, oIn, oEq, oNe, eqF, fDrop, fFor, fWalk, oWalk, fRng, oR1, oR2, fCall, fComp, fYes, wipeE, oCat, oRep,
  fComp2, oMulS, fNeg, oSum, fExt, M.sqD, oMin2, oI2, gTupP, gConsP, gNilP, fDict, fDSet, oDIx, oDIn, fDGet2, M.asD, oEnum, oZip, fFz,
  List.length_cons, List.length_nil, List.map_cons, List.map_nil, List.cons_append, List.nil_append, List.append_nil, blanks, List.getElem?_cons_zero, List.getElem?_cons_succ, List.set_cons_zero, List.set_cons_succ, Option.some.injEq, exists_eq_left', true_and, and_true, Nat.reduceSub, Nat.reduceAdd, Nat.reduceLT, Nat.lt_add_one, M.dat.injEq, D.bl.injEq, D.int.injEq, Nat.zero_lt_succ, Nat.succ_lt_succ_iff, Nat.zero_lt_one, exists_eq_left, List.getElem?_nil, Bool.false_bne, Bool.false_xor, decide_eq_true_eq,
  ex_nil, ex_cons, ex_map, toD_lst, toD_dat, dats_nil, dats_cons, ld_l, ld_dat, ld_lst, Option.map_some, ex_some, kitI isi_int_int, kitI isi_int_bool, kitI isi_str_str, kitI isi_tup_tup, kitI isi_str_tup, M.lst.injEq, List.length_map, Bool.not_true, Bool.not_false, Bool.false_eq_true, if_true, if_false, reduceIte, endOf_nx, endOf_rt, endOf_ex])
theorem stepR_ok {c : Nat} (hc : c ≤ 5) {L} (h : ∀ r ∈ L, ∀ o ∈ r, o.length ≤ 5) : ∀ r ∈ stepR c L, ∀ o ∈ r, o.length ≤ 5 := by
  intro r m o ho
  obtain ⟨p, hp, m⟩ := List.mem_flatMap.mp m
  obtain ⟨q, hq, rfl⟩ := List.mem_map.mp m
  rcases List.mem_append.mp ho with ho | ho
  · exact h p hp o ho
  · rw [List.mem_singleton.mp ho]
    exact Nat.le_trans (found_mem c q hq) hc
theorem rowsF_ok : ∀ (cs : List Nat) {L}, (∀ c ∈ cs, c ≤ 5) → (∀ r ∈ L, ∀ o ∈ r, o.length ≤ 5) → ∀ r ∈ rowsF cs L, ∀ o ∈ r, o.length ≤ 5
  | [], L, _, h, r, m => h r m
  | c :: cs, L, hc, h, r, m => rowsF_ok cs (fun d hd => hc d (List.mem_cons_of_mem _ hd)) (stepR_ok (hc c (List.mem_cons_self ..)) h) r m
theorem rowSum_sum (x : Nat) : ∀ L, ((L.map fun r => ((x ^ trisum r : Nat) : Int)).sum) = (rowSum x L : Nat)
  | [] => rfl
  | r :: L => by rw [List.map_cons, List.sum_cons, rowSum_sum x L, rowSum, Int.natCast_add]
theorem check_ok (cs : List Nat) (m : Nat) (S : Sto) (Q : WP) (E : XP) (hl : cs.length ≤ 4) (hc : ∀ c ∈ cs, c ≤ 5) (hm : m + 1 < 2 ^ 60) (h : manyL 1 cs ≤ 300 → manyL (m + 1) cs ≤ 4000 → Q (.dat (.int (manyL (m + 1) cs : Nat))) S)
    (hR : 300 < manyL 1 cs → E ⟨Str.ofString "TooMuch", [(Str.ofString "what", .str [114, 111, 119, 115])]⟩ S) (hP : manyL 1 cs ≤ 300 → 4000 < manyL (m + 1) cs → E ⟨Str.ofString "TooMuch", [(Str.ofString "what", .str [112, 114, 111, 98, 101, 115])]⟩ S) :
    w_check_probes [.tup (cs.map fun (c : Nat) => D.int (c : Int)), .int m] S Q E := by
  unfold w_check_probes r_check_probes
  walk_at "fx"
  refine choice_count_ok cs _ _ _ hl hc ?_
  walk_at "fx"
  unfold gv_ROWS oGt
  walk_at "fx"
  by_cases hr : 300 < manyL 1 cs
  · rw [if_pos (by omega)]
    unfold fRaise1
    walk_at "fx"
    exact hR hr
  have hr : manyL 1 cs ≤ 300 := by omega
  rw [if_neg (by omega)]
  unfold r_check_probes_3
  walk_at "fx"
  refine order_rows_ok cs _ _ _ hc hl hr ?_
  walk_at "fx"
  have lenL : (rowsF cs [[]]).length = manyL 1 cs := by rw [rowsF_len cs _ hc]; simp
  refine compW_by (fun ds acc S2 => S2 = S ∧ ∃ L1 L2, rowsF cs [[]] = L1 ++ L2 ∧ ds = L2.map rowD ∧ acc = (L1.map fun r => D.int (((m + 1) ^ trisum r : Nat) : Int)).map M.dat) ⟨rfl, [], _, rfl, rfl, rfl⟩ ?_ ?_
  · rintro acc S2 ⟨rfl, L1, L2, f1, f3, rfl⟩
    have f4 : L2 = [] := by cases L2 with
      | nil => rfl
      | cons a b => simp at f3
    rw [f4, List.append_nil] at f1
    rw [← f1]
    refine ⟨_, ld_lst _, (rowsF cs [[]]).map fun r => (((m + 1) ^ trisum r : Nat) : Int), ?_, ?_⟩
    · rw [← intsOf_map, List.map_map]
      rfl
    rw [rowSum_sum, rowSum_all _ cs _ hc]
    have : rowSum (m + 1) [[]] = 1 := by simp [rowSum, trisum]
    rw [this, Nat.one_mul]
    unfold r_check_probes_2
    walk_at "fx"
    unfold gv_PROBES oGt
    walk_at "fx"
    by_cases hp : 4000 < manyL (m + 1) cs
    · rw [if_pos (by omega)]
      unfold fRaise1
      walk_at "fx"
      exact hP hr hp
    rw [if_neg (by omega)]
    unfold r_check_probes_1
    walk_at "fx"
    exact h hr (by omega)
  · rintro d ds acc S2 ih ⟨rfl, L1, L2, f1, f3, rfl⟩
    cases L2 with
    | nil => simp at f3
    | cons r L2 =>
      rw [List.map_cons] at f3
      injection f3 with f3 f4
      subst f3 f4
      have hmem : r ∈ rowsF cs [[]] := by rw [f1]; simp
      have k1 : r.length = 0 + cs.length := rowsF_mem cs (L := [[]]) (n := 0) (by simp) r hmem
      have k2 := rowsF_ok cs (L := [[]]) hc (by simp) r hmem
      generalize hW : compW (gN 3) fYes _ _ _ _ (L2.map rowD) = W at ih ⊢
      walk_at "fx"
      refine point_count_ok r m _ _ _ (by omega) k2 hm ?_
      have k3 := congrArg List.length f1
      rw [lenL, List.length_append] at k3
      refine ⟨small_line' (by omega), ?_⟩
      exact ih _ _ ⟨rfl, L1 ++ [r], L2, by rw [f1]; simp, rfl, by simp⟩
end K48
namespace K48
open PySem L2 L2.Fn
local macro_rules | `(tactic| walk_at "fx") => `(tactic| try simp only [mkW, fSeq, fAsg, gN, fC, fVar, fBin, fDat, fFrz, oAdd, oInt0, oInt, oIx, fIfS, fTru, oTru, fBl, fNot, fAnd, fOr, fNext, fRet, fRetV, fRetN, fLst, fTup, fNil, fCons, fCB, oLen, oIntC, oStrI, oTupC, oLstC, fApp, fSl, fPart, fNoP, oSl, fIf, fAndV, fOrV, fNotV, fIsi, M.ty, fM1, oIn, oEq, oNe, eqF, fDrop, fFor, fWalk, oWalk, fRng, oR1, oR2, fCall, fComp, fYes, wipeE, oCat, oRep,
  fComp2, oMulS, fNeg, oSum, fExt, M.sqD, oMin2, oI2, gTupP, gConsP, gNilP, fDict, fDSet, oDIx, oDIn, fDGet2, M.asD, oEnum, oZip, fFz,
  List.length_cons, List.length_nil, List.map_cons, List.map_nil, List.cons_append, List.nil_append, List.append_nil, blanks, List.getElem?_cons_zero, List.getElem?_cons_succ, List.set_cons_zero, List.set_cons_succ, Option.some.injEq, exists_eq_left', true_and, and_true, Nat.reduceSub, Nat.reduceAdd, Nat.reduceLT, Nat.lt_add_one, M.dat.injEq, D.bl.injEq, D.int.injEq, Nat.zero_lt_succ, Nat.succ_lt_succ_iff, Nat.zero_lt_one, exists_eq_left, List.getElem?_nil, Bool.false_bne, Bool.false_xor, decide_eq_true_eq,
  ex_nil, ex_cons, ex_map, toD_lst, toD_dat, dats_nil, dats_cons, ld_l, ld_dat, ld_lst, Option.map_some, ex_some, kitI isi_int_int, kitI isi_int_bool, kitI isi_str_str, kitI isi_tup_tup, kitI isi_str_tup, M.lst.injEq, List.length_map, Bool.not_true, Bool.not_false, Bool.false_eq_true, if_true, if_false, reduceIte, endOf_nx, endOf_rt, endOf_ex])
def lst1 (p : Nat × Nat) : Nat := if p.1 = p.2 then 1 else 0
theorem least_ok (a : Nat) (p : Nat × Nat) (S : Sto) (Q : WP) (E : XP) (h : Q (.dat (.int (lst1 p : Nat))) S) : w_least_number [tripD a p] S Q E := by
  unfold w_least_number r_least_number
  rw [tripD]
  walk_at "fx"
  refine ⟨_, rfl, _, rfl, _, rfl, ?_⟩
  unfold lst1 at h
  by_cases g : p.1 = p.2
  · rw [if_pos g] at h
    rw [if_pos (by simp [g])]
    exact h
  · rw [if_neg g] at h
    rw [if_neg (by simp [g])]
    exact h
def pairsF : List (List Nat) → List (Nat × Nat)
  | [] => []
  | o :: r => srtN (progP o) ++ pairsF r
def stepP (m : Nat) (p : Nat × Nat) (L : List (List Nat)) : List (List Nat) := L.flatMap fun v => (List.range (m + 1)).map fun n => v ++ [lst1 p + n]
def ptsF (m : Nat) : List (Nat × Nat) → List (List Nat) → List (List Nat)
  | [], L => L
  | p :: ps, L => ptsF m ps (stepP m p L)
theorem stepP_app (m p L M) : stepP m p (L ++ M) = stepP m p L ++ stepP m p M := by
  unfold stepP
  rw [List.flatMap_append]
theorem stepP_len (m p) : ∀ L, (stepP m p L).length = L.length * (m + 1)
  | [] => by simp [stepP]
  | v :: L => by
    have h : stepP m p (v :: L) = ((List.range (m + 1)).map fun n => v ++ [lst1 p + n]) ++ stepP m p L := rfl
    rw [h, List.length_append, List.length_map, List.length_range, stepP_len m p L, List.length_cons, Nat.succ_mul, Nat.add_comm]
theorem ptsF_len (m) : ∀ ps L, (ptsF m ps L).length = L.length * (m + 1) ^ ps.length
  | [], L => by simp [ptsF]
  | p :: ps, L => by rw [ptsF, ptsF_len m ps, stepP_len, List.length_cons, Nat.pow_succ, Nat.mul_assoc, Nat.mul_comm (m + 1)]
theorem pairsF_len : ∀ r : List (List Nat), (pairsF r).length = trisum r
  | [] => rfl
  | o :: r => by rw [pairsF, List.length_append, srtN_len, progP_len, pairsF_len r, trisum]
def numD (v : List Nat) : D := .tup (v.map fun (n : Nat) => D.int (n : Int))
theorem flatMap_congr' {α β : Type} {f g : α → List β} : ∀ {l : List α}, (∀ x ∈ l, f x = g x) → l.flatMap f = l.flatMap g
  | [], _ => rfl
  | a :: l, h => by rw [List.flatMap_cons, List.flatMap_cons, h a (List.mem_cons_self ..), flatMap_congr' fun x m => h x (List.mem_cons_of_mem _ m)]
theorem flatMap_len {α β : Type} {f : α → List β} {k : Nat} : ∀ {l : List α}, (∀ x ∈ l, (f x).length = k) → (l.flatMap f).length = l.length * k
  | [], _ => by simp
  | a :: l, h => by
    rw [List.flatMap_cons, List.length_append, h a (List.mem_cons_self ..), flatMap_len fun x m => h x (List.mem_cons_of_mem _ m), List.length_cons, Nat.succ_mul, Nat.add_comm]
def pairsA : Nat → List (List Nat) → List (Nat × (Nat × Nat))
  | _, [] => []
  | a, o :: r => (srtN (progP o)).map (fun p => (a, p)) ++ pairsA (a + 1) r
theorem pairsF_A : ∀ r a, pairsF r = (pairsA a r).map (·.2)
  | [], _ => rfl
  | o :: r, a => by
    rw [pairsF, pairsA, List.map_append, ← pairsF_A r (a + 1), List.map_map]
    congr 1
    simp [Function.comp_def]
theorem pairsF_snoc (o : List Nat) : ∀ r, pairsF (r ++ [o]) = pairsF r ++ srtN (progP o)
  | [] => by simp [pairsF]
  | p :: r => by rw [List.cons_append, pairsF, pairsF, pairsF_snoc o r, List.append_assoc]
theorem pairsA_snoc (o : List Nat) : ∀ r a, pairsA a (r ++ [o]) = pairsA a r ++ (srtN (progP o)).map fun p => (a + r.length, p)
  | [], a => by simp [pairsA]
  | p :: r, a => by
    rw [List.cons_append, pairsA, pairsA, pairsA_snoc o r (a + 1), List.append_assoc, List.length_cons]
    have : a + 1 + r.length = a + (r.length + 1) := by omega
    rw [this]
theorem pairsA_lt : ∀ r a, ∀ q ∈ pairsA a r, a ≤ q.1 ∧ q.1 < a + r.length
  | [], a, q, h => by simp [pairsA] at h
  | o :: r, a, q, h => by
    rw [pairsA] at h
    rcases List.mem_append.mp h with h | h
    · obtain ⟨p, _, rfl⟩ := List.mem_map.mp h
      simp
    · have := pairsA_lt r (a + 1) q h
      simp
      omega
theorem pairsA_mem : ∀ (r : List (List Nat)) (a i : Nat) (o : List Nat), r[i]? = some o → ∀ p ∈ srtN (progP o), (a + i, p) ∈ pairsA a r
  | [], a, i, o, h, p, _ => by simp at h
  | o' :: r, a, 0, o, h, p, hp => by
    simp at h
    subst h
    rw [pairsA]
    exact List.mem_append_left _ (List.mem_map.mpr ⟨p, hp, rfl⟩)
  | o' :: r, a, i + 1, o, h, p, hp => by
    rw [pairsA]
    have := pairsA_mem r (a + 1) i o (by simpa using h) p hp
    have e : a + 1 + i = a + (i + 1) := by omega
    rw [e] at this
    exact List.mem_append_right _ this
theorem ptsF_app (m) : ∀ ps qs L, ptsF m (ps ++ qs) L = ptsF m qs (ptsF m ps L)
  | [], qs, L => rfl
  | p :: ps, qs, L => by rw [List.cons_append, ptsF, ptsF, ptsF_app m ps]
theorem ptsF_flat (m) : ∀ qs L, ptsF m qs L = L.flatMap fun v => (ptsF m qs [[]]).map (v ++ ·)
  | [], L => by simp [ptsF]
  | p :: qs, L => by
    rw [ptsF, ptsF_flat m qs (stepP m p L)]
    have h : ptsF m (p :: qs) [[]] = (stepP m p [[]]).flatMap fun v => (ptsF m qs [[]]).map (v ++ ·) := by rw [ptsF, ptsF_flat m qs (stepP m p [[]])]
    rw [h]
    unfold stepP
    simp only [List.flatMap_assoc, List.map_flatMap, List.flatMap_map, List.map_map, List.flatMap_cons, List.flatMap_nil, List.append_nil, List.nil_append, Function.comp_def, List.append_assoc]
theorem stepP_memlen {m p L} {n : Nat} (h : ∀ v ∈ L, v.length = n) : ∀ v ∈ stepP m p L, v.length = n + 1 := by
  intro v hv
  obtain ⟨u, hu, hv⟩ := List.mem_flatMap.mp hv
  obtain ⟨k, _, rfl⟩ := List.mem_map.mp hv
  simp [h u hu]
theorem ptsF_memlen (m) : ∀ ps L (n : Nat), (∀ v ∈ L, v.length = n) → ∀ v ∈ ptsF m ps L, v.length = n + ps.length
  | [], L, n, h, v, hv => h v hv
  | p :: ps, L, n, h, v, hv => by
    rw [ptsF_memlen m ps _ (n + 1) (stepP_memlen h) v hv, List.length_cons]
    omega
/-- the numbers stand between the least one and m more -/
theorem ptsF_range (m) : ∀ ps (L : List (List Nat)) (qs : List (Nat × Nat)), (∀ v ∈ L, ∀ i, i < qs.length → lst1 (qs[i]!) ≤ v.getD i 0 ∧ v.getD i 0 ≤ m + 1) → (∀ v ∈ L, v.length = qs.length) →
    ∀ v ∈ ptsF m ps L, ∀ i, i < (qs ++ ps).length → lst1 ((qs ++ ps)[i]!) ≤ v.getD i 0 ∧ v.getD i 0 ≤ m + 1
  | [], L, qs, h, _, v, hv => by rw [List.append_nil]; exact h v hv
  | p :: ps, L, qs, h, hl, v, hv => by
    have e : qs ++ p :: ps = (qs ++ [p]) ++ ps := by simp
    rw [e]
    refine ptsF_range m ps (stepP m p L) (qs ++ [p]) ?_ ?_ v hv
    · intro w hw i hi
      obtain ⟨u, hu, hw⟩ := List.mem_flatMap.mp hw
      obtain ⟨k, hk, rfl⟩ := List.mem_map.mp hw
      rw [List.mem_range] at hk
      have lu := hl u hu
      by_cases g : i < qs.length
      · have := h u hu i g
        have e1 : (u ++ [lst1 p + k]).getD i 0 = u.getD i 0 := by simp [List.getD, List.getElem?_append_left (show i < u.length by omega)]
        have e2 : (qs ++ [p])[i]! = qs[i]! := by simp [List.getElem!_eq_getElem?_getD, List.getElem?_append_left g]
        rw [e1, e2]
        exact this
      · have : i = qs.length := by simp at hi; omega
        subst this
        have e1 : (u ++ [lst1 p + k]).getD qs.length 0 = lst1 p + k := by simp [List.getD, ← lu]
        have e2 : (qs ++ [p])[qs.length]! = p := by simp [List.getElem!_eq_getElem?_getD]
        rw [e1, e2]
        have : lst1 p ≤ 1 := by unfold lst1; split <;> omega
        omega
    · intro w hw
      rw [List.length_append]
      exact stepP_memlen (fun v hv => hl v hv) w hw
def numF (ps : List (Nat × Nat)) (w : List Nat) (p : Nat × Nat) : Nat := w.getD (ps.idxOf p) 0
def Tl : List Nat → (Nat × Nat → Nat) → List Nat
  | [], _ => []
  | m :: r, n => (r ++ [m]).flatMap (fun l => List.replicate (n (l, m)) l) ++ Tl r n
theorem Tl_congr {n n' : Nat × Nat → Nat} : ∀ {o : List Nat}, (∀ p ∈ progP o, n p = n' p) → Tl o n = Tl o n'
  | [], _ => rfl
  | m :: r, h => by
    rw [Tl, Tl, Tl_congr fun p hp => h p (by rw [progP]; exact List.mem_append_right _ hp)]
    congr 1
    refine flatMap_congr' fun x hx => ?_
    rw [h (x, m) (by
      rw [progP]
      refine List.mem_append_left _ (List.mem_map.mpr ⟨x, ?_, rfl⟩)
      simp at hx ⊢
      exact hx.symm)]
def textsL (m : Nat) (o : List Nat) : List (List Nat) := (ptsF m (srtN (progP o)) [[]]).map fun w => Tl o (numF (srtN (progP o)) w)
def numA (r : List (List Nat)) (v : List Nat) (a : Nat) (p : Nat × Nat) : Nat := v.getD ((pairsA 0 r).idxOf (a, p)) 0
def textsR (r : List (List Nat)) (v : List Nat) : List (List Nat) := r.zipIdx.map fun q => Tl q.1 (numA r v q.2)
def stepL (m : Nat) (o : List Nat) (L : List (List (List Nat))) : List (List (List Nat)) := L.flatMap fun row => (textsL m o).map fun t => row ++ [t]
def rowsL (m : Nat) : List (List Nat) → List (List (List Nat)) → List (List (List Nat))
  | [], L => L
  | o :: r, L => rowsL m r (stepL m o L)
theorem rowsL_app (m) : ∀ r s L, rowsL m (r ++ s) L = rowsL m s (rowsL m r L)
  | [], s, L => rfl
  | o :: r, s, L => by rw [List.cons_append, rowsL, rowsL, rowsL_app m r]
theorem idx_app {α : Type} [BEq α] [LawfulBEq α] {x : α} : ∀ {l r : List α}, x ∉ l → (l ++ r).idxOf x = l.length + r.idxOf x
  | [], r, _ => by rw [List.nil_append, List.length_nil, Nat.zero_add]
  | a :: l, r, h => by
    have h1 : (a == x) = false := by
      cases e : a == x with
      | false => rfl
      | true => exact absurd (by rw [eq_of_beq e]; exact List.mem_cons_self ..) h
    have h2 : x ∉ l := fun e => h (List.mem_cons_of_mem _ e)
    rw [List.cons_append, List.idxOf_cons, List.length_cons, idx_app h2, h1, cond_false]
    omega
theorem idx_in {α : Type} [BEq α] [LawfulBEq α] {x : α} : ∀ {l r : List α}, x ∈ l → (l ++ r).idxOf x = l.idxOf x
  | [], r, h => by cases h
  | a :: l, r, h => by
    rw [List.cons_append, List.idxOf_cons, List.idxOf_cons]
    cases e : a == x with
    | true => rfl
    | false =>
      rcases List.mem_cons.mp h with h | h
      · rw [h] at e; simp at e
      · rw [idx_in h]
theorem idx_map {α β : Type} [BEq α] [LawfulBEq α] [BEq β] [LawfulBEq β] {f : α → β} (inj : ∀ a b, f a = f b → a = b) (x : α) : ∀ l : List α, (l.map f).idxOf (f x) = l.idxOf x
  | [] => rfl
  | a :: l => by
    rw [List.map_cons, List.idxOf_cons, List.idxOf_cons, idx_map inj x l]
    have : (f a == f x) = (a == x) := by
      cases e : a == x with
      | true => rw [eq_of_beq e]; simp
      | false =>
        cases e2 : f a == f x with
        | false => rfl
        | true => rw [inj _ _ (eq_of_beq e2)] at e; simp at e
    rw [this]
theorem textsR_snoc (r : List (List Nat)) (o v w : List Nat) (hv : v.length = (pairsA 0 r).length) (hp : ∀ o, ∀ p ∈ progP o, p ∈ srtN (progP o)) :
    textsR (r ++ [o]) (v ++ w) = textsR r v ++ [Tl o (numF (srtN (progP o)) w)] := by
  unfold textsR
  rw [List.zipIdx_append, List.map_append]
  congr 1
  · refine List.map_congr_left fun q hq => ?_
    refine Tl_congr fun p hpp => ?_
    have h1 := List.mem_zipIdx hq
    obtain ⟨_, h2, h3⟩ := h1
    have h4 : (q.2, p) ∈ pairsA 0 r := by
      have := pairsA_mem r 0 q.2 q.1 (by rw [h3, List.getElem?_eq_getElem (by omega)]; simp) p (hp _ p hpp)
      simpa using this
    unfold numA
    rw [pairsA_snoc, idx_in h4]
    have h5 : (pairsA 0 r).idxOf (q.2, p) < v.length := by rw [hv]; exact List.idxOf_lt_length_of_mem h4
    simp [List.getD, List.getElem?_append_left h5]
  · simp
    refine Tl_congr fun p hpp => ?_
    unfold numA numF
    rw [pairsA_snoc]
    have h4 : (r.length, p) ∉ pairsA 0 r := fun h => by
      have := pairsA_lt r 0 _ h
      simp at this
    rw [idx_app h4, ← hv, Nat.zero_add, idx_map (f := fun p => (r.length, p)) (fun a b h => by injection h) p]
    simp [List.getD, List.getElem?_append_right]
theorem probes_eq (m : Nat) (hp : ∀ o, ∀ p ∈ progP o, p ∈ srtN (progP o)) : ∀ r, (ptsF m (pairsF r) [[]]).map (textsR r) = rowsL m r [[]] := by
  have main : ∀ r, (ptsF m (pairsF (List.reverse r)) [[]]).map (textsR r.reverse) = rowsL m r.reverse [[]] := by
    intro r
    induction r with
    | nil => rfl
    | cons o r ih =>
      rw [List.reverse_cons, pairsF_snoc, ptsF_app, ptsF_flat m (srtN (progP o)), rowsL_app, ← ih, List.map_flatMap]
      show _ = stepL m o _
      unfold stepL
      rw [List.flatMap_map]
      refine flatMap_congr' fun v hv => ?_
      rw [List.map_map]
      unfold textsL
      rw [List.map_map]
      refine List.map_congr_left fun w hw => ?_
      have hl := ptsF_memlen m _ [[]] 0 (by simp) v hv
      rw [pairsF_A _ 0, List.length_map, Nat.zero_add] at hl
      exact textsR_snoc r.reverse o v w hl hp
  intro r
  have := main r.reverse
  rwa [List.reverse_reverse] at this
theorem pairsA_nodup : ∀ (r : List (List Nat)) (a : Nat), (∀ o ∈ r, (srtN (progP o)).Nodup) → (pairsA a r).Nodup
  | [], a, _ => List.nodup_nil
  | o :: r, a, h => by
    rw [pairsA]
    refine List.nodup_append.mpr ⟨?_, pairsA_nodup r (a + 1) fun p m => h p (List.mem_cons_of_mem _ m), fun x hx y hy e => ?_⟩
    · exact List.pairwise_map.mpr ((h o (List.mem_cons_self ..)).imp fun hne e => hne (by injection e))
    · obtain ⟨p, _, rfl⟩ := List.mem_map.mp hx
      have := pairsA_lt r (a + 1) y hy
      rw [← e] at this
      simp at this
      omega
theorem zip_mem {α : Type} [BEq α] [LawfulBEq α] {l : List α} {v : List Nat} {q : α} (hl : v.length = l.length) (h : q ∈ l) : (q, v.getD (l.idxOf q) 0) ∈ l.zip v := by
  have h1 := List.idxOf_lt_length_of_mem h
  have h2 : l.idxOf q < (l.zip v).length := by rw [List.length_zip]; omega
  have h3 : (l.zip v)[l.idxOf q] = (q, v.getD (l.idxOf q) 0) := by
    rw [List.getElem_zip]
    have h4 : l[l.idxOf q] = q := List.getElem_idxOf h1
    rw [h4]
    congr 1
    rw [List.getD, List.getElem?_eq_getElem (by omega)]
    rfl
  rw [← h3]
  exact List.getElem_mem h2
end K48
namespace K48
open PySem L2 L2.Fn
local macro_rules | `(tactic| walk_at "fx") => `(tactic| try simp only [mkW, fSeq, fAsg, gN, fC, fVar, fBin, fDat, fFrz, oAdd, oInt0, oInt, oIx, fIfS, fTru, oTru, fBl, fNot, fAnd, fOr, fNext, fRet, fRetV, fRetN, fLst, fTup, fNil, fCons, fCB, oLen, oIntC, oStrI, oTupC, oLstC, fApp, fSl, fPart, fNoP, oSl, fIf, fAndV, fOrV, fNotV, fIsi, M.ty, fM1, oIn, oEq, oNe, eqF, fDrop, fFor, fWalk, oWalk, fRng, oR1, oR2, fCall, fComp, fYes, wipeE, oCat, oRep,
  fComp2, oMulS, fNeg, oSum, fExt, M.sqD, oMin2, oI2, gTupP, gConsP, gNilP, fDict, fDSet, oDIx, oDIn, fDGet2, M.asD, oEnum, oZip, fFz,
  List.length_cons, List.length_nil, List.map_cons, List.map_nil, List.cons_append, List.nil_append, List.append_nil, blanks, List.getElem?_cons_zero, List.getElem?_cons_succ, List.set_cons_zero, List.set_cons_succ, Option.some.injEq, exists_eq_left', true_and, and_true, Nat.reduceSub, Nat.reduceAdd, Nat.reduceLT, Nat.lt_add_one, M.dat.injEq, D.bl.injEq, D.int.injEq, Nat.zero_lt_succ, Nat.succ_lt_succ_iff, Nat.zero_lt_one, exists_eq_left, List.getElem?_nil, Bool.false_bne, Bool.false_xor, decide_eq_true_eq,
  ex_nil, ex_cons, ex_map, toD_lst, toD_dat, dats_nil, dats_cons, ld_l, ld_dat, ld_lst, Option.map_some, ex_some, kitI isi_int_int, kitI isi_int_bool, kitI isi_str_str, kitI isi_tup_tup, kitI isi_str_tup, M.lst.injEq, List.length_map, Bool.not_true, Bool.not_false, Bool.false_eq_true, if_true, if_false, reduceIte, endOf_nx, endOf_rt, endOf_ex])
def triD (q : Nat × (Nat × Nat)) : D := tripD q.1 q.2
theorem varsF_A : ∀ r a, varsF a r = (pairsA a r).map triD
  | [], _ => rfl
  | o :: r, a => by
    rw [varsF, pairsA, List.map_append, varsF_A r (a + 1), List.map_map]
    rfl
theorem pairsA_len (r : List (List Nat)) (a : Nat) : (pairsA a r).length = trisum r := by
  have := congrArg List.length (pairsF_A r a)
  rw [List.length_map, pairsF_len] at this
  exact this.symm
theorem points_ok (r : List (List Nat)) (m : Nat) (S : Sto) (Q : WP) (E : XP) (hr : r.length ≤ 4) (ho : ∀ o ∈ r, o.length ≤ 5) (hm : (m + 1) ^ trisum r ≤ 4000) (hm2 : m < 2 ^ 60)
    (h : ∀ mm : M, mm.toD = .lst ((ptsF m (pairsF r) [[]]).map numD) → Q mm S) : w__points [rowD r, .int m] S Q E := by
  unfold w__points r__points
  walk_at "fx"
  refine ⟨small_line (by decide), small_line (by decide), ?_⟩
  unfold r__points_3
  walk_at "fx"
  refine choice_variables_ok r _ _ _ hr ho ?_
  walk_at "fx"
  rw [varsF_A]
  refine forV (fun l ρ => ∃ (mm : M) (x y z w : Option M), mm.toD = .lst ((ptsF m (l.map (·.2)) [[]]).map numD) ∧ ρ = [some (.dat (rowD r)), some (.dat (.int m)), some mm, x, y, z, w]) ⟨_, _, _, _, _, ?_, rfl⟩ ?_ ?_
  · rfl
  · rintro ρ ⟨mm, x, y, z, w, e, rfl⟩
    unfold r__points_2
    walk_at "fx"
    refine h mm ?_
    rw [e, ← pairsF_A]
  · rintro l q rr ρ W e ⟨mm, x, y, z, w, e1, rfl⟩ ih
    walk_at "fx"
    rw [triD]
    refine least_ok q.1 q.2 _ _ _ ?_
    walk_at "fx"
    unfold r__points_1
    walk_at "fx"
    rw [e1]
    walk_at "fx"
    have hlen : (ptsF m (l.map (·.2)) [[]]).length * (m + 1) ≤ 4000 := by
      rw [ptsF_len, List.length_map, List.length_singleton, Nat.one_mul, ← Nat.pow_succ]
      refine Nat.le_trans (Nat.pow_le_pow_right (by omega) ?_) hm
      have := congrArg List.length e
      rw [pairsA_len, List.length_append, List.length_cons] at this
      omega
    refine comp2V (fun v => (List.range (m + 1)).map fun n => M.dat (numD (v ++ [lst1 q.2 + n]))) ?_ ?_
    · refine ih _ ⟨_, _, _, _, _, ?_, rfl⟩
      rw [List.map_append, ptsF_app]
      show _ = D.lst ((stepP m q.2 _).map numD)
      unfold stepP
      rw [List.map_flatMap]
      simp only [List.map_map, Function.comp_def]
      have := toD_lst ((ptsF m (l.map (·.2)) [[]]).flatMap fun v => (List.range (m + 1)).map fun n => numD (v ++ [lst1 q.2 + n]))
      rw [List.map_flatMap] at this
      simp only [List.map_map, Function.comp_def] at this
      exact this
    · intro l2 v r2 acc W2 e2 e3 ih2
      walk_at "fx"
      refine ⟨by omega, by omega, ?_⟩
      have hn : ((m : Int) + 1).toNat = m + 1 := by omega
      rw [hn, rng_map]
      have hl2 : (l2.length + 1) * (m + 1) ≤ 4000 := by
        refine Nat.le_trans (Nat.mul_le_mul_right _ ?_) hlen
        rw [e2, List.length_append, List.length_cons]
        omega
      have hacc : acc.length = l2.length * (m + 1) := by
        rw [e3]
        exact flatMap_len fun x _ => by simp
      rw [Nat.succ_mul] at hl2
      refine innerA (fun n => M.dat (numD (v ++ [lst1 q.2 + n]))) (by rw [List.length_range]; omega) ih2 ?_
      intro l3 n r3 K1 e4 k
      rw [numD]
      walk_at "fx"
      have hv := ptsF_memlen m _ [[]] 0 (by simp) v (by rw [e2]; simp)
      have hv2 : l.length ≤ 60 := by
        have h1 := congrArg List.length e
        rw [pairsA_len, List.length_append] at h1
        have h2 := trisum_le r ho
        omega
      rw [List.length_map] at hv
      refine ⟨small_line (by decide), small_line (by omega), ?_⟩
      have hz : (lst1 q.2 : Int) + (0 + (n : Int)) = ((lst1 q.2 + n : Nat) : Int) := by omega
      rw [hz]
      have := k
      rw [numD, List.map_append] at this
      exact this
end K48
namespace K48
open PySem L2 L2.Fn
local macro_rules | `(tactic| walk_at "fx") => `(tactic| try simp only [mkW, fSeq, fAsg, gN, fC, fVar, fBin, fDat, fFrz, oAdd, oInt0, oInt, oIx, fIfS, fTru, oTru, fBl, fNot, fAnd, fOr, fNext, fRet, fRetV, fRetN, fLst, fTup, fNil, fCons, fCB, oLen, oIntC, oStrI, oTupC, oLstC, fApp, fSl, fPart, fNoP, oSl, fIf, fAndV, fOrV, fNotV, fIsi, M.ty, fM1, oIn, oEq, oNe, eqF, fDrop, fFor, fWalk, oWalk, fRng, oR1, oR2, fCall, fComp, fYes, wipeE, oCat, oRep,
  fComp2, oMulS, fNeg, oSum, fExt, M.sqD, oMin2, oI2, gTupP, gConsP, gNilP, fDict, fDSet, oDIx, oDIn, fDGet2, M.asD, oEnum, oZip, fFz,
  List.length_cons, List.length_nil, List.map_cons, List.map_nil, List.cons_append, List.nil_append, List.append_nil, blanks, List.getElem?_cons_zero, List.getElem?_cons_succ, List.set_cons_zero, List.set_cons_succ, Option.some.injEq, exists_eq_left', true_and, and_true, Nat.reduceSub, Nat.reduceAdd, Nat.reduceLT, Nat.lt_add_one, M.dat.injEq, D.bl.injEq, D.int.injEq, Nat.zero_lt_succ, Nat.succ_lt_succ_iff, Nat.zero_lt_one, exists_eq_left, List.getElem?_nil, Bool.false_bne, Bool.false_xor, decide_eq_true_eq,
  ex_nil, ex_cons, ex_map, toD_lst, toD_dat, dats_nil, dats_cons, ld_l, ld_dat, ld_lst, Option.map_some, ex_some, kitI isi_int_int, kitI isi_int_bool, kitI isi_str_str, kitI isi_tup_tup, kitI isi_str_tup, M.lst.injEq, List.length_map, Bool.not_true, Bool.not_false, Bool.false_eq_true, if_true, if_false, reduceIte, endOf_nx, endOf_rt, endOf_ex, ex_pair, ex_dct, ex_cons2, D.pk, atomsD, atomD, Option.bind_some, Option.getD_some, Option.getD_none, flat_one, Int.toNat_natCast, gv_ROWS, gv_PROBES])
def entD (e : (Nat × (Nat × Nat)) × Nat) : D := .tup [triD e.1, .int (e.2 : Nat)]
def entK (e : (Nat × (Nat × Nat)) × Nat) : PK × D := (.inl (e.1.1 : Int) :: pkey e.1.2, .int (e.2 : Nat))
theorem entK_inj {a b : Nat × (Nat × Nat)} (h : (Sum.inl (a.1 : Int) :: pkey a.2 : PK) = .inl (b.1 : Int) :: pkey b.2) : a = b := by
  obtain ⟨a1, a2, a3⟩ := a
  obtain ⟨b1, b2, b3⟩ := b
  simp [pkey] at h
  have h1 : a1 = b1 := by omega
  simp [h1, h.2]
theorem dput_new {kvs : List (PK × D)} {p : PK} {d : D} (h : ∀ kv ∈ kvs, kv.1 ≠ p) : dput kvs p d = kvs ++ [(p, d)] := by
  unfold dput
  rw [if_neg]
  rw [List.any_eq_true]
  rintro ⟨kv, h1, h2⟩
  exact h kv h1 (of_decide_eq_true h2)
theorem dlook_ent {es : List ((Nat × (Nat × Nat)) × Nat)} (nd : (es.map (·.1)).Nodup) {e : (Nat × (Nat × Nat)) × Nat} (he : e ∈ es) : dlook (es.map entK) (.inl (e.1.1 : Int) :: pkey e.1.2) = some (.int (e.2 : Nat)) := by
  induction es with
  | nil => cases he
  | cons f es ih =>
    rw [List.map_cons, List.nodup_cons] at nd
    rw [List.map_cons]
    rcases List.mem_cons.mp he with h | h
    · subst h
      exact dlook_pos
    · have hne : ¬ (Sum.inl (f.1.1 : Int) :: pkey f.1.2 : PK) = .inl (e.1.1 : Int) :: pkey e.1.2 := fun z => nd.1 (List.mem_map.mpr ⟨e, h, (entK_inj z).symm⟩)
      unfold entK
      rw [dlook_neg hne]
      exact ih nd.2 h
theorem Tl_len (n : Nat × Nat → Nat) (b : Nat) : ∀ o : List Nat, (∀ p ∈ progP o, n p ≤ b) → (Tl o n).length ≤ tri o.length * b
  | [], _ => Nat.zero_le _
  | m :: r, h => by
    have h1 := Tl_len n b r fun p hp => h p (by rw [progP]; exact List.mem_append_right _ hp)
    have h2 : ∀ l : List Nat, (∀ x ∈ l, n (x, m) ≤ b) → (l.flatMap (fun l => List.replicate (n (l, m)) l)).length ≤ l.length * b := by
      intro l
      induction l with
      | nil => intro _; exact Nat.zero_le _
      | cons x l ih =>
        intro h
        have := ih fun y hy => h y (List.mem_cons_of_mem _ hy)
        have h3 := h x (List.mem_cons_self ..)
        rw [List.flatMap_cons, List.length_append, List.length_replicate, List.length_cons, Nat.succ_mul]
        omega
    have h3 := h2 (r ++ [m]) fun x hx => h _ (by
      rw [progP]
      refine List.mem_append_left _ (List.mem_map.mpr ⟨x, ?_, rfl⟩)
      simp at hx ⊢
      exact hx.symm)
    rw [Tl, List.length_append, List.length_cons, tri, Nat.add_mul]
    rw [List.length_append, List.length_singleton] at h3
    omega
theorem text_between_ok (a : Nat) (o : List Nat) (es : List ((Nat × (Nat × Nat)) × Nat)) (num : Nat × Nat → Nat) (S : Sto) (Q : WP) (E : XP) (ha : a ≤ 4) (ho : o.length ≤ 5) (nd : (es.map (·.1)).Nodup) (hes : es.length ≤ 100)
    (hnum : ∀ p ∈ progP o, ((a, p), num p) ∈ es) (hlow : ∀ p ∈ progP o, lst1 p ≤ num p) (hbig : ∀ p ∈ progP o, num p ≤ 5000) (h : Q (.dat (.str (Tl o num))) S) :
    w_text_between [.int a, .str o, .tup (es.map entD)] S Q E := by
  unfold w_text_between r_text_between
  walk_at "fx"
  unfold r_text_between_6
  walk_at "fx"
  refine forV (fun l ρ => ∃ (x y z w u v : Option M), ρ = [some (.dat (.int a)), some (.dat (.str o)), some (.dat (.tup (es.map entD))), some (.dct true (l.map entK)), x, y, z, w, u, v]) ⟨_, _, _, _, _, _, rfl⟩ ?_ ?_
  · rintro ρ ⟨x, y, z, w, u, v, rfl⟩
    unfold r_text_between_5
    walk_at "fx"
    refine between_ok a o _ _ _ ha ho ?_
    walk_at "fx"
    have hmem : ∀ p, p ∈ srtN (progP o) → p ∈ progP o := fun p hp => (srtN_perm _).subset hp
    refine forV (fun l ρ => ∃ (x y z w u v : Option M), ρ = [some (.dat (.int a)), some (.dat (.str o)), some (.dat (.tup (es.map entD))), some (.dct true (es.map entK)), x, y, z, w, u, v]) ⟨_, _, _, _, _, _, rfl⟩ ?_ ?_
    · rintro ρ ⟨x, y, z, w, u, v, rfl⟩
      unfold r_text_between_4
      walk_at "fx"
      unfold r_text_between_3
      walk_at "fx"
      have htl := Tl_len num 5000 o hbig
      have htri : tri o.length ≤ 15 := Nat.le_trans (tri_le ho) (by decide)
      have hsz : (Tl o num).length ≤ 75000 := by omega
      refine forE (f := fun c => D.str [c]) (fun l ρ => ∃ (t : List Nat) (x z w u v : Option M), (∃ r, o = l ++ r ∧ Tl o num = t ++ Tl r num) ∧ ρ = [some (.dat (.int a)), some (.dat (.str o)), some (.dat (.tup (es.map entD))), some (.dct true (es.map entK)), x, some (.dat (.str t)), z, w, u, v]) ⟨[], _, _, _, _, _, ⟨o, rfl, rfl⟩, rfl⟩ ?_ ?_
      · rintro ρ ⟨t, x, z, w, u, v, ⟨r, e1, e2⟩, rfl⟩
        have : r = [] := by
          have := congrArg List.length e1
          rw [List.length_append] at this
          exact List.eq_nil_of_length_eq_zero (by omega)
        subst this
        rw [Tl, List.append_nil] at e2
        subst e2
        unfold r_text_between_2
        walk_at "fx"
        exact h
      · rintro l mk r ρ W e ⟨t, x, z, w, u, v, ⟨r', e1, e2⟩, rfl⟩ ih
        have hr' : r' = mk :: r := List.append_cancel_left (e1.symm.trans e)
        subst hr'
        walk_at "fx"
        have hcut : cutN o (some ((l.length : Int) + 1)) none = r := by
          rw [cut_from _ (by omega)]
          have : ((l.length : Int) + 1).toNat = l.length + 1 := by omega
          rw [this, e, List.drop_append]
          simp
        have hin : ∀ x ∈ mk :: r, (x, mk) ∈ progP o := by
          intro x hx
          have : ∀ l : List Nat, (x, mk) ∈ progP (l ++ mk :: r) := by
            intro l
            induction l with
            | nil =>
              rw [List.nil_append, progP]
              exact List.mem_append_left _ (List.mem_map.mpr ⟨x, hx, rfl⟩)
            | cons y l ih =>
              rw [List.cons_append, progP]
              exact List.mem_append_right _ ih
          rw [e]
          exact this l
        have hlook : ∀ x ∈ mk :: r, dlook (es.map entK) [.inl (a : Int), .inr [x], .inr [mk]] = some (.int (num (x, mk) : Nat)) := fun x hx => dlook_ent nd (hnum _ (hin x hx))
        have hb : ∀ x ∈ mk :: r, num (x, mk) ≤ 5000 := fun x hx => hbig _ (hin x hx)
        rw [Tl, List.flatMap_append] at e2
        refine ⟨small_line (by omega), ?_⟩
        rw [hcut]
        refine forV (fun l2 ρ => ∃ (x u : Option M), ρ = [some (.dat (.int a)), some (.dat (.str o)), some (.dat (.tup (es.map entD))), some (.dct true (es.map entK)), x, some (.dat (.str (t ++ l2.flatMap fun l => List.replicate (num (l, mk)) l))), z, some (.dat (.int (l.length : Nat))), some (.dat (.str [mk])), u]) ⟨x, v, by simp⟩ ?_ ?_
        · rintro ρ ⟨x, u, rfl⟩
          unfold r_text_between_1
          walk_at "fx"
          rw [hlook mk (List.mem_cons_self ..)]
          walk_at "fx"
          have hm := hb mk (List.mem_cons_self ..)
          have e4 : (t ++ r.flatMap fun l => List.replicate (num (l, mk)) l) ++ List.replicate (num (mk, mk)) mk ++ Tl r num = Tl o num := by rw [e2]; simp
          have e5 := congrArg List.length e4
          rw [List.length_append, List.length_append] at e5
          refine ⟨small_line (by decide), by omega, by omega, by omega, small_line (by omega), ?_⟩
          exact ih _ ⟨_, _, _, _, _, _, ⟨r, by rw [e]; simp, e4.symm⟩, rfl⟩
        · rintro l2 y r2 ρ W2 e3 ⟨x, u, rfl⟩ ih2
          walk_at "fx"
          rw [hlook y (by rw [e3]; simp)]
          walk_at "fx"
          have hm := hb y (by rw [e3]; simp)
          have e5 := congrArg List.length e2
          rw [e3] at e5
          simp only [List.length_append, List.flatMap_append, List.flatMap_cons, List.length_replicate] at e5
          refine ⟨small_line (by decide), by omega, by omega, by omega, small_line (by simp only [List.length_append, List.length_replicate]; omega), ?_⟩
          exact ih2 _ ⟨x, some (.dat (.str [y])), by simp⟩
    · rintro l p r ρ W e ⟨x, y, z, w, u, v, rfl⟩ ih
      rw [tripD]
      walk_at "fx"
      have hp := hmem p (by rw [e]; simp)
      have hlook : dlook (es.map entK) [Sum.inl (a : Int), Sum.inr [p.1], Sum.inr [p.2]] = some (.int (num p : Nat)) := dlook_ent nd (hnum p hp)
      have hl := hlow p hp
      unfold lst1 at hl
      refine ⟨_, rfl, _, rfl, _, rfl, ?_⟩
      rw [hlook]
      unfold oLt
      walk_at "fx"
      rw [if_neg]
      · exact ih _ ⟨_, _, _, _, _, _, rfl⟩
      · by_cases g : p.1 = p.2
        · rw [if_pos g] at hl
          rw [if_pos (by simp [g])]
          omega
        · rw [if_neg (by simp [g])]
          omega
  · rintro l e r ρ W e1 ⟨x, y, z, w, u, v, rfl⟩ ih
    rw [entD]
    walk_at "fx"
    have hlen := congrArg List.length e1
    rw [List.length_append] at hlen
    refine ⟨small_line' (by omega), _, rfl, ?_⟩
    rw [dput_new]
    · exact ih _ ⟨_, _, _, _, _, _, by rw [List.map_append]; rfl⟩
    · intro kv hkv z
      obtain ⟨f, hf, rfl⟩ := List.mem_map.mp hkv
      have := entK_inj z
      rw [e1, List.map_append, List.map_cons] at nd
      have h1 := (List.nodup_append.mp nd).2.2 f.1 (List.mem_map.mpr ⟨f, hf, rfl⟩) e.1 (List.mem_cons_self ..)
      exact h1 this
end K48
namespace K48
open PySem L2 L2.Fn
local macro_rules | `(tactic| walk_at "fx") => `(tactic| try simp only [mkW, fSeq, fAsg, gN, fC, fVar, fBin, fDat, fFrz, oAdd, oInt0, oInt, oIx, fIfS, fTru, oTru, fBl, fNot, fAnd, fOr, fNext, fRet, fRetV, fRetN, fLst, fTup, fNil, fCons, fCB, oLen, oIntC, oStrI, oTupC, oLstC, fApp, fSl, fPart, fNoP, oSl, fIf, fAndV, fOrV, fNotV, fIsi, M.ty, fM1, oIn, oEq, oNe, eqF, fDrop, fFor, fWalk, oWalk, fRng, oR1, oR2, fCall, fComp, fYes, wipeE, oCat, oRep,
  fComp2, oMulS, fNeg, oSum, fExt, M.sqD, oMin2, oI2, gTupP, gConsP, gNilP, fDict, fDSet, oDIx, oDIn, fDGet2, M.asD, oEnum, oZip, fFz,
  List.length_cons, List.length_nil, List.map_cons, List.map_nil, List.cons_append, List.nil_append, List.append_nil, blanks, List.getElem?_cons_zero, List.getElem?_cons_succ, List.set_cons_zero, List.set_cons_succ, Option.some.injEq, exists_eq_left', true_and, and_true, Nat.reduceSub, Nat.reduceAdd, Nat.reduceLT, Nat.lt_add_one, M.dat.injEq, D.bl.injEq, D.int.injEq, Nat.zero_lt_succ, Nat.succ_lt_succ_iff, Nat.zero_lt_one, exists_eq_left, List.getElem?_nil, Bool.false_bne, Bool.false_xor, decide_eq_true_eq,
  ex_nil, ex_cons, ex_map, toD_lst, toD_dat, dats_nil, dats_cons, ld_l, ld_dat, ld_lst, Option.map_some, ex_some, kitI isi_int_int, kitI isi_int_bool, kitI isi_str_str, kitI isi_tup_tup, kitI isi_str_tup, M.lst.injEq, List.length_map, Bool.not_true, Bool.not_false, Bool.false_eq_true, if_true, if_false, reduceIte, endOf_nx, endOf_rt, endOf_ex, ex_pair, ex_dct, ex_cons2, D.pk, atomsD, atomD, Option.bind_some, Option.getD_some, Option.getD_none, flat_one, Int.toNat_natCast, gv_ROWS, gv_PROBES])
theorem prog_nodup {c : Nat} (hc : c ≤ 5) : ∀ o ∈ ordersN c, decide (progP o).Nodup = true := by
  have : c = 0 ∨ c = 1 ∨ c = 2 ∨ c = 3 ∨ c = 4 ∨ c = 5 := by omega
  rcases this with h | h | h | h | h | h <;> subst h <;> decide +kernel
theorem srtN_mem (o : List Nat) : ∀ p ∈ progP o, p ∈ srtN (progP o) := fun p hp => (srtN_perm _).symm.subset hp
theorem rows_nodup : ∀ (cs : List Nat) (L), (∀ c ∈ cs, c ≤ 5) → (∀ r ∈ L, ∀ o ∈ r, (srtN (progP o)).Nodup) → ∀ r ∈ rowsF cs L, ∀ o ∈ r, (srtN (progP o)).Nodup
  | [], L, _, h, r, m => h r m
  | c :: cs, L, hc, h, r, m => by
    refine rows_nodup cs (stepR c L) (fun d hd => hc d (List.mem_cons_of_mem _ hd)) ?_ r m
    intro r m o ho
    obtain ⟨p, hp, m⟩ := List.mem_flatMap.mp m
    obtain ⟨q, hq, rfl⟩ := List.mem_map.mp m
    rcases List.mem_append.mp ho with ho | ho
    · exact h p hp o ho
    · rw [List.mem_singleton.mp ho]
      exact (srtN_perm _).nodup_iff.mpr (of_decide_eq_true (prog_nodup (hc c (List.mem_cons_self ..)) q hq))
theorem rowSum_mem (x : Nat) : ∀ L, ∀ r ∈ L, x ^ trisum r ≤ rowSum x L
  | [], r, h => by cases h
  | r' :: L, r, h => by
    rw [rowSum]
    rcases List.mem_cons.mp h with h | h
    · subst h; omega
    · have := rowSum_mem x L r h
      omega
theorem trisum_mem : ∀ (r : List (List Nat)), ∀ o ∈ r, tri o.length ≤ trisum r
  | [], o, h => by cases h
  | p :: r, o, h => by
    rw [trisum]
    rcases List.mem_cons.mp h with h | h
    · subst h; omega
    · have := trisum_mem r o h
      omega
def probF (m : Nat) (L : List (List (List Nat))) : List D := L.flatMap fun r => (ptsF m (pairsF r) [[]]).map fun v => rowD (textsR r v)
theorem probF_len (m : Nat) : ∀ L, (probF m L).length = rowSum (m + 1) L
  | [] => rfl
  | r :: L => by
    have : probF m (r :: L) = ((ptsF m (pairsF r) [[]]).map fun v => rowD (textsR r v)) ++ probF m L := rfl
    rw [this, List.length_append, probF_len m L, rowSum, List.length_map, ptsF_len, pairsF_len, List.length_singleton, Nat.one_mul]
theorem probes_ok (cs : List Nat) (m : Nat) (S : Sto) (Q : WP) (E : XP) (hl : cs.length ≤ 4) (hc : ∀ c ∈ cs, c ≤ 5) (hm : m + 1 < 2 ^ 60) (h : manyL 1 cs ≤ 300 → manyL (m + 1) cs ≤ 4000 → Q (.dat (.tup (probF m (rowsF cs [[]])))) S)
    (hR : 300 < manyL 1 cs → E ⟨Str.ofString "TooMuch", [(Str.ofString "what", .str [114, 111, 119, 115])]⟩ S) (hP : manyL 1 cs ≤ 300 → 4000 < manyL (m + 1) cs → E ⟨Str.ofString "TooMuch", [(Str.ofString "what", .str [112, 114, 111, 98, 101, 115])]⟩ S) :
    w_probes [.tup (cs.map fun (c : Nat) => D.int (c : Int)), .int m] S Q E := by
  unfold w_probes r_probes
  walk_at "fx"
  refine check_ok cs m _ _ _ hl hc hm (fun h1 h2 => ?_) hR hP
  have hsum : rowSum (m + 1) (rowsF cs [[]]) = manyL (m + 1) cs := by
    rw [rowSum_all _ cs _ hc]
    have : rowSum (m + 1) [[]] = 1 := by simp [rowSum, trisum]
    rw [this, Nat.one_mul]
  unfold r_probes_5
  walk_at "fx"
  refine ⟨small_line (by decide), ?_⟩
  unfold r_probes_4
  walk_at "fx"
  refine order_rows_ok cs _ _ _ hc hl h1 ?_
  walk_at "fx"
  refine forV (fun l ρ => ∃ (x1 x2 x3 x4 x5 x6 x7 x8 : Option M), ρ = [some (.dat (.tup (cs.map fun (c : Nat) => D.int (c : Int)))), some (.dat (.int m)), some (.lst ((probF m l).map .dat)), x1, x2, x3, x4, x5, x6, x7, x8]) ⟨_, _, _, _, _, _, _, _, rfl⟩ ?_ ?_
  · rintro ρ ⟨x1, x2, x3, x4, x5, x6, x7, x8, rfl⟩
    unfold r_probes_3
    walk_at "fx"
    exact ⟨_, dats_map _, h h1 h2⟩
  · rintro l r rr ρ W e ⟨x1, x2, x3, x4, x5, x6, x7, x8, rfl⟩ ih
    have hmem : r ∈ rowsF cs [[]] := by rw [e]; simp
    have k1 : r.length = 0 + cs.length := rowsF_mem cs (L := [[]]) (n := 0) (by simp) r hmem
    have k2 := rowsF_ok cs (L := [[]]) hc (by simp) r hmem
    have k3 := rows_nodup cs [[]] hc (by simp) r hmem
    have k4 := rowSum_mem (m + 1) _ r hmem
    rw [hsum] at k4
    have k5 : rowSum (m + 1) l + (m + 1) ^ trisum r ≤ 4000 := by
      rw [e, rowSum_app, rowSum] at hsum
      omega
    walk_at "fx"
    refine choice_variables_ok r _ _ _ (by omega) k2 ?_
    walk_at "fx"
    unfold r_probes_2
    walk_at "fx"
    refine points_ok r m _ _ _ (by omega) k2 (by omega) (by omega) fun mm hmm => ?_
    rw [hmm]
    walk_at "fx"
    have hlenp : (ptsF m (pairsF r) [[]]).length = (m + 1) ^ trisum r := by rw [ptsF_len, pairsF_len, List.length_singleton, Nat.one_mul]
    refine forV (fun l2 ρ => ∃ (x3 x4 x5 x6 x7 x8 : Option M), ρ = [some (.dat (.tup (cs.map fun (c : Nat) => D.int (c : Int)))), some (.dat (.int m)), some (.lst ((probF m l ++ l2.map fun v => rowD (textsR r v)).map .dat)), some (.dat (rowD r)), some (.dat (.tup (varsF 0 r))), x3, x4, x5, x6, x7, x8]) ⟨x3, x4, x5, x6, x7, x8, by simp⟩ ?_ ?_
    · rintro ρ ⟨x3, x4, x5, x6, x7, x8, rfl⟩
      have : probF m (l ++ [r]) = probF m l ++ (ptsF m (pairsF r) [[]]).map fun v => rowD (textsR r v) := by unfold probF; rw [List.flatMap_append]; simp
      rw [← this]
      exact ih _ ⟨_, _, _, _, _, _, _, _, rfl⟩
    · rintro l2 v r2 ρ W2 e2 ⟨x3, x4, x5, x6, x7, x8, rfl⟩ ih2
      rw [numD]
      walk_at "fx"
      rw [varsF_A, zipD_map]
      have hv : v.length = (pairsA 0 r).length := by
        have := ptsF_memlen m _ [[]] 0 (by simp) v (by rw [e2]; simp)
        rw [this, Nat.zero_add, pairsF_len, pairsA_len]
      have hv2 : (pairsA 0 r).length ≤ 60 := by
        rw [pairsA_len]
        have := trisum_le r k2
        omega
      refine ⟨by rw [List.length_map, hv], ?_⟩
      refine compA (f := entD) (fun e => M.dat (entD e)) (by rw [List.length_zip]; omega) ?_ ?_
      · have hmm : ((pairsA 0 r).zip v).map (fun e => M.dat (entD e)) = (((pairsA 0 r).zip v).map entD).map M.dat := by rw [List.map_map]; rfl
        rw [hmm]
        show ∃ ds, _ ∧ _
        refine ⟨_, ld_lst _, ?_⟩
        unfold r_probes_1
        walk_at "fx"
        have hl2 := congrArg List.length e2
        rw [hlenp, List.length_append, List.length_cons] at hl2
        refine ⟨small_line' (by rw [List.length_append, List.length_map, probF_len]; omega), ?_⟩
        rw [rowD]
        walk_at "fx"
        rw [enumD_map]
        refine compA (fun q => M.dat (.str (Tl q.1 (numA r v q.2)))) (by rw [List.length_zipIdx]; omega) ?_ ?_
        · have hmm : (r.zipIdx.map fun q => M.dat (.str (Tl q.1 (numA r v q.2)))) = ((textsR r v).map D.str).map M.dat := by unfold textsR; rw [List.map_map, List.map_map]; rfl
          rw [hmm]
          show ∃ ds, _ ∧ _
          refine ⟨_, ld_lst _, ?_⟩
          walk_at "fx"
          have e5 : (probF m l ++ l2.map fun v => rowD (textsR r v)).map M.dat ++ [M.dat (.tup ((textsR r v).map D.str))] = (probF m l ++ (l2 ++ [v]).map fun v => rowD (textsR r v)).map M.dat := by simp [rowD]
          rw [e5, ← varsF_A]
          exact ih2 _ ⟨_, _, _, _, _, _, rfl⟩
        · intro l3 q r3 K1 e3 k
          have hq : q ∈ r.zipIdx := by rw [e3]; simp
          obtain ⟨_, q2, q3⟩ := List.mem_zipIdx hq
          have q4 : r[q.2]? = some q.1 := by rw [q3, List.getElem?_eq_getElem (by omega)]; simp
          have q5 : q.1 ∈ r := by rw [q3]; exact List.getElem_mem _
          have hnum : ∀ p ∈ progP q.1, lst1 p ≤ numA r v q.2 p ∧ numA r v q.2 p ≤ 5000 := by
            intro p hp
            have m1 : (q.2, p) ∈ pairsA 0 r := by simpa using pairsA_mem r 0 q.2 q.1 q4 p (srtN_mem _ p hp)
            have m2 := List.idxOf_lt_length_of_mem m1
            have m3 := ptsF_range m (pairsF r) [[]] [] (by simp) (by simp) v (by rw [e2]; simp) ((pairsA 0 r).idxOf (q.2, p)) (by rw [List.nil_append, pairsF_len, ← pairsA_len r 0]; exact m2)
            have m4 : ([] ++ pairsF r)[(pairsA 0 r).idxOf (q.2, p)]! = p := by
              rw [List.nil_append, pairsF_A r 0, List.getElem!_eq_getElem?_getD, List.getElem?_map, List.getElem?_eq_getElem m2, List.getElem_idxOf m2]
              rfl
            rw [m4] at m3
            have m5 : 1 ≤ trisum r := by rw [← pairsA_len r 0]; omega
            have m6 : (m + 1) ^ 1 ≤ (m + 1) ^ trisum r := Nat.pow_le_pow_right (by omega) m5
            rw [Nat.pow_one] at m6
            exact ⟨m3.1, Nat.le_trans m3.2 (by omega)⟩
          walk_at "fx"
          refine text_between_ok q.2 q.1 ((pairsA 0 r).zip v) (numA r v q.2) _ _ _ (by omega) (k2 _ q5) ?_ (by rw [List.length_zip]; omega) ?_ ?_ ?_ k
          · rw [List.map_fst_zip (by omega)]
            exact pairsA_nodup r 0 k3
          · intro p hp
            exact zip_mem hv (by simpa using pairsA_mem r 0 q.2 q.1 q4 p (srtN_mem _ p hp))
          · intro p hp
            exact (hnum p hp).1
          · intro p hp
            exact (hnum p hp).2
      · intro l3 q r3 K1 e3 k
        walk_at "fx"
        exact ⟨rfl, _, _, rfl, _, _, rfl, rfl, small_line (by decide), k⟩
end K48
namespace K48
open PySem L2 L2.Fn
local macro_rules | `(tactic| walk_at "fx") => `(tactic| try simp only [mkW, fSeq, fAsg, gN, fC, fVar, fBin, fDat, fFrz, oAdd, oInt0, oInt, oIx, fIfS, fTru, oTru, fBl, fNot, fAnd, fOr, fNext, fRet, fRetV, fRetN, fLst, fTup, fNil, fCons, fCB, oLen, oIntC, oStrI, oTupC, oLstC, fApp, fSl, fPart, fNoP, oSl, fIf, fAndV, fOrV, fNotV, fIsi, M.ty, fM1, oIn, oEq, oNe, eqF, fDrop, fFor, fWalk, oWalk, fRng, oR1, oR2, fCall, fComp, fYes, wipeE, oCat, oRep,
  fComp2, oMulS, fNeg, oSum, fExt, M.sqD, fIdx, oIdx, keysD, Int.zero_add, oMin2, oI2, gTupP, gConsP, gNilP, fDict, fDSet, oDIx, oDIn, fDGet2, M.asD, oEnum, oZip, fFz,
  List.length_cons, List.length_nil, List.map_cons, List.map_nil, List.cons_append, List.nil_append, List.append_nil, blanks, List.getElem?_cons_zero, List.getElem?_cons_succ, List.set_cons_zero, List.set_cons_succ, Option.some.injEq, exists_eq_left', true_and, and_true, Nat.reduceSub, Nat.reduceAdd, Nat.reduceLT, Nat.lt_add_one, M.dat.injEq, D.bl.injEq, D.int.injEq, Nat.zero_lt_succ, Nat.succ_lt_succ_iff, Nat.zero_lt_one, exists_eq_left, List.getElem?_nil, Bool.false_bne, Bool.false_xor, decide_eq_true_eq,
  ex_nil, ex_cons, ex_map, toD_lst, toD_dat, dats_nil, dats_cons, ld_l, ld_dat, ld_lst, Option.map_some, ex_some, kitI isi_int_int, kitI isi_int_bool, kitI isi_str_str, kitI isi_tup_tup, kitI isi_str_tup, M.lst.injEq, List.length_map, Bool.not_true, Bool.not_false, Bool.false_eq_true, if_true, if_false, reduceIte, endOf_nx, endOf_rt, endOf_ex, ex_pair, ex_dct, ex_cons2, D.pk, atomsD, atomD, Option.bind_some, Option.getD_some, Option.getD_none, flat_one, Int.toNat_natCast, gv_ROWS, gv_PROBES])
theorem keys_pairs : ∀ ps : List (Nat × Nat), keysD (ps.map pairD) = some (ps.map pkey)
  | [] => rfl
  | p :: ps => by
    rw [List.map_cons, keysD, keys_pairs ps]
    rfl
theorem pkey_inj {p q : Nat × Nat} (h : pkey p = pkey q) : p = q := by
  cases p; cases q
  simpa [pkey] using h
theorem find_idx : ∀ (ps : List (Nat × Nat)) (q : Nat × Nat), q ∈ ps → (ps.map pkey).findIdx? (fun p => decide (p = pkey q)) = some (ps.idxOf q)
  | [], q, h => by cases h
  | p :: ps, q, h => by
    rw [List.map_cons, List.findIdx?_cons, List.idxOf_cons]
    by_cases e : p = q
    · subst e
      simp
    · have e2 : ¬ pkey p = pkey q := fun z => e (pkey_inj z)
      rcases List.mem_cons.mp h with h | h
      · exact absurd h.symm e
      · rw [find_idx ps q h]
        have e3 : (p == q) = false := by
          cases z : p == q with
          | false => rfl
          | true => exact absurd (eq_of_beq z) e
        rw [e3]
        simp [e2]
theorem progP_mem : ∀ (o : List Nat), ∀ p ∈ progP o, p.1 ∈ o ∧ p.2 ∈ o
  | [], p, h => by cases h
  | m :: r, p, h => by
    rw [progP] at h
    rcases List.mem_append.mp h with h | h
    · obtain ⟨x, hx, rfl⟩ := List.mem_map.mp h
      exact ⟨hx, List.mem_cons_self ..⟩
    · have := progP_mem r p h
      exact ⟨List.mem_cons_of_mem _ this.1, List.mem_cons_of_mem _ this.2⟩
def txI (o : List Nat) (m : Nat) (x2 x3 x4 x5 x6 x7 x8 x9 x10 x11 x12 : Option M) : Ev := [some (.dat (.str o)), some (.dat (.int m)), x2, x3, x4, x5, x6, x7, x8, x9, x10, x11, x12]
theorem law_texts_ok (o : List Nat) (m : Nat) (S : Sto) (Q : WP) (E : XP) (ho : o.length ≤ 5) (hm : (m + 1) ^ tri o.length ≤ 4000) (hm2 : m < 2 ^ 60) (hsm : ∀ c ∈ o, c < 1114112) (hperm : (lawP o).Perm (progP o))
    (h : Q (.lst (((textsL m o).map D.str).map .dat)) S) : w__law_texts [.str o, .int m] S Q E := by
  have htri : tri o.length ≤ 15 := Nat.le_trans (tri_le ho) (by decide)
  unfold w__law_texts r__law_texts
  walk_at "fx"
  refine ⟨small_line (by decide), ?_⟩
  unfold r__law_texts_11
  walk_at "fx"
  refine ⟨small_line (by omega), by omega, by omega, ?_⟩
  refine forR (fun k ρ => ∃ (x3 x8 : Option M), ρ = [some (.dat (.str o)), some (.dat (.int m)), some (.lst ((((List.range k).flatMap fun i => (o.take (i + 1)).map fun m => pairD (o.getD i 0, m))).map .dat)), x3, none, none, none, none, x8, none, none, none, none]) ⟨_, _, rfl⟩ ?_ ?_
  · rintro ρ ⟨x3, x8, rfl⟩
    have hn : ((List.range o.length).flatMap fun i => (o.take (i + 1)).map fun m => pairD (o.getD i 0, m)) = (lawP o).map pairD := by
      unfold lawP
      rw [List.map_flatMap]
      simp only [List.map_map, Function.comp_def]
    rw [hn]
    show r__law_texts_10 _ _ _
    unfold r__law_texts_10
    walk_at "fx"
    refine ⟨_, ld_lst _, [true, true], by simp, fun d hd => ?_, fun es hp hs => ?_⟩
    · obtain ⟨p, _, rfl⟩ := List.mem_map.mp hd
      exact ⟨_, rfl, rfl⟩
    have es1 : es = (srtN (progP o)).map pairD := pair_sorted (hp.trans (hperm.map _)) hs
    subst es1
    unfold r__law_texts_9
    walk_at "fx"
    refine ⟨small_line (by decide), small_line (by decide), ?_⟩
    unfold r__law_texts_8
    walk_at "fx"
    have hps : (srtN (progP o)).length = tri o.length := by rw [srtN_len, progP_len]
    have hpm : ∀ p ∈ progP o, p ∈ srtN (progP o) := srtN_mem o
    have hpm2 : ∀ p ∈ srtN (progP o), p.1 ∈ o ∧ p.2 ∈ o := fun p hp => progP_mem o p ((srtN_perm _).subset hp)
    generalize hsr : srtN (progP o) = ps at hps hpm hpm2
    refine forV (fun l ρ => ∃ (x5 x7 x9 x11 : Option M), ρ = [some (.dat (.str o)), some (.dat (.int m)), some (.dat (.lst (ps.map pairD))), x3, some (.dat (.lst ((ptsF m l [[]]).map fun v => .lst (v.map fun (n : Nat) => D.int (n : Int))))), x5, none, x7, x8, x9, none, x11, none]) ⟨_, _, _, _, rfl⟩ ?_ ?_
    · rintro ρ ⟨x5, x7, x9, x11, rfl⟩
      unfold r__law_texts_7
      walk_at "fx"
      refine ⟨small_line (by decide), ?_⟩
      unfold r__law_texts_6
      walk_at "fx"
      have hlenp : (ptsF m ps [[]]).length = (m + 1) ^ tri o.length := by rw [ptsF_len, hps, List.length_singleton, Nat.one_mul]
      refine forV (fun l ρ => ∃ (x3 x7 x10 x12 : Option M), ρ = [some (.dat (.str o)), some (.dat (.int m)), some (.dat (.lst (ps.map pairD))), x3, some (.dat (.lst ((ptsF m ps [[]]).map fun v => .lst (v.map fun (n : Nat) => D.int (n : Int))))), x5, some (.lst ((l.map fun v => D.str (Tl o (numF ps v))).map .dat)), x7, x8, x9, x10, x11, x12]) ⟨_, _, _, _, rfl⟩ ?_ ?_
      · rintro ρ ⟨x3, x7, x10, x12, rfl⟩
        unfold r__law_texts_5
        walk_at "fx"
        unfold textsL at h
        rw [hsr, List.map_map (f := fun w => Tl o (numF ps w))] at h
        exact h
      · rintro l v r ρ W e ⟨x3, x7, x10, x12, rfl⟩ ih
        walk_at "fx"
        unfold r__law_texts_4
        walk_at "fx"
        have hbig : ∀ p ∈ progP o, numF ps v p ≤ 5000 := by
          intro p hp
          have m1 := hpm p hp
          have m2 := List.idxOf_lt_length_of_mem m1
          have m3 := ptsF_range m ps [[]] [] (by simp) (by simp) v (by rw [e]; simp) (ps.idxOf p) m2
          have m5 : 1 ≤ tri o.length := by omega
          have m6 : (m + 1) ^ 1 ≤ (m + 1) ^ tri o.length := Nat.pow_le_pow_right (by omega) m5
          rw [Nat.pow_one] at m6
          exact Nat.le_trans m3.2 (by omega)
        have hvl : v.length = ps.length := by
          have := ptsF_memlen m ps [[]] 0 (by simp) v (by rw [e]; simp)
          omega
        have htl := Tl_len (numF ps v) 5000 o hbig
        have hsz : (Tl o (numF ps v)).length ≤ 75000 := by omega
        refine ⟨small_line (by omega), by omega, by omega, ?_⟩
        refine forR (fun k ρ => ∃ (t : List Nat) (x3 x12 : Option M), t ++ Tl (o.drop k) (numF ps v) = Tl o (numF ps v) ∧ ρ = [some (.dat (.str o)), some (.dat (.int m)), some (.dat (.lst (ps.map pairD))), x3, some (.dat (.lst ((ptsF m ps [[]]).map fun v => .lst (v.map fun (n : Nat) => D.int (n : Int))))), x5, some (.lst ((l.map fun v => D.str (Tl o (numF ps v))).map .dat)), some (.dat (.lst (v.map fun (n : Nat) => D.int (n : Int)))), x8, x9, some (.dat (.str t)), x11, x12]) ⟨[], _, _, rfl, rfl⟩ ?_ ?_
        · rintro ρ ⟨t, x3, x12, e2, rfl⟩
          rw [List.drop_length, Tl, List.append_nil] at e2
          subst e2
          unfold r__law_texts_3
          walk_at "fx"
          have hl := congrArg List.length e
          rw [hlenp, List.length_append] at hl
          refine ⟨small_line' (by omega), ?_⟩
          have e5 : (l.map fun v => D.str (Tl o (numF ps v))).map M.dat ++ [M.dat (.str (Tl o (numF ps v)))] = ((l ++ [v]).map fun v => D.str (Tl o (numF ps v))).map M.dat := by simp
          rw [e5]
          exact ih _ ⟨_, _, _, _, rfl⟩
        · rintro k ρ W2 hk ⟨t, x3, x12, e2, rfl⟩ ih2
          walk_at "fx"
          have hcut : cutN o (some ((k : Int) + 1)) none = o.drop (k + 1) := by
            rw [cut_from _ (by omega)]
            have : ((k : Int) + 1).toNat = k + 1 := by omega
            rw [this]
          rw [hcut]
          refine ⟨small_line (by omega), small_line (by omega), _, atI_n (List.getElem?_eq_getElem hk), small_line (by rw [List.length_drop]; omega), ?_⟩
          have hdrop := List.drop_eq_getElem_cons hk
          generalize hmk : o[k] = mk at hdrop
          have hin : ∀ x ∈ o.drop (k + 1) ++ [mk], (x, mk) ∈ progP o := by
            intro x hx
            have : ∀ l r : List Nat, x ∈ r ++ [mk] → (x, mk) ∈ progP (l ++ mk :: r) := by
              intro l r hx
              induction l with
              | nil =>
                rw [List.nil_append, progP]
                refine List.mem_append_left _ (List.mem_map.mpr ⟨x, ?_, rfl⟩)
                simp at hx ⊢
                exact hx.symm
              | cons y l ih =>
                rw [List.cons_append, progP]
                exact List.mem_append_right _ ih
            have h2 := this (o.take k) (o.drop (k + 1)) hx
            rw [← hdrop, List.take_append_drop] at h2
            exact h2
          rw [hdrop, Tl] at e2
          refine forV (f := fun c => D.str [c]) (fun l2 ρ => ∃ (x12 : Option M), ρ = [some (.dat (.str o)), some (.dat (.int m)), some (.dat (.lst (ps.map pairD))), some (.dat (.int (k : Nat))), some (.dat (.lst ((ptsF m ps [[]]).map fun v => .lst (v.map fun (n : Nat) => D.int (n : Int))))), x5, some (.lst ((l.map fun v => D.str (Tl o (numF ps v))).map .dat)), some (.dat (.lst (v.map fun (n : Nat) => D.int (n : Int)))), x8, x9, some (.dat (.str (t ++ l2.flatMap fun l => List.replicate (numF ps v (l, mk)) l))), x11, x12]) ⟨x12, by simp⟩ ?_ ?_
          · rintro ρ ⟨x12, rfl⟩
            exact ih2 _ ⟨_, _, _, by rw [← e2, List.append_assoc], rfl⟩
          · rintro l2 y r2 ρ W3 e3 ⟨x12, rfl⟩ ih3
            have hy := hin y (by rw [e3]; simp)
            have hat : atI o (k : Int) = some mk := atI_n (by rw [List.getElem?_eq_getElem hk, hmk])
            have hb := hbig _ hy
            walk_at "fx"
            have hsmall : ∀ q : Nat × Nat, q.1 ∈ o ∧ q.2 ∈ o → smallK (pkey q) := by
              intro q hq s hs c hc
              simp [pkey] at hs
              rcases hs with rfl | rfl
              · rw [List.mem_singleton.mp hc]; exact hsm _ hq.1
              · rw [List.mem_singleton.mp hc]; exact hsm _ hq.2
            have hidx := List.idxOf_lt_length_of_mem (hpm _ hy)
            refine ⟨⟨_, rfl⟩, small_line (by omega), mk, hat, small_line (by decide), _, keys_pairs ps, fun p hp => ?_, hsmall (y, mk) (progP_mem o _ hy), _, find_idx ps (y, mk) (hpm _ hy), .int (numF ps v (y, mk) : Nat), ?_, ?_⟩
            · obtain ⟨q, hq, rfl⟩ := List.mem_map.mp hp
              exact hsmall q (hpm2 q hq)
            · refine atI_n ?_
              rw [List.getElem?_map, List.getElem?_eq_getElem (by omega)]
              unfold numF
              rw [List.getD, List.getElem?_eq_getElem (by omega)]
              rfl
            · have e5 := congrArg List.length e2
              rw [e3] at e5
              simp only [List.length_append, List.flatMap_append, List.flatMap_cons, List.length_replicate] at e5
              walk_at "fx"
              refine ⟨by omega, by omega, by omega, small_line (by simp only [List.length_append, List.length_replicate]; omega), ?_⟩
              have e6 : (t ++ l2.flatMap fun l => List.replicate (numF ps v (l, mk)) l) ++ List.replicate (numF ps v (y, mk)) y = t ++ (l2 ++ [y]).flatMap fun l => List.replicate (numF ps v (l, mk)) l := by simp
              rw [e6]
              exact ih3 _ ⟨_, rfl⟩
    · rintro l p r ρ W e ⟨x5, x7, x9, x11, rfl⟩ ih
      walk_at "fx"
      refine ⟨small_line (by decide), ?_⟩
      unfold r__law_texts_2
      walk_at "fx"
      refine forV (fun l2 ρ => ∃ (x7 x11 : Option M), ρ = [some (.dat (.str o)), some (.dat (.int m)), some (.dat (.lst (ps.map pairD))), x3, some (.dat (.lst ((ptsF m l [[]]).map fun v => .lst (v.map fun (n : Nat) => D.int (n : Int))))), some (.dat (pairD p)), none, x7, x8, some (.lst (((stepP m p l2).map fun v => D.lst (v.map fun (n : Nat) => D.int (n : Int))).map .dat)), none, x11, none]) ⟨_, _, rfl⟩ ?_ ?_
      · rintro ρ ⟨x7, x11, rfl⟩
        unfold r__law_texts_1
        walk_at "fx"
        refine ⟨_, dats_map _, ?_⟩
        have e5 : stepP m p (ptsF m l [[]]) = ptsF m (l ++ [p]) [[]] := by rw [ptsF_app]; rfl
        rw [e5]
        exact ih _ ⟨_, _, _, _, rfl⟩
      · rintro l2 v r2 ρ W2 e2 ⟨x7, x11, rfl⟩ ih2
        walk_at "fx"
        refine ⟨by omega, by omega, ?_⟩
        have hn : ((m : Int) + 1).toNat = m + 1 := by omega
        rw [hn]
        refine forR (fun j ρ => ∃ (x11 : Option M), ρ = [some (.dat (.str o)), some (.dat (.int m)), some (.dat (.lst (ps.map pairD))), x3, some (.dat (.lst ((ptsF m l [[]]).map fun v => .lst (v.map fun (n : Nat) => D.int (n : Int))))), some (.dat (pairD p)), none, some (.dat (.lst (v.map fun (n : Nat) => D.int (n : Int)))), x8, some (.lst (((stepP m p l2 ++ (List.range j).map fun n => v ++ [lst1 p + n]).map fun v => D.lst (v.map fun (n : Nat) => D.int (n : Int))).map .dat)), none, x11, none]) ⟨x11, by simp⟩ ?_ ?_
        · rintro ρ ⟨x11, rfl⟩
          refine ih2 _ ⟨some (.dat (.lst (v.map fun (n : Nat) => D.int (n : Int)))), x11, ?_⟩
          rw [stepP_app]
          simp [stepP]
        · rintro j ρ W3 hj ⟨x11, rfl⟩ ih3
          rw [pairD]
          walk_at "fx"
          have hle : (l2.length + 1) * (m + 1) ≤ 4000 := by
            have h1 := congrArg List.length e2
            rw [ptsF_len, List.length_singleton, Nat.one_mul, List.length_append, List.length_cons] at h1
            have h2 := congrArg List.length e
            rw [hps, List.length_append, List.length_cons] at h2
            have h3 : (m + 1) ^ (l.length + 1) ≤ (m + 1) ^ tri o.length := Nat.pow_le_pow_right (by omega) (by omega)
            rw [Nat.pow_succ] at h3
            have h4 : (l2.length + 1) * (m + 1) ≤ (m + 1) ^ l.length * (m + 1) := Nat.mul_le_mul_right _ (by omega)
            omega
          rw [Nat.succ_mul] at hle
          have hv2 : v.length ≤ 15 := by
            have := ptsF_memlen m l [[]] 0 (by simp) v (by rw [e2]; simp)
            have h2 := congrArg List.length e
            rw [hps, List.length_append, List.length_cons] at h2
            omega
          refine ⟨small_line' (by rw [List.length_append, stepP_len, List.length_map, List.length_range]; omega), _, rfl, _, rfl, _, rfl, small_line (by decide), small_line (by omega), ?_⟩
          have e6 : ((j : Int) + if decide ([p.1] = [p.2]) = true then 1 else 0) = ((lst1 p + j : Nat) : Int) := by
            unfold lst1
            by_cases g : p.1 = p.2
            · rw [if_pos (by simp [g]), if_pos g]; omega
            · rw [if_neg (by simp [g]), if_neg g]; omega
          have e5 : ((stepP m p l2 ++ (List.range j).map fun n => v ++ [lst1 p + n]).map fun v => D.lst (v.map fun (n : Nat) => D.int (n : Int))).map M.dat ++ [M.dat (.lst (v.map (fun (n : Nat) => D.int (n : Int)) ++ [.int ((j : Int) + if decide ([p.1] = [p.2]) = true then 1 else 0)]))] = ((stepP m p l2 ++ (List.range (j + 1)).map fun n => v ++ [lst1 p + n]).map fun v => D.lst (v.map fun (n : Nat) => D.int (n : Int))).map M.dat := by
            rw [e6, List.range_succ]
            simp
          rw [e5]
          exact ih3 _ ⟨_, rfl⟩
  · rintro k ρ W hk ⟨x3, x8, rfl⟩ ih
    walk_at "fx"
    refine ⟨by omega, by omega, ?_⟩
    have hn : ((k : Int) + 1).toNat = k + 1 := by omega
    rw [hn]
    have hA : ((List.range k).flatMap fun i => (o.take (i + 1)).map fun m => pairD (o.getD i 0, m)).length ≤ 25 := by
      have : ∀ l : List Nat, (l.flatMap fun i => (o.take (i + 1)).map fun m => pairD (o.getD i 0, m)).length ≤ 5 * l.length := by
        intro l
        induction l with
        | nil => exact Nat.zero_le _
        | cons i l ih =>
          rw [List.flatMap_cons, List.length_append, List.length_map, List.length_take, List.length_cons]
          omega
      have := this (List.range k)
      rw [List.length_range] at this
      omega
    have hk3 : o.getD k 0 = o[k] := by simp [List.getD, hk]
    generalize hAA : ((List.range k).flatMap fun i => (o.take (i + 1)).map fun m => pairD (o.getD i 0, m)) = A at ih hA ⊢
    refine forR (fun j ρ => j ≤ k + 1 ∧ ∃ (x8 : Option M), ρ = [some (.dat (.str o)), some (.dat (.int m)), some (.lst ((A ++ (o.take j).map fun m => pairD (o.getD k 0, m)).map .dat)), some (.dat (.int (k : Nat))), none, none, none, none, x8, none, none, none, none]) ⟨Nat.zero_le _, x8, by simp⟩ ?_ ?_
    · rintro ρ ⟨_, x8, rfl⟩
      refine ih _ ⟨some (.dat (.int (k : Nat))), x8, ?_⟩
      rw [List.range_succ, List.flatMap_append, hAA]
      simp
    · rintro j ρ W2 hj ⟨_, x8, rfl⟩ ih2
      walk_at "fx"
      have hj2 : j < o.length := by omega
      refine ⟨small_line' (by rw [List.length_append, List.length_map, List.length_take]; omega), small_line (by omega), _, atI_n (List.getElem?_eq_getElem hk), small_line (by omega), _, atI_n (List.getElem?_eq_getElem hj2), small_line (by decide), ?_⟩
      have e5 : (A ++ (o.take j).map fun m => pairD (o.getD k 0, m)).map M.dat ++ [M.dat (.tup [.str [o[k]], .str [o[j]]])] = (A ++ (o.take (j + 1)).map fun m => pairD (o.getD k 0, m)).map M.dat := by
        rw [List.take_succ_eq_append_getElem hj2, hk3, List.map_append, List.map_append, List.map_append, List.map_append, ← List.append_assoc]
        rfl
      rw [e5]
      exact ih2 _ ⟨by omega, _, rfl⟩
end K48
namespace K48
open PySem L2 L2.Fn
local macro_rules | `(tactic| walk_at "fx") => `(tactic| try simp only [mkW, fSeq, fAsg, gN, fC, fVar, fBin, fDat, fFrz, oAdd, oInt0, oInt, oIx, fIfS, fTru, oTru, fBl, fNot, fAnd, fOr, fNext, fRet, fRetV, fRetN, fLst, fTup, fNil, fCons, fCB, oLen, oIntC, oStrI, oTupC, oLstC, fApp, fSl, fPart, fNoP, oSl, fIf, fAndV, fOrV, fNotV, fIsi, M.ty, fM1, oIn, oEq, oNe, eqF, fDrop, fFor, fWalk, oWalk, fRng, oR1, oR2, fCall, fComp, fYes, wipeE, oCat, oRep,
  fComp2, oMulS, fNeg, oSum, fExt, M.sqD, fIdx, oIdx, keysD, Int.zero_add, oMin2, oI2, gTupP, gConsP, gNilP, fDict, fDSet, oDIx, oDIn, fDGet2, M.asD, oEnum, oZip, fFz,
  List.length_cons, List.length_nil, List.map_cons, List.map_nil, List.cons_append, List.nil_append, List.append_nil, blanks, List.getElem?_cons_zero, List.getElem?_cons_succ, List.set_cons_zero, List.set_cons_succ, Option.some.injEq, exists_eq_left', true_and, and_true, Nat.reduceSub, Nat.reduceAdd, Nat.reduceLT, Nat.lt_add_one, M.dat.injEq, D.bl.injEq, D.int.injEq, Nat.zero_lt_succ, Nat.succ_lt_succ_iff, Nat.zero_lt_one, exists_eq_left, List.getElem?_nil, Bool.false_bne, Bool.false_xor, decide_eq_true_eq,
  ex_nil, ex_cons, ex_map, toD_lst, toD_dat, dats_nil, dats_cons, ld_l, ld_dat, ld_lst, Option.map_some, ex_some, kitI isi_int_int, kitI isi_int_bool, kitI isi_str_str, kitI isi_tup_tup, kitI isi_str_tup, M.lst.injEq, List.length_map, Bool.not_true, Bool.not_false, Bool.false_eq_true, if_true, if_false, reduceIte, endOf_nx, endOf_rt, endOf_ex, ex_pair, ex_dct, ex_cons2, D.pk, atomsD, atomD, Option.bind_some, Option.getD_some, Option.getD_none, flat_one, Int.toNat_natCast, gv_ROWS, gv_PROBES])
theorem dlook_dput {kvs : List (PK × D)} {p q : PK} {d : D} : dlook (dput kvs p d) q = if p = q then some d else dlook kvs q := by
  unfold dput
  by_cases h : (kvs.any fun kv => decide (kv.1 = p)) = true
  · rw [if_pos h]
    induction kvs with
    | nil => simp at h
    | cons kv kvs ih =>
      obtain ⟨k, v⟩ := kv
      rw [List.map_cons]
      by_cases e : k = p
      · subst e
        simp only [if_true]
        by_cases e2 : k = q
        · subst e2
          rw [dlook_pos, if_pos rfl]
        · rw [dlook_neg e2, if_neg e2, dlook_neg e2]
          by_cases h2 : (kvs.any fun kv => decide (kv.1 = k)) = true
          · rw [ih h2, if_neg e2]
          · have : kvs.map (fun kv => if kv.1 = k then (kv.1, d) else kv) = kvs := by
              refine (List.map_congr_left fun kv hkv => ?_).trans (List.map_id kvs)
              rw [if_neg fun z => h2 (List.any_eq_true.mpr ⟨kv, hkv, by simpa using z⟩)]
              rfl
            rw [this]
      · simp only [if_neg e]
        have h2 : (kvs.any fun kv => decide (kv.1 = p)) = true := by
          rw [List.any_cons] at h
          simpa [e] using h
        by_cases e2 : k = q
        · subst e2
          rw [dlook_pos, dlook_pos, if_neg fun z => e z.symm]
        · rw [dlook_neg e2, dlook_neg e2, ih h2]
  · rw [if_neg h]
    induction kvs with
    | nil =>
      rw [List.nil_append]
      by_cases e : p = q
      · subst e; rw [dlook_pos, if_pos rfl]
      · rw [dlook_neg e, if_neg e]
    | cons kv kvs ih =>
      obtain ⟨k, v⟩ := kv
      rw [List.any_cons] at h
      have h1 : ¬ k = p := fun z => h (by simp [z])
      have h2 : ¬ (kvs.any fun kv => decide (kv.1 = p)) = true := fun z => h (by rw [z]; simp)
      rw [List.cons_append]
      by_cases e2 : k = q
      · subst e2
        rw [dlook_pos, dlook_pos, if_neg fun z => h1 z.symm]
      · rw [dlook_neg e2, dlook_neg e2, ih h2]
theorem dput_len (kvs : List (PK × D)) (p : PK) (d : D) : (dput kvs p d).length ≤ kvs.length + 1 := by
  unfold dput
  split
  · rw [List.length_map]; omega
  · rw [List.length_append]; simp
structure OKo (o : List Nat) : Prop where
  len : o.length ≤ 5
  sm : ∀ c ∈ o, c < 1114112
  perm : (lawP o).Perm (progP o)
theorem layer_sm (c : Nat) : ∀ k, ∀ o ∈ layerO c k, ∀ x ∈ o, x < 1114112
  | 0, o, h, x, hx => by simp [layerO] at h; subst h; cases hx
  | k + 1, o, h, x, hx => by
    obtain ⟨p, hp, h⟩ := List.mem_flatMap.mp h
    obtain ⟨q, hq, rfl⟩ := List.mem_map.mp h
    rcases List.mem_append.mp hx with hx | hx
    · exact layer_sm c k p hp x hx
    · rw [List.mem_singleton.mp hx]
      have h1 : q ∈ LET := List.mem_of_mem_take (List.mem_filter.mp hq).1
      have h2 : ∀ q ∈ LET, q < 1114112 := by decide
      exact h2 q h1
theorem found_sm (c : Nat) : ∀ k, ∀ o ∈ foundO c k, ∀ x ∈ o, x < 1114112
  | 0, o, h, x, hx => by simp [foundO] at h; subst h; cases hx
  | k + 1, o, h, x, hx => by
    rw [foundO] at h
    rcases List.mem_append.mp h with h | h
    · exact found_sm c k o h x hx
    · exact layer_sm c (k + 1) o h x hx
theorem order_OK {c : Nat} (hc : c ≤ 5) : ∀ o ∈ ordersN c, OKo o := fun o h => ⟨Nat.le_trans (found_mem c o h) hc, found_sm c c o h, List.isPerm_iff.mp (law_prog hc o h)⟩
theorem rows_OK : ∀ (cs : List Nat) (L), (∀ c ∈ cs, c ≤ 5) → (∀ r ∈ L, ∀ o ∈ r, OKo o) → ∀ r ∈ rowsF cs L, ∀ o ∈ r, OKo o
  | [], L, _, h, r, m => h r m
  | c :: cs, L, hc, h, r, m => by
    refine rows_OK cs (stepR c L) (fun d hd => hc d (List.mem_cons_of_mem _ hd)) ?_ r m
    intro r m o ho
    obtain ⟨p, hp, m⟩ := List.mem_flatMap.mp m
    obtain ⟨q, hq, rfl⟩ := List.mem_map.mp m
    rcases List.mem_append.mp ho with ho | ho
    · exact h p hp o ho
    · rw [List.mem_singleton.mp ho]
      exact order_OK (hc c (List.mem_cons_self ..)) q hq
theorem textsL_len (m : Nat) (o : List Nat) : (textsL m o).length = (m + 1) ^ tri o.length := by
  unfold textsL
  rw [List.length_map, ptsF_len, srtN_len, progP_len, List.length_singleton, Nat.one_mul]
theorem stepL_len (m : Nat) (o : List Nat) (L) : (stepL m o L).length = L.length * (m + 1) ^ tri o.length := by
  unfold stepL
  exact flatMap_len fun x _ => by rw [List.length_map, textsL_len]
theorem rowsL_len (m : Nat) : ∀ r L, (rowsL m r L).length = L.length * (m + 1) ^ trisum r
  | [], L => by simp [rowsL, trisum]
  | o :: r, L => by rw [rowsL, rowsL_len m r, stepL_len, trisum, Nat.pow_add, Nat.mul_assoc]
theorem rowsL_mem (m : Nat) : ∀ r L (n : Nat), (∀ t ∈ L, t.length = n) → ∀ t ∈ rowsL m r L, t.length = n + r.length
  | [], L, n, h, t, ht => h t ht
  | o :: r, L, n, h, t, ht => by
    rw [rowsL_mem m r (stepL m o L) (n + 1) ?_ t ht, List.length_cons]
    · omega
    · intro t ht
      obtain ⟨u, hu, ht⟩ := List.mem_flatMap.mp ht
      obtain ⟨q, _, rfl⟩ := List.mem_map.mp ht
      simp [h u hu]
theorem stepL_app (m : Nat) (o : List Nat) (L M) : stepL m o (L ++ M) = stepL m o L ++ stepL m o M := by
  unfold stepL
  rw [List.flatMap_append]
theorem trisum_app : ∀ r s, trisum (r ++ s) = trisum r + trisum s
  | [], s => by simp [trisum]
  | o :: r, s => by rw [List.cons_append, trisum, trisum, trisum_app r s, Nat.add_assoc]
def Kn (m : Nat) (kn : List (PK × D)) : Prop := ∀ (o : List Nat) (d : D), dlook kn [.inr o] = some d → d = .lst ((textsL m o).map D.str)
theorem law_due_ok (cs : List Nat) (m : Nat) (S : Sto) (Q : WP) (E : XP) (hl : cs.length ≤ 4) (hc : ∀ c ∈ cs, c ≤ 5) (hm : m + 1 < 2 ^ 60) (h1 : manyL 1 cs ≤ 300) (h2 : manyL (m + 1) cs ≤ 4000) (h : Q (.dat (.tup (probF m (rowsF cs [[]])))) S) :
    w__law_due [.tup (cs.map fun (c : Nat) => D.int (c : Int)), .int m] S Q E := by
  have hsum : rowSum (m + 1) (rowsF cs [[]]) = manyL (m + 1) cs := by
    rw [rowSum_all _ cs _ hc]
    have : rowSum (m + 1) [[]] = 1 := by simp [rowSum, trisum]
    rw [this, Nat.one_mul]
  unfold w__law_due r__law_due
  walk_at "fx"
  refine ⟨small_line (by decide), small_line (by decide), ?_⟩
  unfold r__law_due_12
  walk_at "fx"
  refine forV (fun P ρ => ∃ (x3 x6 x7 x9 : Option M), ρ = [some (.dat (.tup (cs.map fun (c : Nat) => D.int (c : Int)))), some (.dat (.int m)), some (.dat (.lst ((rowsF P [[]]).map rowD))), x3, none, none, x6, x7, none, x9, none, none]) ⟨_, _, _, _, rfl⟩ ?_ ?_
  · rintro ρ ⟨x3, x6, x7, x9, rfl⟩
    unfold r__law_due_11
    walk_at "fx"
    unfold r__law_due_10
    walk_at "fx"
    refine ⟨small_line (by decide), ?_⟩
    unfold r__law_due_9
    walk_at "fx"
    have lenC : (rowsF cs [[]]).length = manyL 1 cs := by rw [rowsF_len cs _ hc]; simp
    refine forV (fun l ρ => ∃ (kn : List (PK × D)) (x6 x7 x8 x9 x10 x11 : Option M), Kn m kn ∧ kn.length ≤ 4 * l.length ∧ ρ = [some (.dat (.tup (cs.map fun (c : Nat) => D.int (c : Int)))), some (.dat (.int m)), some (.dat (.lst ((rowsF cs [[]]).map rowD))), x3, some (.dct false kn), some (.lst ((probF m l).map .dat)), x6, x7, x8, x9, x10, x11]) ⟨[], _, _, _, _, _, _, (by intro o d h; cases h), Nat.le_refl _, rfl⟩ ?_ ?_
    · rintro ρ ⟨kn, x6, x7, x8, x9, x10, x11, e1, e2, rfl⟩
      unfold r__law_due_8
      walk_at "fx"
      exact ⟨_, dats_map _, h⟩
    · rintro l r rr ρ W e ⟨kn, x6, x7, x8, x9, x10, x11, kn1, kn2, rfl⟩ ih
      have hmem : r ∈ rowsF cs [[]] := by rw [e]; simp
      have k1 : r.length = 0 + cs.length := rowsF_mem cs (L := [[]]) (n := 0) (by simp) r hmem
      have k2 := rows_OK cs [[]] hc (by simp) r hmem
      have k5 : rowSum (m + 1) l + (m + 1) ^ trisum r ≤ 4000 := by
        rw [e, rowSum_app, rowSum] at hsum
        omega
      have hl3 := congrArg List.length e
      rw [lenC, List.length_append, List.length_cons] at hl3
      rw [rowD]
      walk_at "fx"
      refine ⟨small_line (by decide), small_line (by decide), ?_⟩
      unfold r__law_due_7
      walk_at "fx"
      refine forV (fun P ρ => ∃ (kn : List (PK × D)) (x7 x9 x10 x11 : Option M), Kn m kn ∧ kn.length ≤ 4 * l.length + P.length ∧ ρ = [some (.dat (.tup (cs.map fun (c : Nat) => D.int (c : Int)))), some (.dat (.int m)), some (.dat (.lst ((rowsF cs [[]]).map rowD))), x3, some (.dct false kn), some (.lst ((probF m l).map .dat)), some (.dat (.tup (r.map D.str))), x7, some (.dat (.lst ((rowsL m P [[]]).map rowD))), x9, x10, x11]) ⟨kn, _, _, _, _, kn1, by simpa using kn2, rfl⟩ ?_ ?_
      · rintro ρ ⟨kn, x7, x9, x10, x11, kn1, kn2, rfl⟩
        unfold r__law_due_6
        walk_at "fx"
        refine ⟨small_line (by rw [probF_len, rowsL_len, List.length_singleton, Nat.one_mul]; omega), ?_⟩
        have e5 : (probF m l).map M.dat ++ ((rowsL m r [[]]).map rowD).map M.dat = (probF m (l ++ [r])).map M.dat := by
          rw [← List.map_append]
          congr 1
          unfold probF
          rw [List.flatMap_append, ← probes_eq m srtN_mem r, List.map_map]
          simp [Function.comp_def]
        rw [e5]
        exact ih _ ⟨kn, _, _, _, _, _, _, kn1, by rw [List.length_append, List.length_singleton]; omega, rfl⟩
      · rintro P o R ρ W2 e2 ⟨kn, x7, x9, x10, x11, kn1, kn2, rfl⟩ ih2
        have k6 := k2 o (by rw [e2]; simp)
        have k7 : (m + 1) ^ trisum P * (m + 1) ^ tri o.length ≤ 4000 := by
          rw [← Nat.pow_add]
          refine Nat.le_trans (Nat.pow_le_pow_right (by omega) ?_) (Nat.le_trans (Nat.le_add_left _ _) k5)
          rw [e2, trisum_app, trisum]
          omega
        have k8 : (m + 1) ^ tri o.length ≤ 4000 := Nat.le_trans (Nat.le_mul_of_pos_left _ (Nat.pow_pos (by omega))) k7
        have k9 := congrArg List.length e2
        rw [List.length_append, List.length_cons] at k9
        -- behind the lookup
        have go : ∀ (kn : List (PK × D)) (x7 : Option M), Kn m kn → kn.length ≤ 4 * l.length + (P.length + 1) → dlook kn [.inr o] = some (.lst ((textsL m o).map D.str)) →
            r__law_due_5 { nx := W2, rt := Q, bk := r__law_due_6 { nx := W, rt := Q, bk := r__law_due_8 (endOf Q E), ct := W, ex := (endOf Q E).ex }, ct := W2, ex := (endOf Q E).ex } [some (.dat (.tup (cs.map fun (c : Nat) => D.int (c : Int)))), some (.dat (.int m)), some (.dat (.lst ((rowsF cs [[]]).map rowD))), x3, some (.dct false kn), some (.lst ((probF m l).map .dat)), some (.dat (.tup (r.map D.str))), x7, some (.dat (.lst ((rowsL m P [[]]).map rowD))), some (.dat (.str o)), x10, x11] S := by
          intro kn x7 kn1 kn2 look
          unfold r__law_due_5
          walk_at "fx"
          refine ⟨small_line (by decide), ?_⟩
          unfold r__law_due_4
          walk_at "fx"
          have hlenL : (rowsL m P [[]]).length = (m + 1) ^ trisum P := by rw [rowsL_len, List.length_singleton, Nat.one_mul]
          refine forV (fun l3 ρ => ∃ (x10 x11 : Option M), ρ = [some (.dat (.tup (cs.map fun (c : Nat) => D.int (c : Int)))), some (.dat (.int m)), some (.dat (.lst ((rowsF cs [[]]).map rowD))), x3, some (.dct false kn), some (.lst ((probF m l).map .dat)), some (.dat (.tup (r.map D.str))), some (.lst (((stepL m o l3).map rowD).map .dat)), some (.dat (.lst ((rowsL m P [[]]).map rowD))), some (.dat (.str o)), x10, x11]) ⟨_, _, rfl⟩ ?_ ?_
          · rintro ρ ⟨x10, x11, rfl⟩
            unfold r__law_due_3
            walk_at "fx"
            refine ⟨_, dats_map _, ?_⟩
            have e5 : stepL m o (rowsL m P [[]]) = rowsL m (P ++ [o]) [[]] := by rw [rowsL_app]; rfl
            rw [e5]
            exact ih2 _ ⟨kn, _, _, _, _, kn1, by rw [List.length_append]; exact kn2, rfl⟩
          · rintro l3 t r3 ρ W3 e3 ⟨x10, x11, rfl⟩ ih3
            walk_at "fx"
            rw [look]
            walk_at "fx"
            have j1 := congrArg List.length e3
            rw [hlenL, List.length_append, List.length_cons] at j1
            have j2 : (l3.length + 1) * (m + 1) ^ tri o.length ≤ 4000 := Nat.le_trans (Nat.mul_le_mul_right _ (by omega)) k7
            rw [Nat.succ_mul, ← stepL_len] at j2
            have j3 : t.length = 0 + P.length := rowsL_mem m P [[]] 0 (by simp) t (by rw [e3]; simp)
            refine forV (fun l4 ρ => ∃ (x11 : Option M), ρ = [some (.dat (.tup (cs.map fun (c : Nat) => D.int (c : Int)))), some (.dat (.int m)), some (.dat (.lst ((rowsF cs [[]]).map rowD))), x3, some (.dct false kn), some (.lst ((probF m l).map .dat)), some (.dat (.tup (r.map D.str))), some (.lst (((stepL m o l3 ++ l4.map fun u => t ++ [u]).map rowD).map .dat)), some (.dat (.lst ((rowsL m P [[]]).map rowD))), some (.dat (.str o)), some (.dat (rowD t)), x11]) ⟨x11, by simp⟩ ?_ ?_
            · rintro ρ ⟨x11, rfl⟩
              have e5 : stepL m o l3 ++ (textsL m o).map (fun u => t ++ [u]) = stepL m o (l3 ++ [t]) := by rw [stepL_app]; simp [stepL]
              rw [e5]
              exact ih3 _ ⟨_, _, rfl⟩
            · rintro l4 u r4 ρ W4 e4 ⟨x11, rfl⟩ ih4
              rw [rowD]
              walk_at "fx"
              have j4 := congrArg List.length e4
              rw [textsL_len, List.length_append, List.length_cons] at j4
              refine ⟨small_line' (by rw [List.length_append, List.length_map]; omega), small_line (by decide), small_line (by omega), ?_⟩
              have e5 : ((stepL m o l3 ++ l4.map fun u => t ++ [u]).map rowD).map M.dat ++ [M.dat (.tup (t.map D.str ++ [.str u]))] = ((stepL m o l3 ++ (l4 ++ [u]).map fun u => t ++ [u]).map rowD).map M.dat := by simp [rowD]
              rw [e5]
              exact ih4 _ ⟨_, rfl⟩
        walk_at "fx"
        refine ite2 (fun g => ?_) fun g => ?_
        · refine law_texts_ok o m _ _ _ k6.len k8 (by omega) k6.sm k6.perm ?_
          refine ⟨small_line' (by omega), ?_⟩
          rw [toD_lst]
          refine go _ _ (fun o' d hd => ?_) (Nat.le_trans (dput_len ..) (by omega)) (by rw [dlook_dput, if_pos rfl])
          rw [dlook_dput] at hd
          split at hd
          · rename_i q
            cases hd
            injection q with q
            injection q with q
            rw [q]
          · exact kn1 o' d hd
        · refine go _ _ kn1 (by omega) ?_
          have g2 : (dlook kn [.inr o]).isSome = true := by cases q : dlook kn [.inr o] <;> simp_all
          obtain ⟨d, hd⟩ := Option.isSome_iff_exists.mp g2
          rw [hd, kn1 o d hd]
  · rintro P c R ρ W e ⟨x3, x6, x7, x9, rfl⟩ ih
    have hcc : c ≤ 5 := hc c (by rw [e]; simp)
    have lenP : (rowsF P [[]]).length = manyL 1 P := by
      rw [rowsF_len P _ fun d hd => hc d (by rw [e]; simp [hd])]
      simp
    have lenPc : manyL 1 P * manyC c 1 ≤ 300 := by
      have h1' := manyL_pre 1 (P ++ [c]) R
      rw [manyL_app, manyL, manyL, Nat.mul_one, List.append_assoc, List.singleton_append, ← e] at h1'
      exact Nat.le_trans h1' h1
    walk_at "fx"
    refine ⟨small_line (by decide), ?_⟩
    unfold r__law_due_2
    walk_at "fx"
    refine forV (fun l ρ => ∃ (x6 x9 : Option M), ρ = [some (.dat (.tup (cs.map fun (c : Nat) => D.int (c : Int)))), some (.dat (.int m)), some (.dat (.lst ((rowsF P [[]]).map rowD))), some (.dat (.int (c : Nat))), none, none, x6, some (.lst (((stepR c l).map rowD).map .dat)), none, x9, none, none]) ⟨_, _, rfl⟩ ?_ ?_
    · rintro ρ ⟨x6, x9, rfl⟩
      unfold r__law_due_1
      walk_at "fx"
      refine ⟨_, dats_map _, ?_⟩
      have e5 : stepR c (rowsF P [[]]) = rowsF (P ++ [c]) [[]] := by rw [rowsF_app]; rfl
      rw [e5]
      exact ih _ ⟨_, _, _, _, rfl⟩
    · rintro l r rr ρ W2 e2 ⟨x6, x9, rfl⟩ ih2
      walk_at "fx"
      refine lorders_ok c _ _ _ hcc ?_
      walk_at "fx"
      refine forV (fun l2 ρ => ∃ (x9 : Option M), ρ = [some (.dat (.tup (cs.map fun (c : Nat) => D.int (c : Int)))), some (.dat (.int m)), some (.dat (.lst ((rowsF P [[]]).map rowD))), some (.dat (.int (c : Nat))), none, none, some (.dat (rowD r)), some (.lst (((stepR c l ++ l2.map fun o => r ++ [o]).map rowD).map .dat)), none, x9, none, none]) ⟨x9, by simp⟩ ?_ ?_
      · rintro ρ ⟨x9, rfl⟩
        have e5 : stepR c l ++ (ordersN c).map (fun o => r ++ [o]) = stepR c (l ++ [r]) := by rw [stepR_app]; simp [stepR]
        rw [e5]
        exact ih2 _ ⟨_, _, rfl⟩
      · rintro l2 o r2 ρ W3 e3 ⟨x9, rfl⟩ ih3
        rw [rowD]
        walk_at "fx"
        have k1 : r.length = 0 + P.length := rowsF_mem P (L := [[]]) (n := 0) (by simp) r (by rw [e2]; simp)
        have k2 : P.length ≤ 4 := by rw [e] at hl; simp at hl; omega
        have k3 : l2.length < manyC c 1 := by
          have := congrArg List.length e3
          rw [orders_len hcc, List.length_append, List.length_cons] at this
          omega
        have k4 : (l.length + 1) * manyC c 1 ≤ 300 := by
          have := congrArg List.length e2
          rw [lenP, List.length_append, List.length_cons] at this
          exact Nat.le_trans (Nat.mul_le_mul_right _ (by omega)) lenPc
        have k5 := stepR_len hcc l
        rw [Nat.succ_mul, ← k5] at k4
        refine ⟨small_line' (by rw [List.length_append, List.length_map]; omega), small_line (by decide), small_line (by omega), ?_⟩
        have e5 : ((stepR c l ++ l2.map fun o => r ++ [o]).map rowD).map M.dat ++ [M.dat (.tup (r.map D.str ++ [.str o]))] = ((stepR c l ++ (l2 ++ [o]).map fun o => r ++ [o]).map rowD).map M.dat := by simp [rowD]
        rw [e5]
        exact ih3 _ ⟨_, rfl⟩
end K48
namespace K48
open PySem L2 L2.Fn
local macro_rules | `(tactic| walk_at "fx") => `(tactic| try simp only [mkW, fSeq, fAsg, gN, fC, fVar, fBin, fDat, fFrz, oAdd, oInt0, oInt, oIx, fIfS, fTru, oTru, fBl, fNot, fAnd, fOr, fNext, fRet, fRetV, fRetN, fLst, fTup, fNil, fCons, fCB, oLen, oIntC, oStrI, oTupC, oLstC, fApp, fSl, fPart, fNoP, oSl, fIf, fAndV, fOrV, fNotV, fIsi, M.ty, fM1, oIn, oEq, oNe, eqF, fDrop, fFor, fWalk, oWalk, fRng, oR1, oR2, fCall, fComp, fYes, wipeE, oCat, oRep,
  fComp2, oMulS, fNeg, oSum, fExt, M.sqD, fIdx, oIdx, keysD, Int.zero_add, oMin2, oI2, gTupP, gConsP, gNilP, fDict, fDSet, oDIx, oDIn, fDGet2, M.asD, oEnum, oZip, fFz,
  List.length_cons, List.length_nil, List.map_cons, List.map_nil, List.cons_append, List.nil_append, List.append_nil, blanks, List.getElem?_cons_zero, List.getElem?_cons_succ, List.set_cons_zero, List.set_cons_succ, Option.some.injEq, exists_eq_left', true_and, and_true, Nat.reduceSub, Nat.reduceAdd, Nat.reduceLT, Nat.lt_add_one, M.dat.injEq, D.bl.injEq, D.int.injEq, Nat.zero_lt_succ, Nat.succ_lt_succ_iff, Nat.zero_lt_one, exists_eq_left, List.getElem?_nil, Bool.false_bne, Bool.false_xor, decide_eq_true_eq,
  ex_nil, ex_cons, ex_map, toD_lst, toD_dat, dats_nil, dats_cons, ld_l, ld_dat, ld_lst, Option.map_some, ex_some, kitI isi_int_int, kitI isi_int_bool, kitI isi_str_str, kitI isi_tup_tup, kitI isi_str_tup, M.lst.injEq, List.length_map, Bool.not_true, Bool.not_false, Bool.false_eq_true, if_true, if_false, reduceIte, endOf_nx, endOf_rt, endOf_ex, ex_pair, ex_dct, ex_cons2, D.pk, atomsD, atomD, Option.bind_some, Option.getD_some, Option.getD_none, flat_one, Int.toNat_natCast, gv_ROWS, gv_PROBES])
theorem greatest_ok (cs : List Nat) (b : Nat) (S : Sto) (Q : WP) (E : XP) (hl : cs.length ≤ 4) (hc : ∀ c ∈ cs, c ≤ 5) (h : ∀ m : Nat, m ≤ 4200 → Q (.dat (.int (m : Nat))) S) :
    w__law_greatest [.tup (cs.map fun (c : Nat) => D.int (c : Int)), .int b] S Q E := by
  unfold w__law_greatest r__law_greatest
  walk_at "fx"
  unfold r__law_greatest_4
  walk_at "fx"
  unfold r__law_greatest_3
  walk_at "fx"
  refine ⟨by decide, by decide, ?_⟩
  refine forR (fun k ρ => ∃ (lo hi : Int) (x y : Option M), 0 ≤ lo ∧ lo - 1 ≤ hi ∧ hi ≤ 4200 ∧ lo ≤ 4200 ∧ ρ = [some (.dat (.tup (cs.map fun (c : Nat) => D.int (c : Int)))), some (.dat (.int b)), some (.dat (.int lo)), some (.dat (.int hi)), x, y]) ⟨_, _, _, _, by decide, by decide, by decide, by decide, rfl⟩ ?_ ?_
  · rintro ρ ⟨lo, hi, x, y, h0, h1, h2, h3, rfl⟩
    unfold r__law_greatest_2
    walk_at "fx"
    have e : lo = (lo.toNat : Int) := by omega
    rw [e]
    exact h _ (by omega)
  · rintro k ρ W hk ⟨lo, hi, x, y, h0, h1, h2, h3, rfl⟩ ih
    walk_at "fx"
    refine ⟨⟨by decide, by decide⟩, ?_⟩
    obtain ⟨md, hmd⟩ : ∃ md : Nat, (lo + hi + 1) / 2 = (md : Int) := ⟨((lo + hi + 1) / 2).toNat, by omega⟩
    unfold r__law_greatest_1
    walk_at "fx"
    rw [hmd]
    refine manyI_ok cs md _ _ _ hl hc (by omega) ?_
    unfold oLe
    walk_at "fx"
    refine ite2 (fun g => ?_) fun g => ?_
    · exact ih _ ⟨_, _, _, _, by omega, by omega, by omega, by omega, rfl⟩
    · exact ih _ ⟨_, _, _, _, by omega, by omega, by omega, by omega, rfl⟩
theorem refused_ok (cs : List Nat) (m : Nat) (word : List Nat) (S : Sto) (Q : WP) (E : XP) (hl : cs.length ≤ 4) (hc : ∀ c ∈ cs, c ≤ 5) (hm : m + 1 < 2 ^ 60)
    (hw : (300 < manyL 1 cs ∧ word = [114, 111, 119, 115]) ∨ (manyL 1 cs ≤ 300 ∧ 4000 < manyL (m + 1) cs ∧ word = [112, 114, 111, 98, 101, 115])) (h : Q (.dat (.bl true)) S) :
    w__law_refused [.tup (cs.map fun (c : Nat) => D.int (c : Int)), .int m, .str word] S Q E := by
  unfold w__law_refused r__law_refused fTry
  walk_at "fx"
  refine probes_ok cs m _ _ _ hl hc hm (fun h1 h2 => ?_) (fun h1 => ?_) (fun h1 h2 => ?_)
  · rcases hw with hw | hw <;> omega
  · refine ⟨_, rfl, fun a dd => ?_⟩
    have e : word = [114, 111, 119, 115] := by
      rcases hw with hw | hw
      · exact hw.2
      · omega
    subst e
    unfold P0 fIsE fXf
    walk_at "fx"
    rw [decide_eq_true trivial]
    exact h
  · refine ⟨_, rfl, fun a dd => ?_⟩
    have e : word = [112, 114, 111, 98, 101, 115] := by
      rcases hw with hw | hw
      · omega
      · exact hw.2.2
    subst e
    unfold P0 fIsE fXf
    walk_at "fx"
    rw [decide_eq_true trivial]
    exact h
theorem tabM (L : List Nat) (b : Nat) (hL : ∀ x ∈ L, x ≤ b) (i : Int) (h0 : 0 ≤ i) (h1 : i < L.length) : ∃ n : Nat, n ≤ b ∧ atI (L.map fun (n : Nat) => M.dat (.int (n : Int))) i = some (.dat (.int (n : Int))) := by
  have hlt : i.toNat < L.length := by omega
  exact ⟨L[i.toNat], hL _ (List.getElem_mem hlt), atI_i h0 (by rw [List.getElem?_map, List.getElem?_eq_getElem hlt]; rfl)⟩
def qs : List Int := [12, 12, 12, 12, 12, 16, 4, 4200, 1000000000000000]
theorem question_ok (c : Int) (wh : Bool) (S : Sto) (Q : WP) (E : XP) (h : ∀ (cs : List Nat) (m : Nat), cs.length ≤ 4 → (∀ c ∈ cs, c ≤ 5) → m < 1000000000000000 → Q (.lst [.dat (.tup (cs.map fun (c : Nat) => D.int (c : Int))), .dat (.int m)]) S) :
    w__law_question [.int c, .bl wh] S Q E := by
  unfold w__law_question r__law_question
  walk_at "fx"
  have e : (M.lst [M.dat (D.int 12), M.dat (D.int 12), M.dat (D.int 12), M.dat (D.int 12), M.dat (D.int 12), M.dat (D.int 16), M.dat (D.int 4), M.dat (D.int 4200), M.dat (D.int (10 ^ Int.toNat 15))]).toD = .lst (qs.map D.int) := by
    have := toD_lst (qs.map D.int)
    rw [← this]
    rfl
  rw [e]
  refine ⟨⟨by decide, by decide, by decide⟩, small_line (by decide), ?_⟩
  refine digits_ok c qs _ _ _ (by decide +kernel) (by decide) fun ds hd => ?_
  rw [toD_lst]
  obtain ⟨d0, r0, rfl, a0, b0, hd⟩ := digs_cons hd
  obtain ⟨d1, r1, rfl, a1, b1, hd⟩ := digs_cons hd
  obtain ⟨d2, r2, rfl, a2, b2, hd⟩ := digs_cons hd
  obtain ⟨d3, r3, rfl, a3, b3, hd⟩ := digs_cons hd
  obtain ⟨d4, r4, rfl, a4, b4, hd⟩ := digs_cons hd
  obtain ⟨d5, r5, rfl, a5, b5, hd⟩ := digs_cons hd
  obtain ⟨d6, r6, rfl, a6, b6, hd⟩ := digs_cons hd
  obtain ⟨d7, r7, rfl, a7, b7, hd⟩ := digs_cons hd
  obtain ⟨d8, r8, rfl, a8, b8, hd⟩ := digs_cons hd
  generalize hrow : [d0, d1, d2, d3, d4, d5, d6, d7, d8] ++ r8 = row
  have hrow' : d0 :: d1 :: d2 :: d3 :: d4 :: d5 :: d6 :: d7 :: d8 :: r8 = row := hrow
  rw [hrow']
  have at_ : ∀ (i : Nat) (z : Int), row[i]? = some z → atI (row.map D.int) (i : Int) = some (.int z) := fun i z hz => atI_n (by rw [List.getElem?_map, hz]; rfl)
  unfold r__law_question_9
  walk_at "fx"
  obtain ⟨n, hn, tab1⟩ := tabM [0, 1, 1, 1, 2, 2, 2, 2, 3, 3, 4, 4] 4 (by decide) d0 a0 b0
  refine ⟨small_line (by decide), _, at_ 0 d0 (by rw [← hrow]; rfl), ?_⟩
  walk_at "fx"
  refine ⟨_, tab1, ?_⟩
  walk_at "fx"
  refine ⟨by omega, by omega, ?_⟩
  rw [rng_map]
  refine compV (fun l acc => ∃ cs : List Nat, cs.length = l.length ∧ (∀ c ∈ cs, c ≤ 5) ∧ acc = (cs.map fun (c : Nat) => D.int (c : Int)).map .dat) ⟨[], rfl, by simp, rfl⟩ ?_ ?_
  · rintro acc ⟨cs, hcl, hcc, rfl⟩
    rw [List.length_range] at hcl
    show ∃ ds, _ ∧ _
    refine ⟨_, ld_lst _, ?_⟩
    have q1 : ∀ m : Nat, m < 1000000000000000 → r__law_question_1 (endOf Q E) [some (.dat (.int c)), some (.dat (.bl wh)), some (.dat (.lst (row.map D.int))), some (.dat (.tup (cs.map fun (c : Nat) => D.int (c : Int)))), some (.dat (.int m)), none] S := by
      intro m hm
      unfold r__law_question_1
      walk_at "fx"
      exact ⟨small_line (by decide), h cs m (by omega) hcc hm⟩
    have at5 := at_ 5 d5 (by rw [← hrow]; rfl)
    have at6 := at_ 6 d6 (by rw [← hrow]; rfl)
    have at7 := at_ 7 d7 (by rw [← hrow]; rfl)
    have at8 := at_ 8 d8 (by rw [← hrow]; rfl)
    have hcl4 : cs.length ≤ 4 := by omega
    have q2 : ∀ m : Nat, m < 1000000000000000 → r__law_question_2 (endOf Q E) [some (.dat (.int c)), some (.dat (.bl wh)), some (.dat (.lst (row.map D.int))), some (.dat (.tup (cs.map fun (c : Nat) => D.int (c : Int)))), some (.dat (.int m)), none] S := by
      intro m hm
      unfold r__law_question_2
      walk_at "fx"
      cases wh with
      | true =>
        walk_at "fx"
        exact q1 m hm
      | false =>
        walk_at "fx"
        refine ⟨_, at5, ?_⟩
        walk_at "fx"
        refine ite2 (fun g => ?_) fun g => ?_
        · refine ⟨_, at5, ?_⟩
          walk_at "fx"
          refine ite2 (fun g => ?_) fun g => ?_
          · refine manyI_ok cs m _ _ _ hcl4 hcc (by omega) ?_
            unfold oGt
            walk_at "fx"
            refine ite2 (fun g => ?_) fun g => ?_
            · refine greatest_ok cs 200 _ _ _ hcl4 hcc fun m2 hm2 => ?_
              walk_at "fx"
              by_cases g3 : (m2 : Int) < (m : Int)
              · rw [if_pos g3]
                exact q1 m2 (by omega)
              · rw [if_neg g3]
                exact q1 m hm
            · exact q1 m hm
          · exact q1 m hm
        · exact q1 m hm
    have q3 : ∀ m : Nat, m < 1000000000000000 → r__law_question_3 (endOf Q E) [some (.dat (.int c)), some (.dat (.bl wh)), some (.dat (.lst (row.map D.int))), some (.dat (.tup (cs.map fun (c : Nat) => D.int (c : Int)))), some (.dat (.int m)), none] S := by
      intro m hm
      unfold r__law_question_3
      walk_at "fx"
      refine ite2 (fun g => ?_) fun g => ?_
      · refine ⟨_, at5, ?_⟩
        walk_at "fx"
        refine ite2 (fun g => ?_) fun g => ?_
        · refine ⟨_, at7, ?_⟩
          have e7 : d7 = (d7.toNat : Int) := by omega
          have := q2 d7.toNat (by omega)
          rw [← e7] at this
          exact this
        · exact q2 m hm
      · exact q2 m hm
    have q4 : ∀ m : Nat, m < 1000000000000000 → r__law_question_4 (endOf Q E) [some (.dat (.int c)), some (.dat (.bl wh)), some (.dat (.lst (row.map D.int))), some (.dat (.tup (cs.map fun (c : Nat) => D.int (c : Int)))), some (.dat (.int m)), none] S := by
      intro m hm
      unfold r__law_question_4
      walk_at "fx"
      refine ite2 (fun g => ?_) fun g => ?_
      · refine ⟨_, at5, ?_⟩
        walk_at "fx"
        refine ite2 (fun g => ?_) fun g => ?_
        · exact greatest_ok cs 4000 _ _ _ hcl4 hcc fun m2 hm2 => q3 m2 (by omega)
        · exact q3 m hm
      · exact q3 m hm
    have q5 : ∀ m : Nat, m < 1000000000000000 → r__law_question_5 (endOf Q E) [some (.dat (.int c)), some (.dat (.bl wh)), some (.dat (.lst (row.map D.int))), some (.dat (.tup (cs.map fun (c : Nat) => D.int (c : Int)))), some (.dat (.int m)), none] S := by
      intro m hm
      unfold r__law_question_5
      walk_at "fx"
      refine ⟨_, at5, ?_⟩
      walk_at "fx"
      refine ite2 (fun g => ?_) fun g => ?_
      · refine ⟨_, at8, ?_⟩
        have e8 : d8 = (d8.toNat : Int) := by omega
        have := q4 d8.toNat (by omega)
        rw [← e8] at this
        exact this
      · exact q4 m hm
    have q6 : ∀ m : Nat, m < 1000000000000000 → r__law_question_6 (endOf Q E) [some (.dat (.int c)), some (.dat (.bl wh)), some (.dat (.lst (row.map D.int))), some (.dat (.tup (cs.map fun (c : Nat) => D.int (c : Int)))), some (.dat (.int m)), none] S := by
      intro m hm
      unfold r__law_question_6
      walk_at "fx"
      refine ⟨_, at5, ?_⟩
      walk_at "fx"
      refine ite2 (fun g => ?_) fun g => ?_
      · refine greatest_ok cs 4000 _ _ _ hcl4 hcc fun m2 hm2 => ?_
        walk_at "fx"
        exact q5 (m2 + 1) (by omega)
      · exact q5 m hm
    have q7 : ∀ m : Nat, m < 1000000000000000 → r__law_question_7 (endOf Q E) [some (.dat (.int c)), some (.dat (.bl wh)), some (.dat (.lst (row.map D.int))), some (.dat (.tup (cs.map fun (c : Nat) => D.int (c : Int)))), some (.dat (.int m)), none] S := by
      intro m hm
      unfold r__law_question_7
      walk_at "fx"
      refine ⟨_, at5, ?_⟩
      walk_at "fx"
      refine ite2 (fun g => ?_) fun g => ?_
      · exact q6 3 (by decide)
      · exact q6 m hm
    unfold r__law_question_8
    walk_at "fx"
    obtain ⟨n3, hn3, tab3⟩ := tabM [0, 1, 1, 2] 2 (by decide) d6 a6 b6
    refine ⟨small_line (by decide), _, at6, ?_⟩
    walk_at "fx"
    refine ⟨_, tab3, ?_⟩
    walk_at "fx"
    exact q7 n3 (by omega)
  · rintro l x r acc W e ⟨cs, hcl, hcc, rfl⟩ ih
    have hx : x < 4 := by
      have : x ∈ List.range n := by rw [e]; simp
      rw [List.mem_range] at this
      omega
    walk_at "fx"
    obtain ⟨z, hz, z0, z1⟩ : ∃ z : Int, row[1 + x]? = some z ∧ 0 ≤ z ∧ z < 12 := by
      have : x = 0 ∨ x = 1 ∨ x = 2 ∨ x = 3 := by omega
      rcases this with rfl | rfl | rfl | rfl
      · exact ⟨d1, by rw [← hrow]; rfl, a1, b1⟩
      · exact ⟨d2, by rw [← hrow]; rfl, a2, b2⟩
      · exact ⟨d3, by rw [← hrow]; rfl, a3, b3⟩
      · exact ⟨d4, by rw [← hrow]; rfl, a4, b4⟩
    obtain ⟨n2, hn2, tab2⟩ := tabM [1, 1, 1, 1, 2, 2, 2, 2, 3, 3, 4, 5] 5 (by decide) z z0 z1
    have h1x : (1 : Int) + (x : Int) = ((1 + x : Nat) : Int) := by omega
    rw [h1x]
    refine ⟨small_line (by decide), _, at_ _ z hz, ?_⟩
    walk_at "fx"
    refine ⟨_, tab2, ?_⟩
    walk_at "fx"
    have hl := congrArg List.length e
    rw [List.length_range, List.length_append, List.length_cons] at hl
    refine ⟨small_line' (by omega), ?_⟩
    exact ih _ ⟨cs ++ [n2], by simp [hcl], fun y hy => (List.mem_append.mp hy).elim (hcc y) fun z => by rw [List.mem_singleton.mp z]; exact hn2, by simp⟩
theorem holds_ok (cs : List Nat) (m : Nat) (S : Sto) (Q : WP) (E : XP) (hl : cs.length ≤ 4) (hc : ∀ c ∈ cs, c ≤ 5) (hm : m + 1 < 2 ^ 60) (h : Q (.dat (.bl true)) S) :
    w__law_holds [.tup (cs.map fun (c : Nat) => D.int (c : Int)), .int m] S Q E := by
  unfold w__law_holds r__law_holds
  walk_at "fx"
  refine manyI_ok cs 0 _ _ _ hl hc (by decide) ?_
  unfold oGt
  walk_at "fx"
  refine ite2 (fun g => ?_) fun g => ?_
  · exact refused_ok cs m _ _ _ _ hl hc hm (.inl ⟨by omega, rfl⟩) h
  · unfold r__law_holds_2
    walk_at "fx"
    refine manyI_ok cs m _ _ _ hl hc hm ?_
    unfold oGt
    walk_at "fx"
    refine ite2 (fun g2 => ?_) fun g2 => ?_
    · exact refused_ok cs m _ _ _ _ hl hc hm (.inr ⟨by omega, by omega, rfl⟩) h
    · unfold r__law_holds_1
      walk_at "fx"
      refine probes_ok cs m _ _ _ hl hc hm (fun h1 h2 => ?_) (fun h1 => by omega) (fun h1 h2 => by omega)
      walk_at "fx"
      refine law_due_ok cs m _ _ _ hl hc hm h1 h2 ?_
      walk_at "fx"
      refine same_ok _ _ 5 _ _ (.tup _ _ ?_ fun d hd => ?_) h
      · have : rowSum (m + 1) [[]] = 1 := by simp [rowSum, trisum]
        rw [probF_len, rowSum_all _ cs _ hc, this]
        omega
      · obtain ⟨r, hr, hd⟩ := List.mem_flatMap.mp hd
        obtain ⟨v, _, rfl⟩ := List.mem_map.mp hd
        have k1 : r.length = 0 + cs.length := rowsF_mem cs (L := [[]]) (n := 0) (by simp) r hr
        refine .tup _ _ ?_ fun d hd => ?_
        · unfold textsR
          rw [List.length_map, List.length_map, List.length_zipIdx]
          omega
        · obtain ⟨t, _, rfl⟩ := List.mem_map.mp hd
          exact .str _ _
theorem law_ok (ns : List Int) (S : Sto) (hn : ns.length ≤ 63) : w_law [.lst (ns.map .int)] S (fun m _ => m = .dat (.bl true)) (fun _ _ => False) := by
  unfold w_law r_law
  walk_at "fx"
  refine ⟨small_line (by decide), ?_⟩
  unfold r_law_4
  walk_at "fx"
  refine ⟨by decide, by decide, ?_⟩
  have h3 : Int.toNat 3 = 3 := rfl
  rw [h3]
  refine forR (fun k ρ => ∃ (qsn : List (List Nat × Nat)) (x : Option M), qsn.length = k ∧ (∀ q ∈ qsn, q.1.length ≤ 4 ∧ (∀ c ∈ q.1, c ≤ 5) ∧ q.2 < 1000000000000000) ∧ ρ = [some (.dat (.lst (ns.map .int))), some (.lst ((qsn.map fun q => D.lst [.tup (q.1.map fun (c : Nat) => D.int (c : Int)), .int (q.2 : Nat)]).map .dat)), x, none]) ⟨[], _, rfl, by simp, rfl⟩ ?_ ?_
  · rintro ρ ⟨qsn, x, hl, hq, rfl⟩
    match qsn, hl with
    | [q0, q1, q2], _ =>
      walk_at "fx"
      unfold r_law_3
      walk_at "fx"
      refine ⟨small_line' (by decide), _, rfl, ?_⟩
      walk_at "fx"
      unfold r_law_2
      walk_at "fx"
      have e4 : (M.lst [M.dat (D.lst [D.tup (q0.1.map fun (c : Nat) => D.int (c : Int)), D.int (q0.2 : Nat)]), M.dat (D.lst [D.tup (q1.1.map fun (c : Nat) => D.int (c : Int)), D.int (q1.2 : Nat)]), M.dat (D.lst [D.tup (q2.1.map fun (c : Nat) => D.int (c : Int)), D.int (q2.2 : Nat)]), M.dat (D.lst [D.tup (q1.1.map fun (c : Nat) => D.int (c : Int)), D.int (q1.2 : Nat)])]).toD = .lst ([q0, q1, q2, q1].map fun q => D.lst [D.tup (q.1.map fun (c : Nat) => D.int (c : Int)), D.int (q.2 : Nat)]) := rfl
      rw [e4]
      walk_at "fx"
      have hall : ∀ q ∈ [q0, q1, q2, q1], q.1.length ≤ 4 ∧ (∀ c ∈ q.1, c ≤ 5) ∧ q.2 < 1000000000000000 := by
        intro q hq2
        simp at hq2
        rcases hq2 with rfl | rfl | rfl | rfl <;> exact hq _ (by simp)
      have e6 : [D.lst [D.tup (q0.1.map fun (c : Nat) => D.int (c : Int)), D.int (q0.2 : Nat)], D.lst [D.tup (q1.1.map fun (c : Nat) => D.int (c : Int)), D.int (q1.2 : Nat)], D.lst [D.tup (q2.1.map fun (c : Nat) => D.int (c : Int)), D.int (q2.2 : Nat)], D.lst [D.tup (q1.1.map fun (c : Nat) => D.int (c : Int)), D.int (q1.2 : Nat)]] = [q0, q1, q2, q1].map fun q => D.lst [D.tup (q.1.map fun (c : Nat) => D.int (c : Int)), D.int (q.2 : Nat)] := rfl
      rw [e6]
      generalize [q0, q1, q2, q1] = qsa at hall
      refine forV (fun l ρ => ∃ (y z : Option M), ρ = [some (.dat (.lst (ns.map .int))), y, x, z]) ⟨_, _, rfl⟩ ?_ ?_
      · rintro ρ ⟨y, z, rfl⟩
        unfold r_law_1
        walk_at "fx"
      · rintro l q r ρ W e ⟨y, z, rfl⟩ ih
        obtain ⟨j1, j2, j3⟩ := hall q (by rw [e]; simp)
        walk_at "fx"
        refine ⟨_, rfl, _, rfl, ?_⟩
        refine holds_ok q.1 q.2 _ _ _ j1 j2 (by omega) ?_
        walk_at "fx"
        exact ih _ ⟨_, _, rfl⟩
  · rintro k ρ W hk ⟨qsn, x, hl, hq, rfl⟩ ih
    walk_at "fx"
    refine ⟨small_line' (by omega), ?_⟩
    refine cell_ok ns k _ _ _ (by omega) (by omega) fun c => ?_
    walk_at "fx"
    refine question_ok c _ _ _ _ fun cs m h1 h2 h4 => ?_
    walk_at "fx"
    have e5 : (qsn.map fun q => D.lst [.tup (q.1.map fun (c : Nat) => D.int (c : Int)), .int (q.2 : Nat)]).map M.dat ++ [M.dat (M.lst [M.dat (D.tup (cs.map fun (c : Nat) => D.int (c : Int))), M.dat (D.int (m : Nat))]).toD] = ((qsn ++ [(cs, m)]).map fun q => D.lst [.tup (q.1.map fun (c : Nat) => D.int (c : Int)), .int (q.2 : Nat)]).map M.dat := by
      rw [List.map_append, List.map_append]
      rfl
    rw [e5]
    exact ih _ ⟨qsn ++ [(cs, m)], _, by rw [List.length_append, hl]; rfl, fun q hq2 => (List.mem_append.mp hq2).elim (hq q) fun z => by rw [List.mem_singleton.mp z]; exact ⟨h1, h2, h4⟩, rfl⟩
end K48
namespace K48
open PySem PySem.Spec PyProof.Rows L2 L2.Fn
abbrev si_Malformed : Stmt := clsS (topS 2) 0
abbrev si_TooMuch : Stmt := clsS (topS 8) 0
theorem all_mk {l : PySem.W.OpenLaw} {w : World} {K : PySem.W.Frag} {h : Heap} {mg : Str → Option Value} {fa f0 f1 f2 f3 f4 f5 f6 f7 f8 f9 f10 f11 f12 f13 f14 f15 f16 f17 f18 f19 f20 f21 f22 : Addr} (X : K.In h) (G : h.Ns mainGlobals mg) (hfa : mg "law" = some (.ref fa))
    {od0 an0 od1 an1 od2 an2 od3 an3 od4 an4 od5 an5 od6 an6 od7 an7 od8 an8 od9 an9 od10 an10 od11 an11 od12 an12 od13 an13 od14 an14 od15 an15 od16 an16 od17 an17 od18 an18 od19 an19 od20 an20 od21 an21 od22 an22 : Option Addr} {sl0 sl1 sl2 sl3 sl4 sl5 sl6 sl7 sl8 sl9 sl10 sl11 sl12 sl13 sl14 sl15 sl16 sl17 sl18 sl19 sl20 sl21 sl22 : Array (Option Value)} {oc0 kV0 dc0 pm0 cd0 ct0 oc1 kV1 dc1 pm1 cd1 ct1 oc2 kV2 dc2 pm2 cd2 ct2 oc3 kV3 dc3 pm3 cd3 ct3 oc4 kV4 dc4 pm4 cd4 ct4 oc5 kV5 dc5 pm5 cd5 ct5 oc6 kV6 dc6 pm6 cd6 ct6 oc7 kV7 dc7 pm7 cd7 ct7 oc8 kV8 dc8 pm8 cd8 ct8 oc9 kV9 dc9 pm9 cd9 ct9 oc10 kV10 dc10 pm10 cd10 ct10 oc11 kV11 dc11 pm11 cd11 ct11 oc12 kV12 dc12 pm12 cd12 ct12 oc13 kV13 dc13 pm13 cd13 ct13 oc14 kV14 dc14 pm14 cd14 ct14 oc15 kV15 dc15 pm15 cd15 ct15 oc16 kV16 dc16 pm16 cd16 ct16 oc17 kV17 dc17 pm17 cd17 ct17 oc18 kV18 dc18 pm18 cd18 ct18 oc19 kV19 dc19 pm19 cd19 ct19 oc20 kV20 dc20 pm20 cd20 ct20 oc21 kV21 dc21 pm21 cd21 ct21 oc22 kV22 dc22 pm22 cd22 ct22 : Value}
    (a0 : PySem.W.nsIn K mainGlobals "orders" = some (some (.ref f0))) (l0 : K.lookup f0 = some ⟨oc0, od0, .func (PySem.W.fnOf "orders" "orders" (defArgs st_orders) (defBody st_orders) (defScope st_orders) .none kV0 dc0 pm0 an0 cd0 ct0), sl0⟩) (c0 : PySem.W.codeIn K cd0 "orders" = true) (k0 : PySem.W.keepIn K (.ref f0) = true)
    (a1 : PySem.W.nsIn K mainGlobals "choice_count" = some (some (.ref f1))) (l1 : K.lookup f1 = some ⟨oc1, od1, .func (PySem.W.fnOf "choice_count" "choice_count" (defArgs st_choice_count) (defBody st_choice_count) (defScope st_choice_count) .none kV1 dc1 pm1 an1 cd1 ct1), sl1⟩) (c1 : PySem.W.codeIn K cd1 "choice_count" = true) (k1 : PySem.W.keepIn K (.ref f1) = true)
    (a2 : PySem.W.nsIn K mainGlobals "order_rows" = some (some (.ref f2))) (l2 : K.lookup f2 = some ⟨oc2, od2, .func (PySem.W.fnOf "order_rows" "order_rows" (defArgs st_order_rows) (defBody st_order_rows) (defScope st_order_rows) .none kV2 dc2 pm2 an2 cd2 ct2), sl2⟩) (c2 : PySem.W.codeIn K cd2 "order_rows" = true) (k2 : PySem.W.keepIn K (.ref f2) = true)
    (a3 : PySem.W.nsIn K mainGlobals "between_variables" = some (some (.ref f3))) (l3 : K.lookup f3 = some ⟨oc3, od3, .func (PySem.W.fnOf "between_variables" "between_variables" (defArgs st_between_variables) (defBody st_between_variables) (defScope st_between_variables) .none kV3 dc3 pm3 an3 cd3 ct3), sl3⟩) (c3 : PySem.W.codeIn K cd3 "between_variables" = true) (k3 : PySem.W.keepIn K (.ref f3) = true)
    (a4 : PySem.W.nsIn K mainGlobals "text_between" = some (some (.ref f4))) (l4 : K.lookup f4 = some ⟨oc4, od4, .func (PySem.W.fnOf "text_between" "text_between" (defArgs st_text_between) (defBody st_text_between) (defScope st_text_between) .none kV4 dc4 pm4 an4 cd4 ct4), sl4⟩) (c4 : PySem.W.codeIn K cd4 "text_between" = true) (k4 : PySem.W.keepIn K (.ref f4) = true)
    (a5 : PySem.W.nsIn K mainGlobals "choice_variables" = some (some (.ref f5))) (l5 : K.lookup f5 = some ⟨oc5, od5, .func (PySem.W.fnOf "choice_variables" "choice_variables" (defArgs st_choice_variables) (defBody st_choice_variables) (defScope st_choice_variables) .none kV5 dc5 pm5 an5 cd5 ct5), sl5⟩) (c5 : PySem.W.codeIn K cd5 "choice_variables" = true) (k5 : PySem.W.keepIn K (.ref f5) = true)
    (a6 : PySem.W.nsIn K mainGlobals "least_number" = some (some (.ref f6))) (l6 : K.lookup f6 = some ⟨oc6, od6, .func (PySem.W.fnOf "least_number" "least_number" (defArgs st_least_number) (defBody st_least_number) (defScope st_least_number) .none kV6 dc6 pm6 an6 cd6 ct6), sl6⟩) (c6 : PySem.W.codeIn K cd6 "least_number" = true) (k6 : PySem.W.keepIn K (.ref f6) = true)
    (a7 : PySem.W.nsIn K mainGlobals "point_count" = some (some (.ref f7))) (l7 : K.lookup f7 = some ⟨oc7, od7, .func (PySem.W.fnOf "point_count" "point_count" (defArgs st_point_count) (defBody st_point_count) (defScope st_point_count) .none kV7 dc7 pm7 an7 cd7 ct7), sl7⟩) (c7 : PySem.W.codeIn K cd7 "point_count" = true) (k7 : PySem.W.keepIn K (.ref f7) = true)
    (a8 : PySem.W.nsIn K mainGlobals "_points" = some (some (.ref f8))) (l8 : K.lookup f8 = some ⟨oc8, od8, .func (PySem.W.fnOf "_points" "_points" (defArgs st__points) (defBody st__points) (defScope st__points) .none kV8 dc8 pm8 an8 cd8 ct8), sl8⟩) (c8 : PySem.W.codeIn K cd8 "_points" = true) (k8 : PySem.W.keepIn K (.ref f8) = true)
    (a9 : PySem.W.nsIn K mainGlobals "check_probes" = some (some (.ref f9))) (l9 : K.lookup f9 = some ⟨oc9, od9, .func (PySem.W.fnOf "check_probes" "check_probes" (defArgs st_check_probes) (defBody st_check_probes) (defScope st_check_probes) .none kV9 dc9 pm9 an9 cd9 ct9), sl9⟩) (c9 : PySem.W.codeIn K cd9 "check_probes" = true) (k9 : PySem.W.keepIn K (.ref f9) = true)
    (a10 : PySem.W.nsIn K mainGlobals "probes" = some (some (.ref f10))) (l10 : K.lookup f10 = some ⟨oc10, od10, .func (PySem.W.fnOf "probes" "probes" (defArgs st_probes) (defBody st_probes) (defScope st_probes) .none kV10 dc10 pm10 an10 cd10 ct10), sl10⟩) (c10 : PySem.W.codeIn K cd10 "probes" = true) (k10 : PySem.W.keepIn K (.ref f10) = true)
    (a11 : PySem.W.nsIn K mainGlobals "_law_cell" = some (some (.ref f11))) (l11 : K.lookup f11 = some ⟨oc11, od11, .func (PySem.W.fnOf "_law_cell" "_law_cell" (defArgs st__law_cell) (defBody st__law_cell) (defScope st__law_cell) .none kV11 dc11 pm11 an11 cd11 ct11), sl11⟩) (c11 : PySem.W.codeIn K cd11 "_law_cell" = true) (k11 : PySem.W.keepIn K (.ref f11) = true)
    (a12 : PySem.W.nsIn K mainGlobals "_law_digits" = some (some (.ref f12))) (l12 : K.lookup f12 = some ⟨oc12, od12, .func (PySem.W.fnOf "_law_digits" "_law_digits" (defArgs st__law_digits) (defBody st__law_digits) (defScope st__law_digits) .none kV12 dc12 pm12 an12 cd12 ct12), sl12⟩) (c12 : PySem.W.codeIn K cd12 "_law_digits" = true) (k12 : PySem.W.keepIn K (.ref f12) = true)
    (a13 : PySem.W.nsIn K mainGlobals "_law_same" = some (some (.ref f13))) (l13 : K.lookup f13 = some ⟨oc13, od13, .func (PySem.W.fnOf "_law_same" "_law_same" (defArgs st__law_same) (defBody st__law_same) (defScope st__law_same) .none kV13 dc13 pm13 an13 cd13 ct13), sl13⟩) (c13 : PySem.W.codeIn K cd13 "_law_same" = true) (k13 : PySem.W.keepIn K (.ref f13) = true)
    (a14 : PySem.W.nsIn K mainGlobals "_law_orders" = some (some (.ref f14))) (l14 : K.lookup f14 = some ⟨oc14, od14, .func (PySem.W.fnOf "_law_orders" "_law_orders" (defArgs st__law_orders) (defBody st__law_orders) (defScope st__law_orders) .none kV14 dc14 pm14 an14 cd14 ct14), sl14⟩) (c14 : PySem.W.codeIn K cd14 "_law_orders" = true) (k14 : PySem.W.keepIn K (.ref f14) = true)
    (a15 : PySem.W.nsIn K mainGlobals "_law_many" = some (some (.ref f15))) (l15 : K.lookup f15 = some ⟨oc15, od15, .func (PySem.W.fnOf "_law_many" "_law_many" (defArgs st__law_many) (defBody st__law_many) (defScope st__law_many) .none kV15 dc15 pm15 an15 cd15 ct15), sl15⟩) (c15 : PySem.W.codeIn K cd15 "_law_many" = true) (k15 : PySem.W.keepIn K (.ref f15) = true)
    (a16 : PySem.W.nsIn K mainGlobals "_law_greatest" = some (some (.ref f16))) (l16 : K.lookup f16 = some ⟨oc16, od16, .func (PySem.W.fnOf "_law_greatest" "_law_greatest" (defArgs st__law_greatest) (defBody st__law_greatest) (defScope st__law_greatest) .none kV16 dc16 pm16 an16 cd16 ct16), sl16⟩) (c16 : PySem.W.codeIn K cd16 "_law_greatest" = true) (k16 : PySem.W.keepIn K (.ref f16) = true)
    (a17 : PySem.W.nsIn K mainGlobals "_law_texts" = some (some (.ref f17))) (l17 : K.lookup f17 = some ⟨oc17, od17, .func (PySem.W.fnOf "_law_texts" "_law_texts" (defArgs st__law_texts) (defBody st__law_texts) (defScope st__law_texts) .none kV17 dc17 pm17 an17 cd17 ct17), sl17⟩) (c17 : PySem.W.codeIn K cd17 "_law_texts" = true) (k17 : PySem.W.keepIn K (.ref f17) = true)
    (a18 : PySem.W.nsIn K mainGlobals "_law_due" = some (some (.ref f18))) (l18 : K.lookup f18 = some ⟨oc18, od18, .func (PySem.W.fnOf "_law_due" "_law_due" (defArgs st__law_due) (defBody st__law_due) (defScope st__law_due) .none kV18 dc18 pm18 an18 cd18 ct18), sl18⟩) (c18 : PySem.W.codeIn K cd18 "_law_due" = true) (k18 : PySem.W.keepIn K (.ref f18) = true)
    (a19 : PySem.W.nsIn K mainGlobals "_law_question" = some (some (.ref f19))) (l19 : K.lookup f19 = some ⟨oc19, od19, .func (PySem.W.fnOf "_law_question" "_law_question" (defArgs st__law_question) (defBody st__law_question) (defScope st__law_question) .none kV19 dc19 pm19 an19 cd19 ct19), sl19⟩) (c19 : PySem.W.codeIn K cd19 "_law_question" = true) (k19 : PySem.W.keepIn K (.ref f19) = true)
    (a20 : PySem.W.nsIn K mainGlobals "_law_refused" = some (some (.ref f20))) (l20 : K.lookup f20 = some ⟨oc20, od20, .func (PySem.W.fnOf "_law_refused" "_law_refused" (defArgs st__law_refused) (defBody st__law_refused) (defScope st__law_refused) .none kV20 dc20 pm20 an20 cd20 ct20), sl20⟩) (c20 : PySem.W.codeIn K cd20 "_law_refused" = true) (k20 : PySem.W.keepIn K (.ref f20) = true)
    (a21 : PySem.W.nsIn K mainGlobals "_law_holds" = some (some (.ref f21))) (l21 : K.lookup f21 = some ⟨oc21, od21, .func (PySem.W.fnOf "_law_holds" "_law_holds" (defArgs st__law_holds) (defBody st__law_holds) (defScope st__law_holds) .none kV21 dc21 pm21 an21 cd21 ct21), sl21⟩) (c21 : PySem.W.codeIn K cd21 "_law_holds" = true) (k21 : PySem.W.keepIn K (.ref f21) = true)
    (a22 : PySem.W.nsIn K mainGlobals "law" = some (some (.ref f22))) (l22 : K.lookup f22 = some ⟨oc22, od22, .func (PySem.W.fnOf "law" "law" (defArgs st_law) (defBody st_law) (defScope st_law) .none kV22 dc22 pm22 an22 cd22 ct22), sl22⟩) (c22 : PySem.W.codeIn K cd22 "law" = true) (k22 : PySem.W.keepIn K (.ref f22) = true)
    (y_ValueError : PySem.W.nsIn K mainGlobals "ValueError" = some none)    (y_enumerate : PySem.W.nsIn K mainGlobals "enumerate" = some none)    (y_int : PySem.W.nsIn K mainGlobals "int" = some none)    (y_isinstance : PySem.W.nsIn K mainGlobals "isinstance" = some none)    (y_len : PySem.W.nsIn K mainGlobals "len" = some none)    (y_list : PySem.W.nsIn K mainGlobals "list" = some none)    (y_min : PySem.W.nsIn K mainGlobals "min" = some none)    (y_range : PySem.W.nsIn K mainGlobals "range" = some none)    (y_sorted : PySem.W.nsIn K mainGlobals "sorted" = some none)    (y_str : PySem.W.nsIn K mainGlobals "str" = some none)    (y_sum : PySem.W.nsIn K mainGlobals "sum" = some none)    (y_tuple : PySem.W.nsIn K mainGlobals "tuple" = some none)    (y_zip : PySem.W.nsIn K mainGlobals "zip" = some none)
    {tk_LETTERS : Tok} (u_LETTERS : PySem.W.nsIn K mainGlobals "LETTERS" = some (some (.str "abcde" tk_LETTERS)))
    {tk_PROBES : Tok} (u_PROBES : PySem.W.nsIn K mainGlobals "PROBES" = some (some (.int 4000 tk_PROBES)))
    {tk_ROWS : Tok} (u_ROWS : PySem.W.nsIn K mainGlobals "ROWS" = some (some (.int 300 tk_ROWS)))
    {C_Malformed : Addr} (ca_Malformed : PySem.W.nsIn K mainGlobals "Malformed" = some (some (.ref C_Malformed)))
    {C_TooMuch : Addr} (ca_TooMuch : PySem.W.nsIn K mainGlobals "TooMuch" = some (some (.ref C_TooMuch)))
    {C_PlainError : Addr} (ca_PlainError : PySem.W.nsIn K mainGlobals "PlainError" = some (some (.ref C_PlainError)))
    {C_BadText : Addr} (ca_BadText : PySem.W.nsIn K mainGlobals "BadText" = some (some (.ref C_BadText)))
    {C_Clash : Addr} (ca_Clash : PySem.W.nsIn K mainGlobals "Clash" = some (some (.ref C_Clash)))
    {C_Misfit : Addr} (ca_Misfit : PySem.W.nsIn K mainGlobals "Misfit" = some (some (.ref C_Misfit)))
    {C_NoStep : Addr} (ca_NoStep : PySem.W.nsIn K mainGlobals "NoStep" = some (some (.ref C_NoStep)))
    {C_NoSuch : Addr} (ca_NoSuch : PySem.W.nsIn K mainGlobals "NoSuch" = some (some (.ref C_NoSuch)))
    {C_NothingBack : Addr} (ca_NothingBack : PySem.W.nsIn K mainGlobals "NothingBack" = some (some (.ref C_NothingBack)))
    {C_Ring : Addr} (ca_Ring : PySem.W.nsIn K mainGlobals "Ring" = some (some (.ref C_Ring)))
    {C_Unbound : Addr} (ca_Unbound : PySem.W.nsIn K mainGlobals "Unbound" = some (some (.ref C_Unbound)))
    (ox_Malformed : OexC K C_Malformed) (ow_Malformed : PySem.W.findIn K (.ref C_Malformed) "what" = some none) {fi_Malformed : Addr} (ii_Malformed : PySem.W.findIn K (.ref C_Malformed) "__init__" = some (some (.ref fi_Malformed))) (ti_Malformed : PySem.W.typeIn K (.ref fi_Malformed) = some (.type "function"))
    {odi_Malformed ani_Malformed : Option Addr} {sli_Malformed : Array (Option Value)} {oci_Malformed kVi_Malformed dci_Malformed pmi_Malformed cdi_Malformed cti_Malformed : Value} (li_Malformed : K.lookup fi_Malformed = some ⟨oci_Malformed, odi_Malformed, .func (PySem.W.fnOf "__init__" "Malformed.__init__" (defArgs si_Malformed) (defBody si_Malformed) (defScope si_Malformed) .none kVi_Malformed dci_Malformed pmi_Malformed ani_Malformed cdi_Malformed cti_Malformed), sli_Malformed⟩) (ci_Malformed : PySem.W.codeIn K cdi_Malformed "Malformed.__init__" = true) (ki_Malformed : PySem.W.keepIn K (.ref fi_Malformed) = true)
    (ox_TooMuch : OexC K C_TooMuch) (ow_TooMuch : PySem.W.findIn K (.ref C_TooMuch) "what" = some none) {fi_TooMuch : Addr} (ii_TooMuch : PySem.W.findIn K (.ref C_TooMuch) "__init__" = some (some (.ref fi_TooMuch))) (ti_TooMuch : PySem.W.typeIn K (.ref fi_TooMuch) = some (.type "function"))
    {odi_TooMuch ani_TooMuch : Option Addr} {sli_TooMuch : Array (Option Value)} {oci_TooMuch kVi_TooMuch dci_TooMuch pmi_TooMuch cdi_TooMuch cti_TooMuch : Value} (li_TooMuch : K.lookup fi_TooMuch = some ⟨oci_TooMuch, odi_TooMuch, .func (PySem.W.fnOf "__init__" "TooMuch.__init__" (defArgs si_TooMuch) (defBody si_TooMuch) (defScope si_TooMuch) .none kVi_TooMuch dci_TooMuch pmi_TooMuch ani_TooMuch cdi_TooMuch cti_TooMuch), sli_TooMuch⟩) (ci_TooMuch : PySem.W.codeIn K cdi_TooMuch "TooMuch.__init__" = true) (ki_TooMuch : PySem.W.keepIn K (.ref fi_TooMuch) = true)
    (xl_TooMuch : ExcL K C_TooMuch "what")
    (i_TooMuch_ValueError : PySem.W.kitOne K (.ref C_TooMuch) (.type "ValueError") = some true)
    (i_TooMuch_PlainError : PySem.W.kitOne K (.ref C_TooMuch) (.ref C_PlainError) = some true)
    (i_TooMuch_BadText_Clash_Malformed_Misfit_NoStep_NoSuch_NothingBack_Ring_Unbound : PySem.W.kitAny K (.ref C_TooMuch) [.ref C_BadText, .ref C_Clash, .ref C_Malformed, .ref C_Misfit, .ref C_NoStep, .ref C_NoSuch, .ref C_NothingBack, .ref C_Ring, .ref C_Unbound] = some false)
    (m_TooMuch_TooMuch : PySem.W.exmOne K (.ref C_TooMuch) (.ref C_TooMuch) = some true)
    (hNL : NoLists K) :
    ∃ fd : FuncData, (∀ (s : Shared) (v : Value), BindsTo s fd ⟨[v], []⟩ [("script", v)]) ∧ ∀ base : Heap, K.In base → base.Ns mainGlobals mg → FnOk l.prog w K mg base (L2.CX l.prog w) 8 fa fd ["script"] (LFa K w_law) := by
  have e := hfa.symm.trans (PySem.W.mg_of X G a22)
  cases e
  have F0 := fun_mk (st := st_orders) l0 c0 k0
  have D0 : DefAt K mg "orders" st_orders ["count"] := ⟨_, _, F0, PySem.W.mg_of X G a0, F0.binds fun _ _ _ _ _ _ us hl => match us, hl with | [_], _ => rfl⟩
  have F1 := fun_mk (st := st_choice_count) l1 c1 k1
  have D1 : DefAt K mg "choice_count" st_choice_count ["counts"] := ⟨_, _, F1, PySem.W.mg_of X G a1, F1.binds fun _ _ _ _ _ _ us hl => match us, hl with | [_], _ => rfl⟩
  have F2 := fun_mk (st := st_order_rows) l2 c2 k2
  have D2 : DefAt K mg "order_rows" st_order_rows ["counts"] := ⟨_, _, F2, PySem.W.mg_of X G a2, F2.binds fun _ _ _ _ _ _ us hl => match us, hl with | [_], _ => rfl⟩
  have F3 := fun_mk (st := st_between_variables) l3 c3 k3
  have D3 : DefAt K mg "between_variables" st_between_variables ["argument", "order"] := ⟨_, _, F3, PySem.W.mg_of X G a3, F3.binds fun _ _ _ _ _ _ us hl => match us, hl with | [_, _], _ => rfl⟩
  have F4 := fun_mk (st := st_text_between) l4 c4 k4
  have D4 : DefAt K mg "text_between" st_text_between ["argument", "order", "point"] := ⟨_, _, F4, PySem.W.mg_of X G a4, F4.binds fun _ _ _ _ _ _ us hl => match us, hl with | [_, _, _], _ => rfl⟩
  have F5 := fun_mk (st := st_choice_variables) l5 c5 k5
  have D5 : DefAt K mg "choice_variables" st_choice_variables ["choice"] := ⟨_, _, F5, PySem.W.mg_of X G a5, F5.binds fun _ _ _ _ _ _ us hl => match us, hl with | [_], _ => rfl⟩
  have F6 := fun_mk (st := st_least_number) l6 c6 k6
  have D6 : DefAt K mg "least_number" st_least_number ["variable"] := ⟨_, _, F6, PySem.W.mg_of X G a6, F6.binds fun _ _ _ _ _ _ us hl => match us, hl with | [_], _ => rfl⟩
  have F7 := fun_mk (st := st_point_count) l7 c7 k7
  have D7 : DefAt K mg "point_count" st_point_count ["choice", "degree"] := ⟨_, _, F7, PySem.W.mg_of X G a7, F7.binds fun _ _ _ _ _ _ us hl => match us, hl with | [_, _], _ => rfl⟩
  have F8 := fun_mk (st := st__points) l8 c8 k8
  have D8 : DefAt K mg "_points" st__points ["choice", "degree"] := ⟨_, _, F8, PySem.W.mg_of X G a8, F8.binds fun _ _ _ _ _ _ us hl => match us, hl with | [_, _], _ => rfl⟩
  have F9 := fun_mk (st := st_check_probes) l9 c9 k9
  have D9 : DefAt K mg "check_probes" st_check_probes ["counts", "degree"] := ⟨_, _, F9, PySem.W.mg_of X G a9, F9.binds fun _ _ _ _ _ _ us hl => match us, hl with | [_, _], _ => rfl⟩
  have F10 := fun_mk (st := st_probes) l10 c10 k10
  have D10 : DefAt K mg "probes" st_probes ["counts", "degree"] := ⟨_, _, F10, PySem.W.mg_of X G a10, F10.binds fun _ _ _ _ _ _ us hl => match us, hl with | [_, _], _ => rfl⟩
  have F11 := fun_mk (st := st__law_cell) l11 c11 k11
  have D11 : DefAt K mg "_law_cell" st__law_cell ["script", "k"] := ⟨_, _, F11, PySem.W.mg_of X G a11, F11.binds fun _ _ _ _ _ _ us hl => match us, hl with | [_, _], _ => rfl⟩
  have F12 := fun_mk (st := st__law_digits) l12 c12 k12
  have D12 : DefAt K mg "_law_digits" st__law_digits ["cell", "sizes"] := ⟨_, _, F12, PySem.W.mg_of X G a12, F12.binds fun _ _ _ _ _ _ us hl => match us, hl with | [_, _], _ => rfl⟩
  have F13 := fun_mk (st := st__law_same) l13 c13 k13
  have D13 : DefAt K mg "_law_same" st__law_same ["told", "due"] := ⟨_, _, F13, PySem.W.mg_of X G a13, F13.binds fun _ _ _ _ _ _ us hl => match us, hl with | [_, _], _ => rfl⟩
  have F14 := fun_mk (st := st__law_orders) l14 c14 k14
  have D14 : DefAt K mg "_law_orders" st__law_orders ["count"] := ⟨_, _, F14, PySem.W.mg_of X G a14, F14.binds fun _ _ _ _ _ _ us hl => match us, hl with | [_], _ => rfl⟩
  have F15 := fun_mk (st := st__law_many) l15 c15 k15
  have D15 : DefAt K mg "_law_many" st__law_many ["counts", "most"] := ⟨_, _, F15, PySem.W.mg_of X G a15, F15.binds fun _ _ _ _ _ _ us hl => match us, hl with | [_, _], _ => rfl⟩
  have F16 := fun_mk (st := st__law_greatest) l16 c16 k16
  have D16 : DefAt K mg "_law_greatest" st__law_greatest ["counts", "many"] := ⟨_, _, F16, PySem.W.mg_of X G a16, F16.binds fun _ _ _ _ _ _ us hl => match us, hl with | [_, _], _ => rfl⟩
  have F17 := fun_mk (st := st__law_texts) l17 c17 k17
  have D17 : DefAt K mg "_law_texts" st__law_texts ["order", "most"] := ⟨_, _, F17, PySem.W.mg_of X G a17, F17.binds fun _ _ _ _ _ _ us hl => match us, hl with | [_, _], _ => rfl⟩
  have F18 := fun_mk (st := st__law_due) l18 c18 k18
  have D18 : DefAt K mg "_law_due" st__law_due ["counts", "most"] := ⟨_, _, F18, PySem.W.mg_of X G a18, F18.binds fun _ _ _ _ _ _ us hl => match us, hl with | [_, _], _ => rfl⟩
  have F19 := fun_mk (st := st__law_question) l19 c19 k19
  have D19 : DefAt K mg "_law_question" st__law_question ["cell", "whole"] := ⟨_, _, F19, PySem.W.mg_of X G a19, F19.binds fun _ _ _ _ _ _ us hl => match us, hl with | [_, _], _ => rfl⟩
  have F20 := fun_mk (st := st__law_refused) l20 c20 k20
  have D20 : DefAt K mg "_law_refused" st__law_refused ["counts", "most", "due"] := ⟨_, _, F20, PySem.W.mg_of X G a20, F20.binds fun _ _ _ _ _ _ us hl => match us, hl with | [_, _, _], _ => rfl⟩
  have F21 := fun_mk (st := st__law_holds) l21 c21 k21
  have D21 : DefAt K mg "_law_holds" st__law_holds ["counts", "most"] := ⟨_, _, F21, PySem.W.mg_of X G a21, F21.binds fun _ _ _ _ _ _ us hl => match us, hl with | [_, _], _ => rfl⟩
  have F22 := fun_mk (st := st_law) l22 c22 k22
  have D22 : DefAt K mg "law" st_law ["script"] := ⟨_, _, F22, PySem.W.mg_of X G a22, F22.binds fun _ _ _ _ _ _ us hl => match us, hl with | [_], _ => rfl⟩
  have z_ValueError := PySem.W.mg_none_of X G y_ValueError
  have z_enumerate := PySem.W.mg_none_of X G y_enumerate
  have z_int := PySem.W.mg_none_of X G y_int
  have z_isinstance := PySem.W.mg_none_of X G y_isinstance
  have z_len := PySem.W.mg_none_of X G y_len
  have z_list := PySem.W.mg_none_of X G y_list
  have z_min := PySem.W.mg_none_of X G y_min
  have z_range := PySem.W.mg_none_of X G y_range
  have z_sorted := PySem.W.mg_none_of X G y_sorted
  have z_str := PySem.W.mg_none_of X G y_str
  have z_sum := PySem.W.mg_none_of X G y_sum
  have z_tuple := PySem.W.mg_none_of X G y_tuple
  have z_zip := PySem.W.mg_none_of X G y_zip
  have g_LETTERS : GlobD ⟨K, mg⟩ "LETTERS" gv_LETTERS := ⟨.str "abcde", _, PySem.W.mg_of X G u_LETTERS, ⟨_, rfl⟩, fun _ _ => FD.str' (by decide +kernel)⟩
  have g_PROBES : GlobD ⟨K, mg⟩ "PROBES" gv_PROBES := ⟨.int 4000, _, PySem.W.mg_of X G u_PROBES, ⟨_, rfl⟩, fun _ _ => .int _⟩
  have g_ROWS : GlobD ⟨K, mg⟩ "ROWS" gv_ROWS := ⟨.int 300, _, PySem.W.mg_of X G u_ROWS, ⟨_, rfl⟩, fun _ _ => .int _⟩
  have h_Malformed := PySem.W.mg_of X G ca_Malformed
  have h_TooMuch := PySem.W.mg_of X G ca_TooMuch
  have h_PlainError := PySem.W.mg_of X G ca_PlainError
  have h_BadText := PySem.W.mg_of X G ca_BadText
  have h_Clash := PySem.W.mg_of X G ca_Clash
  have h_Misfit := PySem.W.mg_of X G ca_Misfit
  have h_NoStep := PySem.W.mg_of X G ca_NoStep
  have h_NoSuch := PySem.W.mg_of X G ca_NoSuch
  have h_NothingBack := PySem.W.mg_of X G ca_NothingBack
  have h_Ring := PySem.W.mg_of X G ca_Ring
  have h_Unbound := PySem.W.mg_of X G ca_Unbound
  have FI_Malformed := fun_mk (st := si_Malformed) li_Malformed ci_Malformed ki_Malformed
  have FI_TooMuch := fun_mk (st := si_TooMuch) li_TooMuch ci_TooMuch ki_TooMuch
  refine ⟨PySem.W.fnOf "law" "law" (defArgs st_law) (defBody st_law) (defScope st_law) .none kV22 dc22 pm22 an22 cd22 ct22, fun s v => .of_eq rfl, fun base _ _ => ?_⟩
  have e_Malformed : ExcAt l.prog w K mg base "Malformed" "what" 1 C_Malformed := ⟨h_Malformed, ox_Malformed, ow_Malformed, fi_Malformed, _, ii_Malformed, ti_Malformed, init_ok (k := 0) FI_Malformed ⟨rfl, rfl, rfl, by decide +kernel, rfl, by decide +kernel, by decide +kernel⟩ (fun _ _ _ _ _ _ => pss_one (ps_ost (pv 0) (pv 1))), FI_Malformed.binds fun _ _ _ _ _ _ us hl => match us, hl with | [_, _], _ => rfl⟩
  have e_TooMuch : ExcAt l.prog w K mg base "TooMuch" "what" 1 C_TooMuch := ⟨h_TooMuch, ox_TooMuch, ow_TooMuch, fi_TooMuch, _, ii_TooMuch, ti_TooMuch, init_ok (k := 0) FI_TooMuch ⟨rfl, rfl, rfl, by decide +kernel, rfl, by decide +kernel, by decide +kernel⟩ (fun _ _ _ _ _ _ => pss_one (ps_ost (pv 0) (pv 1))), FI_TooMuch.binds fun _ _ _ _ _ _ us hl => match us, hl with | [_, _], _ => rfl⟩
  have c_orders := ok_orders (P := l.prog) (w := w) (base := base) D0 z_range z_tuple g_LETTERS hNL
  have c_between_variables := ok_between_variables (P := l.prog) (w := w) (base := base) D3 z_enumerate z_sorted z_tuple
  have c_least_number := ok_least_number (P := l.prog) (w := w) (base := base) D6 z_int
  have c__law_cell := ok__law_cell (P := l.prog) (w := w) (base := base) D11 z_len z_int
  have c__law_digits := ok__law_digits (P := l.prog) (w := w) (base := base) D12 z_int z_len z_range
  have c__law_orders := ok__law_orders (P := l.prog) (w := w) (base := base) D14 z_range z_list hNL
  have c__law_many := ok__law_many (P := l.prog) (w := w) (base := base) D15 z_range
  have c__law_texts := ok__law_texts (P := l.prog) (w := w) (base := base) D17 z_len z_range z_sorted z_int z_list hNL
  have c_choice_count := ok_choice_count (P := l.prog) (w := w) (base := base) D1 c_orders z_len
  have c_order_rows := ok_order_rows (P := l.prog) (w := w) (base := base) D2 c_orders z_tuple
  have c_choice_variables := ok_choice_variables (P := l.prog) (w := w) (base := base) D5 c_between_variables z_enumerate z_tuple hNL
  have c__law_greatest := ok__law_greatest (P := l.prog) (w := w) (base := base) D16 c__law_many z_range
  have c__law_due := ok__law_due (P := l.prog) (w := w) (base := base) D18 c__law_orders c__law_texts z_list z_tuple hNL
  have c_text_between := ok_text_between (P := l.prog) (w := w) (base := base) h_Malformed e_Malformed D4 c_between_variables z_int z_enumerate
  have c_point_count := ok_point_count (P := l.prog) (w := w) (base := base) D7 c_choice_variables
  have c__points := ok__points (P := l.prog) (w := w) (base := base) D8 c_choice_variables c_least_number z_range
  have c__law_question := ok__law_question (P := l.prog) (w := w) (base := base) D19 c__law_digits c__law_greatest c__law_many z_range z_tuple z_min
  have c_check_probes := ok_check_probes (P := l.prog) (w := w) (base := base) h_TooMuch e_TooMuch D9 c_choice_count c_order_rows c_point_count z_sum g_ROWS g_PROBES
  have c_probes := ok_probes (P := l.prog) (w := w) (base := base) D10 c_check_probes c_order_rows c_choice_variables c__points c_text_between z_zip z_tuple z_enumerate
  have c__law_same := ok__law_same (P := l.prog) (w := w) (base := base) D13 z_tuple z_isinstance z_len z_range z_str 5
  have c__law_refused := ok__law_refused (P := l.prog) (w := w) (base := base) h_TooMuch xl_TooMuch h_PlainError h_BadText h_Clash h_Malformed h_Misfit h_NoStep h_NoSuch h_NothingBack h_Ring h_Unbound i_TooMuch_ValueError i_TooMuch_PlainError i_TooMuch_BadText_Clash_Malformed_Misfit_NoStep_NoSuch_NothingBack_Ring_Unbound m_TooMuch_TooMuch D20 c_probes z_ValueError z_isinstance z_str
  have c__law_holds := ok__law_holds (P := l.prog) (w := w) (base := base) D21 c__law_many c__law_refused c__law_due c_probes c__law_same
  exact (ok_law F22 c__law_cell c__law_question c__law_holds z_range).imp fun _ _ _ _ h => h mg

end K48
open PySem PySem.W PyProof.Rows
set_option maxHeartbeats 0 in
theorem PySem.Challenge.cw_plainbehind_k48_probes_whole_holds : PySem.Challenge.rw_plainbehind_k48_probes_whole.Holds := by
  w_on; o_law; k_head; (case hw => w_witness2)
  k_fill
  refine L2.Fn.row_of (l := PySem.Challenge.rw_plainbehind_k48_probes_whole) (n := 63) (k := 8) (x := "script") (sp := fun K => L2.Fn.LFa K K48.w_law) rfl (by decide) rfl ⟨rfl, by decide, by decide⟩ (fun w h Y => PySem.W.kIn_of Y) ?F ?S
  case F =>
    intro w mg fa h KX G hmg
    refine' K48.all_mk KX G hmg ?a0 ?l0 ?c0 ?k0 ?a1 ?l1 ?c1 ?k1 ?a2 ?l2 ?c2 ?k2 ?a3 ?l3 ?c3 ?k3 ?a4 ?l4 ?c4 ?k4 ?a5 ?l5 ?c5 ?k5 ?a6 ?l6 ?c6 ?k6 ?a7 ?l7 ?c7 ?k7 ?a8 ?l8 ?c8 ?k8 ?a9 ?l9 ?c9 ?k9 ?a10 ?l10 ?c10 ?k10 ?a11 ?l11 ?c11 ?k11 ?a12 ?l12 ?c12 ?k12 ?a13 ?l13 ?c13 ?k13 ?a14 ?l14 ?c14 ?k14 ?a15 ?l15 ?c15 ?k15 ?a16 ?l16 ?c16 ?k16 ?a17 ?l17 ?c17 ?k17 ?a18 ?l18 ?c18 ?k18 ?a19 ?l19 ?c19 ?k19 ?a20 ?l20 ?c20 ?k20 ?a21 ?l21 ?c21 ?k21 ?a22 ?l22 ?c22 ?k22 ?y_ValueError ?y_enumerate ?y_int ?y_isinstance ?y_len ?y_list ?y_min ?y_range ?y_sorted ?y_str ?y_sum ?y_tuple ?y_zip ?u_LETTERS ?u_PROBES ?u_ROWS ?ca_Malformed ?ca_TooMuch ?ca_PlainError ?ca_BadText ?ca_Clash ?ca_Misfit ?ca_NoStep ?ca_NoSuch ?ca_NothingBack ?ca_Ring ?ca_Unbound ?ox_Malformed ?ow_Malformed ?ii_Malformed ?ti_Malformed ?li_Malformed ?ci_Malformed ?ki_Malformed ?ox_TooMuch ?ow_TooMuch ?ii_TooMuch ?ti_TooMuch ?li_TooMuch ?ci_TooMuch ?ki_TooMuch ?xl_TooMuch ?i_TooMuch_ValueError ?i_TooMuch_PlainError ?i_TooMuch_BadText_Clash_Malformed_Misfit_NoStep_NoSuch_NothingBack_Ring_Unbound ?m_TooMuch_TooMuch ?hNL
    (case a0 => k_is); (case l0 => k_is); (case c0 => k_is); (case k0 => k_is); (case a1 => k_is); (case l1 => k_is); (case c1 => k_is); (case k1 => k_is); (case a2 => k_is); (case l2 => k_is); (case c2 => k_is); (case k2 => k_is); (case a3 => k_is); (case l3 => k_is); (case c3 => k_is); (case k3 => k_is); (case a4 => k_is); (case l4 => k_is); (case c4 => k_is); (case k4 => k_is); (case a5 => k_is); (case l5 => k_is); (case c5 => k_is); (case k5 => k_is); (case a6 => k_is); (case l6 => k_is); (case c6 => k_is); (case k6 => k_is); (case a7 => k_is); (case l7 => k_is); (case c7 => k_is); (case k7 => k_is); (case a8 => k_is); (case l8 => k_is); (case c8 => k_is); (case k8 => k_is); (case a9 => k_is); (case l9 => k_is); (case c9 => k_is); (case k9 => k_is); (case a10 => k_is); (case l10 => k_is); (case c10 => k_is); (case k10 => k_is); (case a11 => k_is); (case l11 => k_is); (case c11 => k_is); (case k11 => k_is); (case a12 => k_is); (case l12 => k_is); (case c12 => k_is); (case k12 => k_is); (case a13 => k_is); (case l13 => k_is); (case c13 => k_is); (case k13 => k_is); (case a14 => k_is); (case l14 => k_is); (case c14 => k_is); (case k14 => k_is); (case a15 => k_is); (case l15 => k_is); (case c15 => k_is); (case k15 => k_is); (case a16 => k_is); (case l16 => k_is); (case c16 => k_is); (case k16 => k_is); (case a17 => k_is); (case l17 => k_is); (case c17 => k_is); (case k17 => k_is); (case a18 => k_is); (case l18 => k_is); (case c18 => k_is); (case k18 => k_is); (case a19 => k_is); (case l19 => k_is); (case c19 => k_is); (case k19 => k_is); (case a20 => k_is); (case l20 => k_is); (case c20 => k_is); (case k20 => k_is); (case a21 => k_is); (case l21 => k_is); (case c21 => k_is); (case k21 => k_is); (case a22 => k_is); (case l22 => k_is); (case c22 => k_is); (case k22 => k_is); (case y_ValueError => k_is); (case y_enumerate => k_is); (case y_int => k_is); (case y_isinstance => k_is); (case y_len => k_is); (case y_list => k_is); (case y_min => k_is); (case y_range => k_is); (case y_sorted => k_is); (case y_str => k_is); (case y_sum => k_is); (case y_tuple => k_is); (case y_zip => k_is); (case u_LETTERS => k_is); (case u_PROBES => k_is); (case u_ROWS => k_is); (case ca_Malformed => k_is); (case ca_TooMuch => k_is); (case ca_PlainError => k_is); (case ca_BadText => k_is); (case ca_Clash => k_is); (case ca_Misfit => k_is); (case ca_NoStep => k_is); (case ca_NoSuch => k_is); (case ca_NothingBack => k_is); (case ca_Ring => k_is); (case ca_Unbound => k_is); (case ox_Malformed => exact ⟨⟨_, _, _, _, _, _, _, _, _, _, _, _, _, _, _, by k_is, by rfl⟩, by k_is, by k_is, by k_is, by k_is⟩); (case ow_Malformed => k_is); (case ii_Malformed => k_is); (case ti_Malformed => k_is); (case li_Malformed => k_is); (case ci_Malformed => k_is); (case ki_Malformed => k_is); (case ox_TooMuch => exact ⟨⟨_, _, _, _, _, _, _, _, _, _, _, _, _, _, _, by k_is, by rfl⟩, by k_is, by k_is, by k_is, by k_is⟩); (case ow_TooMuch => k_is); (case ii_TooMuch => k_is); (case ti_TooMuch => k_is); (case li_TooMuch => k_is); (case ci_TooMuch => k_is); (case ki_TooMuch => k_is); (case xl_TooMuch => exact ⟨⟨by k_is, by k_is, by k_is, by k_is⟩, ⟨by k_is, by k_is, by k_is, by k_is, by k_is, by k_is, by k_is, by k_is⟩, by k_is⟩); (case i_TooMuch_ValueError => rfl); (case i_TooMuch_PlainError => rfl); (case i_TooMuch_BadText_Clash_Malformed_Misfit_NoStep_NoSuch_NothingBack_Ring_Unbound => rfl); (case m_TooMuch_TooMuch => rfl); (case hNL => exact L2.Fn.NoLists.of (by rfl))

  case S => exact fun K H a ns hl hO hS mg => L2.Fn.law_S (fun ns hn => K48.law_ok ns [] hn) H a ns hl hO hS
#print axioms PySem.Challenge.cw_plainbehind_k48_probes_whole_holds
