import PyProof.Rows.All
import Wide.All
import OpenK.AllK
import Wide.FinOn
import HandS.ForMost
import HandS.ForExc
import HandS.IsInst
import HandS.TupAny
import HandS.Walk
import HandS.Zip
import HandS.Style
import HandS.Lambda
import HandS.ExcInit
import HandS.TupMul
import HandS.Strs
import KE.KTupSum
import KE.DataMinMax
import KE.KIndexOf
import KE.GoesNew
import KE.KExcSuper
import KE.DatumIndex
import KE.KExcIs
import HandS.ExcIs
import HandS.ExcField
import HandS.HotCalls
import HandS.OwnEq
import KE.KRevSl
import PyProof.ReprRoads
import HandS.EndOwn
import HandS.ExcValue
import KE.KExcTry
import KE.KExcStr
import KE.KExcMore
import PySem.Challenge.RW_waterhours_k00_errors_tell_their_fields
set_option Elab.async false
set_option linter.all false
set_option maxRecDepth 100000
set_option maxHeartbeats 4000000
/-! DL0: Python values as plain data, a store of mutable lists, and what it means that the heap shows them. -/
namespace DL
open PySem PySem.Spec PyProof.Rows L2

/-- a Python value (row: a tuple that is only unpacked): tuples, lists that nobody writes any more and instances are told as a whole; obj l is the l-th mutable object -/
inductive D where
  | non
  | bl (b : Bool)
  | int (i : Int)
  | str (s : Str)
  | tup (ds : List D)
  | row (ds : List D)
  | lst (ds : List D)
  | scr (ns : List Int)
  | obj (l : Nat)
  | ins (c : Nat) (fs : List (Nat × D))
  | fn (i : Nat)
  | cl (c : Nat)
  | ty (n : String)
  | xcp (c : Nat) (fs : List (Nat × D))
  | err (c : Nat) (fs : List (Nat × D))
  | lam (caps : List D)
  | junk

/-- a mutable object: a list, an instance that is being made; what they hold is not mutable itself -/
inductive SO where
  | lst (ds : List D)
  | ins (c : Nat) (fs : List (Nat × D))

abbrev Store := List SO
abbrev Ev := List (Option D)

/-- what the written part gives: the class of a number, the def of a number -/
structure Tb where
  K : PySem.W.Frag
  cA : Nat → Addr
  fA : Nat → Addr
  eA : Nat → Addr
  nm : Nat → Str
  nN : Nat
  nC : Nat
  fl : Nat → List Nat
  inj : ∀ i j, i < nN → j < nN → nm i = nm j → i = j
  hot : Addr → Option (Nat × Option Addr)
  lm : Option (Addr × List (Option V) × Addr × Str)
  tabs : List (Addr × Str)

mutual
/-- no mutable object within -/
def pur : D → Bool
  | .obj _ => false
  | .tup ds => purL ds
  | .row ds => purL ds
  | .lst ds => purL ds
  | .ins _ fs => purF fs
  | .xcp _ _ => false
  | .err _ _ => false
  | .lam _ => false
  | _ => true
def purL : List D → Bool
  | [] => true
  | d :: ds => pur d && purL ds
def purF : List (Nat × D) → Bool
  | [] => true
  | p :: ps => pur p.2 && purF ps
end

/-- the script's list at a: read alone, none of the store's, or of the written part -/
def FzL (K : PySem.W.Frag) (μ : List Addr) (H : Hp) (a : Addr) (xs : List V) : Prop :=
  (Rd H a (.lst xs) ∧ a ∉ μ) ∨ ∃ (o : Obj) (its : Array Value) (n : Nat), K.lookup a = some o ∧ o.cls = .type "list" ∧ o.dict = none ∧ o.data = .seq its n ∧ its.size ≤ sizeLine ∧ Vals xs its.toList
theorem FzL.sq {K : PySem.W.Frag} {μ : List Addr} {H : Hp} {a : Addr} {xs : List V} (h : FzL K μ H a xs) : SqL K H a xs := by
  rcases h with ⟨h, _⟩ | h
  · exact .inl h
  · exact .inr h

/-- a tuple at a that has no dict: tracked with its object, or of the written part -/
def TupX (K : PySem.W.Frag) (H : Hp) (a : Addr) (xs : List V) : Prop :=
  (∃ o, H a = some (.frz o (.tup xs)) ∧ o.dict = none) ∨
    ∃ (o : Obj) (its : Array Value) (n : Nat), K.lookup a = some o ∧ o.cls = .type "tuple" ∧ o.dict = none ∧ o.data = .seq its n ∧ its.size ≤ sizeLine ∧ Vals xs its.toList
theorem TupX.sq {K : PySem.W.Frag} {H : Hp} {a : Addr} {xs : List V} (h : TupX K H a xs) : SqT K H a xs := by
  rcases h with ⟨o, h, _⟩ | ⟨o, its, n, h1, h2, _, h4, h5, h6⟩
  · exact .inl (.inr ⟨o, h⟩)
  · exact .inr ⟨o, its, n, h1, h2, h4, h5, h6⟩
mutual
inductive DV (T : Tb) (μ : List Addr) (H : Hp) : V → D → Prop
  | non : DV T μ H .non .non
  | bl (b : Bool) : DV T μ H (.bl b) (.bl b)
  | int (i : Int) : DV T μ H (.int i) (.int i)
  | str (s : Str) : DV T μ H (.str s) (.str s)
  | tup {a : Addr} {xs : List V} {ds : List D} : TupX T.K H a xs → DVs T μ H xs ds → DV T μ H (.ref a) (.tup ds)
  | row {a : Addr} {xs : List V} {ds : List D} : SqT T.K H a xs → DVs T μ H xs ds → DV T μ H (.ref a) (.row ds)
  | lst {a : Addr} {xs : List V} {ds : List D} : H a = some (.lst xs) → a ∉ μ → DVs T μ H xs ds → DV T μ H (.ref a) (.lst ds)
  | scr {a : Addr} {ns : List Int} : FzL T.K μ H a (ns.map V.int) → DV T μ H (.ref a) (.scr ns)
  | obj {a : Addr} {l : Nat} : μ[l]? = some a → DV T μ H (.ref a) (.obj l)
  | ins {a dx : Addr} {c : Nat} {vs : List (Str × V)} {fs : List (Nat × D)} : c < T.nC → (∀ p ∈ fs, p.1 ∈ T.fl c) → H a = some (.ins (T.cA c) dx vs) → a ∉ μ → DFs T μ H vs fs → DV T μ H (.ref a) (.ins c fs)
  | fn (i : Nat) : DV T μ H (.ref (T.fA i)) (.fn i)
  | cl {c : Nat} : c < T.nC → DV T μ H (.ref (T.cA c)) (.cl c)
  | ty (n : String) : DV T μ H (.ty n) (.ty n)
  | xcp {a dd : Addr} {c : Nat} {vs : List (Str × V)} {fs : List (Nat × D)} : T.hot a = some (c, some dd) → H dd = some (.xd vs) → dd ∉ μ → DFs T μ H vs fs → DV T μ H (.ref a) (.xcp c fs)
  | xc0 {a : Addr} {c : Nat} : T.hot a = some (c, none) → DV T μ H (.ref a) (.xcp c [])
  | er0 {a : Addr} {c : Nat} : H a = some (exo a (T.eA c) none) → a ∉ μ → DV T μ H (.ref a) (.err c [])
  | err {a dd : Addr} {c : Nat} {vs : List (Str × V)} {fs : List (Nat × D)} : H a = some (exo a (T.eA c) (some dd)) → a ∉ μ → H dd = some (.xd vs) → dd ∉ μ → DFs T μ H vs fs → DV T μ H (.ref a) (.err c fs)
  | lam {f c : Addr} {σ : List (Option V)} {q : Str} {caps : List D} : T.lm = some (f, σ, c, q) → (∀ i : Nat, σ[i]? = some none → caps[i]? = some .junk) → H c = some (LamX.CodeO c q) → c ∉ μ → DVs T μ H (σ.map fun o => o.getD .non) caps → DV T μ H (.ref f) (.lam caps)
  | junk (v : V) : DV T μ H v .junk
inductive DVs (T : Tb) (μ : List Addr) (H : Hp) : List V → List D → Prop
  | nil : DVs T μ H [] []
  | cons {v : V} {vs : List V} {d : D} {ds : List D} : DV T μ H v d → DVs T μ H vs ds → DVs T μ H (v :: vs) (d :: ds)
inductive DFs (T : Tb) (μ : List Addr) (H : Hp) : List (Str × V) → List (Nat × D) → Prop
  | nil : DFs T μ H [] []
  | cons {f : Nat} {v : V} {vs : List (Str × V)} {d : D} {ds : List (Nat × D)} : f < T.nN → DV T μ H v d → DFs T μ H vs ds → DFs T μ H ((T.nm f, v) :: vs) ((f, d) :: ds)
end

/-- what every step keeps: the store grows at its end by new objects; all that is tracked and not of the store stands -/
structure Step (μ : List Addr) (H : Hp) (μ' : List Addr) (H' : Hp) : Prop where
  more : ∃ m, μ' = μ ++ m ∧ ∀ b ∈ m, H b = none
  there : ∀ a, H' a = none → H a = none
  keep : ∀ a o, H a = some o → a ∉ μ → (∀ ps, o ≠ .tbl ps) → H' a = some o

/-- what may lie in the store -/
def MutS (o : HO) : Prop := (∃ xs, o = .lst xs) ∨ ∃ C dx fs, o = .ins C dx fs
theorem tabs_put {Tt : List (Addr × Str)} {H : Hp} {p : Addr} {o u : HO} (t : LamX.Tabs Tt H) (h : H p = some u) (m : MutS u) : LamX.Tabs Tt (upd H p o) := fun q hq => by
  obtain ⟨ps, h1, h2, h3⟩ := t q hq
  have n1 : q.1 ≠ p := fun e => by
    rw [e, h] at h1
    cases h1
    rcases m with ⟨_, z⟩ | ⟨_, _, _, z⟩ <;> cases z
  refine ⟨ps, by rw [upd_ne n1]; exact h1, h2, fun pos cv hc => ?_⟩
  obtain ⟨c, e1, e2⟩ := h3 pos cv hc
  refine ⟨c, e1, ?_⟩
  have n2 : c ≠ p := fun e => by
    rw [e, h] at e2
    have z := Option.some.inj e2
    subst z
    unfold LamX.CodeO at m
    rcases m with ⟨_, z⟩ | ⟨_, _, _, z⟩ <;> cases z
  rw [upd_ne n2]; exact e2

theorem tabs_new {Tt : List (Addr × Str)} {H : Hp} {p : Addr} {o : HO} (h : H p = none) : LamX.Tabs Tt H → LamX.Tabs Tt (upd H p o) := fun t => LamX.Tabs.ext t fun b u q => by rw [upd_ne (ne_of_none q h)]; exact q
theorem Step.refl (μ : List Addr) (H : Hp) : Step μ H μ H := ⟨⟨[], by simp, fun b hb => by cases hb⟩, fun _ h => h, fun _ _ h _ _ => h⟩
theorem Step.out {μ μ' : List Addr} {H H' : Hp} (s : Step μ H μ' H') {a : Addr} {o : HO} (h : H a = some o) (n : a ∉ μ) : a ∉ μ' := by
  obtain ⟨m, e, f⟩ := s.more
  intro hm
  rw [e] at hm
  rcases List.mem_append.mp hm with q | q
  · exact n q
  · rw [f a q] at h; cases h
theorem Step.trans {μ μ1 μ2 : List Addr} {H H1 H2 : Hp} (s : Step μ H μ1 H1) (t : Step μ1 H1 μ2 H2) : Step μ H μ2 H2 := by
  refine ⟨?_, fun a h => s.there a (t.there a h), fun a o h n z => t.keep a o (s.keep a o h n z) (s.out h n) z⟩
  obtain ⟨m1, e1, f1⟩ := s.more
  obtain ⟨m2, e2, f2⟩ := t.more
  refine ⟨m1 ++ m2, by rw [e2, e1, List.append_assoc], fun b hb => ?_⟩
  rcases List.mem_append.mp hb with q | q
  · exact f1 b q
  · exact s.there b (f2 b q)
/-- a new object, not of the store -/
theorem Step.new {μ : List Addr} {H : Hp} {p : Addr} {o : HO} (h : H p = none) : Step μ H μ (upd H p o) := by
  refine ⟨⟨[], by simp, fun b hb => by cases hb⟩, fun a q => ?_, fun a u q _ _ => by rw [upd_ne (ne_of_none q h)]; exact q⟩
  by_cases e : a = p
  · rw [e]; exact h
  · rw [upd_ne e] at q; exact q
/-- a new object of the store -/
theorem Step.add {μ : List Addr} {H : Hp} {p : Addr} {o : HO} (h : H p = none) : Step μ H (μ ++ [p]) (upd H p o) := by
  have s := Step.new (μ := μ) (o := o) h
  refine ⟨⟨[p], rfl, fun b hb => ?_⟩, s.there, s.keep⟩
  rw [List.mem_singleton.mp hb]; exact h
/-- an object of the store is written -/
theorem Step.put {μ : List Addr} {H : Hp} {p : Addr} {o u : HO} (h : H p = some u) (hm : p ∈ μ) (hu : MutS u) : Step μ H μ (upd H p o) := by
  refine ⟨⟨[], by simp, fun b hb => by cases hb⟩, fun a q => ?_, fun a u q n _ => ?_⟩
  · by_cases e : a = p
    · rw [e, upd_same] at q; cases q
    · rw [upd_ne e] at q; exact q
  · rw [upd_ne (fun e => n (by rw [e]; exact hm))]; exact q

section
variable {T : Tb} {μ μ' : List Addr} {H H' : Hp}
theorem rd_keep {a : Addr} {u : HO} (k : ∀ a o, H a = some o → a ∉ μ → (∀ ps, o ≠ .tbl ps) → H' a = some o) (hu : ∀ ps, u ≠ .tbl ps) (h : Rd H a u) (n : a ∉ μ) : Rd H' a u := by
  rcases h with h | ⟨o, h⟩
  · exact .inl (k _ _ h n hu)
  · exact .inr ⟨o, k _ _ h n fun ps z => nomatch z⟩
theorem FzL.step {a : Addr} {xs : List V} (s : Step μ H μ' H') (h : FzL T.K μ H a xs) : FzL T.K μ' H' a xs := by
  rcases h with ⟨h, n⟩ | h
  · refine .inl ⟨rd_keep s.keep (fun ps z => nomatch z) h n, ?_⟩
    rcases h with h | ⟨o, h⟩
    · exact s.out h n
    · exact s.out h n
  · exact .inr h
end

/-- the tuples stand (a store's object is never a tuple) -/
structure Rep0 (μ : List Addr) (H : Hp) : Prop where
  mu : ∀ a ∈ μ, ∃ o, H a = some o ∧ MutS o
theorem SqT.step {T : Tb} {μ μ' : List Addr} {H H' : Hp} {a : Addr} {xs : List V} (s : Step μ H μ' H') (r : Rep0 μ H) (h : SqT T.K H a xs) : SqT T.K H' a xs := by
  rcases h with h | h
  · refine .inl (rd_keep s.keep (fun ps z => nomatch z) h fun hm => ?_)
    obtain ⟨u, e, mu⟩ := r.mu a hm
    rcases h with h | ⟨o, h⟩ <;> rw [e] at h <;> cases h <;> (rcases mu with ⟨_, z⟩ | ⟨_, _, _, z⟩ <;> cases z)
  · exact .inr h
theorem TupX.step {T : Tb} {μ μ' : List Addr} {H H' : Hp} {a : Addr} {xs : List V} (s : Step μ H μ' H') (r : Rep0 μ H) (h : TupX T.K H a xs) : TupX T.K H' a xs := by
  rcases h with ⟨o, h, d⟩ | h
  · refine .inl ⟨o, s.keep a _ h (fun hm => ?_) (fun ps z => nomatch z), d⟩
    obtain ⟨u, e, mu⟩ := r.mu a hm
    rw [e] at h; cases h
    rcases mu with ⟨_, z⟩ | ⟨_, _, _, z⟩ <;> cases z
  · exact .inr h
section
variable {T : Tb} {μ μ' : List Addr} {H H' : Hp}
mutual
theorem DV.step (s : Step μ H μ' H') (r : Rep0 μ H) : ∀ {v : V} {d : D}, DV T μ H v d → DV T μ' H' v d
  | _, _, .non => .non
  | _, _, .bl b => .bl b
  | _, _, .int i => .int i
  | _, _, .str x => .str x
  | _, _, .tup h q => .tup (TupX.step s r h) (DVs.step s r q)
  | _, _, .row h q => .row (SqT.step s r h) (DVs.step s r q)
  | _, _, .lst h n q => .lst (s.keep _ _ h n (fun ps z => nomatch z)) (s.out h n) (DVs.step s r q)
  | _, _, .scr h => .scr (h.step s)
  | _, _, .obj h => .obj (by
      obtain ⟨m, e, _⟩ := s.more
      rw [e, List.getElem?_append_left (List.getElem?_eq_some_iff.mp h).1]; exact h)
  | _, _, .ins hc hk h n q => .ins hc hk (s.keep _ _ h n (fun ps z => nomatch z)) (s.out h n) (DFs.step s r q)
  | _, _, .fn i => .fn i
  | _, _, .cl c => .cl c
  | _, _, .ty n => .ty n
  | _, _, .xcp hh h n q => .xcp hh (s.keep _ _ h n (fun ps z => nomatch z)) (s.out h n) (DFs.step s r q)
  | _, _, .xc0 h => .xc0 h
  | _, _, .er0 g m => .er0 (s.keep _ _ g m (fun ps z => exo_tbl z)) (s.out g m)
  | _, _, .err g m h n q => .err (s.keep _ _ g m (fun ps z => exo_tbl z)) (s.out g m) (s.keep _ _ h n (fun ps z => nomatch z)) (s.out h n) (DFs.step s r q)
  | _, _, .lam hh z h n q => .lam hh z (s.keep _ _ h n LamX.codeO_ne) (s.out h n) (DVs.step s r q)
  | _, _, .junk v => .junk v
theorem DVs.step (s : Step μ H μ' H') (r : Rep0 μ H) : ∀ {vs : List V} {ds : List D}, DVs T μ H vs ds → DVs T μ' H' vs ds
  | _, _, .nil => .nil
  | _, _, .cons h q => .cons (DV.step s r h) (DVs.step s r q)
theorem DFs.step (s : Step μ H μ' H') (r : Rep0 μ H) : ∀ {vs : List (Str × V)} {ds : List (Nat × D)}, DFs T μ H vs ds → DFs T μ' H' vs ds
  | _, _, .nil => .nil
  | _, _, .cons z h q => .cons z (DV.step s r h) (DFs.step s r q)
end
mutual
/-- what holds no mutable object is the same for a smaller store -/
theorem DV.less {ν : List Addr} (sub : ∀ a, a ∈ ν → a ∈ μ) : ∀ {v : V} {d : D}, pur d = true → DV T μ H v d → DV T ν H v d
  | _, _, _, .non => .non
  | _, _, _, .bl b => .bl b
  | _, _, _, .int i => .int i
  | _, _, _, .str x => .str x
  | _, _, p, .tup h q => .tup h (DVs.less sub p q)
  | _, _, p, .row h q => .row h (DVs.less sub p q)
  | _, _, p, .lst h n q => .lst h (fun hm => n (sub _ hm)) (DVs.less sub p q)
  | _, _, p, .scr h => .scr (h.elim (fun z => .inl ⟨z.1, fun hm => z.2 (sub _ hm)⟩) .inr)
  | _, _, p, .obj h => by cases p
  | _, _, p, .ins hc hk h n q => .ins hc hk h (fun hm => n (sub _ hm)) (DFs.less sub p q)
  | _, _, _, .fn i => .fn i
  | _, _, _, .cl c => .cl c
  | _, _, _, .ty n => .ty n
  | _, _, p, .xcp _ _ _ _ => by cases p
  | _, _, p, .err _ _ _ _ _ => by cases p
  | _, _, p, .xc0 _ => by cases p
  | _, _, p, .er0 _ _ => by cases p
  | _, _, p, .lam _ _ _ _ _ => by cases p
  | _, _, _, .junk v => .junk v
theorem DVs.less {ν : List Addr} (sub : ∀ a, a ∈ ν → a ∈ μ) : ∀ {vs : List V} {ds : List D}, purL ds = true → DVs T μ H vs ds → DVs T ν H vs ds
  | _, _, _, .nil => .nil
  | _, _, p, .cons h q => by
    have p' := Bool.and_eq_true_iff.mp p
    exact .cons (DV.less sub p'.1 h) (DVs.less sub p'.2 q)
theorem DFs.less {ν : List Addr} (sub : ∀ a, a ∈ ν → a ∈ μ) : ∀ {vs : List (Str × V)} {ds : List (Nat × D)}, purF ds = true → DFs T μ H vs ds → DFs T ν H vs ds
  | _, _, _, .nil => .nil
  | _, _, p, .cons z h q => by
    have p' := Bool.and_eq_true_iff.mp p
    exact .cons z (DV.less sub p'.1 h) (DFs.less sub p'.2 q)
end
theorem DVs.length {vs : List V} {ds : List D} (h : DVs T μ H vs ds) : vs.length = ds.length := by
  induction vs generalizing ds with
  | nil => cases h; rfl
  | cons v vs ih => cases h with | cons h q => simp [ih q]
theorem DVs.get : ∀ {vs : List V} {ds : List D} {i : Nat} {d : D}, DVs T μ H vs ds → ds[i]? = some d → ∃ v, vs[i]? = some v ∧ DV T μ H v d
  | _, _, _, _, .nil, e => by simp at e
  | _, _, 0, _, .cons h _, e => by simp at e; subst e; exact ⟨_, rfl, h⟩
  | _, _, i + 1, d, .cons _ t, e => by
    obtain ⟨v, h1, h2⟩ := DVs.get (i := i) (d := d) t (by simpa using e)
    exact ⟨v, by simpa using h1, h2⟩
theorem DVs.get' {vs : List V} {ds : List D} {i : Nat} {v : V} (h : DVs T μ H vs ds) (e : vs[i]? = some v) : ∃ d, ds[i]? = some d ∧ DV T μ H v d := by
  have hl := h.length
  have hi : i < ds.length := by rw [← hl]; exact (List.getElem?_eq_some_iff.mp e).1
  obtain ⟨v', e', r⟩ := h.get (List.getElem?_eq_getElem hi)
  rw [e] at e'; cases e'
  exact ⟨_, List.getElem?_eq_getElem hi, r⟩
theorem DVs.append : ∀ {vs ws : List V} {ds es : List D}, DVs T μ H vs ds → DVs T μ H ws es → DVs T μ H (vs ++ ws) (ds ++ es)
  | _, _, _, _, .nil, q => q
  | _, _, _, _, .cons h t, q => .cons h (DVs.append t q)
theorem DVs.take : ∀ {vs : List V} {ds : List D} (n : Nat), DVs T μ H vs ds → DVs T μ H (vs.take n) (ds.take n)
  | _, _, 0, _ => by simpa using DVs.nil
  | _, _, _ + 1, .nil => .nil
  | _, _, n + 1, .cons h t => .cons h (DVs.take n t)
theorem DVs.drop : ∀ {vs : List V} {ds : List D} (n : Nat), DVs T μ H vs ds → DVs T μ H (vs.drop n) (ds.drop n)
  | _, _, 0, h => h
  | _, _, _ + 1, .nil => .nil
  | _, _, n + 1, .cons _ t => DVs.drop n t
theorem DVs.set {v : V} {d : D} (r : DV T μ H v d) : ∀ {vs : List V} {ds : List D} (i : Nat), DVs T μ H vs ds → DVs T μ H (vs.set i v) (ds.set i d)
  | _, _, _, .nil => .nil
  | _, _, 0, .cons _ t => .cons r t
  | _, _, i + 1, .cons q t => .cons q (DVs.set r i t)
theorem DVs.reverse : ∀ {vs : List V} {ds : List D}, DVs T μ H vs ds → DVs T μ H vs.reverse ds.reverse
  | _, _, .nil => by simpa using DVs.nil
  | _, _, .cons h t => by
    rw [List.reverse_cons, List.reverse_cons]
    exact DVs.append (DVs.reverse t) (.cons h .nil)
theorem DVs.ints : ∀ {vs : List V} {ns : List Int}, DVs T μ H vs (ns.map D.int) → vs = ns.map V.int
  | _, [], .nil => rfl
  | _, _ :: _, .cons (.int i) t => by rw [List.map_cons, DVs.ints t]
theorem DVs.of_ints : ∀ (ns : List Int), DVs T μ H (ns.map V.int) (ns.map D.int)
  | [] => .nil
  | _ :: ns => .cons (.int _) (DVs.of_ints ns)
theorem DFs.look : ∀ {vs : List (Str × V)} {fs : List (Nat × D)} {f : Nat} {d : D}, f < T.nN → DFs T μ H vs fs → fs.lookup f = some d → ∃ v, vs.lookup (T.nm f) = some v ∧ DV T μ H v d
  | _, _, _, _, _, .nil, e => by simp at e
  | _, _, f, d, hf, .cons (f := g) z h q, e => by
    rw [List.lookup_cons] at e ⊢
    cases hb : f == g with
    | true =>
      rw [hb] at e; cases e
      rw [beq_iff_eq.mp hb, beq_self_eq_true]
      exact ⟨_, rfl, h⟩
    | false =>
      rw [hb] at e
      have hn : (T.nm f == T.nm g) = false := by
        rw [beq_eq_false_iff_ne]
        intro hq
        rw [T.inj f g hf z hq, beq_self_eq_true] at hb; cases hb
      rw [hn]
      exact DFs.look hf q e
theorem DFs.look_none : ∀ {vs : List (Str × V)} {fs : List (Nat × D)} {m : Str}, DFs T μ H vs fs → (∀ j, j < T.nN → T.nm j ≠ m) → vs.lookup m = none
  | _, _, _, .nil, _ => rfl
  | _, _, m, .cons (f := g) z h q, n => by
    rw [List.lookup_cons, beq_eq_false_iff_ne.mpr fun e => n g z e.symm]
    exact DFs.look_none q n
theorem DFs.length : ∀ {vs : List (Str × V)} {fs : List (Nat × D)}, DFs T μ H vs fs → vs.length = fs.length
  | _, _, .nil => rfl
  | _, _, .cons _ _ q => by simp [DFs.length q]
/-- a field is stored -/
def putD (f : Nat) (d : D) : List (Nat × D) → List (Nat × D)
  | [] => [(f, d)]
  | p :: ps => if p.1 = f then (f, d) :: ps else p :: putD f d ps
theorem DFs.put {f : Nat} {v : V} {d : D} (hf : f < T.nN) (h : DV T μ H v d) : ∀ {vs : List (Str × V)} {fs : List (Nat × D)}, DFs T μ H vs fs → DFs T μ H (putF (T.nm f) v vs) (putD f d fs)
  | _, _, .nil => .cons hf h .nil
  | _, _, .cons (f := g) (v := w) (vs := vs) (d := e) (ds := ds) z q t => by
    show DFs T μ H (if T.nm g = T.nm f then _ else _) (if g = f then _ else _)
    by_cases hg : g = f
    · subst hg
      rw [if_pos rfl, if_pos rfl]
      exact .cons z h t
    · rw [if_neg hg, if_neg fun e => hg (T.inj g f z hf e)]
      exact .cons z q (DFs.put hf h t)
end

/-- an object of the heap shows one of the store -/
def RepO (T : Tb) (μ : List Addr) (H : Hp) (a : Addr) : SO → Prop
  | .lst ds => purL ds = true ∧ ∃ xs, H a = some (.lst xs) ∧ DVs T μ H xs ds
  | .ins c fs => (purF fs = true ∧ c < T.nC ∧ ∀ p ∈ fs, p.1 ∈ T.fl c) ∧ ∃ dx vs, H a = some (.ins (T.cA c) dx vs) ∧ DFs T μ H vs fs
theorem RepO.there {T : Tb} {μ : List Addr} {H : Hp} {a : Addr} {o : SO} (h : RepO T μ H a o) : ∃ u, H a = some u ∧ MutS u := by
  cases o with
  | lst ds => obtain ⟨_, xs, e, _⟩ := h; exact ⟨_, e, .inl ⟨_, rfl⟩⟩
  | ins c fs => obtain ⟨_, dx, vs, e, _⟩ := h; exact ⟨_, e, .inr ⟨_, _, _, rfl⟩⟩
theorem RepO.step {T : Tb} {μ μ' : List Addr} {H H' : Hp} {a : Addr} {o : SO} (s : Step μ H μ' H') (r : Rep0 μ H) (k : H' a = H a) (h : RepO T μ H a o) : RepO T μ' H' a o := by
  cases o with
  | lst ds => obtain ⟨p, xs, e, q⟩ := h; exact ⟨p, xs, k.trans e, q.step s r⟩
  | ins c fs => obtain ⟨p, dx, vs, e, q⟩ := h; exact ⟨p, dx, vs, k.trans e, q.step s r⟩
theorem RepO.less {T : Tb} {μ ν : List Addr} {H : Hp} {a : Addr} {o : SO} (sub : ∀ a, a ∈ ν → a ∈ μ) (h : RepO T μ H a o) : RepO T ν H a o := by
  cases o with
  | lst ds => obtain ⟨p, xs, e, q⟩ := h; exact ⟨p, xs, e, q.less sub p⟩
  | ins c fs => obtain ⟨p, dx, vs, e, q⟩ := h; exact ⟨p, dx, vs, e, q.less sub p.1⟩
/-- the heap shows the store -/
structure Rep (T : Tb) (μ : List Addr) (H : Hp) (S : Store) : Prop where
  len : μ.length = S.length
  nd : μ.Nodup
  ob : ∀ (l : Nat) (a : Addr) (o : SO), μ[l]? = some a → S[l]? = some o → RepO T μ H a o
  tabs : LamX.Tabs T.tabs H
theorem Rep.r0 {T : Tb} {μ : List Addr} {H : Hp} {S : Store} (r : Rep T μ H S) : Rep0 μ H := ⟨fun a ha => by
  obtain ⟨l, hl, e⟩ := List.mem_iff_getElem.mp ha
  have hl' : l < S.length := by rw [← r.len]; exact hl
  exact (r.ob l a S[l] (by rw [List.getElem?_eq_getElem hl, e]) (by rw [List.getElem?_eq_getElem hl'])).there⟩

/-- the slots show the environment -/
structure EnvR (T : Tb) (μ : List Addr) (H : Hp) (σ : L2.St) (ρ : Ev) : Prop where
  len : σ.length = ρ.length
  at_ : ∀ (i : Nat) (d : D), ρ[i]? = some (some d) → ∃ v, σ[i]? = some (some v) ∧ DV T μ H v d
theorem EnvR.step {T : Tb} {μ μ' : List Addr} {H H' : Hp} {σ : L2.St} {ρ : Ev} (s : Step μ H μ' H') (r : Rep0 μ H) (e : EnvR T μ H σ ρ) : EnvR T μ' H' σ ρ :=
  ⟨e.len, fun i d h => let ⟨v, h1, h2⟩ := e.at_ i d h; ⟨v, h1, h2.step s r⟩⟩
theorem EnvR.set {T : Tb} {μ : List Addr} {H : Hp} {σ : L2.St} {ρ : Ev} {i : Nat} {v : V} {d : D} (e : EnvR T μ H σ ρ) (h : DV T μ H v d) : EnvR T μ H (σ.set i (some v)) (ρ.set i (some d)) := by
  refine ⟨by rw [List.length_set, List.length_set, e.len], fun j d' hj => ?_⟩
  by_cases q : i = j
  · subst q
    have hi : i < ρ.length := by
      have := (List.getElem?_eq_some_iff.mp hj).1
      rwa [List.length_set] at this
    rw [List.getElem?_set_self hi] at hj
    cases hj
    exact ⟨v, List.getElem?_set_self (by rw [e.len]; exact hi), h⟩
  · rw [List.getElem?_set_ne q] at hj ⊢
    exact e.at_ j d' hj
/-- the new store after an allocation; o: what is laid beside it before (an instance's own dict) -/
theorem Rep.add {T : Tb} {μ : List Addr} {H H' : Hp} {S : Store} {p : Addr} {o : SO} (r : Rep T μ H S) (h : H p = none) (st : Step μ H (μ ++ [p]) H') (k : ∀ a ∈ μ, H' a = H a) (tb : LamX.Tabs T.tabs H → LamX.Tabs T.tabs H') (q : RepO T (μ ++ [p]) H' p o) : Rep T (μ ++ [p]) H' (S ++ [o]) := by
  have r0 := r.r0
  have hn : p ∉ μ := fun hm => by obtain ⟨u, e, _⟩ := r0.mu p hm; rw [h] at e; cases e
  refine ⟨by simp [r.len], List.nodup_append.mpr ⟨r.nd, by simp, fun a ha b hb => by rw [List.mem_singleton.mp hb]; exact fun e => hn (e ▸ ha)⟩, fun l a u h1 h2 => ?_, tb r.tabs⟩
  by_cases hl : l < μ.length
  · rw [List.getElem?_append_left hl] at h1
    rw [List.getElem?_append_left (by rw [← r.len]; exact hl)] at h2
    exact (r.ob l a u h1 h2).step st r0 (k a (List.mem_of_getElem? h1))
  · have hl2 : l < (μ ++ [p]).length := (List.getElem?_eq_some_iff.mp h1).1
    have el : l = μ.length := by rw [List.length_append, List.length_singleton] at hl2; omega
    subst el
    rw [List.getElem?_append_right (Nat.le_refl _), Nat.sub_self] at h1
    rw [r.len, List.getElem?_append_right (Nat.le_refl _), Nat.sub_self] at h2
    cases h1; cases h2
    exact q
theorem Rep.addL {T : Tb} {μ : List Addr} {H : Hp} {S : Store} {p : Addr} {xs : List V} {ds : List D} (r : Rep T μ H S) (h : H p = none) (hp : purL ds = true) (q : DVs T μ H xs ds) : Rep T (μ ++ [p]) (upd H p (.lst xs)) (S ++ [.lst ds]) := by
  have st := Step.add (μ := μ) (o := .lst xs) h
  refine r.add h st (fun a ha => ?_) (tabs_new h) ⟨hp, xs, upd_same, q.step st r.r0⟩
  obtain ⟨u, e, _⟩ := r.r0.mu a ha
  rw [upd_ne (ne_of_none e h)]
theorem Rep.put {T : Tb} {μ : List Addr} {H : Hp} {S : Store} {l : Nat} {p : Addr} {u : HO} {o : SO} (r : Rep T μ H S) (h : μ[l]? = some p) (q : RepO T μ (upd H p u) p o) : Rep T μ (upd H p u) (S.set l o) := by
  have r0 := r.r0
  have hm : p ∈ μ := List.mem_of_getElem? h
  obtain ⟨zs, e0, mz⟩ := r0.mu p hm
  have st := Step.put (μ := μ) (o := u) e0 hm mz
  refine ⟨by simp [r.len], r.nd, fun k a w h1 h2 => ?_, tabs_put r.tabs e0 mz⟩
  by_cases hk : l = k
  · subst hk
    rw [h] at h1; cases h1
    have hl : l < S.length := by rw [← r.len]; exact (List.getElem?_eq_some_iff.mp h).1
    rw [List.getElem?_set_self hl] at h2
    cases h2
    exact q
  · rw [List.getElem?_set_ne hk] at h2
    refine (r.ob k a w h1 h2).step st r0 ?_
    rw [upd_ne (fun e => hk ?_)]
    subst e
    obtain ⟨b1, c1⟩ := List.getElem?_eq_some_iff.mp h
    obtain ⟨b2, c2⟩ := List.getElem?_eq_some_iff.mp h1
    exact (List.getElem_inj r.nd).mp (c1.trans c2.symm)
theorem Rep.putL {T : Tb} {μ : List Addr} {H : Hp} {S : Store} {l : Nat} {p : Addr} {xs : List V} {ds : List D} (r : Rep T μ H S) (h : μ[l]? = some p) (hp : purL ds = true) (q : DVs T μ H xs ds) : Rep T μ (upd H p (.lst xs)) (S.set l (.lst ds)) := by
  have hm : p ∈ μ := List.mem_of_getElem? h
  obtain ⟨zs, e0, mz⟩ := r.r0.mu p hm
  exact r.put h ⟨hp, xs, upd_same, q.step (Step.put (μ := μ) (o := .lst xs) e0 hm mz) r.r0⟩
/-- an object laid beside the store -/
theorem Rep.step0 {T : Tb} {μ : List Addr} {H H' : Hp} {S : Store} (r : Rep T μ H S) (s : Step μ H μ H') (k : ∀ a ∈ μ, H' a = H a) (tb : LamX.Tabs T.tabs H → LamX.Tabs T.tabs H') : Rep T μ H' S :=
  ⟨r.len, r.nd, fun l a u h1 h2 => (r.ob l a u h1 h2).step s r.r0 (k a (List.mem_of_getElem? h1)), tb r.tabs⟩
theorem Rep.new {T : Tb} {μ : List Addr} {H : Hp} {S : Store} {p : Addr} {o : HO} (r : Rep T μ H S) (h : H p = none) : Rep T μ (upd H p o) S :=
  r.step0 (Step.new h) (fun a ha => by
    obtain ⟨u, e, _⟩ := r.r0.mu a ha
    rw [upd_ne (ne_of_none e h)]) (tabs_new h)
/-- the store cut back to what stood before -/
theorem Rep.cut {T : Tb} {μ μ' m : List Addr} {H' : Hp} {S' : Store} (r : Rep T μ' H' S') (e : μ' = μ ++ m) : Rep T μ H' (S'.take μ.length) := by
  refine ⟨?_, ?_, fun l a u h1 h2 => ?_, r.tabs⟩
  · rw [List.length_take, ← r.len, e, List.length_append]; omega
  · have := r.nd
    rw [e] at this
    exact (List.nodup_append.mp this).1
  · have hl : l < μ.length := (List.getElem?_eq_some_iff.mp h1).1
    rw [List.getElem?_take_of_lt hl] at h2
    exact (r.ob l a u (by rw [e, List.getElem?_append_left hl]; exact h1) h2).less (fun b hb => by rw [e]; exact List.mem_append_left _ hb)
end DL

set_option Elab.async false
set_option linter.all false
set_option maxRecDepth 100000
set_option maxHeartbeats 4000000
/-! DL1: what an expression computes, as a Lean function of the environment and the store. -/
namespace DL
open PySem PySem.Spec PyProof.Rows L2

inductive Res (α : Type) where
  | ok (a : α) (S : Store)
  | exc (c : Nat) (fs : List (Nat × D)) (S : Store)
  | bad
def Res.bind {α β : Type} (r : Res α) (f : α → Store → Res β) : Res β :=
  match r with
  | .ok a S => f a S
  | .exc c fs S => .exc c fs S
  | .bad => .bad
@[simp] theorem Res.bind_ok {α β : Type} (a : α) (S : Store) (f : α → Store → Res β) : (Res.ok a S).bind f = f a S := rfl
@[simp] theorem Res.bind_exc {α β : Type} (c : Nat) (fs : List (Nat × D)) (S : Store) (f : α → Store → Res β) : (Res.exc c fs S : Res α).bind f = .exc c fs S := rfl
@[simp] theorem Res.bind_bad {α β : Type} (f : α → Store → Res β) : (Res.bad : Res α).bind f = .bad := rfl

/-- an exception's own dict shows these fields -/
def XR (T : Tb) (μ : List Addr) (H : Hp) (dx : Addr) (fs : List (Nat × D)) : Prop := ∃ vs, H dx = some (.xd vs) ∧ DFs T μ H vs fs
/-- what is asked of the heap behind a result -/
def Fin (T : Tb) (E : XK) {α : Type} (k : α → Store → List Addr → Hp → Prop) (μ : List Addr) (H : Hp) : Res α → Prop
  | .ok a S' => ∀ μ' H', Step μ H μ' H' → Rep T μ' H' S' → k a S' μ' H'
  | .exc c fs S' => ∀ dx μ' H', Step μ H μ' H' → Rep T μ' H' S' → XR T μ' H' dx fs → E (.ref (T.eA c)) (some dx) H'
  | .bad => False
section
variable {T : Tb} {E : XK} {α β : Type} {μ μ1 : List Addr} {H H1 : Hp}
theorem Fin.step {k : α → Store → List Addr → Hp → Prop} {r : Res α} (s : Step μ H μ1 H1) (h : Fin T E k μ H r) : Fin T E k μ1 H1 r := by
  cases r with
  | ok a S => exact fun μ' H' st rp => h μ' H' (s.trans st) rp
  | exc c fs S => exact fun dx μ' H' st rp x => h dx μ' H' (s.trans st) rp x
  | bad => exact h
theorem Fin.bind {k : β → Store → List Addr → Hp → Prop} {r : Res α} {f : α → Store → Res β} (h : Fin T E k μ H (r.bind f)) :
    Fin T E (fun a S1 μ1 H1 => Fin T E k μ1 H1 (f a S1)) μ H r := by
  cases r with
  | ok a S => exact fun μ' H' st _ => Fin.step st h
  | exc c fs S => exact h
  | bad => exact h
theorem Fin.mono {k k' : α → Store → List Addr → Hp → Prop} {r : Res α} (h : Fin T E k μ H r) (m : ∀ a S' μ' H', Step μ H μ' H' → Rep T μ' H' S' → k a S' μ' H' → k' a S' μ' H') : Fin T E k' μ H r := by
  cases r with
  | ok a S => exact fun μ' H' st rp => m a S μ' H' st rp (h μ' H' st rp)
  | exc c fs S => exact h
  | bad => exact h
theorem Fin.ok {k : α → Store → List Addr → Hp → Prop} {a : α} {S : Store} (h : Fin T E k μ H (.ok a S)) (rp : Rep T μ H S) : k a S μ H := h μ H (Step.refl _ _) rp
theorem Fin.at {k : α → Store → List Addr → Hp → Prop} {a : α} {S : Store} (h : Fin T E k μ H (.ok a S)) (st : Step μ H μ1 H1) (rp : Rep T μ1 H1 S) : k a S μ1 H1 := h μ1 H1 st rp
end
abbrev kD (T : Tb) (Q : VK) : D → Store → List Addr → Hp → Prop := fun d _ μ H => ∀ v, DV T μ H v d → Q v H
abbrev kL (T : Tb) (Q : List V → Hp → Prop) : List D → Store → List Addr → Hp → Prop := fun ds _ μ H => ∀ vs, DVs T μ H vs ds → Q vs H
abbrev kB (Q : Bool → Hp → Prop) : Bool → Store → List Addr → Hp → Prop := fun b _ _ H => Q b H
abbrev FE := Ev → Store → Res D
abbrev FT := Ev → Store → Res Bool
abbrev FL := Ev → Store → Res (List D)
def tE (T : Tb) (E : XK) (f : FE) : TE := fun σ H Q => ∃ ρ S μ, EnvR T μ H σ ρ ∧ Rep T μ H S ∧ Fin T E (kD T Q) μ H (f ρ S)
def tT (T : Tb) (E : XK) (f : FT) : TT := fun σ H Q => ∃ ρ S μ, EnvR T μ H σ ρ ∧ Rep T μ H S ∧ Fin T E (kB Q) μ H (f ρ S)
def tA (T : Tb) (E : XK) (f : FL) : TA := fun σ H Q => ∃ ρ S μ, EnvR T μ H σ ρ ∧ Rep T μ H S ∧ Fin T E (kL T Q) μ H (f ρ S)

theorem peW {X : Cx} {e : Expr} {t t' : TE} (h : PE X e t) (w : ∀ σ H Q, t' σ H Q → t σ H Q) : PE X e t' := ⟨fun pins s σ H Q I q => h.run pins s σ H Q I (w σ H Q q)⟩
theorem ptW {X : Cx} {e : Expr} {t t' : TT} (h : PT X e t) (w : ∀ σ H Q, t' σ H Q → t σ H Q) : PT X e t' := ⟨fun pins s σ H Q I q => h.run pins s σ H Q I (w σ H Q q)⟩
theorem pwW {X : Cx} {e : Expr} {t t' : TT} (h : PW X e t) (w : ∀ σ H Q, t' σ H Q → t σ H Q) : PW X e t' := ⟨fun wh pins s σ H Q I q => h.run wh pins s σ H Q I (w σ H Q q)⟩
theorem paW {X : Cx} {es : List Expr} {t t' : TA} (h : PA X es t) (w : ∀ σ H Q, t' σ H Q → t σ H Q) : PA X es t' := ⟨fun pos pins s σ H Q I q => h.run pos pins s σ H Q I (w σ H Q q)⟩

/-- the built-in names are not taken by the module -/
structure BN (mg : Str → Option Value) : Prop where
  len : mg "len" = none
  isinstance : mg "isinstance" = none
  int : mg "int" = none
  abs : mg "abs" = none
  sum : mg "sum" = none
  max : mg "max" = none
  min : mg "min" = none
  all : mg "all" = none
  tuple : mg "tuple" = none
  list : mg "list" = none
  range : mg "range" = none
  enumerate : mg "enumerate" = none
  zip : mg "zip" = none
  repr : mg "repr" = none
  bool : mg "bool" = none
  str : mg "str" = none
/-- where a def's body stands -/
structure Ct (X : Cx) (T : Tb) (E : XK) (k : Nat) : Prop where
  hK : T.K = X.K
  calm : X.calm = true
  nd : X.N.Nodup
  pass : Passes (CX X.prog X.w) X E
  room : Room k X.A
  bn : BN X.mg

section
variable {X : Cx} {T : Tb} {E : XK} {k : Nat}

/-! ### names, constants -/
def fVar (i : Nat) : FE := fun ρ S => match ρ[i]? with | some (some d) => .ok d S | _ => .bad
def fC (d : D) : FE := fun _ S => .ok d S
theorem de_var {i : Nat} {x : Str} {pos : Pos} (h : PE X (.Name x pos) (tVar i)) : PE X (.Name x pos) (tE T E (fVar i)) :=
  peW h fun σ H Q ⟨ρ, S, μ, he, hr, hf⟩ => by
    unfold fVar at hf
    split at hf
    · rename_i d hd
      obtain ⟨v, e1, e2⟩ := he.at_ i d hd
      exact ⟨v, e1, hf.ok hr v e2⟩
    · exact hf.elim
theorem de_c {e : Expr} {v : V} {d : D} (h : PE X e (tC v)) (hd : ∀ μ H, DV T μ H v d) : PE X e (tE T E (fC d)) :=
  peW h fun σ H Q ⟨ρ, S, μ, he, hr, hf⟩ => hf.ok hr v (hd μ H)
theorem de_int {i j pos} : PE X (.Constant (.int i) j pos) (tE T E (fC (.int i))) := de_c pe_int fun _ _ => .int i
theorem de_bl {b j pos} : PE X (.Constant (.bool b) j pos) (tE T E (fC (.bl b))) := de_c pe_bl fun _ _ => .bl b
theorem de_non {j pos} : PE X (.Constant .none j pos) (tE T E (fC .non)) := de_c pe_non fun _ _ => .non
theorem de_str {x j pos} : PE X (.Constant (.str x) j pos) (tE T E (fC (.str x))) := de_c pe_str fun _ _ => .str x

/-! ### argument lists, displays -/
def fNil : FL := fun _ S => .ok [] S
def fCons (f : FE) (g : FL) : FL := fun ρ S => (f ρ S).bind fun d S1 => (g ρ S1).bind fun ds S2 => .ok (d :: ds) S2
theorem da_nil : PA X [] (tA T E fNil) := paW pa_nil fun σ H Q ⟨ρ, S, μ, he, hr, hf⟩ => hf.ok hr [] .nil
theorem da_cons {e : Expr} {es : List Expr} {f : FE} {g : FL} (ha : PE X e (tE T E f)) (hb : PA X es (tA T E g)) (hs : starEach (e :: es) X.env = (false, eval e X.env) :: starEach es X.env := by rfl) : PA X (e :: es) (tA T E (fCons f g)) :=
  paW (pa_cons ha hb hs) fun σ H Q ⟨ρ, S, μ, he, hr, hf⟩ =>
    ⟨ρ, S, μ, he, hr, (Fin.bind hf).mono fun d S1 μ1 H1 st1 r1 h1 v hv => ⟨ρ, S1, μ1, he.step st1 hr.r0, r1, (Fin.bind h1).mono fun ds S2 μ2 H2 st2 r2 h2 vs hvs => h2.ok r2 (v :: vs) (.cons (hv.step st2 r1.r0) hvs)⟩⟩
def lineN : Nat := 1000000
theorem lineN_le {n : Nat} (h : n ≤ lineN) : n ≤ sizeLine := Nat.le_trans h (by decide)
theorem lineN_lt {n : Nat} (h : n < lineN) : n < sizeLine := Nat.lt_of_lt_of_le h (by decide)
def fTup (g : FL) : FE := fun ρ S => (g ρ S).bind fun ds S1 => if ds.length ≤ lineN then .ok (.tup ds) S1 else .bad
def fLst (g : FL) : FE := fun ρ S => (g ρ S).bind fun ds S1 => if ds.length ≤ lineN then .ok (.lst ds) S1 else .bad
/-- a list that is to be written -/
def fNew (g : FL) : FE := fun ρ S => (g ρ S).bind fun ds S1 => if ds.length ≤ lineN ∧ purL ds = true then .ok (.obj S1.length) (S1 ++ [.lst ds]) else .bad
/-- the end of a result that lays a new tuple, list -/
theorem fin_tup {μ : List Addr} {H : Hp} {S : Store} {vs : List V} {ds : List D} {Q : VK} (hr : Rep T μ H S) (h : DVs T μ H vs ds) (hf : Fin T E (kD T Q) μ H (.ok (.tup ds) S)) (p : Addr) (o : Obj) (hp : H p = none) (ho : o.dict = none) : Q (.ref p) (upd H p (.frz o (.tup vs))) := by
  have st : Step μ H μ (upd H p (.frz o (.tup vs))) := Step.new hp
  exact hf.at st (hr.new hp) (.ref p) (.tup (.inl ⟨o, upd_same, ho⟩) (h.step st hr.r0))
theorem fin_lst {μ : List Addr} {H : Hp} {S : Store} {vs : List V} {ds : List D} {Q : VK} (hr : Rep T μ H S) (h : DVs T μ H vs ds) (hf : Fin T E (kD T Q) μ H (.ok (.lst ds) S)) (p : Addr) (hp : H p = none) : Q (.ref p) (upd H p (.lst vs)) := by
  have st : Step μ H μ (upd H p (.lst vs)) := Step.new hp
  refine hf.at st (hr.new hp) (.ref p) (.lst upd_same (fun hm => ?_) (h.step st hr.r0))
  obtain ⟨u, e, _⟩ := hr.r0.mu p hm
  rw [hp] at e; cases e
theorem fin_new {μ : List Addr} {H : Hp} {S : Store} {vs : List V} {ds : List D} {Q : VK} (hr : Rep T μ H S) (hp' : purL ds = true) (h : DVs T μ H vs ds) (hf : Fin T E (kD T Q) μ H (.ok (.obj S.length) (S ++ [.lst ds]))) (p : Addr) (hp : H p = none) : Q (.ref p) (upd H p (.lst vs)) := by
  have st : Step μ H (μ ++ [p]) (upd H p (.lst vs)) := Step.add hp
  refine hf.at st (hr.addL hp hp' h) (.ref p) (.obj ?_)
  rw [← hr.len, List.getElem?_append_right (Nat.le_refl _), Nat.sub_self]
  rfl
/-- a tuple display, its object known -/
def tTupX (t : TA) : TE := fun σ H Q => t σ H fun xs H1 => xs.length ≤ sizeLine ∧ ∀ (p : Addr) (o : Obj), H1 p = none → o.dict = none → Q (.ref p) (upd H1 p (.frz o (.tup xs)))
theorem laid_tup {pins : List (Addr × Obj)} {σ : L2.St} {H : Hp} {s : Shared} {xs : List V} {us : List Value} {Q : VK} (I : Inv X pins σ H s) (r : Vals xs us) (z : xs.length ≤ sizeLine)
    (q : ∀ (p : Addr) (o : Obj), H p = none → o.dict = none → Q (.ref p) (upd H p (.frz o (.tup xs)))) : EP X pins σ Q (.ref s.heap.objs.size) { s with heap := s.heap.push { cls := .type "tuple", data := .seq us.toArray } } := by
  have new : ObjOk X.prog X.w (upd H s.heap.objs.size (.frz { cls := .type "tuple", data := .seq us.toArray } (.tup xs))) (s.heap.push { cls := .type "tuple", data := .seq us.toArray }) s.heap.objs.size (.frz { cls := .type "tuple", data := .seq us.toArray } (.tup xs)) :=
    ⟨Heap.get?_push_size _ rfl, z, us, r, ⟨_, Heap.get?_push_size _ rfl, rfl, _, rfl⟩⟩
  exact ⟨.ref s.heap.objs.size, _, I.laid (t' := s.toks) (fun b u e => Heap.get?_push_of_some _ e) (Nat.le_refl _) new, rfl, q _ _ (I.hok.fresh (Nat.le_refl _)) rfl⟩
theorem pe_tupX {es : List Expr} {t : TA} {n : Nat} {pos : Pos} (h : PA X es t) : PE X (.Tuple es n pos) (tTupX t) :=
  ⟨fun pins s σ H Q I hq => wpAny_Tuple_spliced (thn (h.run pos pins s σ H _ I hq) fun us s1 ⟨xs, H1, I1, r, z, q⟩ => ⟨by rw [← r.length]; exact z, laid_tup I1 r z q⟩)⟩
theorem de_tup {es : List Expr} {g : FL} {n : Nat} {pos : Pos} (h : PA X es (tA T E g)) : PE X (.Tuple es n pos) (tE T E (fTup g)) :=
  peW (pe_tupX h) fun σ H Q ⟨ρ, S, μ, he, hr, hf⟩ => ⟨ρ, S, μ, he, hr, (Fin.bind hf).mono fun ds S1 μ1 H1 st1 r1 h1 vs hvs => by
    split at h1
    · rename_i hl
      exact ⟨by rw [hvs.length]; exact lineN_le hl, fin_tup r1 hvs h1⟩
    · exact h1.elim⟩
theorem de_lst {es : List Expr} {g : FL} {pos : Pos} (h : PA X es (tA T E g)) : PE X (.List es pos) (tE T E (fLst g)) :=
  peW (pe_lst h) fun σ H Q ⟨ρ, S, μ, he, hr, hf⟩ => ⟨ρ, S, μ, he, hr, (Fin.bind hf).mono fun ds S1 μ1 H1 st1 r1 h1 vs hvs => by
    split at h1
    · rename_i hl
      exact ⟨by rw [hvs.length]; exact lineN_le hl, fin_lst r1 hvs h1⟩
    · exact h1.elim⟩
theorem de_new {es : List Expr} {g : FL} {pos : Pos} (h : PA X es (tA T E g)) : PE X (.List es pos) (tE T E (fNew g)) :=
  peW (pe_lst h) fun σ H Q ⟨ρ, S, μ, he, hr, hf⟩ => ⟨ρ, S, μ, he, hr, (Fin.bind hf).mono fun ds S1 μ1 H1 st1 r1 h1 vs hvs => by
    split at h1
    · rename_i hl
      exact ⟨by rw [hvs.length]; exact lineN_le hl.1, fin_new r1 hl.2 hvs h1⟩
    · exact h1.elim⟩

/-! ### operators by values -/
abbrev G2 := D → D → Store → Res D
/-- the rule r does what g says -/
def Ok2 (T : Tb) (E : XK) (r : R2) (g : G2) : Prop := ∀ (d e : D) (v w : V) (S : Store) (μ : List Addr) (H : Hp) (Q : VK), DV T μ H v d → DV T μ H w e → Rep T μ H S → Fin T E (kD T Q) μ H (g d e S) → r v w H Q
def f2 (g : G2) (fa fb : FE) : FE := fun ρ S => (fa ρ S).bind fun d S1 => (fb ρ S1).bind fun e S2 => g d e S2
theorem te_2 {r : R2} {g : G2} {fa fb : FE} (hg : Ok2 T E r g) : ∀ σ H Q, tE T E (f2 g fa fb) σ H Q → tOp r (tE T E fa) (tE T E fb) σ H Q := fun σ H Q ⟨ρ, S, μ, he, hr, hf⟩ =>
  ⟨ρ, S, μ, he, hr, (Fin.bind hf).mono fun d S1 μ1 H1 st1 r1 h1 v hv => ⟨ρ, S1, μ1, he.step st1 hr.r0, r1, (Fin.bind h1).mono fun e S2 μ2 H2 st2 r2 h2 w hw => hg d e v w S2 μ2 H2 Q (hv.step st2 r1.r0) hw r2 h2⟩⟩
theorem de_op {op : Operator} {r : R2} {g : G2} {a b : Expr} {fa fb : FE} {pos : Pos} (ho : OpR X (binaryOp op) r) (hg : Ok2 T E r g) (ha : PE X a (tE T E fa)) (hb : PE X b (tE T E fb)) : PE X (.BinOp a op b pos) (tE T E (f2 g fa fb)) :=
  peW (pe_op ho ha hb) (te_2 hg)
theorem de_cmp {op : CmpOp} {r : R2} {g : G2} {a b : Expr} {fa fb : FE} {pos : Pos} (ho : OpR X (compareOp op) r) (hg : Ok2 T E r g) (ha : PE X a (tE T E fa)) (hb : PE X b (tE T E fb)) (hm : behindInMarks op b = false) : PE X (.Compare a [op] [b] pos) (tE T E (f2 g fa fb)) :=
  peW (pe_cmpR ho ha hb hm) (te_2 hg)
/-- a value that must be True or False, as a test's answer -/
def asB (f : FE) : FT := fun ρ S => (f ρ S).bind fun d S1 => match d with | .bl b => .ok b S1 | _ => .bad
theorem asB_fin {μ : List Addr} {H : Hp} {r : Res D} {Q : Bool → Hp → Prop} (h : Fin T E (kB Q) μ H (r.bind fun d S1 => match d with | .bl b => .ok b S1 | _ => .bad)) :
    Fin T E (kD T fun x H' => ∃ k, x = .bl k ∧ Q k H') μ H r :=
  (Fin.bind h).mono fun d S1 μ1 H1 st1 r1 h1 v hv => by
    cases hv <;> first | exact ⟨_, rfl, h1.ok r1⟩ | exact h1.elim
theorem dt_cmp {op : CmpOp} {r : R2} {g : G2} {a b : Expr} {fa fb : FE} {pos : Pos} (ho : OpR X (compareOp op) r) (hg : Ok2 T E r g) (ha : PE X a (tE T E fa)) (hb : PE X b (tE T E fb)) (hm : behindInMarks op b = false) : PT X (.Compare a [op] [b] pos) (tT T E (asB (f2 g fa fb))) :=
  ptW (pt_cmpR ho ha hb hm) fun σ H Q ⟨ρ, S, μ, he, hr, hf⟩ => te_2 hg σ H _ ⟨ρ, S, μ, he, hr, asB_fin hf⟩
theorem dt_val {e : Expr} {f : FE} (h : PE X e (tE T E f)) (he : ∀ whole, isTrue e X.env whole = (do let v ← whole; standAt e.pos; holding [v] (truthy v)) := by intro _; rfl) : PT X e (tT T E (asB f)) :=
  ptW (pt_val h he) fun σ H Q ⟨ρ, S, μ, he, hr, hf⟩ => ⟨ρ, S, μ, he, hr, asB_fin hf⟩
/-- a chain of two comparisons -/
def f3 (g g' : G2) (fa fb fc : FE) : FE := fun ρ S => (fa ρ S).bind fun d S1 => (fb ρ S1).bind fun e S2 => (g d e S2).bind fun z S3 => match z with
  | .bl true => (fc ρ S3).bind fun h S4 => g' e h S4
  | .bl false => .ok (.bl false) S3
  | _ => .bad
end
end DL

set_option Elab.async false
set_option linter.all false
set_option maxRecDepth 100000
set_option maxHeartbeats 4000000
/-! DL2: operators, comparisons, tests, subscripts. -/
namespace DL
open PySem PySem.Spec PyProof.Rows L2
section
variable {X : Cx} {T : Tb} {E : XK} {k : Nat}

/-! ### chains, and, or, not, if-expressions -/
theorem te_3 {r r' : R2} {g g' : G2} {fa fb fc : FE} (hg : Ok2 T E r g) (hg' : Ok2 T E r' g') : ∀ σ H Q, tE T E (f3 g g' fa fb fc) σ H Q → tChain r r' (tE T E fa) (tE T E fb) (tE T E fc) σ H Q := fun σ H Q ⟨ρ, S, μ, he, hr, hf⟩ =>
  ⟨ρ, S, μ, he, hr, (Fin.bind hf).mono fun d S1 μ1 H1 st1 r1 h1 v hv => ⟨ρ, S1, μ1, he.step st1 hr.r0, r1, (Fin.bind h1).mono fun e S2 μ2 H2 st2 r2 h2 w hw =>
    hg d e v w S2 μ2 H2 _ (hv.step st2 r1.r0) hw r2 ((Fin.bind h2).mono fun z S3 μ3 H3 st3 r3 h3 x hx => by
      cases hx with
      | bl b =>
        refine ⟨b, rfl, ?_⟩
        cases b with
        | true =>
          refine iteT ⟨ρ, S3, μ3, ((he.step st1 hr.r0).step st2 r1.r0).step st3 r2.r0, r3, (Fin.bind h3).mono fun h S4 μ4 H4 st4 r4 h4 y hy => ?_⟩
          exact hg' e h w y S4 μ4 H4 Q ((hw.step st3 r2.r0).step st4 r3.r0) hy r4 h4
        | false => exact iteF (h3.ok r3 _ (.bl false))
      | _ => exact h3.elim)⟩⟩
theorem de_chain {op op' : CmpOp} {r r' : R2} {g g' : G2} {a b c : Expr} {fa fb fc : FE} {pos : Pos} (ho : OpR X (compareOp op) r) (ho' : OpR X (compareOp op') r') (hg : Ok2 T E r g) (hg' : Ok2 T E r' g')
    (ha : PE X a (tE T E fa)) (hb : PE X b (tE T E fb)) (hc : PE X c (tE T E fc)) (hm : lastMarks [op, op'] [b, c] = false := by with_unfolding_all rfl) : PE X (.Compare a [op, op'] [b, c] pos) (tE T E (f3 g g' fa fb fc)) :=
  peW (pe_chain ho ho' ha hb hc hm) (te_3 hg hg')
theorem dt_chain {op op' : CmpOp} {r r' : R2} {g g' : G2} {a b c : Expr} {fa fb fc : FE} {pos : Pos} (ho : OpR X (compareOp op) r) (ho' : OpR X (compareOp op') r') (hg : Ok2 T E r g) (hg' : Ok2 T E r' g')
    (ha : PE X a (tE T E fa)) (hb : PE X b (tE T E fb)) (hc : PE X c (tE T E fc)) (hm : lastMarks [op, op'] [b, c] = false := by with_unfolding_all rfl) : PT X (.Compare a [op, op'] [b, c] pos) (tT T E (asB (f3 g g' fa fb fc))) :=
  ptW (pt_chain ho ho' ha hb hc hm) fun σ H Q ⟨ρ, S, μ, he, hr, hf⟩ => te_3 hg hg' σ H _ ⟨ρ, S, μ, he, hr, asB_fin hf⟩

def fAndT (f g : FT) : FT := fun ρ S => (f ρ S).bind fun b S1 => if b = true then g ρ S1 else .ok false S1
def fOrT (f g : FT) : FT := fun ρ S => (f ρ S).bind fun b S1 => if b = true then .ok true S1 else g ρ S1
def fNotT (f : FT) : FT := fun ρ S => (f ρ S).bind fun b S1 => .ok (!b) S1
def fAnd (f g : FE) : FE := fun ρ S => (f ρ S).bind fun d S1 => match d with | .bl true => g ρ S1 | .bl false => .ok (.bl false) S1 | _ => .bad
def fOr (f g : FE) : FE := fun ρ S => (f ρ S).bind fun d S1 => match d with | .bl true => .ok (.bl true) S1 | .bl false => g ρ S1 | _ => .bad
def fNot (f : FE) : FE := fun ρ S => (f ρ S).bind fun d S1 => match d with | .bl b => .ok (.bl (!b)) S1 | _ => .bad
def fIf (c : FT) (f g : FE) : FE := fun ρ S => (c ρ S).bind fun b S1 => if b = true then f ρ S1 else g ρ S1
variable {a b c : Expr} {rest : List Expr} {pos : Pos} {fa fb : FT} {ga gb : FE}
theorem dw_and1 (ha : PT X a (tT T E fa)) : PW X (.BoolOp .And [a] pos) (tT T E fa) := pw_and1 ha
theorem dw_or1 (ha : PT X a (tT T E fa)) : PW X (.BoolOp .Or [a] pos) (tT T E fa) := pw_or1 ha
theorem dw_and (ha : PT X a (tT T E fa)) (hb : PW X (.BoolOp .And (b :: rest) pos) (tT T E fb)) : PW X (.BoolOp .And (a :: b :: rest) pos) (tT T E (fAndT fa fb)) :=
  pwW (pw_and ha hb) fun σ H Q ⟨ρ, S, μ, he, hr, hf⟩ => ⟨ρ, S, μ, he, hr, (Fin.bind hf).mono fun d S1 μ1 H1 st1 r1 h1 => by
    cases d with
    | true => exact iteT ⟨ρ, S1, μ1, he.step st1 hr.r0, r1, h1⟩
    | false => exact iteF (h1.ok r1)⟩
theorem dw_or (ha : PT X a (tT T E fa)) (hb : PW X (.BoolOp .Or (b :: rest) pos) (tT T E fb)) : PW X (.BoolOp .Or (a :: b :: rest) pos) (tT T E (fOrT fa fb)) :=
  pwW (pw_or ha hb) fun σ H Q ⟨ρ, S, μ, he, hr, hf⟩ => ⟨ρ, S, μ, he, hr, (Fin.bind hf).mono fun d S1 μ1 H1 st1 r1 h1 => by
    cases d with
    | true => exact iteT (h1.ok r1)
    | false => exact iteF ⟨ρ, S1, μ1, he.step st1 hr.r0, r1, h1⟩⟩
theorem dt_not (ha : PT X a (tT T E fa)) : PT X (.UnaryOp .Not a pos) (tT T E (fNotT fa)) :=
  ptW (pt_not ha) fun σ H Q ⟨ρ, S, μ, he, hr, hf⟩ => ⟨ρ, S, μ, he, hr, (Fin.bind hf).mono fun d S1 μ1 H1 st1 r1 h1 => h1.ok r1⟩
theorem de_one {op : BoolOp} (ha : PE X a (tE T E ga)) : PE X (.BoolOp op [a] pos) (tE T E ga) := pe_one ha
theorem de_and (ha : PE X a (tE T E ga)) (hb : PE X (.BoolOp .And (b :: rest) pos) (tE T E gb)) : PE X (.BoolOp .And (a :: b :: rest) pos) (tE T E (fAnd ga gb)) :=
  peW (pe_and ha hb) fun σ H Q ⟨ρ, S, μ, he, hr, hf⟩ => ⟨ρ, S, μ, he, hr, (Fin.bind hf).mono fun d S1 μ1 H1 st1 r1 h1 v hv => by
    cases hv with
    | bl b =>
      refine ⟨b, rfl, ?_⟩
      cases b with
      | true => exact iteT ⟨ρ, S1, μ1, he.step st1 hr.r0, r1, h1⟩
      | false => exact iteF (h1.ok r1 _ (.bl false))
    | _ => exact h1.elim⟩
theorem de_or (ha : PE X a (tE T E ga)) (hb : PE X (.BoolOp .Or (b :: rest) pos) (tE T E gb)) : PE X (.BoolOp .Or (a :: b :: rest) pos) (tE T E (fOr ga gb)) :=
  peW (pe_or ha hb) fun σ H Q ⟨ρ, S, μ, he, hr, hf⟩ => ⟨ρ, S, μ, he, hr, (Fin.bind hf).mono fun d S1 μ1 H1 st1 r1 h1 v hv => by
    cases hv with
    | bl b =>
      refine ⟨b, rfl, ?_⟩
      cases b with
      | true => exact iteT (h1.ok r1 _ (.bl true))
      | false => exact iteF ⟨ρ, S1, μ1, he.step st1 hr.r0, r1, h1⟩
    | _ => exact h1.elim⟩
theorem de_not (ha : PE X a (tE T E ga)) : PE X (.UnaryOp .Not a pos) (tE T E (fNot ga)) :=
  peW (pe_not ha) fun σ H Q ⟨ρ, S, μ, he, hr, hf⟩ => ⟨ρ, S, μ, he, hr, (Fin.bind hf).mono fun d S1 μ1 H1 st1 r1 h1 v hv => by
    cases hv with
    | bl b => exact ⟨b, rfl, h1.ok r1 _ (.bl _)⟩
    | _ => exact h1.elim⟩
theorem de_if (hc : PT X c (tT T E fa)) (ha : PE X a (tE T E ga)) (hb : PE X b (tE T E gb)) : PE X (.IfExp c a b pos) (tE T E (fIf fa ga gb)) :=
  peW (pe_ifExp hc ha hb) fun σ H Q ⟨ρ, S, μ, he, hr, hf⟩ => ⟨ρ, S, μ, he, hr, (Fin.bind hf).mono fun d S1 μ1 H1 st1 r1 h1 => by
    cases d with
    | true => exact iteT ⟨ρ, S1, μ1, he.step st1 hr.r0, r1, h1⟩
    | false => exact iteF ⟨ρ, S1, μ1, he.step st1 hr.r0, r1, h1⟩⟩
end

/-! ### arithmetic -/
section
variable {X : Cx} {T : Tb} {E : XK} {k : Nat}
def gI (C : Int → Int → Bool) (f : Int → Int → D) : G2 := fun d e S => match d, e with
  | .int i, .int j => if C i j = true then .ok (f i j) S else .bad
  | _, _ => .bad
theorem ok_int (i : Int) {μ : List Addr} {H : Hp} : DV T μ H (.int i) (.int i) := .int i
theorem ok_gI {C : Int → Int → Prop} {C' : Int → Int → Bool} {f : Int → Int → V} {f' : Int → Int → D} (hC : ∀ i j, C' i j = true → C i j) (hf : ∀ i j μ H, DV T μ H (f i j) (f' i j)) : Ok2 T E (rI C f) (gI C' f') := fun d e v w S μ H Q hv hw hr h => by
  cases hv with
  | int i =>
    cases hw with
    | int j =>
      have h' : Fin T E (kD T Q) μ H (if C' i j = true then .ok (f' i j) S else .bad) := h
      split at h'
      · rename_i hc
        exact ⟨i, j, rfl, rfl, hC i j hc, h'.ok hr _ (hf i j _ _)⟩
      · exact h'.elim
    | _ => exact h.elim
  | _ => exact h.elim
theorem ok_gI0 {f : Int → Int → V} {f' : Int → Int → D} (hf : ∀ i j μ H, DV T μ H (f i j) (f' i j)) : Ok2 T E (rI0 f) (gI (fun _ _ => true) f') := fun d e v w S μ H Q hv hw hr h => by
  cases hv with
  | int i =>
    cases hw with
    | int j => exact ⟨i, j, rfl, rfl, h.ok hr _ (hf i j _ _)⟩
    | _ => exact h.elim
  | _ => exact h.elim
theorem ok_or_l {r r' : R2} {g : G2} (h : Ok2 T E r g) : Ok2 T E (fun x y H Q => r x y H Q ∨ r' x y H Q) g := fun d e v w S μ H Q hv hw hr hf => .inl (h d e v w S μ H Q hv hw hr hf)

def gSub : G2 := gI (fun _ _ => true) fun i j => .int (i - j)
def gMod : G2 := gI (fun _ j => decide (0 < j)) fun i j => .int (i % j)
def gDiv : G2 := gI (fun _ j => decide (0 < j ∧ j < 1073741824)) fun i j => .int (i / j)
def gPow : G2 := gI (fun i j => decide (0 ≤ j ∧ j ≤ 1000000 ∧ i.natAbs < 2 ^ 64)) fun i j => .int (i ^ j.toNat)
theorem ok_sub : Ok2 T E (rI0 fun i j => .int (i - j)) gSub := ok_gI0 fun _ _ _ _ => .int _
theorem ok_mod : Ok2 T E (rI (fun _ j => 0 < j) fun i j => .int (i % j)) gMod := ok_gI (fun _ _ h => of_decide_eq_true h) fun _ _ _ _ => .int _
theorem ok_div : Ok2 T E (rI CDiv fun i j => .int (i / j)) gDiv := ok_gI (fun i j h => (of_decide_eq_true h : 0 < j ∧ j < 1073741824)) fun _ _ _ _ => .int _
theorem ok_pow : Ok2 T E (rI CPow fun i j => .int (i ^ j.toNat)) gPow := ok_gI (fun i j h => (of_decide_eq_true h : 0 ≤ j ∧ j ≤ 1000000 ∧ i.natAbs < 2 ^ 64)) fun _ _ _ _ => .int _
def gLt : G2 := gI (fun _ _ => true) fun i j => .bl (decide (i < j))
def gLe : G2 := gI (fun _ _ => true) fun i j => .bl (decide (i ≤ j))
def gGt : G2 := gI (fun _ _ => true) fun i j => .bl (decide (j < i))
def gGe : G2 := gI (fun _ _ => true) fun i j => .bl (decide (j ≤ i))
theorem ok_lt : Ok2 T E (rI0 fun i j => .bl (decide (i < j))) gLt := ok_gI0 fun _ _ _ _ => .bl _
theorem ok_le : Ok2 T E (rI0 fun i j => .bl (decide (i ≤ j))) gLe := ok_gI0 fun _ _ _ _ => .bl _
theorem ok_gt : Ok2 T E (rI0 fun i j => .bl (decide (j < i))) gGt := ok_gI0 fun _ _ _ _ => .bl _
theorem ok_ge : Ok2 T E (rI0 fun i j => .bl (decide (j ≤ i))) gGe := ok_gI0 fun _ _ _ _ => .bl _

/-- the items of a list, wherever they stand -/
def items : D → Store → Option (List D)
  | .lst ds, _ => some ds
  | .scr ns, _ => some (ns.map D.int)
  | .obj l, S => match S[l]? with | some (.lst ds) => some ds | _ => none
  | _, _ => none
theorem items_sq {d : D} {S : Store} {ds : List D} {v : V} {μ : List Addr} {H : Hp} (hr : Rep T μ H S) (hv : DV T μ H v d) (h : items d S = some ds) : ∃ a xs, v = .ref a ∧ SqL T.K H a xs ∧ DVs T μ H xs ds := by
  cases hv with
  | lst e n q => cases h; exact ⟨_, _, rfl, SqL.of e, q⟩
  | @scr a ns e => cases h; exact ⟨_, _, rfl, e.sq, DVs.of_ints ns⟩
  | @obj a l e =>
    cases hs : S[l]? with
    | none => simp [items, hs] at h
    | some o =>
      cases o with
      | lst es =>
        simp [items, hs] at h
        subst h
        obtain ⟨_, xs, e1, e2⟩ := hr.ob l a _ e hs
        exact ⟨_, _, rfl, SqL.of e1, e2⟩
      | ins c fs => simp [items, hs] at h
  | _ => cases h
/-- the items of a list that the program has made -/
def itemsM : D → Store → Option (List D)
  | .lst ds, _ => some ds
  | .obj l, S => match S[l]? with | some (.lst ds) => some ds | _ => none
  | _, _ => none
theorem itemsM_lst {d : D} {S : Store} {ds : List D} {v : V} {μ : List Addr} {H : Hp} (hr : Rep T μ H S) (hv : DV T μ H v d) (h : itemsM d S = some ds) : ∃ a xs, v = .ref a ∧ H a = some (.lst xs) ∧ DVs T μ H xs ds := by
  cases hv with
  | lst e n q => cases h; exact ⟨_, _, rfl, e, q⟩
  | @obj a l e =>
    cases hs : S[l]? with
    | none => simp [itemsM, hs] at h
    | some o =>
      cases o with
      | lst es =>
        simp [itemsM, hs] at h
        subst h
        obtain ⟨_, xs, e1, e2⟩ := hr.ob l a _ e hs
        exact ⟨_, _, rfl, e1, e2⟩
      | ins c fs => simp [itemsM, hs] at h
  | _ => cases h

def gAdd : G2 := fun d e S => match d, e with
  | .int i, .int j => .ok (.int (i + j)) S
  | .str x, .str y => if x.length + y.length ≤ lineN then .ok (.str (x ++ y)) S else .bad
  | .tup xs, .tup ys => if xs.length + ys.length ≤ lineN then .ok (.tup (xs ++ ys)) S else .bad
  | x, y => match itemsM x S, itemsM y S with
    | some xs, some ys => if xs.length + ys.length ≤ lineN then .ok (.lst (xs ++ ys)) S else .bad
    | _, _ => .bad
/-- t + u, the object known -/
def rCatX (K : PySem.W.Frag) : R2 := fun x y H Q => ∃ a b xs ys, x = .ref a ∧ y = .ref b ∧ SqT K H a xs ∧ SqT K H b ys ∧ xs.length + ys.length ≤ sizeLine ∧
  (xs = [] → Q (.ref b) H) ∧ (xs ≠ [] → ys = [] → Q (.ref a) H) ∧ (xs ≠ [] → ys ≠ [] → ∀ (p : Addr) (o : Obj), H p = none → o.dict = none → Q (.ref p) (upd H p (.frz o (.tup (xs ++ ys)))))
theorem op_catX : OpR X (binaryOp .Add) (rCatX X.K) := by
  intro pins s σ H x y v u Q I rx ry h
  obtain ⟨a, b, xs, ys, rfl, rfl, ha, hb, hz, q0, q1, q2⟩ := h
  cases rx
  cases ry
  obtain ⟨its, r1, p1, _⟩ := I.tuple ha
  obtain ⟨its2, r2, p2, _⟩ := I.tuple hb
  by_cases hx : xs = []
  · subst hx
    cases r1
    exact L2.cat_tup0 p1 p2 ⟨.ref b, H, I, rfl, q0 rfl⟩
  · refine HT.cat_tup p1 p2 (fun z => hx (r1.nil_iff.mp z)) (fun z => ⟨.ref a, H, I, rfl, q1 hx (r2.nil_iff.mp z)⟩) (fun z => ?_) (by rw [← r1.length, ← r2.length]; exact hz)
    exact laid_tup I (r1.append r2) (by rw [List.length_append]; exact hz) (q2 hx fun w => z (r2.nil_iff.mpr w))
def rAddD (K : PySem.W.Frag) : R2 := fun x y H Q => rI0 (fun i j => .int (i + j)) x y H Q ∨ ((∃ i j, x = .str i ∧ y = .str j ∧ i.length + j.length ≤ sizeLine ∧ Q (.str (i ++ j)) H) ∨ (rCatX K x y H Q ∨ rCat x y H Q))
theorem op_addD : OpR X (binaryOp .Add) (rAddD X.K) := op_add.or (op_add_str.or (op_catX.or op_cat))
theorem ok_addM {d e : D} {v w : V} {S : Store} {μ : List Addr} {H : Hp} {Q : VK} (hv : DV T μ H v d) (hw : DV T μ H w e) (hr : Rep T μ H S)
    (h : Fin T E (kD T Q) μ H (match itemsM d S, itemsM e S with | some xs, some ys => if xs.length + ys.length ≤ lineN then .ok (.lst (xs ++ ys)) S else .bad | _, _ => .bad)) : rCat v w H Q := by
  split at h
  · rename_i xs ys hx hy
    split at h
    · rename_i hl
      obtain ⟨a, vs, rfl, e1, q1⟩ := itemsM_lst hr hv hx
      obtain ⟨b, ws, rfl, e2, q2⟩ := itemsM_lst hr hw hy
      exact ⟨a, b, vs, ws, rfl, rfl, e1, e2, by rw [q1.length, q2.length]; exact lineN_le hl, fin_lst hr (q1.append q2) h⟩
    · exact h.elim
  · exact h.elim
theorem ok_add : Ok2 T E (rAddD T.K) gAdd := fun d e v w S μ H Q hv hw hr h => by
  unfold gAdd at h
  split at h
  · cases hv; cases hw
    exact .inl ⟨_, _, rfl, rfl, h.ok hr _ (.int _)⟩
  · split at h
    · rename_i hl
      cases hv; cases hw
      exact .inr (.inl ⟨_, _, rfl, rfl, lineN_le hl, h.ok hr _ (.str _)⟩)
    · exact h.elim
  · split at h
    · rename_i hl
      cases hv with
      | tup s1 q1 =>
        cases hw with
        | tup s2 q2 =>
          refine .inr (.inr (.inl ⟨_, _, _, _, rfl, rfl, s1.sq, s2.sq, by rw [q1.length, q2.length]; exact lineN_le hl, fun e => ?_, fun e e2 => ?_, fun e e2 => fin_tup hr (q1.append q2) h⟩))
          · subst e; cases q1
            exact h.ok hr _ (.tup s2 q2)
          · subst e2; cases q2
            rw [List.append_nil] at h
            exact h.ok hr _ (.tup s1 q1)
    · exact h.elim
  · exact .inr (.inr (.inr (ok_addM hv hw hr h)))
theorem de_add {a b : Expr} {fa fb : FE} {pos : Pos} (hK : T.K = X.K) (ha : PE X a (tE T E fa)) (hb : PE X b (tE T E fb)) : PE X (.BinOp a .Add b pos) (tE T E (f2 gAdd fa fb)) := by
  have h := op_addD (X := X)
  rw [← hK] at h
  exact de_op h ok_add ha hb

def mulOk (i j : Int) : Bool := decide ((-(2 ^ 64) < i ∧ i < 2 ^ 64) ∨ (-(2 ^ 64) < j ∧ j < 2 ^ 64))
def gMul : G2 := fun d e S => match d, e with
  | .int i, .int j => if mulOk i j = true then .ok (.int (i * j)) S else .bad
  | .lst xs, .int j => if 0 ≤ j ∧ j ≤ 1000 ∧ xs.length ≤ 1000 then .ok (.lst (List.replicate j.toNat xs).flatten) S else .bad
  | _, _ => .bad

def rMulD (K : PySem.W.Frag) : R2 := fun x y H Q => rI CMul (fun i j => .int (i * j)) x y H Q ∨ rRep x y H Q
theorem op_mulD : OpR X (binaryOp .Mult) (rMulD X.K) := op_mul.or op_rep
theorem DVs.rep {μ : List Addr} {H : Hp} {xs : List V} {ds : List D} (h : DVs T μ H xs ds) : ∀ k : Nat, DVs T μ H (List.replicate k xs).flatten (List.replicate k ds).flatten
  | 0 => .nil
  | k + 1 => by
    rw [List.replicate_succ, List.replicate_succ, List.flatten_cons, List.flatten_cons]
    exact h.append (DVs.rep h k)
theorem mul_le {a b : Nat} (ha : a ≤ 1000) (hb : b ≤ 1000) : a * b ≤ lineN := Nat.mul_le_mul ha hb
theorem ok_mul : Ok2 T E (rMulD T.K) gMul := fun d e v w S μ H Q hv hw hr h => by
  unfold gMul at h
  split at h
  · split at h
    · rename_i hm
      cases hv; cases hw
      exact .inl ⟨_, _, rfl, rfl, by simp only [mulOk, decide_eq_true_eq] at hm; exact hm, h.ok hr _ (.int _)⟩
    · exact h.elim
  · split at h
    · rename_i hm
      obtain ⟨h1, h2, h3⟩ := hm
      cases hw
      cases hv with
      | lst e1 n1 q1 =>
        exact .inr ⟨_, _, _, rfl, rfl, e1, by omega, by omega, by rw [q1.length]; exact lineN_le (mul_le h3 (by omega)), fin_lst hr (q1.rep _) h⟩
    · exact h.elim
  · exact h.elim
theorem de_mul {a b : Expr} {fa fb : FE} {pos : Pos} (hK : T.K = X.K) (ha : PE X a (tE T E fa)) (hb : PE X b (tE T E fb)) : PE X (.BinOp a .Mult b pos) (tE T E (f2 gMul fa fb)) := by
  have h := op_mulD (X := X)
  rw [← hK] at h
  exact de_op h ok_mul ha hb
theorem de_sub {a b : Expr} {fa fb : FE} {pos : Pos} (ha : PE X a (tE T E fa)) (hb : PE X b (tE T E fb)) : PE X (.BinOp a .Sub b pos) (tE T E (f2 gSub fa fb)) := de_op op_sub ok_sub ha hb
theorem de_mod {a b : Expr} {fa fb : FE} {pos : Pos} (ha : PE X a (tE T E fa)) (hb : PE X b (tE T E fb)) : PE X (.BinOp a .Mod b pos) (tE T E (f2 gMod fa fb)) := de_op op_mod ok_mod ha hb
theorem de_div {a b : Expr} {fa fb : FE} {pos : Pos} (ha : PE X a (tE T E fa)) (hb : PE X b (tE T E fb)) : PE X (.BinOp a .FloorDiv b pos) (tE T E (f2 gDiv fa fb)) := de_op op_fdiv ok_div ha hb
theorem de_pow {a b : Expr} {fa fb : FE} {pos : Pos} (ha : PE X a (tE T E fa)) (hb : PE X b (tE T E fb)) : PE X (.BinOp a .Pow b pos) (tE T E (f2 gPow fa fb)) := de_op op_pow ok_pow ha hb
/-- - of an int -/
def fNeg (f : FE) : FE := fun ρ S => (f ρ S).bind fun d S1 => match d with | .int i => .ok (.int (-i)) S1 | _ => .bad
theorem de_neg {a : Expr} {f : FE} {pos : Pos} (ha : PE X a (tE T E f)) : PE X (.UnaryOp .USub a pos) (tE T E (fNeg f)) :=
  peW (pe_un un_neg ha) fun σ H Q ⟨ρ, S, μ, he, hr, hf⟩ => ⟨ρ, S, μ, he, hr, (Fin.bind hf).mono fun d S1 μ1 H1 st1 r1 h1 v hv => by
    cases hv with
    | int i => exact ⟨i, rfl, h1.ok r1 _ (.int _)⟩
    | _ => exact h1.elim⟩

/-! ### == of data -/
mutual
def toPy : D → Option PyData
  | .non => some .none
  | .bl b => some (.bool b)
  | .int i => some (.int i)
  | .str x => some (.str x)
  | .tup ds => (toPyL ds).map .tuple
  | .lst ds => (toPyL ds).map .list
  | .scr ns => some (.list (ns.map .int))
  | _ => none
def toPyL : List D → Option (List PyData)
  | [] => some []
  | d :: ds => match toPy d, toPyL ds with | some p, some ps => some (p :: ps) | _, _ => none
end
theorem dp_ints {K : PySem.W.Frag} {H : Hp} : ∀ ns : List Int, DpAll K H (ns.map V.int) (ns.map PyData.int)
  | [] => .nil
  | _ :: ns => .cons (.int _) (dp_ints ns)
mutual
theorem dp_of {μ : List Addr} {H : Hp} : ∀ {v : V} {d : D} {p : PyData}, DV T μ H v d → toPy d = some p → Dp T.K H v p
  | _, _, _, .non, h => by cases h; exact .non
  | _, _, _, .bl b, h => by cases h; exact .bl b
  | _, _, _, .int i, h => by cases h; exact .int i
  | _, _, _, .str x, h => by cases h; exact .str x
  | _, _, _, .tup (ds := ds) s q, h => by
    simp only [toPy, Option.map_eq_some_iff] at h
    obtain ⟨ps, h1, rfl⟩ := h
    exact .tup s.sq (dps_of q h1)
  | _, _, _, .lst (ds := ds) e n q, h => by
    simp only [toPy, Option.map_eq_some_iff] at h
    obtain ⟨ps, h1, rfl⟩ := h
    exact .lst (SqL.of e) (dps_of q h1)
  | _, _, _, .scr (ns := ns) e, h => by cases h; exact .lst e.sq (dp_ints ns)
  | _, _, _, .row _ _, h => by simp [toPy] at h
  | _, _, _, .obj _, h => by simp [toPy] at h
  | _, _, _, .ins _ _ _ _ _, h => by simp [toPy] at h
  | _, _, _, .fn _, h => by simp [toPy] at h
  | _, _, _, .cl _, h => by simp [toPy] at h
  | _, _, _, .ty _, h => by simp [toPy] at h
  | _, _, _, .junk _, h => by simp [toPy] at h
theorem dps_of {μ : List Addr} {H : Hp} : ∀ {vs : List V} {ds : List D} {ps : List PyData}, DVs T μ H vs ds → toPyL ds = some ps → DpAll T.K H vs ps
  | _, _, _, .nil, h => by cases h; exact .nil
  | _, _, _, .cons (d := d) (ds := ds) r q, h => by
    cases h1 : toPy d with
    | none => simp [toPyL, h1] at h
    | some p =>
      cases h2 : toPyL ds with
      | none => simp [toPyL, h1, h2] at h
      | some ps =>
        simp [toPyL, h1, h2] at h
        subst h
        exact .cons (dp_of r h1) (dps_of q h2)
end
/-- whether two values are equal, where they are plain data -/
def deq (d e : D) : Option Bool := match toPy d, toPy e with
  | some p, some q => if SeqAt.shaped p = true ∧ SeqAt.shaped q = true then some (PyData.eqv p q) else none
  | _, _ => none
def gEq : G2 := fun d e S => match deq d e with | some b => .ok (.bl b) S | none => .bad
def gNe : G2 := fun d e S => match deq d e with | some b => .ok (.bl (!b)) S | none => .bad
theorem deq_some {d e : D} {b : Bool} (h : deq d e = some b) : ∃ p q, toPy d = some p ∧ toPy e = some q ∧ SeqAt.shaped p = true ∧ SeqAt.shaped q = true ∧ b = PyData.eqv p q := by
  unfold deq at h
  split at h
  · rename_i p q h1 h2
    split at h
    · rename_i hs
      cases h
      exact ⟨p, q, h1, h2, hs.1, hs.2, rfl⟩
    · cases h
  · cases h
theorem ok_eq : Ok2 T E (rEqD T.K) gEq := fun d e v w S μ H Q hv hw hr h => by
  unfold gEq at h
  split at h
  · rename_i b hb
    obtain ⟨p, q, h1, h2, s1, s2, rfl⟩ := deq_some hb
    exact ⟨p, q, dp_of hv h1, dp_of hw h2, s1, s2, h.ok hr _ (.bl _)⟩
  · exact h.elim
theorem ok_ne : Ok2 T E (rNeD T.K) gNe := fun d e v w S μ H Q hv hw hr h => by
  unfold gNe at h
  split at h
  · rename_i b hb
    obtain ⟨p, q, h1, h2, s1, s2, rfl⟩ := deq_some hb
    exact ⟨p, q, dp_of hv h1, dp_of hw h2, s1, s2, h.ok hr _ (.bl _)⟩
  · exact h.elim
theorem op_eqT (hK : T.K = X.K) (hr : Room k X.A) : OpR X (compareOp .Eq) (rEqD T.K) := by rw [hK]; exact op_eqD hr.units
theorem op_neT (hK : T.K = X.K) (hr : Room k X.A) : OpR X (compareOp .NotEq) (rNeD T.K) := by rw [hK]; exact op_neD hr.units

/-! ### is None, is True -/
def gIsN : G2 := fun d e S => match e, d with | .non, .junk => .bad | .non, .non => .ok (.bl true) S | .non, _ => .ok (.bl false) S | _, _ => .bad
def gNotN : G2 := fun d e S => match e, d with | .non, .junk => .bad | .non, .non => .ok (.bl false) S | .non, _ => .ok (.bl true) S | _, _ => .bad
theorem ok_isN : Ok2 T E (fun x y H Q => y = .non ∧ Q (.bl (decide (x = .non))) H) gIsN := fun d e v w S μ H Q hv hw hr h => by
  cases hw with
  | non =>
    refine ⟨rfl, ?_⟩
    cases hv <;> first | exact h.elim | exact h.ok hr _ (.bl _)
  | _ => exact h.elim
theorem ok_notN : Ok2 T E (fun x y H Q => y = .non ∧ Q (.bl (!decide (x = .non))) H) gNotN := fun d e v w S μ H Q hv hw hr h => by
  cases hw with
  | non =>
    refine ⟨rfl, ?_⟩
    cases hv <;> first | exact h.elim | exact h.ok hr _ (.bl _)
  | _ => exact h.elim
def gIsB : G2 := fun d e S => match d, e with | .bl a, .bl b => .ok (.bl (decide (a = b))) S | _, _ => .bad
def gNotB : G2 := fun d e S => match d, e with | .bl a, .bl b => .ok (.bl (!decide (a = b))) S | _, _ => .bad
theorem ok_isB : Ok2 T E rIsB gIsB := fun d e v w S μ H Q hv hw hr h => by
  cases hv with
  | bl a => cases hw with
    | bl b => exact ⟨a, b, rfl, rfl, h.ok hr _ (.bl _)⟩
    | _ => exact h.elim
  | _ => exact h.elim
theorem ok_notB : Ok2 T E rNotB gNotB := fun d e v w S μ H Q hv hw hr h => by
  cases hv with
  | bl a => cases hw with
    | bl b => exact ⟨a, b, rfl, rfl, h.ok hr _ (.bl _)⟩
    | _ => exact h.elim
  | _ => exact h.elim

/-! ### in, not in over flat things -/
def flatD : D → Bool
  | .non => true
  | .bl _ => true
  | .int _ => true
  | .str _ => true
  | _ => false
def eqF : D → D → Bool
  | .non, .non => true
  | .bl a, .bl b => a == b
  | .bl a, .int b => (if a then 1 else 0) == b
  | .int a, .bl b => a == (if b then 1 else 0)
  | .int a, .int b => a == b
  | .str a, .str b => a == b
  | _, _ => false
theorem flat_of {μ : List Addr} {H : Hp} {v : V} {d : D} (h : DV T μ H v d) (f : flatD d = true) : flatV v = true := by
  cases h <;> first | rfl | cases f
theorem eqV_of {μ : List Addr} {H : Hp} {v w : V} {d e : D} (h : DV T μ H v d) (h' : DV T μ H w e) (f : flatD d = true) (f' : flatD e = true) : eqV v w = eqF d e := by
  cases h <;> first | (cases f; done) | (cases h' <;> first | rfl | (cases f'; done))
theorem flats_of {μ : List Addr} {H : Hp} : ∀ {vs : List V} {ds : List D}, DVs T μ H vs ds → ds.all flatD = true → vs.all flatV = true
  | _, _, .nil, _ => rfl
  | _, _, .cons r q, f => by
    rw [List.all_cons, Bool.and_eq_true] at f ⊢
    exact ⟨flat_of r f.1, flats_of q f.2⟩
theorem inV_of {μ : List Addr} {H : Hp} {v : V} {d : D} (h : DV T μ H v d) (f : flatD d = true) : ∀ {vs : List V} {ds : List D}, DVs T μ H vs ds → ds.all flatD = true → inV v vs = ds.any fun y => eqF y d
  | _, _, .nil, _ => rfl
  | _, _, .cons r q, g => by
    rw [List.all_cons, Bool.and_eq_true] at g
    have ih := inV_of h f q g.2
    unfold inV at ih ⊢
    rw [List.any_cons, List.any_cons, ih, eqV_of r h g.1 f]
/-- the things of a list or a tuple -/
def seqOf : D → Store → Option (List D)
  | .tup ds, _ => some ds
  | d, S => items d S
theorem seqOf_sq {d : D} {S : Store} {ds : List D} {v : V} {μ : List Addr} {H : Hp} (hr : Rep T μ H S) (hv : DV T μ H v d) (h : seqOf d S = some ds) : ∃ a xs, v = .ref a ∧ (SqL T.K H a xs ∨ SqT T.K H a xs) ∧ DVs T μ H xs ds := by
  unfold seqOf at h
  split at h
  · cases h
    cases hv with
    | tup s q => exact ⟨_, _, rfl, .inr s.sq, q⟩
  · obtain ⟨a, xs, e, s, q⟩ := items_sq hr hv h
    exact ⟨a, xs, e, .inl s, q⟩
def gIn (neg : Bool) : G2 := fun d e S => match seqOf e S with
  | some ds => if flatD d = true ∧ ds.all flatD = true then .ok (.bl (if neg = true then !(ds.any fun y => eqF y d) else ds.any fun y => eqF y d)) S else .bad
  | none => .bad
theorem ok_in {neg : Bool} : Ok2 T E (rIn T.K neg) (gIn neg) := fun d e v w S μ H Q hv hw hr h => by
  unfold gIn at h
  split at h
  · rename_i ds hs
    split at h
    · rename_i hf
      obtain ⟨a, xs, rfl, s, q⟩ := seqOf_sq hr hw hs
      refine ⟨a, xs, rfl, s, flat_of hv hf.1, flats_of q hf.2, ?_⟩
      rw [inV_of hv hf.1 q hf.2]
      exact h.ok hr _ (.bl _)
    · exact h.elim
  · exact h.elim
theorem op_inT (hK : T.K = X.K) : OpR X (compareOp .In) (rIn T.K false) := by rw [hK]; exact op_in_seq
theorem op_ninT (hK : T.K = X.K) : OpR X (compareOp .NotIn) (rIn T.K true) := by rw [hK]; exact op_notIn_seq

/-! ### subscripts -/
theorem atI_of {μ : List Addr} {H : Hp} {vs : List V} {ds : List D} {i : Int} {d : D} (h : DVs T μ H vs ds) (e : atI ds i = some d) : ∃ v, atI vs i = some v ∧ DV T μ H v d := by
  unfold atI at e ⊢
  rw [h.length]
  cases hi : ixN ds.length i with
  | none => rw [hi] at e; cases e
  | some j =>
    rw [hi] at e
    exact h.get (by simpa using e)
def gIx : G2 := fun d e S => match e with
  | .int i => match d with
    | .str z => if z.length ≤ lineN then (match atI z.cps.toList i with | some c => .ok (.str ⟨#[c]⟩) S | none => .bad) else .bad
    | d => match seqOf d S with
      | some ds => match atI ds i with | some x => .ok x S | none => .bad
      | none => .bad
  | _ => .bad
theorem ok_ix : Ok2 T E (rIx T.K) gIx := fun d e v w S μ H Q hv hw hr h => by
  cases hw with
  | int i =>
    unfold gIx at h
    split at h
    · rename_i z he
      cases he
      split at h
      · rename_i z'
        split at h
        · rename_i hl
          split at h
          · rename_i c hc
            cases hv
            exact .inr (.inr ⟨_, _, c, rfl, rfl, lineN_le hl, hc, h.ok hr _ (.str _)⟩)
          · exact h.elim
        · exact h.elim
      · split at h
        · rename_i ds hs
          split at h
          · rename_i x hx
            obtain ⟨a, xs, rfl, s, q⟩ := seqOf_sq hr hv hs
            obtain ⟨u, e1, e2⟩ := atI_of q hx
            rcases s with s | s
            · exact .inl ⟨a, xs, i, u, rfl, rfl, s, e1, h.ok hr _ e2⟩
            · exact .inr (.inl ⟨a, xs, i, u, rfl, rfl, s, e1, h.ok hr _ e2⟩)
          · exact h.elim
        · exact h.elim
    · rename_i hne
      exact absurd rfl (hne i)
  | _ => exact h.elim
theorem de_ix {a b : Expr} {fa fb : FE} {pos : Pos} (hK : T.K = X.K) (ha : PE X a (tE T E fa)) (hb : PE X b (tE T E fb)) (hs : PlainIx b) : PE X (.Subscript a b pos) (tE T E (f2 gIx fa fb)) := by
  have h := ix_seq (X := X)
  rw [← hK] at h
  exact peW (pe_ix h ha hb hs) (te_2 ok_ix)
end
end DL

set_option Elab.async false
set_option linter.all false
set_option maxRecDepth 100000
set_option maxHeartbeats 4000000
/-! DL3: slices, built-in functions, isinstance, fields, methods of lists. -/
namespace DL
open PySem PySem.Spec PyProof.Rows L2

/-- what is known of the classes -/
structure CF (T : Tb) : Prop where
  cls : ∀ c, c < T.nC → Cls T.K (T.cA c)
  noA : ∀ c, c < T.nC → ∀ f ∈ T.fl c, NoAttr T.K (T.cA c) (T.nm f)
  low : ∀ c, c < T.nC → ∀ f ∈ T.fl c, f < T.nN
  ha : ∀ c, c < T.nC → PySem.W.findIn T.K (.ref (T.cA c)) "__class__" = some (some (.builtin "object.__class__"))
  hn : PySem.W.specialIn T.K (.builtin "object.__class__") "__get__" = some (some (.builtin "getset_descriptor.__get__"))
  ht : PySem.W.takesIn T.K (.builtin "object.__class__") = some true
  hm : ∀ c, c < T.nC → PySem.W.mroIn T.K (T.cA c) (.type "object") = some true
  kb : ∀ c, c < T.nC → ∀ b ∈ ["int", "bool", "str", "tuple", "list"], PySem.W.kitOne T.K (.ref (T.cA c)) (.type b) = some false
  kt : ∀ c, c < T.nC → ∀ a ∈ ["NoneType", "bool", "int", "str", "tuple", "list"], PySem.W.kitOne T.K (.type a) (.ref (T.cA c)) = some false
  kc : ∀ c, c < T.nC → ∀ c', c' < T.nC → PySem.W.kitOne T.K (.ref (T.cA c)) (.ref (T.cA c')) = some (c == c')

section
variable {X : Cx} {T : Tb} {E : XK} {k : Nat}

/-! ### slices -/
abbrev FO := Ev → Store → Res (Option Int)
def tO (T : Tb) (E : XK) (f : FO) : TO := fun σ H Q => ∃ ρ S μ, EnvR T μ H σ ρ ∧ Rep T μ H S ∧ Fin T E (fun o _ _ H' => Q o H') μ H (f ρ S)
def oNone : FO := fun _ S => .ok none S
def oSome (f : FE) : FO := fun ρ S => (f ρ S).bind fun d S1 => match d with | .int i => .ok (some i) S1 | _ => .bad
theorem do_none : PO X none (tO T E oNone) := ⟨fun pins s σ H Q I ⟨ρ, S, μ, he, hr, hf⟩ => po_none.run pins s σ H Q I (hf.ok hr)⟩
theorem do_some {e : Expr} {f : FE} (h : PE X e (tE T E f)) : PO X (some e) (tO T E (oSome f)) :=
  ⟨fun pins s σ H Q I ⟨ρ, S, μ, he, hr, hf⟩ => (po_some h).run pins s σ H Q I ⟨ρ, S, μ, he, hr, (Fin.bind hf).mono fun d S1 μ1 H1 st1 r1 h1 v hv => by
    cases hv with
    | int i => exact ⟨i, rfl, h1.ok r1⟩
    | _ => exact h1.elim⟩⟩
def cutL {α : Type} (xs : List α) (lo hi : Option Int) : List α := (xs.drop (HT.sIx xs.length 0 lo)).take (HT.sIx xs.length xs.length hi - HT.sIx xs.length 0 lo)
theorem DVs.cut {μ : List Addr} {H : Hp} {vs : List V} {ds : List D} (h : DVs T μ H vs ds) (lo hi : Option Int) : DVs T μ H (cutV vs lo hi) (cutL ds lo hi) := by
  unfold cutV cutL
  rw [h.length]
  exact (h.drop _).take _
def rSlX (K : PySem.W.Frag) : V → Option Int → Option Int → Hp → VK → Prop := fun x lo hi H Q => ∃ a xs, x = .ref a ∧ SqT K H a xs ∧
  (HT.sIx xs.length 0 lo = 0 ∧ HT.sIx xs.length xs.length hi = xs.length → Q (.ref a) H) ∧
  (¬ (HT.sIx xs.length 0 lo = 0 ∧ HT.sIx xs.length xs.length hi = xs.length) → ∀ (p : Addr) (o : Obj), H p = none → o.dict = none → Q (.ref p) (upd H p (.frz o (.tup (cutV xs lo hi)))))
theorem sl_tupX : SlR X (rSlX X.K) := by
  intro pins s σ H x v vl vu lo hi sl Q I rx hs pl pu h
  obtain ⟨a, xs, rfl, hx, q1, q2⟩ := h
  cases rx
  obtain ⟨its, r, ht, hz⟩ := I.tuple hx
  have hlen : its.toArray.size = xs.length := by rw [List.size_toArray]; exact r.length.symm
  refine ⟨"tuple", _, PyProof.Rows.slot_tuple_getitem.lookup, ht.typeIs, ?_⟩
  by_cases hw : HT.sIx xs.length 0 lo = 0 ∧ HT.sIx xs.length xs.length hi = xs.length
  · exact getItem_tuple_whole ht hs pl pu (by rw [hlen]; exact hw) ⟨.ref a, H, I, rfl, q1 hw⟩
  · refine HT.getItem_tuple_cut ht hs pl pu (by rw [hlen]; exact hw) ?_ (by rw [hlen]; exact hz)
    rw [hlen]
    exact laid_tup I ((r.drop (HT.sIx xs.length 0 lo)).take (HT.sIx xs.length xs.length hi - HT.sIx xs.length 0 lo)) (Nat.le_trans (cutV_length xs lo hi) hz) (q2 hw)
def gSl (d : D) (lo hi : Option Int) (S : Store) : Res D := match d with
  | .tup ds => .ok (.tup (cutL ds lo hi)) S
  | d => match items d S with
    | some ds => .ok (.lst (cutL ds lo hi)) S
    | none => .bad
def rSlD (K : PySem.W.Frag) : V → Option Int → Option Int → Hp → VK → Prop := fun x lo hi H Q => rSlX K x lo hi H Q ∨ rSlL K x lo hi H Q
theorem sl_D : SlR X (rSlD X.K) := sl_tupX.or sl_list
theorem whole_cut {xs : List D} {lo hi : Option Int} (h : HT.sIx xs.length 0 lo = 0 ∧ HT.sIx xs.length xs.length hi = xs.length) : cutL xs lo hi = xs := by
  unfold cutL
  rw [h.1, h.2, List.drop_zero, Nat.sub_zero, List.take_length]
theorem ok_sl {d : D} {lo hi : Option Int} {v : V} {S : Store} {μ : List Addr} {H : Hp} {Q : VK} (hv : DV T μ H v d) (hr : Rep T μ H S) (h : Fin T E (kD T Q) μ H (gSl d lo hi S)) : rSlD T.K v lo hi H Q := by
  unfold gSl at h
  split at h
  · cases hv with
    | tup s q =>
      refine .inl ⟨_, _, rfl, s.sq, fun hw => ?_, fun hw => fin_tup hr (q.cut lo hi) h⟩
      rw [q.length] at hw
      rw [whole_cut hw] at h
      exact h.ok hr _ (.tup s q)
  · split at h
    · rename_i ds hs
      obtain ⟨a, xs, rfl, s, q⟩ := items_sq hr hv hs
      exact .inr ⟨a, xs, rfl, s, fin_lst hr (q.cut lo hi) h⟩
    · exact h.elim
def fSl (f : FE) (lo hi : FO) : FE := fun ρ S => (f ρ S).bind fun d S1 => (lo ρ S1).bind fun l S2 => (hi ρ S2).bind fun u S3 => gSl d l u S3
theorem de_sl {e : Expr} {lo hi : Option Expr} {f : FE} {fl fh : FO} {p2 pos : Pos} (hK : T.K = X.K) (he : PE X e (tE T E f)) (hl : PO X lo (tO T E fl)) (hu : PO X hi (tO T E fh)) : PE X (.Subscript e (.Slice lo hi none p2) pos) (tE T E (fSl f fl fh)) := by
  have h := sl_D (X := X)
  rw [← hK] at h
  exact peW (pe_slice h he hl hu) fun σ H Q ⟨ρ, S, μ, he, hr, hf⟩ => ⟨ρ, S, μ, he, hr, (Fin.bind hf).mono fun d S1 μ1 H1 st1 r1 h1 v hv =>
    ⟨ρ, S1, μ1, he.step st1 hr.r0, r1, (Fin.bind h1).mono fun l S2 μ2 H2 st2 r2 h2 => ⟨ρ, S2, μ2, (he.step st1 hr.r0).step st2 r1.r0, r2, (Fin.bind h2).mono fun u S3 μ3 H3 st3 r3 h3 => ok_sl ((hv.step st2 r1.r0).step st3 r2.r0) r3 h3⟩⟩⟩
/-- xs[::-1] of a list -/
def fRev (f : FE) : FE := fun ρ S => (f ρ S).bind fun d S1 => match items d S1 with | some ds => .ok (.lst ds.reverse) S1 | none => .bad
theorem de_rev {e : Expr} {f : FE} {n : Nat} {p1 p2 p3 pos : Pos} (hK : T.K = X.K) (he : PE X e (tE T E f)) : PE X (.Subscript e (.Slice none none (some (.UnaryOp .USub (.Constant (.int 1) n p1) p2)) p3) pos) (tE T E (fRev f)) :=
  peW (pe_revL he) fun σ H Q ⟨ρ, S, μ, he, hr, hf⟩ => ⟨ρ, S, μ, he, hr, (Fin.bind hf).mono fun d S1 μ1 H1 st1 r1 h1 v hv => by
    split at h1
    · rename_i ds hs
      obtain ⟨a, xs, rfl, s, q⟩ := items_sq r1 hv hs
      exact ⟨a, xs, rfl, hK ▸ s, fin_lst r1 q.reverse h1⟩
    · exact h1.elim⟩

/-! ### calls of built-ins by values -/
abbrev GL := List D → Store → Res D
def OkL (T : Tb) (E : XK) (r : List V → Hp → VK → Prop) (g : GL) : Prop := ∀ (ds : List D) (vs : List V) (S : Store) (μ : List Addr) (H : Hp) (Q : VK), DVs T μ H vs ds → Rep T μ H S → Fin T E (kD T Q) μ H (g ds S) → r vs H Q
def fCall (g : GL) (fs : FL) : FE := fun ρ S => (fs ρ S).bind g
theorem te_call {r : List V → Hp → VK → Prop} {g : GL} {fs : FL} (hg : OkL T E r g) : ∀ σ H Q, tE T E (fCall g fs) σ H Q → tCB r (tA T E fs) σ H Q := fun σ H Q ⟨ρ, S, μ, he, hr, hf⟩ =>
  ⟨ρ, S, μ, he, hr, (Fin.bind hf).mono fun ds S1 μ1 H1 st1 r1 h1 vs hvs => hg ds vs S1 μ1 H1 Q hvs r1 h1⟩
theorem de_callB {x : Str} {id : String} {r : List V → Hp → VK → Prop} {g : GL} {p pos : Pos} {e : Expr} {es : List Expr} {fs : FL} (hc : CallR X (.builtin id) r) (hg : OkL T E r g) (hgl : Gl X x) (hm : X.mg x = none) (hv : bootBuiltins x = some (.builtin id)) (ha : PA X (e :: es) (tA T E fs))
    (hn : x ≠ "__name__" := by decide) (hdb : (x == ("__debug__" : Str)) = false := by decide) (he : starEach (e :: es) X.env = (false, eval e X.env) :: starEach es X.env := by rfl) (hpl : (backTo pos (starEach es X.env)).any (·.1) = false := by rfl) :
    PE X (.Call (.Name x p) (e :: es) [] pos) (tE T E (fCall g fs)) := peW (pe_callB hc hgl hm hv ha hn hdb he hpl) (te_call hg)
theorem de_callTy {x : Str} {id : String} {r : List V → Hp → VK → Prop} {g : GL} {p pos : Pos} {e : Expr} {es : List Expr} {fs : FL} (hc : CallR X (.type id) r) (hg : OkL T E r g) (hgl : Gl X x) (hm : X.mg x = none) (hv : bootBuiltins x = some (.type id)) (ha : PA X (e :: es) (tA T E fs))
    (hn : x ≠ "__name__" := by decide) (hdb : (x == ("__debug__" : Str)) = false := by decide) (he : starEach (e :: es) X.env = (false, eval e X.env) :: starEach es X.env := by rfl) (hpl : (backTo pos (starEach es X.env)).any (·.1) = false := by rfl) :
    PE X (.Call (.Name x p) (e :: es) [] pos) (tE T E (fCall g fs)) := peW (pe_callTy hc hgl hm hv ha hn hdb he hpl) (te_call hg)

def gLen : GL := fun ds S => match ds with
  | [.str z] => if z.length ≤ lineN then .ok (.int z.length) S else .bad
  | [d] => match seqOf d S with | some xs => .ok (.int xs.length) S | none => .bad
  | _ => .bad
theorem ok_len : OkL T E (fun xs H Q => ∃ x n, xs = [x] ∧ LenV T.K x H n ∧ Q (.int n) H) gLen := fun ds vs S μ H Q hvs hr h => by
  unfold gLen at h
  split at h
  · cases hvs with
    | cons r q =>
      cases q; cases r
      split at h
      · rename_i hl
        exact ⟨_, _, rfl, ⟨lineN_le hl, rfl⟩, h.ok hr _ (.int _)⟩
      · exact h.elim
  · split at h
    · rename_i xs hs
      cases hvs with
      | cons r q =>
        cases q
        obtain ⟨a, ys, rfl, s, q⟩ := seqOf_sq hr r hs
        refine ⟨.ref a, xs.length, rfl, ?_, h.ok hr _ (.int _)⟩
        rcases s with s | s
        · exact .inl ⟨ys, s, q.length.symm⟩
        · exact .inr ⟨ys, s, q.length.symm⟩
    · exact h.elim
  · exact h.elim
def gAbs : GL := fun ds S => match ds with | [.int i] => .ok (.int (if i < 0 then -i else i)) S | _ => .bad
theorem ok_abs : OkL T E (fun xs H Q => ∃ i, xs = [.int i] ∧ Q (.int (if i < 0 then -i else i)) H) gAbs := fun ds vs S μ H Q hvs hr h => by
  unfold gAbs at h
  split at h
  · cases hvs with
    | cons r q => cases q; cases r; exact ⟨_, rfl, h.ok hr _ (.int _)⟩
  · exact h.elim
def gInt : GL := fun ds S => match ds with | [.int i] => .ok (.int i) S | [.bl b] => .ok (.int (if b then 1 else 0)) S | _ => .bad
theorem ok_int1 : OkL T E (fun xs H Q => (∃ i, xs = [.int i] ∧ Q (.int i) H) ∨ ∃ k, xs = [.bl k] ∧ Q (.int (if k then 1 else 0)) H) gInt := fun ds vs S μ H Q hvs hr h => by
  unfold gInt at h
  split at h
  · cases hvs with
    | cons r q => cases q; cases r; exact .inl ⟨_, rfl, h.ok hr _ (.int _)⟩
  · cases hvs with
    | cons r q => cases q; cases r; exact .inr ⟨_, rfl, h.ok hr _ (.int _)⟩
  · exact h.elim
/-- the ints of a row -/
def intsOf : List D → Option (List Int)
  | [] => some []
  | .int i :: ds => (intsOf ds).map (i :: ·)
  | _ :: _ => none
theorem intsOf_eq : ∀ {ds : List D} {ns : List Int}, intsOf ds = some ns → ds = ns.map D.int
  | [], _, h => by cases h; rfl
  | .int i :: ds, ns, h => by
    simp only [intsOf, Option.map_eq_some_iff] at h
    obtain ⟨ms, h1, rfl⟩ := h
    rw [intsOf_eq h1]; rfl
@[simp] theorem intsOf_map (ns : List Int) : intsOf (ns.map D.int) = some ns := by
  induction ns with
  | nil => rfl
  | cons n ns ih => simp [intsOf, ih]
def boolsOf : List D → Option (List Bool)
  | [] => some []
  | .bl b :: ds => (boolsOf ds).map (b :: ·)
  | _ :: _ => none
theorem boolsOf_eq : ∀ {ds : List D} {bs : List Bool}, boolsOf ds = some bs → ds = bs.map D.bl
  | [], _, h => by cases h; rfl
  | .bl b :: ds, bs, h => by
    simp only [boolsOf, Option.map_eq_some_iff] at h
    obtain ⟨ms, h1, rfl⟩ := h
    rw [boolsOf_eq h1]; rfl
@[simp] theorem boolsOf_map (bs : List Bool) : boolsOf (bs.map D.bl) = some bs := by
  induction bs with
  | nil => rfl
  | cons n ns ih => simp [boolsOf, ih]
theorem DVs.bools {μ : List Addr} {H : Hp} : ∀ {vs : List V} {bs : List Bool}, DVs T μ H vs (bs.map D.bl) → vs = bs.map V.bl
  | _, [], .nil => rfl
  | _, _ :: _, .cons (.bl b) t => by rw [List.map_cons, DVs.bools t]
def gAll : GL := fun ds S => match ds with
  | [d] => match items d S with
    | some xs => match boolsOf xs with | some bs => .ok (.bl (bs.all id)) S | none => .bad
    | none => .bad
  | _ => .bad
theorem ok_all : OkL T E (rAll T.K) gAll := fun ds vs S μ H Q hvs hr h => by
  unfold gAll at h
  split at h
  · split at h
    · rename_i xs hs
      split at h
      · rename_i bs hb
        cases hvs with
        | cons r q =>
          cases q
          obtain ⟨a, ys, rfl, s, q⟩ := items_sq hr r hs
          rw [boolsOf_eq hb] at q
          rw [q.bools] at s
          exact ⟨a, bs, rfl, s, h.ok hr _ (.bl _)⟩
      · exact h.elim
    · exact h.elim
  · exact h.elim
end
end DL

set_option Elab.async false
set_option linter.all false
set_option maxRecDepth 100000
set_option maxHeartbeats 4000000
/-! DL4: sum, max, min, tuple, list, isinstance, fields, append, index. -/
namespace DL
open PySem PySem.Spec PyProof.Rows L2
section
variable {X : Cx} {T : Tb} {E : XK} {k : Nat}
def rSumT (K : PySem.W.Frag) : List V → Hp → VK → Prop := fun vs H Q => ∃ (a : Addr) (ns : List Int), vs = [V.ref a] ∧ SqT K H a (ns.map V.int) ∧ Q (.int ns.sum) H
theorem cr_sumT (hc : X.calm = true) : CallR X (.builtin "sum") (rSumT X.K) := by
  intro pins s σ H vs us Q I r h
  obtain ⟨a, ns, rfl, hs, q⟩ := h
  obtain ⟨its, rv, ht, _⟩ := I.tuple hs
  rw [Vals.ref1 r]
  have hi := rv.ints
  obtain ⟨xs, e⟩ := hi.allInts.items
  have hn : numsOf (intItems xs).toList = ns := by rw [← e]; exact hi.numsOf
  rw [nums_intItems] at hn
  rw [e] at ht
  refine PySem.W.ktm_sumG (I.ok.hd hc) ht fun h' tk t' hk => ?_
  rw [preSum_eq, List.take_of_length_le (by simp), hn]
  exact ⟨.int _, H, I.kept hk, ⟨_, rfl⟩, q⟩
/-- the greatest, the least of a row that is not empty -/
def maxI (x : Int) (xs : List Int) : Int := xs.foldl (fun a y => if a < y then y else a) x
def minI (x : Int) (xs : List Int) : Int := xs.foldl (fun a y => if y < a then y else a) x
theorem maxI_spec : ∀ (xs : List Int) (x : Int), maxI x xs ∈ x :: xs ∧ ∀ y ∈ x :: xs, y ≤ maxI x xs
  | [], x => ⟨List.mem_singleton.mpr rfl, fun y hy => by rw [List.mem_singleton.mp hy]; exact Int.le_refl _⟩
  | z :: zs, x => by
    have ih := maxI_spec zs (if x < z then z else x)
    have e : maxI x (z :: zs) = maxI (if x < z then z else x) zs := rfl
    rw [e]
    have h0 := ih.2 _ List.mem_cons_self
    have hx : x ≤ (if x < z then z else x) := by split <;> omega
    have hz : z ≤ (if x < z then z else x) := by split <;> omega
    refine ⟨?_, fun y hy => ?_⟩
    · rcases List.mem_cons.mp ih.1 with q | q
      · rw [q]
        by_cases c : x < z
        · rw [if_pos c]; exact List.mem_cons_of_mem _ List.mem_cons_self
        · rw [if_neg c]; exact List.mem_cons_self
      · exact List.mem_cons_of_mem _ (List.mem_cons_of_mem _ q)
    · rcases List.mem_cons.mp hy with q | q
      · rw [q]; exact Int.le_trans hx h0
      · rcases List.mem_cons.mp q with q | q
        · rw [q]; exact Int.le_trans hz h0
        · exact ih.2 y (List.mem_cons_of_mem _ q)
theorem minI_spec : ∀ (xs : List Int) (x : Int), minI x xs ∈ x :: xs ∧ ∀ y ∈ x :: xs, minI x xs ≤ y
  | [], x => ⟨List.mem_singleton.mpr rfl, fun y hy => by rw [List.mem_singleton.mp hy]; exact Int.le_refl _⟩
  | z :: zs, x => by
    have ih := minI_spec zs (if z < x then z else x)
    have e : minI x (z :: zs) = minI (if z < x then z else x) zs := rfl
    rw [e]
    have h0 := ih.2 _ List.mem_cons_self
    have hx : (if z < x then z else x) ≤ x := by split <;> omega
    have hz : (if z < x then z else x) ≤ z := by split <;> omega
    refine ⟨?_, fun y hy => ?_⟩
    · rcases List.mem_cons.mp ih.1 with q | q
      · rw [q]
        by_cases c : z < x
        · rw [if_pos c]; exact List.mem_cons_of_mem _ List.mem_cons_self
        · rw [if_neg c]; exact List.mem_cons_self
      · exact List.mem_cons_of_mem _ (List.mem_cons_of_mem _ q)
    · rcases List.mem_cons.mp hy with q | q
      · rw [q]; exact Int.le_trans h0 hx
      · rcases List.mem_cons.mp q with q | q
        · rw [q]; exact Int.le_trans h0 hz
        · exact ih.2 y (List.mem_cons_of_mem _ q)
theorem maxI_uniq {x m : Int} {xs : List Int} (h1 : m ∈ x :: xs) (h2 : ∀ y ∈ x :: xs, y ≤ m) : m = maxI x xs :=
  Int.le_antisymm ((maxI_spec xs x).2 m h1) (h2 _ (maxI_spec xs x).1)
theorem minI_uniq {x m : Int} {xs : List Int} (h1 : m ∈ x :: xs) (h2 : ∀ y ∈ x :: xs, m ≤ y) : m = minI x xs :=
  Int.le_antisymm (h2 _ (minI_spec xs x).1) ((minI_spec xs x).2 m h1)
theorem maxD_ints : ∀ (xs : List Int) (x : Int), PySem.W.maxD (.int x) (xs.map PyData.int) = .int (maxI x xs)
  | [], _ => rfl
  | z :: zs, x => by
    show List.foldl _ (if PySem.W.dataLt (.int x) (.int z) = true then PyData.int z else PyData.int x) (zs.map PyData.int) = .int (maxI (if x < z then z else x) zs)
    rw [PySem.W.dataLt_int]
    by_cases c : x < z
    · simp only [c, decide_true, if_true]
      exact maxD_ints zs z
    · simp only [c, decide_false, Bool.false_eq_true, if_false]
      exact maxD_ints zs x
theorem minD_ints : ∀ (xs : List Int) (x : Int), PySem.W.minD (.int x) (xs.map PyData.int) = .int (minI x xs)
  | [], _ => rfl
  | z :: zs, x => by
    show List.foldl _ (if PySem.W.dataLt (.int z) (.int x) = true then PyData.int z else PyData.int x) (zs.map PyData.int) = .int (minI (if z < x then z else x) zs)
    rw [PySem.W.dataLt_int]
    by_cases c : z < x
    · simp only [c, decide_true, if_true]
      exact minD_ints zs z
    · simp only [c, decide_false, Bool.false_eq_true, if_false]
      exact minD_ints zs x
theorem reads_ints {h : Heap} : ∀ {us : List Value} {ns : List Int}, Vals (ns.map V.int) us → ReadsAll h us (ns.map PyData.int) []
  | _, [], .nil => .nil
  | _, n :: ns, .cons ⟨t, e⟩ q => by subst e; exact ReadsAll.cons (as := []) (bs := []) (.int n t) (reads_ints q)
theorem alike_ints (ns : List Int) : PySem.W.AlikeAll (ns.map PyData.int) := by
  refine ⟨fun x hx y hy => ?_, fun x hx => ?_⟩
  · obtain ⟨i, _, rfl⟩ := List.mem_map.mp hx
    obtain ⟨j, _, rfl⟩ := List.mem_map.mp hy
    rfl
  · obtain ⟨i, _, rfl⟩ := List.mem_map.mp hx
    intro e; cases e
theorem depth_ints : ∀ ns : List Int, PyData.depthAll (ns.map PyData.int) = 0
  | [] => rfl
  | n :: ns => by
    show max (PyData.depth (.int n)) (PyData.depthAll (ns.map PyData.int)) = 0
    rw [depth_ints ns]; rfl
def rMaxT (K : PySem.W.Frag) : List V → Hp → VK → Prop := fun vs H Q => ∃ (a : Addr) (x : Int) (ns : List Int), vs = [V.ref a] ∧ SqT K H a ((x :: ns).map V.int) ∧ Q (.int (maxI x ns)) H
def rMinT (K : PySem.W.Frag) : List V → Hp → VK → Prop := fun vs H Q => ∃ (a : Addr) (x : Int) (ns : List Int), vs = [V.ref a] ∧ SqT K H a ((x :: ns).map V.int) ∧ Q (.int (minI x ns)) H
theorem cr_maxT (hc : X.calm = true) (hr : Room k X.A) : CallR X (.builtin "max") (rMaxT X.K) := by
  intro pins s σ H vs us Q I r h
  obtain ⟨a, x, ns, rfl, hs, q⟩ := h
  obtain ⟨its, rv, ht, _⟩ := I.tuple hs
  rw [Vals.ref1 r]
  have hu := hr.units
  refine PySem.W.max_tuple_data (x := .int x) (xs := ns.map PyData.int) (I.ok.hd hc) ht (reads_ints (ns := x :: ns) rv) (alike_ints (x :: ns)) ?_ fun i v h' tk bs _ hv hk => ?_
  · show X.A.units + 1 + PyData.depthAll ((x :: ns).map PyData.int) < cLine
    rw [depth_ints]; omega
  · rw [maxD_ints] at hv
    cases hv
    exact ⟨.int _, H, I.kept hk, ⟨_, rfl⟩, q⟩
theorem cr_minT (hc : X.calm = true) (hr : Room k X.A) : CallR X (.builtin "min") (rMinT X.K) := by
  intro pins s σ H vs us Q I r h
  obtain ⟨a, x, ns, rfl, hs, q⟩ := h
  obtain ⟨its, rv, ht, _⟩ := I.tuple hs
  rw [Vals.ref1 r]
  have hu := hr.units
  refine PySem.W.min_tuple_data (x := .int x) (xs := ns.map PyData.int) (I.ok.hd hc) ht (reads_ints (ns := x :: ns) rv) (alike_ints (x :: ns)) ?_ fun i v h' tk bs _ hv hk => ?_
  · show X.A.units + 1 + PyData.depthAll ((x :: ns).map PyData.int) < cLine
    rw [depth_ints]; omega
  · rw [minD_ints] at hv
    cases hv
    exact ⟨.int _, H, I.kept hk, ⟨_, rfl⟩, q⟩

/-! by values, over lists and tuples -/
def numsD (d : D) (S : Store) : Option (List Int) := match seqOf d S with | some xs => intsOf xs | none => none
theorem numsD_sq {d : D} {S : Store} {ns : List Int} {v : V} {μ : List Addr} {H : Hp} (hr : Rep T μ H S) (hv : DV T μ H v d) (h : numsD d S = some ns) : ∃ a, v = .ref a ∧ (SqL T.K H a (ns.map V.int) ∨ SqT T.K H a (ns.map V.int)) := by
  unfold numsD at h
  split at h
  · rename_i xs hs
    obtain ⟨a, ys, rfl, s, q⟩ := seqOf_sq hr hv hs
    rw [intsOf_eq h] at q
    rw [q.ints] at s
    exact ⟨a, rfl, s⟩
  · cases h
def gSum : GL := fun ds S => match ds with | [d] => (match numsD d S with | some ns => .ok (.int ns.sum) S | none => .bad) | _ => .bad
def gMax : GL := fun ds S => match ds with
  | [d] => (match numsD d S with | some (x :: ns) => .ok (.int (maxI x ns)) S | _ => .bad)
  | [.int i, .int j] => .ok (.int (if j > i then j else i)) S
  | _ => .bad
def gMin : GL := fun ds S => match ds with
  | [d] => (match numsD d S with | some (x :: ns) => .ok (.int (minI x ns)) S | _ => .bad)
  | [.int i, .int j] => .ok (.int (if j < i then j else i)) S
  | _ => .bad
def rSumD (K : PySem.W.Frag) : List V → Hp → VK → Prop := fun xs H Q => rSum K xs H Q ∨ rSumT K xs H Q
def rMaxD' (K : PySem.W.Frag) : List V → Hp → VK → Prop := fun xs H Q => rMax K xs H Q ∨ (rMaxT K xs H Q ∨ ∃ i j, xs = [.int i, .int j] ∧ Q (.int (if j > i then j else i)) H)
def rMinD' (K : PySem.W.Frag) : List V → Hp → VK → Prop := fun xs H Q => rMin K xs H Q ∨ (rMinT K xs H Q ∨ ∃ i j, xs = [.int i, .int j] ∧ Q (.int (if j < i then j else i)) H)
theorem cr_sumD (hc : X.calm = true) : CallR X (.builtin "sum") (rSumD X.K) := (cr_sum hc).or (cr_sumT hc)
theorem cr_maxD' (hc : X.calm = true) (hr : Room k X.A) : CallR X (.builtin "max") (rMaxD' X.K) := (cr_max hc).or ((cr_maxT hc hr).or (call_max2 hc))
theorem cr_minD' (hc : X.calm = true) (hr : Room k X.A) : CallR X (.builtin "min") (rMinD' X.K) := (cr_min hc).or ((cr_minT hc hr).or (call_min2 hc))
theorem ok_sum : OkL T E (rSumD T.K) gSum := fun ds vs S μ H Q hvs hr h => by
  unfold gSum at h
  split at h
  · split at h
    · rename_i ns hn
      cases hvs with
      | cons r q =>
        cases q
        obtain ⟨a, rfl, s⟩ := numsD_sq hr r hn
        rcases s with s | s
        · exact .inl ⟨a, ns, rfl, s, h.ok hr _ (.int _)⟩
        · exact .inr ⟨a, ns, rfl, s, h.ok hr _ (.int _)⟩
    · exact h.elim
  · exact h.elim
theorem ok_max : OkL T E (rMaxD' T.K) gMax := fun ds vs S μ H Q hvs hr h => by
  unfold gMax at h
  split at h
  · split at h
    · rename_i x ns hn
      cases hvs with
      | cons r q =>
        cases q
        obtain ⟨a, rfl, s⟩ := numsD_sq hr r hn
        rcases s with s | s
        · exact .inl ⟨a, x :: ns, rfl, s, Nat.succ_pos _, fun m h1 h2 => by rw [maxI_uniq h1 h2]; exact h.ok hr _ (.int _)⟩
        · exact .inr (.inl ⟨a, x, ns, rfl, s, h.ok hr _ (.int _)⟩)
    · exact h.elim
  · cases hvs with
    | cons r q => cases q with
      | cons r' q => cases q; cases r; cases r'; exact .inr (.inr ⟨_, _, rfl, h.ok hr _ (.int _)⟩)
  · exact h.elim
theorem ok_min : OkL T E (rMinD' T.K) gMin := fun ds vs S μ H Q hvs hr h => by
  unfold gMin at h
  split at h
  · split at h
    · rename_i x ns hn
      cases hvs with
      | cons r q =>
        cases q
        obtain ⟨a, rfl, s⟩ := numsD_sq hr r hn
        rcases s with s | s
        · exact .inl ⟨a, x :: ns, rfl, s, Nat.succ_pos _, fun m h1 h2 => by rw [minI_uniq h1 h2]; exact h.ok hr _ (.int _)⟩
        · exact .inr (.inl ⟨a, x, ns, rfl, s, h.ok hr _ (.int _)⟩)
    · exact h.elim
  · cases hvs with
    | cons r q => cases q with
      | cons r' q => cases q; cases r; cases r'; exact .inr (.inr ⟨_, _, rfl, h.ok hr _ (.int _)⟩)
  · exact h.elim

/-! tuple(..), list(..) -/
def rTupX (K : PySem.W.Frag) : List V → Hp → VK → Prop := fun xs H Q => ∃ p ys, xs = [.ref p] ∧ ((SqL K H p ys ∧ ∀ (l : Addr) (o : Obj), H l = none → o.dict = none → Q (.ref l) (upd H l (.frz o (.tup ys)))) ∨ (SqT K H p ys ∧ Q (.ref p) H))
theorem cr_tupX : CallR X (.type "tuple") (rTupX X.K) := by
  intro pins s σ H xs us Q I r h
  obtain ⟨p, ys, rfl, h⟩ := h
  obtain ⟨u, rfl, rx⟩ := vals1 r
  cases rx
  rcases h with ⟨hq, q⟩ | ⟨hq, q⟩
  · obtain ⟨its, r', pl, hz⟩ := I.list hq
    have hlen := r'.length
    refine call_tuple_list pl.isList (fun h' kp => ?_) (by simp only [List.size_toArray] <;> omega)
    exact laid_tup (s := { s with heap := h' }) (I.kept (t' := s.toks) kp) r' hz q
  · obtain ⟨its, r', pl, hz⟩ := I.tuple hq
    exact call_tuple_same pl ⟨.ref p, H, I, rfl, q⟩
def gTup : GL := fun ds S => match ds with
  | [.tup xs] => .ok (.tup xs) S
  | [d] => (match items d S with | some xs => .ok (.tup xs) S | none => .bad)
  | _ => .bad
theorem ok_tup : OkL T E (rTupX T.K) gTup := fun ds vs S μ H Q hvs hr h => by
  unfold gTup at h
  split at h
  · cases hvs with
    | cons r q => cases q; cases r with
      | tup s q => exact ⟨_, _, rfl, .inr ⟨s.sq, h.ok hr _ (.tup s q)⟩⟩
  · split at h
    · rename_i xs hs
      cases hvs with
      | cons r q =>
        cases q
        obtain ⟨a, ys, rfl, s, q⟩ := items_sq hr r hs
        exact ⟨a, ys, rfl, .inl ⟨s, fin_tup hr q h⟩⟩
    · exact h.elim
  · exact h.elim
def gList : GL := fun ds S => match ds with
  | [d] => (match seqOf d S with | some xs => .ok (.lst xs) S | none => .bad)
  | _ => .bad
theorem ok_list : OkL T E (fun xs H Q => ∃ p ys, xs = [.ref p] ∧ (SqL T.K H p ys ∨ SqT T.K H p ys) ∧ ∀ l, H l = none → Q (.ref l) (upd H l (.lst ys))) gList := fun ds vs S μ H Q hvs hr h => by
  unfold gList at h
  split at h
  · split at h
    · rename_i xs hs
      cases hvs with
      | cons r q =>
        cases q
        obtain ⟨a, ys, rfl, s, q⟩ := seqOf_sq hr r hs
        exact ⟨a, ys, rfl, s, fin_lst hr q h⟩
    · exact h.elim
  · exact h.elim
/-- the same as a list that is to be written -/
def gListN : GL := fun ds S => match ds with
  | [d] => (match seqOf d S with | some xs => if purL xs = true then .ok (.obj S.length) (S ++ [.lst xs]) else .bad | none => .bad)
  | _ => .bad
theorem ok_listN : OkL T E (fun xs H Q => ∃ p ys, xs = [.ref p] ∧ (SqL T.K H p ys ∨ SqT T.K H p ys) ∧ ∀ l, H l = none → Q (.ref l) (upd H l (.lst ys))) gListN := fun ds vs S μ H Q hvs hr h => by
  unfold gListN at h
  split at h
  · split at h
    · rename_i xs hs
      split at h
      · rename_i hp
        cases hvs with
        | cons r q =>
          cases q
          obtain ⟨a, ys, rfl, s, q⟩ := seqOf_sq hr r hs
          exact ⟨a, ys, rfl, s, fin_new hr hp q h⟩
      · exact h.elim
    · exact h.elim
  · exact h.elim
end
end DL

set_option Elab.async false
set_option linter.all false
set_option maxRecDepth 100000
set_option maxHeartbeats 4000000
/-! DL5: isinstance, fields, methods of lists and tuples. -/
namespace DL
open PySem PySem.Spec PyProof.Rows L2
section
variable {X : Cx} {T : Tb} {E : XK} {k : Nat}
theorem de_ty {x : Str} {n : String} {pos : Pos} (hg : Gl X x) (hm : X.mg x = none) (hv : bootBuiltins x = some (.type n)) (hn : x ≠ "__name__" := by decide) (hd : (x == ("__debug__" : Str)) = false := by decide) : PE X (.Name x pos) (tE T E (fC (.ty n))) :=
  de_c (pe_bltn (v := .ty n) hg hm hv rfl hn hd) fun _ _ => .ty n
theorem de_cl {x : Str} {c : Nat} {pos : Pos} (hg : Gl X x) (hm : X.mg x = some (.ref (T.cA c))) (hc : c < T.nC) (hd : (x == ("__debug__" : Str)) = false := by decide) : PE X (.Name x pos) (tE T E (fC (.cl c))) :=
  de_c (pe_glob (v := .ref (T.cA c)) hg hm rfl hd) fun _ _ => .cl hc
theorem de_fn {x : Str} {i : Nat} {pos : Pos} (hg : Gl X x) (hm : X.mg x = some (.ref (T.fA i))) (hd : (x == ("__debug__" : Str)) = false := by decide) : PE X (.Name x pos) (tE T E (fC (.fn i))) :=
  de_c (pe_glob (v := .ref (T.fA i)) hg hm rfl hd) fun _ _ => .fn i
/-- a module's constant -/
theorem de_gc {x : Str} {d : D} {v : V} {u : Value} {pos : Pos} (hg : Gl X x) (hm : X.mg x = some u) (r : RelV v u) (hv : ∀ μ H, DV T μ H v d) (hd : (x == ("__debug__" : Str)) = false := by decide) : PE X (.Name x pos) (tE T E (fC d)) :=
  de_c (pe_glob hg hm r hd) hv

abbrev tyA : List String := ["NoneType", "bool", "int", "str", "tuple", "list"]
abbrev tyB : List String := ["int", "bool", "str", "tuple", "list"]
/-- isinstance of the types a, b -/
def isB (a b : String) : Bool := a == b || (a == "bool" && b == "int")
theorem kit_tab : ∀ a ∈ tyA, ∀ b ∈ tyB, kitB a b = some (isB a b) := by decide +kernel
/-- the type of a value: a built-in one, or the class of a number -/
def tyD : D → Store → Option (String ⊕ Nat)
  | .non, _ => some (.inl "NoneType")
  | .bl _, _ => some (.inl "bool")
  | .int _, _ => some (.inl "int")
  | .str _, _ => some (.inl "str")
  | .tup _, _ => some (.inl "tuple")
  | .lst _, _ => some (.inl "list")
  | .scr _, _ => some (.inl "list")
  | .obj l, S => match S[l]? with | some (.lst _) => some (.inl "list") | _ => none
  | .ins c _, _ => some (.inr c)
  | _, _ => none
theorem tyX_tup {K : PySem.W.Frag} {H : Hp} {a : Addr} {xs : List V} (h : TupX K H a xs) : TyX K H (.ref a) (.type "tuple") := by
  rcases h with ⟨o, h, _⟩ | ⟨o, its, n, h1, h2, _⟩
  · exact .fTuple h
  · exact .kTuple h1 h2
theorem tyX_sql {K : PySem.W.Frag} {H : Hp} {a : Addr} {xs : List V} (h : SqL K H a xs) : TyX K H (.ref a) (.type "list") := by
  rcases h with (h | ⟨o, h⟩) | ⟨o, its, n, h1, h2, _⟩
  · exact .base (.lst h)
  · exact .base (.frz h)
  · exact .kList h1 h2
def tyVal (T : Tb) : String ⊕ Nat → Value
  | .inl a => .type a
  | .inr c => .ref (T.cA c)
def TyP (T : Tb) : String ⊕ Nat → Prop
  | .inl a => a ∈ tyA
  | .inr c => c < T.nC
theorem inA {a : String} (h : a ∈ tyA) : TyP T (.inl a) := h
theorem tyD_ok (F : CF T) {d : D} {S : Store} {t : String ⊕ Nat} {v : V} {μ : List Addr} {H : Hp} (hr : Rep T μ H S) (hv : DV T μ H v d) (h : tyD d S = some t) :
    TyX T.K H v (tyVal T t) ∧ TyP T t := by
  cases hv with
  | non => cases h; exact ⟨.base .non, inA (by decide)⟩
  | bl b => cases h; exact ⟨.base (.bl b), inA (by decide)⟩
  | int i => cases h; exact ⟨.base (.int i), inA (by decide)⟩
  | str x => cases h; exact ⟨.base (.str x), inA (by decide)⟩
  | tup s q => cases h; exact ⟨tyX_tup s, inA (by decide)⟩
  | lst e n q => cases h; exact ⟨.base (.lst e), inA (by decide)⟩
  | scr e => cases h; exact ⟨tyX_sql e.sq, inA (by decide)⟩
  | @obj a l e =>
    cases hs : S[l]? with
    | none => simp [tyD, hs] at h
    | some o =>
      cases o with
      | lst ds =>
        simp [tyD, hs] at h
        subst h
        obtain ⟨_, xs, e1, _⟩ := hr.ob l a _ e hs
        exact ⟨.base (.lst e1), inA (by decide)⟩
      | ins c fs => simp [tyD, hs] at h
  | ins hc hk e n q => cases h; exact ⟨.base (.ins e (F.cls _ hc) (F.ha _ hc) F.hn F.ht (F.hm _ hc)), hc⟩
  | _ => simp [tyD] at h
/-- the answer to one class -/
def isT : String ⊕ Nat → D → Option Bool
  | .inl a, .ty b => if b ∈ tyB then some (isB a b) else none
  | .inr _, .ty b => if b ∈ tyB then some false else none
  | .inl _, .cl _ => some false
  | .inr c', .cl c => some (c' == c)
  | _, _ => none
theorem isT_ok (F : CF T) {t : String ⊕ Nat} {d : D} {v : V} {b : Bool} {μ : List Addr} {H : Hp} (ht : TyP T t) (hv : DV T μ H v d) (h : isT t d = some b) :
    ∃ u, ClsV v u ∧ PySem.W.kitOne T.K (tyVal T t) u = some b := by
  cases hv with
  | ty n =>
    refine ⟨.type n, .ty n, ?_⟩
    cases t with
    | inl a =>
      simp only [isT] at h
      split at h
      · rename_i hn
        cases h; exact kit_ty (kit_tab a ht n hn)
      · cases h
    | inr c =>
      simp only [isT] at h
      split at h
      · rename_i hn
        cases h; exact F.kb c ht n hn
      · cases h
  | @cl c hc =>
    refine ⟨.ref (T.cA c), .own _, ?_⟩
    cases t with
    | inl a =>
      simp only [isT] at h
      cases h; exact F.kt c hc a ht
    | inr c' =>
      simp only [isT] at h
      cases h; exact F.kc c' ht c hc
  | _ => cases t <;> simp [isT] at h
def gIsi : GL := fun ds S => match ds with
  | [d, .tup [a, b]] => (match tyD d S with
    | some t => (match isT t a, isT t b with | some x, some y => .ok (.bl (x || y)) S | _, _ => .bad)
    | none => .bad)
  | [d, c] => (match tyD d S with
    | some t => (match isT t c with | some b => .ok (.bl b) S | none => .bad)
    | none => .bad)
  | _ => .bad
/-- isinstance(x, (a, b)), the tuple known -/
def rIsiX (K : PySem.W.Frag) : List V → Hp → VK → Prop := fun xs H Q => ∃ (x : V) (tp : Addr) (cs : List V) (t : Value) (us : List Value) (b : Bool), xs = [x, .ref tp] ∧ SqT K H tp cs ∧ Paired ClsV cs us ∧ TyX K H x t ∧ PySem.W.kitAny K t us = some b ∧ Q (.bl b) H
theorem call_isiX : CallR X (.builtin "isinstance") (rIsiX X.K) := by
  intro pins s σ H xs us Q I r h
  obtain ⟨x, tp, cs, t, ws, b, rfl, hT, k, ty, e, q⟩ := h
  obtain ⟨u1, u2, rfl, r1, r2⟩ := vals2 r
  cases (show u2 = Value.ref tp from r2)
  obtain ⟨P, Z, p, hx⟩ := kit_of I r1 ty
  obtain ⟨its, rv, ⟨⟨oc, od, dt, sl⟩, h1, h2, n, h3⟩, _⟩ := I.tuple hT
  have e3 := ClsV.all k rv
  subst e3
  simp only at h2 h3
  subst h2 h3
  exact PySem.W.kia_tup Z I.kIn p h1 e hx fun tk => ⟨.bl b, H, I.tok tk, rfl, q⟩
def rIsiD (K : PySem.W.Frag) : List V → Hp → VK → Prop := fun xs H Q => rIsi K xs H Q ∨ rIsiX K xs H Q
theorem cr_isiD : CallR X (.builtin "isinstance") (rIsiD X.K) := call_isi.or call_isiX
theorem ok_isi (F : CF T) : OkL T E (rIsiD T.K) gIsi := fun ds vs S μ H Q hvs hr h => by
  unfold gIsi at h
  split at h
  · rename_i d a b
    split at h
    · rename_i t ht
      split at h
      · rename_i x y hx hy
        cases hvs with
        | cons r q => cases q with
          | cons r' q =>
            cases q
            obtain ⟨ty, tb⟩ := tyD_ok F hr r ht
            cases r' with
            | tup s qs => cases qs with
              | cons ra qs => cases qs with
                | cons rb qs =>
                  cases qs
                  obtain ⟨u, k1, e1⟩ := isT_ok F tb ra hx
                  obtain ⟨w, k2, e2⟩ := isT_ok F tb rb hy
                  refine .inr ⟨_, _, _, _, [u, w], _, rfl, s.sq, .cons k1 (.cons k2 .nil), ty, ?_, h.ok hr _ (.bl _)⟩
                  refine kitAny_cons e1 (fun hf => ?_) (fun hf => by rw [hf, Bool.true_or])
                  rw [hf, Bool.false_or]
                  exact kitAny_cons e2 (fun hf => by rw [hf]; exact kitAny_nil) (fun hf => hf)
      · exact h.elim
    · exact h.elim
  · split at h
    · rename_i t ht
      split at h
      · rename_i b hb
        cases hvs with
        | cons r q => cases q with
          | cons r' q =>
            cases q
            obtain ⟨ty, tb⟩ := tyD_ok F hr r ht
            obtain ⟨u, k1, e1⟩ := isT_ok F tb r' hb
            exact .inl ⟨_, _, _, u, b, rfl, k1, ty, e1, h.ok hr _ (.bl _)⟩
      · exact h.elim
    · exact h.elim
  · exact h.elim

/-! ### fields -/
def fieldsD : D → Store → Option (Nat × List (Nat × D))
  | .ins c fs, _ => some (c, fs)
  | .obj l, S => match S[l]? with | some (.ins c fs) => some (c, fs) | _ => none
  | _, _ => none
theorem fieldsD_ok {d : D} {S : Store} {c : Nat} {fs : List (Nat × D)} {v : V} {μ : List Addr} {H : Hp} (hr : Rep T μ H S) (hv : DV T μ H v d) (h : fieldsD d S = some (c, fs)) :
    c < T.nC ∧ (∀ p ∈ fs, p.1 ∈ T.fl c) ∧ ∃ a dx vs, v = .ref a ∧ H a = some (.ins (T.cA c) dx vs) ∧ DFs T μ H vs fs := by
  cases hv with
  | ins hc hk e n q => cases h; exact ⟨hc, hk, _, _, _, rfl, e, q⟩
  | @obj a l e =>
    cases hs : S[l]? with
    | none => simp [fieldsD, hs] at h
    | some o =>
      cases o with
      | lst ds => simp [fieldsD, hs] at h
      | ins c' gs =>
        simp [fieldsD, hs] at h
        obtain ⟨rfl, rfl⟩ := h
        obtain ⟨⟨_, hc, hk⟩, dx, vs, e1, q⟩ := hr.ob l a _ e hs
        exact ⟨hc, hk, _, _, _, rfl, e1, q⟩
  | _ => simp [fieldsD] at h
theorem lookup_mem {α : Type} : ∀ {l : List (Nat × α)} {f : Nat} {x : α}, l.lookup f = some x → (f, x) ∈ l
  | [], _, _, h => by simp at h
  | (g, y) :: l, f, x, h => by
    rw [List.lookup_cons] at h
    cases hb : f == g with
    | true => rw [hb] at h; cases h; rw [beq_iff_eq.mp hb]; exact List.mem_cons_self
    | false => rw [hb] at h; exact List.mem_cons_of_mem _ (lookup_mem h)
def gFld (f : Nat) (d : D) (S : Store) : Res D := match fieldsD d S with
  | some p => (match p.2.lookup f with | some x => .ok x S | none => .bad)
  | none => .bad
def fFld (f : Nat) (e : FE) : FE := fun ρ S => (e ρ S).bind fun d S1 => gFld f d S1
theorem de_fld (F : CF T) {e : Expr} {fe : FE} {f : Nat} {x : Str} {pos : Pos} (hK : T.K = X.K) (hx : x = T.nm f) (he : PE X e (tE T E fe)) (hb : attributeBase e x X.env (eval e X.env) = eval e X.env := by rfl) : PE X (.Attribute e x pos) (tE T E (fFld f fe)) :=
  peW (pe_fld he hb) fun σ H Q ⟨ρ, S, μ, hee, hr, hf⟩ => ⟨ρ, S, μ, hee, hr, (Fin.bind hf).mono fun d S1 μ1 H1 st1 r1 h1 v hv => by
    unfold gFld at h1
    split at h1
    · rename_i p hp
      obtain ⟨c, fs⟩ := p
      split at h1
      · rename_i y hy
        obtain ⟨hc, hk, a, dx, vs, rfl, e1, q⟩ := fieldsD_ok r1 hv hp
        have hm : f ∈ T.fl c := hk _ (lookup_mem hy)
        obtain ⟨w, hw, rw'⟩ := q.look (F.low c hc f hm) hy
        subst hx
        exact ⟨a, T.cA c, dx, vs, w, rfl, e1, hK ▸ F.cls c hc, hK ▸ F.noA c hc f hm, hw, h1.ok r1 _ rw'⟩
      · exact h1.elim
    · exact h1.elim⟩

/-! ### methods of lists and tuples -/
abbrev GM := D → List D → Store → Res D
def isL (d : D) (S : Store) : Bool := (items d S).isSome
/-- o.m(..), o a list -/
def fMthL (g : GM) (fo : FE) (fs : FL) : FE := fun ρ S => (fo ρ S).bind fun d S1 => if isL d S1 = true then (fs ρ S1).bind fun ds S2 => g d ds S2 else .bad
/-- o.m(..), o a tuple -/
def fMthT (g : GM) (fo : FE) (fs : FL) : FE := fun ρ S => (fo ρ S).bind fun d S1 => match d with | .tup _ => (fs ρ S1).bind fun ds S2 => g d ds S2 | _ => .bad
def OkM (T : Tb) (E : XK) (r : V → List V → Hp → VK → Prop) (g : GM) : Prop := ∀ (d : D) (ds : List D) (v : V) (vs : List V) (S : Store) (μ : List Addr) (H : Hp) (Q : VK), DV T μ H v d → DVs T μ H vs ds → Rep T μ H S → Fin T E (kD T Q) μ H (g d ds S) → r v vs H Q
theorem de_mthL {name : Str} {id : String} {r : V → List V → Hp → VK → Prop} {g : GM} {o e : Expr} {es : List Expr} {fo : FE} {fs : FL} {apos cpos : Pos} (hK : T.K = X.K) (slot : Slot "list" name id) (hty : typeOf (.builtin id) = pure (.type "method_descriptor")) (hm : MtR X id r) (hg : OkM T E r g) (ho : PE X o (tE T E fo)) (ha : PA X (e :: es) (tA T E fs))
    (hbase : attributeBase o name X.env (eval o X.env) = eval o X.env := by rfl)
    (hfew : ((backTo cpos (starEach (e :: es) X.env)).all (fun x => !x.1) && (backToKw cpos (keywordEach [] X.env)).all (fun x => x.1.isSome)
      && decide ((e :: es).length + ([] : List Keyword).length + (if ([] : List Keyword).isEmpty then 0 else 1) < 30)) = true := by rfl)
    (hline : (apos.endLine == cpos.line) = true := by rfl) (hs : starEach (e :: es) X.env = (false, eval e X.env) :: starEach es X.env := by rfl) (hplain : (backTo cpos (starEach es X.env)).any (·.1) = false := by rfl) :
    PE X (.Call (.Attribute o name apos) (e :: es) [] cpos) (tE T E (fMthL g fo fs)) :=
  peW (pe_bm PySem.F.plainAttrs_list slot hty hm ho ha hbase hfew hline hs hplain) fun σ H Q ⟨ρ, S, μ, hee, hr, hf⟩ =>
    ⟨ρ, S, μ, hee, hr, (Fin.bind hf).mono fun d S1 μ1 H1 st1 r1 h1 v hv => by
      split at h1
      · rename_i hl
        obtain ⟨ds, hds⟩ := Option.isSome_iff_exists.mp hl
        obtain ⟨a, xs, rfl, s, q⟩ := items_sq r1 hv hds
        refine ⟨.inl ⟨rfl, xs, hK ▸ s⟩, ρ, S1, μ1, hee.step st1 hr.r0, r1, (Fin.bind h1).mono fun es S2 μ2 H2 st2 r2 h2 vs hvs => ?_⟩
        exact hg d es _ vs S2 μ2 H2 Q (hv.step st2 r1.r0) hvs r2 h2
      · exact h1.elim⟩
theorem Inv.tupX {pins : List (Addr × Obj)} {σ : L2.St} {H : Hp} {s : Shared} {a : Addr} {xs : List V} (I : Inv X pins σ H s) (h : TupX X.K H a xs) : ∃ o, s.heap.get? a = some o ∧ o.cls = .type "tuple" ∧ o.dict = none := by
  rcases h with ⟨o, h, d⟩ | ⟨o, its, n, h1, h2, h3, _⟩
  · obtain ⟨e, z, us, r, ⟨o', e', c, _⟩⟩ := I.hok a _ h
    rw [e] at e'; cases e'
    exact ⟨o, e, c, d⟩
  · exact ⟨o, I.kIn a o h1, h2, h3⟩
theorem de_mthT {name : Str} {id : String} {r : V → List V → Hp → VK → Prop} {g : GM} {o e : Expr} {es : List Expr} {fo : FE} {fs : FL} {apos cpos : Pos} (hK : T.K = X.K) (slot : Slot "tuple" name id) (hty : typeOf (.builtin id) = pure (.type "method_descriptor")) (hm : MtR X id r) (hg : OkM T E r g) (ho : PE X o (tE T E fo)) (ha : PA X (e :: es) (tA T E fs))
    (hbase : attributeBase o name X.env (eval o X.env) = eval o X.env := by rfl)
    (hfew : ((backTo cpos (starEach (e :: es) X.env)).all (fun x => !x.1) && (backToKw cpos (keywordEach [] X.env)).all (fun x => x.1.isSome)
      && decide ((e :: es).length + ([] : List Keyword).length + (if ([] : List Keyword).isEmpty then 0 else 1) < 30)) = true := by rfl)
    (hline : (apos.endLine == cpos.line) = true := by rfl) (hs : starEach (e :: es) X.env = (false, eval e X.env) :: starEach es X.env := by rfl) (hplain : (backTo cpos (starEach es X.env)).any (·.1) = false := by rfl) :
    PE X (.Call (.Attribute o name apos) (e :: es) [] cpos) (tE T E (fMthT g fo fs)) :=
  ⟨fun pins s σ H Q I ⟨ρ, S, μ, hee, hr, hf⟩ => by
    have hq : tE T E fo σ H fun x H1 => (∃ a xs, x = .ref a ∧ TupX X.K H1 a xs) ∧ tA T E fs σ H1 fun vs H2 => r x vs H2 Q :=
      ⟨ρ, S, μ, hee, hr, (Fin.bind hf).mono fun d S1 μ1 H1 st1 r1 h1 v hv => by
        cases hv with
        | tup s q =>
          refine ⟨⟨_, _, rfl, hK ▸ s⟩, ρ, S1, μ1, hee.step st1 hr.r0, r1, (Fin.bind h1).mono fun es S2 μ2 H2 st2 r2 h2 vs hvs => ?_⟩
          exact hg _ es _ vs S2 μ2 H2 Q ((DV.tup s q).step st2 r1.r0) hvs r2 h2
        | _ => exact h1.elim⟩
    refine wpAny_Call_method_late hbase hfew hline rfl (thn (ho.run pins s σ H _ I hq) fun v s1 ⟨x, H1, I1, r1, ⟨a, xs, ex, tx⟩, q1⟩ => ?_)
    subst ex
    obtain rfl : v = Value.ref a := r1
    obtain ⟨o, e1, e2, e3⟩ := Inv.tupX I1 tx
    refine ⟨"tuple", id, PySem.F.plainAttrs_tuple, slot, hty, ⟨o, e1, e2⟩, fun b hb => ?_, ?_⟩
    · cases hb; exact ⟨o, e1, e3⟩
    · have hA := ha.run cpos pins s1 σ H1 _ I1 q1
      rw [hs] at hA ⊢
      refine Calls.callWith_builtin (by show (false || (backTo cpos (starEach es X.env)).any (·.1)) = false; rw [hplain] <;> rfl) (Calls.evalArgs_plain ?_)
      exact thn hA fun us s2 ⟨vs, H2, I2, r2, q2⟩ => hm pins s2 σ H2 (.ref a) vs _ us Q I2 rfl r2 q2⟩
def gAppend : GM := fun d ds S => match d, ds with
  | .obj l, [x] => (match S[l]? with
    | some (.lst xs) => if pur x = true ∧ xs.length < lineN then .ok .non (S.set l (.lst (xs ++ [x]))) else .bad
    | _ => .bad)
  | _, _ => .bad
theorem pureL_append : ∀ {xs ys : List D}, purL (xs ++ ys) = (purL xs && purL ys)
  | [], ys => by simp [purL]
  | x :: xs, ys => by simp [purL, pureL_append, Bool.and_assoc]
theorem pureL_set : ∀ {xs : List D} {i : Nat} {x : D}, purL xs = true → pur x = true → purL (xs.set i x) = true
  | [], _, _, _, _ => rfl
  | y :: ys, 0, x, h, hx => by
    have := Bool.and_eq_true_iff.mp h
    exact Bool.and_eq_true_iff.mpr ⟨hx, this.2⟩
  | y :: ys, i + 1, x, h, hx => by
    have := Bool.and_eq_true_iff.mp h
    exact Bool.and_eq_true_iff.mpr ⟨this.1, pureL_set this.2 hx⟩
theorem ok_append : OkM T E rAppend gAppend := fun d ds v vs S μ H Q hv hvs hr h => by
  unfold gAppend at h
  split at h
  · rename_i l x
    split at h
    · rename_i xs hs
      split at h
      · rename_i hp
        cases hv with
        | obj e =>
          cases hvs with
          | cons r q =>
            cases q
            obtain ⟨pp, ys, e1, q1⟩ := hr.ob l _ _ e hs
            refine ⟨_, ys, _, rfl, rfl, e1, by rw [q1.length]; exact lineN_lt hp.2, ?_⟩
            exact h.at (Step.put e1 (List.mem_of_getElem? e) (.inl ⟨_, rfl⟩)) (hr.putL e (by rw [pureL_append, pp]; simp [purL, hp.1]) (q1.append (.cons r .nil))) _ .non
      · exact h.elim
    · exact h.elim
  · exact h.elim
def strsOf : List D → Option (List Str)
  | [] => some []
  | .str x :: ds => (strsOf ds).map (x :: ·)
  | _ :: _ => none
theorem strsOf_eq : ∀ {ds : List D} {ys : List Str}, strsOf ds = some ys → ds = ys.map D.str
  | [], _, h => by cases h; rfl
  | .str i :: ds, ns, h => by
    simp only [strsOf, Option.map_eq_some_iff] at h
    obtain ⟨ms, h1, rfl⟩ := h
    rw [strsOf_eq h1]; rfl
@[simp] theorem strsOf_map (ns : List Str) : strsOf (ns.map D.str) = some ns := by
  induction ns with
  | nil => rfl
  | cons n ns ih => simp [strsOf, ih]
theorem DVs.strs {μ : List Addr} {H : Hp} : ∀ {vs : List V} {ns : List Str}, DVs T μ H vs (ns.map D.str) → vs = ns.map V.str
  | _, [], .nil => rfl
  | _, _ :: _, .cons (.str i) t => by rw [List.map_cons, DVs.strs t]
theorem vals_strs : ∀ {ys : List Str} {us : List Value}, Vals (ys.map V.str) us → StrsAre us ys
  | [], _, .nil => .nil
  | y :: ys, _, .cons ⟨t, e⟩ q => by subst e; exact .cons y t (vals_strs q)
def gIndex (d : D) (xs : List D) (ds : List D) (S : Store) : Res D := match ds with
  | [.int i] => (match intsOf xs with | some ns => if i ∈ ns then .ok (.int (ns.idxOf i : Nat)) S else .bad | none => .bad)
  | [.str z] => (match strsOf xs with | some ys => if z ∈ ys then .ok (.int (ys.idxOf z : Nat)) S else .bad | none => .bad)
  | _ => .bad
def gIndexL : GM := fun d ds S => match items d S with | some xs => gIndex d xs ds S | none => .bad
def gIndexT : GM := fun d ds S => match d with | .tup xs => gIndex d xs ds S | _ => .bad
def rIdxL (K : PySem.W.Frag) : V → List V → Hp → VK → Prop := fun x xs H Q => ∃ a : Addr, x = .ref a ∧ ((∃ (ns : List Int) (i : Int), xs = [.int i] ∧ SqL K H a (ns.map V.int) ∧ i ∈ ns ∧ Q (.int (ns.idxOf i : Nat)) H) ∨ ∃ (ys : List Str) (z : Str), xs = [.str z] ∧ SqL K H a (ys.map V.str) ∧ z ∈ ys ∧ Q (.int (ys.idxOf z : Nat)) H)
def rIdxT (K : PySem.W.Frag) : V → List V → Hp → VK → Prop := fun x xs H Q => ∃ a : Addr, x = .ref a ∧ ((∃ (ns : List Int) (i : Int), xs = [.int i] ∧ SqT K H a (ns.map V.int) ∧ i ∈ ns ∧ Q (.int (ns.idxOf i : Nat)) H) ∨ ∃ (ys : List Str) (z : Str), xs = [.str z] ∧ SqT K H a (ys.map V.str) ∧ z ∈ ys ∧ Q (.int (ys.idxOf z : Nat)) H)
theorem mt_idxL : MtR X "list.index" (rIdxL X.K) := by
  intro pins s σ H x xs v us Q I rx rs h
  obtain ⟨a, rfl, ⟨ns, i, rfl, hq, hi, q⟩ | ⟨ys, z, rfl, hq, hi, q⟩⟩ := h
  · cases rx
    obtain ⟨u, rfl, t, rfl⟩ := vals1 rs
    obtain ⟨its, r, pl, hz⟩ := I.list hq
    exact PySem.SeqAt.list_index_ints pl.isList r.ints (by simpa using hz) hi ⟨.int _, H, I.tok _, ⟨_, rfl⟩, q⟩
  · cases rx
    obtain ⟨u, rfl, t, rfl⟩ := vals1 rs
    obtain ⟨its, r, pl, hz⟩ := I.list hq
    exact PySem.SeqAt.list_index_strs pl.isList (vals_strs r) (by simpa using hz) hi ⟨.int _, H, I.tok _, ⟨_, rfl⟩, q⟩
theorem mt_idxT : MtR X "tuple.index" (rIdxT X.K) := by
  intro pins s σ H x xs v us Q I rx rs h
  obtain ⟨a, rfl, ⟨ns, i, rfl, hq, hi, q⟩ | ⟨ys, z, rfl, hq, hi, q⟩⟩ := h
  · cases rx
    obtain ⟨u, rfl, t, rfl⟩ := vals1 rs
    obtain ⟨its, r, pl, hz⟩ := I.tuple hq
    exact PySem.SeqAt.tuple_index_ints pl r.ints hi ⟨.int _, H, I.tok _, ⟨_, rfl⟩, q⟩
  · cases rx
    obtain ⟨u, rfl, t, rfl⟩ := vals1 rs
    obtain ⟨its, r, pl, hz⟩ := I.tuple hq
    exact PySem.SeqAt.tuple_index_strs pl (vals_strs r) hi ⟨.int _, H, I.tok _, ⟨_, rfl⟩, q⟩
theorem ok_idxL : OkM T E (rIdxL T.K) gIndexL := fun d ds v vs S μ H Q hv hvs hr h => by
  unfold gIndexL at h
  split at h
  · rename_i xs hx
    obtain ⟨a, ws, rfl, s, q⟩ := items_sq hr hv hx
    refine ⟨a, rfl, ?_⟩
    unfold gIndex at h
    split at h
    · split at h
      · rename_i ns hn
        split at h
        · rename_i hi
          cases hvs with
          | cons r q' => cases q'; cases r; rw [intsOf_eq hn] at q; rw [q.ints] at s; exact .inl ⟨ns, _, rfl, s, hi, h.ok hr _ (.int _)⟩
        · exact h.elim
      · exact h.elim
    · split at h
      · rename_i ns hn
        split at h
        · rename_i hi
          cases hvs with
          | cons r q' => cases q'; cases r; rw [strsOf_eq hn] at q; rw [q.strs] at s; exact .inr ⟨ns, _, rfl, s, hi, h.ok hr _ (.int _)⟩
        · exact h.elim
      · exact h.elim
    · exact h.elim
  · exact h.elim
theorem ok_idxT : OkM T E (rIdxT T.K) gIndexT := fun d ds v vs S μ H Q hv hvs hr h => by
  unfold gIndexT at h
  split at h
  · rename_i xs
    cases hv with
    | tup s q =>
      have s := s.sq
      refine ⟨_, rfl, ?_⟩
      unfold gIndex at h
      split at h
      · split at h
        · rename_i ns hn
          split at h
          · rename_i hi
            cases hvs with
            | cons r q' => cases q'; cases r; rw [intsOf_eq hn] at q; rw [q.ints] at s; exact .inl ⟨ns, _, rfl, s, hi, h.ok hr _ (.int _)⟩
          · exact h.elim
        · exact h.elim
      · split at h
        · rename_i ns hn
          split at h
          · rename_i hi
            cases hvs with
            | cons r q' => cases q'; cases r; rw [strsOf_eq hn] at q; rw [q.strs] at s; exact .inr ⟨ns, _, rfl, s, hi, h.ok hr _ (.int _)⟩
          · exact h.elim
        · exact h.elim
      · exact h.elim
  · exact h.elim
end
end DL

set_option Elab.async false
set_option linter.all false
set_option maxRecDepth 100000
set_option maxHeartbeats 4000000
/-! DL6: statements without loops; targets. -/
namespace DL
open PySem PySem.Spec PyProof.Rows L2

inductive Out where
  | nx (ρ : Ev) (S : Store)
  | rt (d : D) (S : Store)
  | exc (c : Nat) (fs : List (Nat × D)) (S : Store)
  | bad
def Res.out {α : Type} (r : Res α) (f : α → Store → Out) : Out := match r with
  | .ok a S => f a S
  | .exc c fs S => .exc c fs S
  | .bad => .bad
@[simp] theorem Res.out_ok {α : Type} (a : α) (S : Store) (f : α → Store → Out) : (Res.ok a S).out f = f a S := rfl
@[simp] theorem Res.out_exc {α : Type} (c : Nat) (fs : List (Nat × D)) (S : Store) (f : α → Store → Out) : (Res.exc c fs S : Res α).out f = .exc c fs S := rfl
@[simp] theorem Res.out_bad {α : Type} (f : α → Store → Out) : (Res.bad : Res α).out f = .bad := rfl
def Out.next (o : Out) (f : Ev → Store → Out) : Out := match o with | .nx ρ S => f ρ S | o => o
@[simp] theorem Out.next_nx (ρ : Ev) (S : Store) (f : Ev → Store → Out) : (Out.nx ρ S).next f = f ρ S := rfl
@[simp] theorem Out.next_rt (d : D) (S : Store) (f : Ev → Store → Out) : (Out.rt d S).next f = .rt d S := rfl
@[simp] theorem Out.next_exc (c : Nat) (fs : List (Nat × D)) (S : Store) (f : Ev → Store → Out) : (Out.exc c fs S).next f = .exc c fs S := rfl
@[simp] theorem Out.next_bad (f : Ev → Store → Out) : Out.bad.next f = .bad := rfl
abbrev FS := Ev → Store → Out
def FinS (T : Tb) (E : XK) (D : Ends) (μ : List Addr) (H : Hp) : Out → Prop
  | .nx ρ S => ∀ σ' μ' H', Step μ H μ' H' → Rep T μ' H' S → EnvR T μ' H' σ' ρ → D.nx σ' H'
  | .rt d S => ∀ v μ' H', Step μ H μ' H' → Rep T μ' H' S → DV T μ' H' v d → D.rt v H'
  | .exc c fs S => ∀ dx μ' H', Step μ H μ' H' → Rep T μ' H' S → XR T μ' H' dx fs → E (.ref (T.eA c)) (some dx) H'
  | .bad => False
def tS (T : Tb) (E : XK) (f : FS) : TS := fun D σ H => ∃ ρ S μ, EnvR T μ H σ ρ ∧ Rep T μ H S ∧ FinS T E D μ H (f ρ S)
section
variable {T : Tb} {E : XK} {D : Ends} {α : Type} {μ μ1 : List Addr} {H H1 : Hp}
theorem FinS.step {o : Out} (s : Step μ H μ1 H1) (h : FinS T E D μ H o) : FinS T E D μ1 H1 o := by
  cases o with
  | nx ρ S => exact fun σ' μ' H' st rp e => h σ' μ' H' (s.trans st) rp e
  | rt d S => exact fun v μ' H' st rp e => h v μ' H' (s.trans st) rp e
  | exc c fs S => exact fun dx μ' H' st rp x => h dx μ' H' (s.trans st) rp x
  | bad => exact h
theorem FinS.bind {r : Res α} {f : α → Store → Out} (h : FinS T E D μ H (r.out f)) : Fin T E (fun a S1 μ1 H1 => FinS T E D μ1 H1 (f a S1)) μ H r := by
  cases r with
  | ok a S => exact fun μ' H' st _ => FinS.step st h
  | exc c fs S => exact h
  | bad => exact h
theorem FinS.nx {ρ : Ev} {S : Store} {σ : L2.St} (h : FinS T E D μ H (.nx ρ S)) (hr : Rep T μ H S) (he : EnvR T μ H σ ρ) : D.nx σ H := h σ μ H (Step.refl _ _) hr he
theorem FinS.rt {d : DL.D} {S : Store} {v : V} (h : FinS T E D μ H (.rt d S)) (hr : Rep T μ H S) (he : DV T μ H v d) : D.rt v H := h v μ H (Step.refl _ _) hr he
/-- what follows the next statement -/
theorem FinS.seq {o : Out} {g : FS} {D' : Ends} (h : FinS T E D μ H (o.next g)) (hn : D'.nx = tS T E g D) (hrt : D'.rt = D.rt) : FinS T E D' μ H o := by
  cases o with
  | nx ρ S => exact fun σ' μ' H' st rp e => by rw [hn]; exact ⟨ρ, S, μ', e, rp, FinS.step st h⟩
  | rt d S => exact fun v μ' H' st rp e => by rw [hrt]; exact h v μ' H' st rp e
  | exc c fs S => exact h
  | bad => exact h
end
theorem psW {X : Cx} {st : Stmt} {t t' : TS} (h : PS X st t) (w : ∀ D σ H, t' D σ H → t D σ H) : PS X st t' := ⟨fun pins s σ H D I q => h.run pins s σ H D I (w D σ H q)⟩
theorem pssW {X : Cx} {st : List Stmt} {t t' : TS} (h : PSs X st t) (w : ∀ D σ H, t' D σ H → t D σ H) : PSs X st t' := ⟨fun pins s σ H D I q => h.run pins s σ H D I (w D σ H q)⟩
theorem pgW {X : Cx} {e : Expr} {t t' : TG} (h : PG X e t) (w : ∀ v σ H Q, t' v σ H Q → t v σ H Q) : PG X e t' := ⟨fun pins s σ H v u Q I r q => h.run pins s σ H v u Q I r (w v σ H Q q)⟩
theorem pgsW {X : Cx} {e : List Expr} {t t' : TGs} (h : PGs X e t) (w : ∀ v σ H Q, t' v σ H Q → t v σ H Q) : PGs X e t' := ⟨fun pins s σ H v u Q I r q => h.run pins s σ H v u Q I r (w v σ H Q q)⟩

section
variable {X : Cx} {T : Tb} {E : XK} {k : Nat}
def sNil : FS := fun ρ S => .nx ρ S
def sCons (f g : FS) : FS := fun ρ S => (f ρ S).next g
theorem dss_nil : PSs X [] (tS T E sNil) := pssW pss_nil fun D σ H ⟨ρ, S, μ, he, hr, hf⟩ => hf.nx hr he
theorem dss_cons {st : Stmt} {rest : List Stmt} {f g : FS} (h1 : PS X st (tS T E f)) (h2 : PSs X rest (tS T E g)) : PSs X (st :: rest) (tS T E (sCons f g)) :=
  pssW (pss_cons h1 h2) fun D σ H ⟨ρ, S, μ, he, hr, hf⟩ => ⟨ρ, S, μ, he, hr, hf.seq rfl rfl⟩
theorem dss_one {st : Stmt} {f : FS} (h1 : PS X st (tS T E f)) : PSs X [st] (tS T E f) := pss_one h1
def sExpr (f : FE) : FS := fun ρ S => (f ρ S).out fun _ S1 => .nx ρ S1
theorem ds_expr {e : Expr} {f : FE} {pos : Pos} (he : PE X e (tE T E f)) (hs : swapsWith e none pos.line X.env = Pure.pure false := by rfl) : PS X (.Expr e pos) (tS T E (sExpr f)) :=
  psW (ps_expr he hs) fun D σ H ⟨ρ, S, μ, hee, hr, hf⟩ => ⟨ρ, S, μ, hee, hr, hf.bind.mono fun d S1 μ1 H1 st1 r1 h1 v hv => h1.nx r1 (hee.step st1 hr.r0)⟩
def sRet (f : FE) : FS := fun ρ S => (f ρ S).out fun d S1 => .rt d S1
theorem ds_ret {e : Expr} {f : FE} {pos : Pos} (he : PE X e (tE T E f)) : PS X (.Return (some e) pos) (tS T E (sRet f)) :=
  psW (ps_ret he) fun D σ H ⟨ρ, S, μ, hee, hr, hf⟩ => ⟨ρ, S, μ, hee, hr, hf.bind.mono fun d S1 μ1 H1 st1 r1 h1 v hv => h1.rt r1 hv⟩
def sIf (c : FT) (f g : FS) : FS := fun ρ S => (c ρ S).out fun b S1 => if b = true then f ρ S1 else g ρ S1
theorem ds_if {c : Expr} {a b : List Stmt} {fc : FT} {f g : FS} {pos : Pos} (hc : PT X c (tT T E fc)) (ha : PSs X a (tS T E f)) (hb : PSs X b (tS T E g)) : PS X (.If c a b pos) (tS T E (sIf fc f g)) :=
  psW (ps_if hc ha hb) fun D σ H ⟨ρ, S, μ, hee, hr, hf⟩ => ⟨ρ, S, μ, hee, hr, hf.bind.mono fun d S1 μ1 H1 st1 r1 h1 => by
    cases d with
    | true => exact iteT ⟨ρ, S1, μ1, hee.step st1 hr.r0, r1, h1⟩
    | false => exact iteF ⟨ρ, S1, μ1, hee.step st1 hr.r0, r1, h1⟩⟩
def sPass : FS := fun ρ S => .nx ρ S
theorem ds_pass {pos : Pos} : PS X (.Pass pos) (tS T E sPass) := psW ps_pass fun D σ H ⟨ρ, S, μ, he, hr, hf⟩ => hf.nx hr he

/-! ### targets -/
abbrev FG := D → Ev → Store → Res Ev
abbrev FGs := List D → Ev → Store → Res Ev
abbrev kG (T : Tb) (Q : L2.St → Hp → Prop) : Ev → Store → List Addr → Hp → Prop := fun ρ _ μ H => ∀ σ, EnvR T μ H σ ρ → Q σ H
def tG (T : Tb) (E : XK) (p : FG) : TG := fun v σ H Q => ∃ ρ S μ d, EnvR T μ H σ ρ ∧ Rep T μ H S ∧ DV T μ H v d ∧ Fin T E (kG T Q) μ H (p d ρ S)
def tGs (T : Tb) (E : XK) (p : FGs) : TGs := fun vs σ H Q => ∃ ρ S μ ds, EnvR T μ H σ ρ ∧ Rep T μ H S ∧ DVs T μ H vs ds ∧ Fin T E (kG T Q) μ H (p ds ρ S)
def pName (i : Nat) : FG := fun d ρ S => match d with | .row _ => .bad | d => .ok (ρ.set i (some d)) S
def pNil : FGs := fun ds ρ S => match ds with | [] => .ok ρ S | _ => .bad
def pCons (p : FG) (q : FGs) : FGs := fun ds ρ S => match ds with | d :: r => (p d ρ S).bind fun ρ1 S1 => q r ρ1 S1 | [] => .bad
def pTup (n : Nat) (q : FGs) : FG := fun d ρ S => match d with
  | .tup ds => if ds.length = n then q ds ρ S else .bad
  | .row ds => if ds.length = n then q ds ρ S else .bad
  | _ => .bad
theorem dg_name {i : Nat} {x : Str} {pos : Pos} (h : PG X (.Name x pos) (gName i)) : PG X (.Name x pos) (tG T E (pName i)) :=
  pgW h fun v σ H Q ⟨ρ, S, μ, d, he, hr, hv, hf⟩ => by
    unfold pName at hf
    split at hf
    · exact hf.elim
    · exact hf.ok hr _ (he.set hv)
theorem dgs_nil : PGs X [] (tGs T E pNil) := pgsW pgs_nil fun vs σ H Q ⟨ρ, S, μ, ds, he, hr, hv, hf⟩ => by
  unfold pNil at hf
  split at hf
  · cases hv; exact ⟨rfl, hf.ok hr _ he⟩
  · exact hf.elim
theorem dgs_cons {e : Expr} {es : List Expr} {p : FG} {q : FGs} (h1 : PG X e (tG T E p)) (h2 : PGs X es (tGs T E q)) (hs : (assignEach (e :: es) X.env).map (·.2) = assign e X.env :: (assignEach es X.env).map (·.2) := by rfl) : PGs X (e :: es) (tGs T E (pCons p q)) :=
  pgsW (pgs_cons h1 h2 hs) fun vs σ H Q ⟨ρ, S, μ, ds, he, hr, hv, hf⟩ => by
    unfold pCons at hf
    split at hf
    · cases hv with
      | cons r q' =>
        exact ⟨_, _, rfl, ρ, S, μ, _, he, hr, r, (Fin.bind hf).mono fun ρ1 S1 μ1 H1 st1 r1 h1 σ1 he1 => ⟨ρ1, S1, μ1, _, he1, r1, q'.step st1 hr.r0, h1⟩⟩
    · exact hf.elim
theorem dg_tup {es : List Expr} {n k : Nat} {q : FGs} {pos : Pos} (hK : T.K = X.K) (hc : X.calm = true) (h : PGs X es (tGs T E q)) (hn : (assignEach es X.env).length = n := by rfl) (hst : (assignEach es X.env).findIdx? (·.1) = none := by rfl) : PG X (.Tuple es k pos) (tG T E (pTup n q)) :=
  pgW (pg_tup hc h hn hst) fun v σ H Q ⟨ρ, S, μ, d, he, hr, hv, hf⟩ => by
    unfold pTup at hf
    split at hf
    · split at hf
      · rename_i hl
        cases hv with
        | tup s q => exact ⟨_, _, rfl, hK ▸ s.sq, q.length.trans hl, ρ, S, μ, _, he, hr, q, hf⟩
      · exact hf.elim
    · split at hf
      · rename_i hl
        cases hv with
        | row s q => exact ⟨_, _, rfl, hK ▸ s, q.length.trans hl, ρ, S, μ, _, he, hr, q, hf⟩
      · exact hf.elim
    · exact hf.elim
/-- target = value -/
def sAsg (f : FE) (p : FG) : FS := fun ρ S => (f ρ S).out fun d S1 => (p d ρ S1).out fun ρ1 S2 => .nx ρ1 S2
theorem ts_asg {f : FE} {p : FG} : ∀ D σ H, tS T E (sAsg f p) D σ H → tAsg (tE T E f) (tG T E p) D σ H := fun D σ H ⟨ρ, S, μ, hee, hr, hf⟩ =>
  ⟨ρ, S, μ, hee, hr, hf.bind.mono fun d S1 μ1 H1 st1 r1 h1 v hv => ⟨ρ, S1, μ1, d, hee.step st1 hr.r0, r1, hv, h1.bind.mono fun ρ1 S2 μ2 H2 st2 r2 h2 σ2 he2 => h2.nx r2 he2⟩⟩
theorem ds_asg {tg e : Expr} {f : FE} {p : FG} {pos : Pos} (he : PE X e (tE T E f)) (hg : PG X tg (tG T E p)) (hs : swapsWithSole [tg] e pos.line X.env = Pure.pure false := by rfl) (hw : swappedStores [tg] e X.env = Pure.pure none := by rfl)
    (h1 : (assignEach [tg] X.env).map (·.2) = [assign tg X.env] := by rfl) : PS X (.Assign [tg] e pos) (tS T E (sAsg f p)) := psW (ps_asg he hg hs hw h1) ts_asg
theorem gName_of {i : Nat} {v : V} {σ : L2.St} {H : Hp} {Q : L2.St → Hp → Prop} (h : tG T E (pName i) v σ H Q) : gName i v σ H Q := by
  obtain ⟨ρ, S, μ, d, he, hr, hv, hf⟩ := h
  unfold pName at hf
  split at hf
  · exact hf.elim
  · exact hf.ok hr _ (he.set hv)
theorem tAsg_name {i : Nat} {te : TE} (hm : ∀ σ H (Q Q' : VK), (∀ v H', Q v H' → Q' v H') → te σ H Q → te σ H Q') : ∀ D σ H, tAsg te (tG T E (pName i)) D σ H → tAsg te (gName i) D σ H := fun D σ H h =>
  hm σ H _ _ (fun v H' q => gName_of q) h
theorem tE_mono {f : FE} : ∀ σ H (Q Q' : VK), (∀ v H', Q v H' → Q' v H') → tE T E f σ H Q → tE T E f σ H Q' := fun σ H Q Q' w ⟨ρ, S, μ, he, hr, hf⟩ =>
  ⟨ρ, S, μ, he, hr, hf.mono fun d S1 μ1 H1 st1 r1 h1 v hv => w v H1 (h1 v hv)⟩
/-- name = value -/
theorem ds_set {i : Nat} {x : Str} {e : Expr} {f : FE} {pos pos' : Pos} (h : PS X (.Assign [.Name x pos'] e pos) (tAsg (tE T E f) (gName i))) : PS X (.Assign [.Name x pos'] e pos) (tS T E (sAsg f (pName i))) :=
  psW h fun D σ H q => tAsg_name tE_mono D σ H (ts_asg D σ H q)
/-- a, b = x, y with plain local names -/
def sPar (i j : Nat) (g : FL) : FS := fun ρ S => (g ρ S).out fun ds S1 => match ds with | [x, y] => .nx ((ρ.set i (some x)).set j (some y)) S1 | _ => .bad
theorem ds_par {i j : Nat} {st : Stmt} {g : FL} (h : PS X st (tPar i j (tA T E g))) : PS X st (tS T E (sPar i j g)) :=
  psW h fun D σ H ⟨ρ, S, μ, hee, hr, hf⟩ => ⟨ρ, S, μ, hee, hr, hf.bind.mono fun ds S1 μ1 H1 st1 r1 h1 vs hvs => by
    split at h1
    · cases hvs with
      | cons a q => cases q with
        | cons b q => cases q; exact ⟨_, _, rfl, h1.nx r1 (((hee.step st1 hr.r0).set a).set b)⟩
    · exact h1.elim⟩
def sPar3 (i j l : Nat) (g : FL) : FS := fun ρ S => (g ρ S).out fun ds S1 => match ds with | [x, y, z] => .nx (((ρ.set i (some x)).set j (some y)).set l (some z)) S1 | _ => .bad
theorem ds_par3 {i j l : Nat} {st : Stmt} {g : FL} (h : PS X st (tPar3 i j l (tA T E g))) : PS X st (tS T E (sPar3 i j l g)) :=
  psW h fun D σ H ⟨ρ, S, μ, hee, hr, hf⟩ => ⟨ρ, S, μ, hee, hr, hf.bind.mono fun ds S1 μ1 H1 st1 r1 h1 vs hvs => by
    split at h1
    · cases hvs with
      | cons a q => cases q with
        | cons b q => cases q with
          | cons c q => cases q; exact ⟨_, _, _, rfl, h1.nx r1 ((((hee.step st1 hr.r0).set a).set b).set c)⟩
    · exact h1.elim⟩
/-- name += int -/
def sAugI (i : Nat) (f : FE) : FS := fun ρ S => match ρ[i]? with
  | some (some (.int a)) => (f ρ S).out fun d S1 => match d with | .int b => .nx (ρ.set i (some (.int (a + b)))) S1 | _ => .bad
  | _ => .bad
theorem ds_augI {i : Nat} {x : Str} {e : Expr} {f : FE} {pos pos' : Pos} (h : PS X (.AugAssign (.Name x pos') .Add e pos) (tAug i (tE T E f) (ipI fun i j => i + j))) : PS X (.AugAssign (.Name x pos') .Add e pos) (tS T E (sAugI i f)) :=
  psW h fun D σ H ⟨ρ, S, μ, hee, hr, hf⟩ => by
    unfold sAugI at hf
    split at hf
    · rename_i a ha
      obtain ⟨v, e1, e2⟩ := hee.at_ i _ ha
      cases e2
      exact ⟨_, e1, ρ, S, μ, hee, hr, hf.bind.mono fun d S1 μ1 H1 st1 r1 h1 w hw => by
        split at h1
        · cases hw
          exact ⟨_, _, rfl, rfl, h1.nx r1 ((hee.step st1 hr.r0).set (.int _))⟩
        · exact h1.elim⟩
    · exact hf.elim
/-- xs[i] = v, a list of the store -/
def gSet (o i d : D) (S : Store) : Option Store := match o, i with
  | .obj l, .int j => (match S[l]? with
    | some (.lst xs) => if pur d = true then (match ixN xs.length j with | some n => some (S.set l (.lst (xs.set n d))) | none => none) else none
    | _ => none)
  | _, _ => none
def pSub (fo fi : FE) : FG := fun d ρ S => (fo ρ S).bind fun o S1 => (fi ρ S1).bind fun i S2 => match gSet o i d S2 with | some S3 => .ok ρ S3 | none => .bad
theorem dg_sub {o i : Expr} {fo fi : FE} {pos : Pos} (ho : PE X o (tE T E fo)) (hi : PE X i (tE T E fi))
    (ha : ∀ v, assign (.Subscript o i pos) X.env v = (do
      let ov ← holding [v] (eval o X.env)
      let iv ← holding [v, ov] (eval i X.env)
      standAt pos
      holding [v, ov, iv] (setItem ov iv v)
      release [v, ov, iv] []) := by intro _; rfl) : PG X (.Subscript o i pos) (tG T E (pSub fo fi)) :=
  pgW (pg_sub ho hi set_list ha) fun v σ H Q ⟨ρ, S, μ, d, he, hr, hv, hf⟩ =>
    ⟨ρ, S, μ, he, hr, (Fin.bind hf).mono fun x S1 μ1 H1 st1 r1 h1 a hx => ⟨ρ, S1, μ1, he.step st1 hr.r0, r1, (Fin.bind h1).mono fun y S2 μ2 H2 st2 r2 h2 b hy => by
      have he2 := (he.step st1 hr.r0).step st2 r1.r0
      have hv2 := (hv.step st1 hr.r0).step st2 r1.r0
      have hx2 := hx.step st2 r1.r0
      split at h2
      · rename_i S3 hs
        unfold gSet at hs
        split at hs
        · split at hs
          · rename_i xs hl
            split at hs
            · rename_i hp
              split at hs
              · rename_i n hn
                cases hs
                cases hy
                cases hx2 with
                | obj el =>
                  obtain ⟨pp, ys, e1, q1⟩ := r2.ob _ _ _ el hl
                  have st3 : Step μ2 H2 μ2 (upd H2 _ (.lst (ys.set n v))) := Step.put e1 (List.mem_of_getElem? el) (.inl ⟨_, rfl⟩)
                  exact ⟨_, ys, _, n, rfl, rfl, e1, by rw [q1.length]; exact hn, h2.at st3 (r2.putL el (pureL_set pp hp) (q1.set hv2 n)) σ (he2.step st3 r2.r0)⟩
              · cases hs
            · cases hs
          · cases hs
        · cases hs
      · exact h2.elim⟩⟩
/-- o.f = v, an instance that is being made -/
def gPut (c f : Nat) (o d : D) (S : Store) : Option Store := match o with
  | .obj l => (match S[l]? with
    | some (.ins c' fs) => if c' = c ∧ pur d = true ∧ fs.length < 100 then some (S.set l (.ins c (putD f d fs))) else none
    | _ => none)
  | _ => none
def pFld (c f : Nat) (fo : FE) : FG := fun d ρ S => (fo ρ S).bind fun o S1 => match gPut c f o d S1 with | some S3 => .ok ρ S3 | none => .bad
def gFldT (K : PySem.W.Frag) (f : Str) (to : TE) : TG := fun v σ H Q => to σ H fun x H2 => ∃ a C dx fs, x = .ref a ∧ H2 a = some (.ins C dx fs) ∧ Cls K C ∧ NoAttr K C f ∧ fs.length < 1000 ∧ Q σ (upd H2 a (.ins C dx (putF f v fs)))
theorem pg_fldT {o : Expr} {to : TE} {f : Str} {pos : Pos} (ho : PE X o to) : PG X (.Attribute o f pos) (gFldT X.K f to) := by
  refine ⟨fun pins s σ H v u Q I r h => ?_⟩
  rw [assign_Attribute]
  refine wpAny_bind (wpAny_holding (thn (ho.run pins s σ H _ I h) fun ov s1 ⟨x, H1, I1, rx, a, C, dx, fs, ex, ea, c, n, l, q⟩ => ?_))
  subst ex
  obtain rfl : ov = Value.ref a := rx
  refine wpAny_bind (wpAny_standAt (wpAny_bind (wpAny_holding (setattr_ok I1 ea c n l r fun s3 I3 => wpAny_release ⟨σ, _, I3, q⟩))))
theorem putD_mem {f : Nat} {d : D} : ∀ {fs : List (Nat × D)} {p : Nat × D}, p ∈ putD f d fs → p.1 = f ∨ p ∈ fs
  | [], p, h => by
    rw [List.mem_singleton.mp h]; exact .inl rfl
  | q :: fs, p, h => by
    unfold putD at h
    split at h
    · rcases List.mem_cons.mp h with e | e
      · rw [e]; exact .inl rfl
      · exact .inr (List.mem_cons_of_mem _ e)
    · rcases List.mem_cons.mp h with e | e
      · rw [e]; exact .inr List.mem_cons_self
      · exact (putD_mem e).imp id (List.mem_cons_of_mem _)
theorem putD_pur {f : Nat} {d : D} (hd : pur d = true) : ∀ {fs : List (Nat × D)}, purF fs = true → purF (putD f d fs) = true
  | [], _ => by simp [putD, purF, hd]
  | q :: fs, h => by
    have h' := Bool.and_eq_true_iff.mp h
    unfold putD
    split
    · exact Bool.and_eq_true_iff.mpr ⟨hd, h'.2⟩
    · exact Bool.and_eq_true_iff.mpr ⟨h'.1, putD_pur hd h'.2⟩
theorem dg_fld (F : CF T) {o : Expr} {fo : FE} {c f : Nat} {x : Str} {pos : Pos} (hK : T.K = X.K) (hf : f ∈ T.fl c) (hx : x = T.nm f) (ho : PE X o (tE T E fo)) : PG X (.Attribute o x pos) (tG T E (pFld c f fo)) :=
  pgW (pg_fldT ho) fun v σ H Q ⟨ρ, S, μ, d, he, hr, hv, hfn⟩ =>
    ⟨ρ, S, μ, he, hr, (Fin.bind hfn).mono fun y S1 μ1 H1 st1 r1 h1 a hy => by
      split at h1
      · rename_i S3 hs
        unfold gPut at hs
        split at hs
        · split at hs
          · rename_i c' fs hl
            split at hs
            · rename_i hp
              obtain ⟨rfl, hp, hlen⟩ := hp
              cases hs
              cases hy with
              | obj el =>
                obtain ⟨⟨pp, hc, hk⟩, dx, vs, e1, q1⟩ := r1.ob _ _ _ el hl
                have hv1 := hv.step st1 hr.r0
                subst hx
                have hfN := F.low _ hc f hf
                have st3 : Step μ1 H1 μ1 (upd H1 _ (.ins (T.cA c') dx (putF (T.nm f) v vs))) := Step.put e1 (List.mem_of_getElem? el) (.inr ⟨_, _, _, rfl⟩)
                refine ⟨_, _, dx, vs, rfl, e1, hK ▸ F.cls _ hc, hK ▸ F.noA _ hc f hf, by rw [q1.length]; omega, ?_⟩
                refine h1.at st3 (r1.put el ⟨⟨putD_pur hp pp, hc, fun p hp' => ?_⟩, dx, _, upd_same, (DFs.put hfN hv1 q1).step st3 r1.r0⟩) σ ((he.step st1 hr.r0).step st3 r1.r0)
                rcases putD_mem hp' with e | e
                · rw [e]; exact hf
                · exact hk p e
            · cases hs
          · cases hs
        · cases hs
      · exact h1.elim⟩
end
end DL

set_option Elab.async false
set_option linter.all false
set_option maxRecDepth 100000
set_option maxHeartbeats 4000000
/-! DL7: defs, calls, methods, making, raising. -/
namespace DL
open PySem PySem.Spec PyProof.Rows L2

def start0 (m : Nat) (ds : List D) : Ev := ds.map some ++ List.replicate (m - ds.length) none
/-- what a def hands back: nothing of its own store; a list of its own is told as a whole -/
def retD (n : Nat) (d : D) (S : Store) : Res D :=
  match d with
  | .obj l => if l < n then .ok d (S.take n) else (match S[l]? with | some (.lst ds) => .ok (.lst ds) (S.take n) | _ => .bad)
  | d => if pur d = true then .ok d (S.take n) else .bad
def runF (n m : Nat) (body : FS) (ds : List D) (S : Store) : Res D :=
  if ds.length = n then
    match body (start0 m ds) S with
    | .nx _ S' => .ok .non (S'.take S.length)
    | .rt d S' => retD S.length d S'
    | .exc c fs S' => if purF fs = true then .exc c fs (S'.take S.length) else .bad
    | .bad => .bad
  else .bad
abbrev GF := List D → Store → Res D
def spD (T : Tb) (F : GF) : Sp := fun vs H Q E => ∃ ds S μ, DVs T μ H vs ds ∧ Rep T μ H S ∧ Fin T E (kD T Q) μ H (F ds S)
/-- a def of n parameters -/
def Ar (n : Nat) (F : GF) : Prop := ∀ ds S, ds.length ≠ n → F ds S = .bad
theorem ar_runF {n m : Nat} {body : FS} : Ar n (runF n m body) := fun ds S h => by unfold runF; rw [if_neg h]
theorem spD_len {T : Tb} {n : Nat} {F : GF} (a : Ar n F) {vs : List V} {H : Hp} {Q : VK} {E : XK} (h : spD T F vs H Q E) : vs.length = n := by
  obtain ⟨ds, S, μ, hv, hr, hf⟩ := h
  rw [hv.length]
  by_cases e : ds.length = n
  · exact e
  · rw [a ds S e] at hf; exact hf.elim

theorem Step.cut {μ μ' : List Addr} {H H' : Hp} (s : Step μ H μ' H') : Step μ H μ H' := ⟨⟨[], by simp, fun b hb => by cases hb⟩, s.there, s.keep⟩
theorem Rep.cutS {T : Tb} {μ μ' : List Addr} {H H' : Hp} {S S' : Store} (r0 : Rep T μ H S) (s : Step μ H μ' H') (r : Rep T μ' H' S') : Rep T μ H' (S'.take S.length) := by
  obtain ⟨m, e, _⟩ := s.more
  rw [← r0.len]
  exact r.cut e
theorem Step.sub {μ μ' : List Addr} {H H' : Hp} (s : Step μ H μ' H') : ∀ a, a ∈ μ → a ∈ μ' := fun a ha => by
  obtain ⟨m, e, _⟩ := s.more
  rw [e]; exact List.mem_append_left _ ha

section
variable {P : Program} {w : World} {K : PySem.W.Frag} {mg : Str → Option Value} {base : Heap} {T : Tb}
theorem env_start {μ : List Addr} {H : Hp} {N : List Str} {vs : List V} {ds : List D} (h : DVs T μ H vs ds) : EnvR T μ H (L2.start N vs) (start0 N.length ds) := by
  refine ⟨by simp [L2.start, start0, h.length], fun i d e => ?_⟩
  unfold start0 at e
  by_cases hi : i < ds.length
  · rw [List.getElem?_append_left (by simpa using hi), List.getElem?_map] at e
    cases q : ds[i]? with
    | none => rw [q] at e; cases e
    | some d' =>
      rw [q] at e; cases e
      obtain ⟨v, e1, e2⟩ := h.get q
      refine ⟨v, ?_, e2⟩
      unfold L2.start
      rw [List.getElem?_append_left (by rw [List.length_map, h.length]; exact hi), List.getElem?_map, e1]
      rfl
  · rw [List.getElem?_append_right (by simpa using hi), List.getElem?_replicate] at e
    split at e <;> cases e
/-- a def's end -/
theorem fin_run {E : XK} {n m : Nat} {body : FS} {ds : List D} {S : Store} {μ : List Addr} {H : Hp} {Q : VK} (hr : Rep T μ H S) (hf : Fin T E (kD T Q) μ H (runF n m body ds S)) :
    FinS T E { nx := fun _ H' => Q .non H', rt := Q } μ H (body (start0 m ds) S) := by
  unfold runF at hf
  split at hf
  · cases hb : body (start0 m ds) S with
    | nx ρ S' =>
      have hf : Fin T E (kD T Q) μ H (.ok .non (S'.take S.length)) := by rw [hb] at hf; exact hf
      exact fun σ' μ' H' st rp e => hf.at st.cut (hr.cutS st rp) .non .non
    | rt d S' =>
      have hf : Fin T E (kD T Q) μ H (retD S.length d S') := by rw [hb] at hf; exact hf
      intro v μ' H' st rp hv
      unfold retD at hf
      split at hf
      · rename_i l
        split at hf
        · rename_i hl
          cases hv with
          | obj e =>
            refine hf.at st.cut (hr.cutS st rp) _ (.obj ?_)
            obtain ⟨mm, em, _⟩ := st.more
            rw [em, List.getElem?_append_left (by rw [hr.len]; exact hl)] at e
            exact e
        · rename_i hl
          split at hf
          · rename_i es hs
            cases hv with
            | @obj a _ e =>
              obtain ⟨pp, xs, e1, q1⟩ := rp.ob l a _ e hs
              refine hf.at st.cut (hr.cutS st rp) _ (.lst e1 (fun hm => ?_) (q1.less st.sub pp))
              obtain ⟨mm, em, _⟩ := st.more
              obtain ⟨j, hj, ej⟩ := List.mem_iff_getElem.mp hm
              have hne : j ≠ l := fun e => hl (by rw [← e, ← hr.len]; exact hj)
              have e2 : μ'[j]? = some a := by rw [em, List.getElem?_append_left hj, List.getElem?_eq_getElem hj, ej]
              obtain ⟨b1, c1⟩ := List.getElem?_eq_some_iff.mp e2
              obtain ⟨b2, c2⟩ := List.getElem?_eq_some_iff.mp e
              exact hne ((List.getElem_inj rp.nd).mp (c1.trans c2.symm))
          · exact hf.elim
      · split at hf
        · rename_i hp
          exact hf.at st.cut (hr.cutS st rp) v (hv.less st.sub hp)
        · exact hf.elim
    | exc c fs S' =>
      rw [hb] at hf
      simp only at hf
      split at hf
      · rename_i hp
        exact fun dx μ' H' st rp ⟨vs, e1, e2⟩ => hf dx μ H' st.cut (hr.cutS st rp) ⟨vs, e1, e2.less st.sub hp⟩
      · exact hf.elim
    | bad => rw [hb] at hf; exact hf.elim
  · exact hf.elim
/-- THE RULE for a def -/
theorem fn_D {x qual : Str} {st : Stmt} {f : Addr} {fd : FuncData} {N ps : List Str} {k : Nat} {body : FS} (F : Fun K x qual st f fd) (S : FnScope N ps (defScope st))
    (hb : ∀ (cdv : Value) (A : Around) (outer : List Env) (s : Shared) (H : Hp) (E : XK), Room k (A.deeper (envOfC qual (defScope st) s.heap.objs.size f cdv)) →
      PSs (cxOf (L2.CX P w) P w K mg base N qual (defScope st) f cdv A outer s H E) (defBody st) (tS T E body)) : FnOk P w K mg base (L2.CX P w) (k + 1) f fd ps (spD T (runF ps.length N.length body)) :=
  F.okX S (fun vs H Q E h => spD_len ar_runF h) (fun cdv A outer s H vs Q E hr h => ⟨tS T E body, hb cdv A outer s H E hr, by
    obtain ⟨ds, S0, μ, hv, hrr, hf⟩ := h
    exact ⟨_, S0, μ, env_start hv, hrr, fin_run hrr hf⟩⟩)
end
/-- a def of the module: its name, its level, what it computes -/
def DefD (T : Tb) (P : Program) (w : World) (K : PySem.W.Frag) (mg : Str → Option Value) (base : Heap) (x : Str) (lv : Nat) (F : GF) : Prop :=
  ∃ f fd ps, mg x = some (.ref f) ∧ PySem.W.keepIn K (.ref f) = true ∧ Binds K fd ps [] ∧ FnOk P w K mg base (L2.CX P w) lv f fd ps (spD T F)
def MethD (T : Tb) (P : Program) (w : World) (K : PySem.W.Frag) (mg : Str → Option Value) (base : Heap) (c : Nat) (m : Str) (lv : Nat) (F : GF) : Prop :=
  c < T.nC ∧ (∀ j, j < T.nN → T.nm j ≠ m) ∧ ∃ f fd ps, Meth K (T.cA c) m f ∧ Binds K fd ps [] ∧ FnOk P w K mg base (L2.CX P w) lv f fd ps (spD T F)
def MakeD (T : Tb) (P : Program) (w : World) (K : PySem.W.Frag) (mg : Str → Option Value) (base : Heap) (x : Str) (c : Nat) (lv : Nat) (F : GF) : Prop :=
  c < T.nC ∧ mg x = some (.ref (T.cA c)) ∧ ∃ f fd ps, Mk K (T.cA c) f ∧ Binds K fd ps [] ∧ FnOk P w K mg base (L2.CX P w) lv f fd ps (spD T F)

section
variable {X : Cx} {T : Tb} {E : XK} {k lv : Nat}
def fCallF (F : GF) (fs : FL) : FE := fun ρ S => (fs ρ S).bind F
theorem de_call {x : Str} {F : GF} {p pos : Pos} {e : Expr} {es : List Expr} {fs : FL} (G : DefD T X.prog X.w X.K X.mg X.base x lv F) (hr : Room lv X.A) (hx : Passes (L2.CX X.prog X.w) X E) (hg : Gl X x) (ha : PA X (e :: es) (tA T E fs))
    (hdb : (x == ("__debug__" : Str)) = false := by decide) (he : starEach (e :: es) X.env = (false, eval e X.env) :: starEach es X.env := by rfl) (hpl : (backTo pos (starEach es X.env)).any (·.1) = false := by rfl) :
    PE X (.Call (.Name x p) (e :: es) [] pos) (tE T E (fCallF F fs)) := by
  obtain ⟨f, fd, ps, hm, hk, hb, FO⟩ := G
  exact peW (pe_call (dvs := []) FO hr hg hm hk hb .nil hx ha hdb he hpl) fun σ H Q ⟨ρ, S, μ, hee, hr, hf⟩ => ⟨ρ, S, μ, hee, hr, (Fin.bind hf).mono fun ds S1 μ1 H1 st1 r1 h1 vs hvs => by
    show spD T F (vs ++ []) H1 Q E
    rw [List.append_nil]
    exact ⟨ds, S1, μ1, hvs, r1, h1⟩⟩
theorem de_call0 {x : Str} {F : GF} {p pos : Pos} (G : DefD T X.prog X.w X.K X.mg X.base x lv F) (hr : Room lv X.A) (hx : Passes (L2.CX X.prog X.w) X E) (hg : Gl X x) (hdb : (x == ("__debug__" : Str)) = false := by decide) :
    PE X (.Call (.Name x p) [] [] pos) (tE T E (fCallF F fNil)) := by
  obtain ⟨f, fd, ps, hm, hk, hb, FO⟩ := G
  exact peW (pe_call0 (dvs := []) FO hr hg hm hk hb .nil hx hdb) fun σ H Q ⟨ρ, S, μ, hee, hr, hf⟩ => ⟨[], S, μ, .nil, hr, hf⟩
/-- o.m(..) of an own class -/
def fMeth (c : Nat) (F : GF) (fo : FE) (fs : FL) : FE := fun ρ S => (fo ρ S).bind fun d S1 => match d with
  | .ins c' _ => if c' = c then (fs ρ S1).bind fun ds S2 => F (d :: ds) S2 else .bad
  | _ => .bad
theorem de_meth {c : Nat} {m : Str} {F : GF} {o e : Expr} {es : List Expr} {fo : FE} {fs : FL} {pl : Sem Bool} {apos pos : Pos} (CFx : CF T) (hK : T.K = X.K) (G : MethD T X.prog X.w X.K X.mg X.base c m lv F) (hr : Room lv X.A) (hx : Passes (L2.CX X.prog X.w) X E)
    (ho : PE X o (tE T E fo)) (ha : PA X (e :: es) (tA T E fs))
    (hst : starEach (e :: es) X.env = (false, eval e X.env) :: starEach es X.env := by rfl) (hpl : (backTo pos (starEach es X.env)).any (·.1) = false := by rfl)
    (ht : eval (.Call (.Attribute o m apos) (e :: es) [] pos) X.env = (do
      let ov ← eval o X.env
      standAt apos.atName
      let (f, first) ← holding [ov] (getMethod ov m pl)
      callWith pos f first (backTo pos (starEach (e :: es) X.env)) (backToKw pos (keywordEach [] X.env))) := by rfl) :
    PE X (.Call (.Attribute o m apos) (e :: es) [] pos) (tE T E (fMeth c F fo fs)) := by
  obtain ⟨hc, hn, f, fd, ps, hm, hb, FO⟩ := G
  exact peW (pe_meth (dvs := []) ho (hK ▸ CFx.cls c hc) hm FO hr hb .nil hx ha hst hpl ht) fun σ H Q ⟨ρ, S, μ, hee, hr, hf⟩ => ⟨ρ, S, μ, hee, hr, (Fin.bind hf).mono fun d S1 μ1 H1 st1 r1 h1 v hv => by
    split at h1
    · split at h1
      · rename_i hcc
        subst hcc
        cases hv with
        | ins hc' hk' ei n q =>
          refine ⟨_, _, _, rfl, ei, q.look_none hn, ρ, S1, μ1, hee.step st1 hr.r0, r1, (Fin.bind h1).mono fun ds S2 μ2 H2 st2 r2 h2 vs hvs => ?_⟩
          show spD T F (_ :: (vs ++ [])) H2 Q E
          rw [List.append_nil]
          exact ⟨_, S2, μ2, .cons ((DV.ins hc' hk' ei n q).step st2 r1.r0) hvs, r2, h2⟩
      · exact h1.elim
    · exact h1.elim⟩
theorem de_meth0 {c : Nat} {m : Str} {F : GF} {o : Expr} {fo : FE} {pl : Sem Bool} {apos pos : Pos} (CFx : CF T) (hK : T.K = X.K) (G : MethD T X.prog X.w X.K X.mg X.base c m lv F) (hr : Room lv X.A) (hx : Passes (L2.CX X.prog X.w) X E)
    (ho : PE X o (tE T E fo))
    (ht : eval (.Call (.Attribute o m apos) [] [] pos) X.env = (do
      let ov ← eval o X.env
      standAt apos.atName
      let (f, first) ← holding [ov] (getMethod ov m pl)
      callWith pos f first (backTo pos (starEach [] X.env)) (backToKw pos (keywordEach [] X.env))) := by rfl) :
    PE X (.Call (.Attribute o m apos) [] [] pos) (tE T E (fMeth c F fo fNil)) := by
  obtain ⟨hc, hn, f, fd, ps, hm, hb, FO⟩ := G
  exact peW (pe_meth0 (dvs := []) ho (hK ▸ CFx.cls c hc) hm FO hr hb .nil hx ht) fun σ H Q ⟨ρ, S, μ, hee, hr, hf⟩ => ⟨ρ, S, μ, hee, hr, (Fin.bind hf).mono fun d S1 μ1 H1 st1 r1 h1 v hv => by
    split at h1
    · split at h1
      · rename_i hcc
        subst hcc
        cases hv with
        | ins hc' hk' ei n q =>
          exact ⟨_, _, _, rfl, ei, q.look_none hn, _, S1, μ1, .cons (.ins hc' hk' ei n q) .nil, r1, h1⟩
      · exact h1.elim
    · exact h1.elim⟩
/-- C(..) -/
def makeD (c : Nat) (F : GF) (ds : List D) (S : Store) : Res D := match F (.obj S.length :: ds) (S ++ [.ins c []]) with
  | .ok .non S2 => (match S2[S.length]? with | some (.ins c' fs) => .ok (.ins c' fs) (S2.take S.length) | _ => .bad)
  | .exc e fs S2 => if purF fs = true then .exc e fs (S2.take S.length) else .bad
  | _ => .bad
def fMake (c : Nat) (F : GF) (fs : FL) : FE := fun ρ S => (fs ρ S).bind (makeD c F)
theorem sp_make {c : Nat} {F : GF} {ds : List D} {vs : List V} {S : Store} {μ : List Addr} {H : Hp} {Q : VK} (hc : c < T.nC) (hvs : DVs T μ H vs ds) (hr : Rep T μ H S) (hf : Fin T E (kD T Q) μ H (makeD c F ds S)) :
    ∀ x dx, H x = none → H dx = none → dx ≠ x → spD T F (.ref x :: (vs ++ [])) (upd (upd H dx (.own x)) x (.ins (T.cA c) dx [])) (fun v H2 => v = .non ∧ Q (.ref x) H2) E := by
  intro x dx nx ndx ne
  rw [List.append_nil]
  have st1 : Step μ H μ (upd H dx (.own x)) := Step.new ndx
  have nx1 : upd H dx (.own x) x = none := by rw [upd_ne (Ne.symm ne)]; exact nx
  have st2 : Step μ (upd H dx (.own x)) (μ ++ [x]) (upd (upd H dx (.own x)) x (.ins (T.cA c) dx [])) := Step.add nx1
  have st := st1.trans st2
  have nμ : x ∉ μ := fun hm => by obtain ⟨u, e, _⟩ := hr.r0.mu x hm; rw [nx] at e; cases e
  have rp : Rep T (μ ++ [x]) (upd (upd H dx (.own x)) x (.ins (T.cA c) dx [])) (S ++ [.ins c []]) := by
    refine hr.add nx st (fun a ha => ?_) (fun t => tabs_new nx1 (tabs_new ndx t)) ⟨⟨rfl, hc, fun p hp => by cases hp⟩, dx, [], upd_same, .nil⟩
    obtain ⟨u, e, _⟩ := hr.r0.mu a ha
    rw [upd_ne (fun q => nμ (by rw [← q]; exact ha)), upd_ne (ne_of_none e ndx)]
  have hx : (μ ++ [x])[S.length]? = some x := by rw [← hr.len, List.getElem?_append_right (Nat.le_refl _), Nat.sub_self]; rfl
  refine ⟨.obj S.length :: ds, _, _, .cons (.obj hx) (hvs.step st hr.r0), rp, ?_⟩
  unfold makeD at hf
  cases hF : F (.obj S.length :: ds) (S ++ [.ins c []]) with
  | ok d S2 =>
    rw [hF] at hf
    intro μ2 H3 st3 r3 v hv
    cases hv with
    | non =>
      refine ⟨rfl, ?_⟩
      simp only at hf
      split at hf
      · rename_i c' fs hs
        have st13 := st.trans st3
        obtain ⟨m3, e3, _⟩ := st3.more
        have hx2 : μ2[S.length]? = some x := by rw [e3, List.getElem?_append_left (by rw [List.length_append, hr.len, List.length_singleton]; omega)]; exact hx
        obtain ⟨⟨pp, hc', hk'⟩, dx', vs', e1, q1⟩ := r3.ob _ _ _ hx2 hs
        exact hf.at st13.cut (hr.cutS st13 r3) _ (.ins hc' hk' e1 nμ (q1.less st13.sub pp))
      · exact hf.elim
    | _ => exact hf.elim
  | exc e fs S2 =>
    rw [hF] at hf
    simp only at hf
    split at hf
    · rename_i hp
      exact fun dy μ2 H3 st3 r3 ⟨vs', e1, q1⟩ => by
        have st13 := st.trans st3
        exact hf dy μ H3 st13.cut (hr.cutS st13 r3) ⟨vs', e1, q1.less st13.sub hp⟩
    · exact hf.elim
  | bad => rw [hF] at hf; exact hf.elim
theorem de_make {x : Str} {c : Nat} {F : GF} {p pos : Pos} {e : Expr} {es : List Expr} {fs : FL} (G : MakeD T X.prog X.w X.K X.mg X.base x c lv F) (hr : Room (lv + 1) X.A) (hx : Passes (L2.CX X.prog X.w) X E) (hg : Gl X x) (ha : PA X (e :: es) (tA T E fs))
    (hdb : (x == ("__debug__" : Str)) = false := by decide) (he : starEach (e :: es) X.env = (false, eval e X.env) :: starEach es X.env := by rfl) (hpl : (backTo pos (starEach es X.env)).any (·.1) = false := by rfl) :
    PE X (.Call (.Name x p) (e :: es) [] pos) (tE T E (fMake c F fs)) := by
  obtain ⟨hc, hm, f, fd, ps, M, hb, FO⟩ := G
  exact peW (pe_make (dvs := []) M FO hr hg hm hb .nil hx ha hdb he hpl) fun σ H Q ⟨ρ, S, μ, hee, hr, hf⟩ => ⟨ρ, S, μ, hee, hr, (Fin.bind hf).mono fun ds S1 μ1 H1 st1 r1 h1 vs hvs => sp_make hc hvs r1 h1⟩

/-! ### raise -/
/-- an exception of the class at C is made of its fields' values -/
def tMkX (C : Addr) (names : List Str) (ta : TA) : L2.St → Hp → XK → Prop := fun σ H Q => ta σ H fun vs H1 => vs.length = names.length ∧ ∀ dx, H1 dx = none → Q (.ref C) (some dx) (upd H1 dx (.xd (names.zip vs).reverse))
def sRaise (c : Nat) (fids : List Nat) (g : FL) : FS := fun ρ S => (g ρ S).out fun ds S1 => if ds.length = fids.length then .exc c (fids.zip ds).reverse S1 else .bad
theorem dfs_zip {μ : List Addr} {H : Hp} : ∀ {fids : List Nat} {vs : List V} {ds : List D}, (∀ f ∈ fids, f < T.nN) → DVs T μ H vs ds → DFs T μ H ((fids.map T.nm).zip vs) (fids.zip ds)
  | [], _, _, _, _ => .nil
  | _ :: _, _, _, _, .nil => .nil
  | f :: fids, _, _, hf, .cons h q => .cons (hf f List.mem_cons_self) h (dfs_zip (fun g hg => hf g (List.mem_cons_of_mem _ hg)) q)
theorem DFs.append {μ : List Addr} {H : Hp} : ∀ {vs ws : List (Str × V)} {ds es : List (Nat × D)}, DFs T μ H vs ds → DFs T μ H ws es → DFs T μ H (vs ++ ws) (ds ++ es)
  | _, _, _, _, .nil, q => q
  | _, _, _, _, .cons z h t, q => .cons z h (DFs.append t q)
theorem DFs.reverse {μ : List Addr} {H : Hp} : ∀ {vs : List (Str × V)} {ds : List (Nat × D)}, DFs T μ H vs ds → DFs T μ H vs.reverse ds.reverse
  | _, _, .nil => by simpa using DFs.nil
  | _, _, .cons z h t => by
    rw [List.reverse_cons, List.reverse_cons]
    exact DFs.append (DFs.reverse t) (.cons z h .nil)
theorem ds_raise {c : Nat} {fids : List Nat} {e : Expr} {g : FL} {pos : Pos} (hc : X.calm = true) (tk : Takes X (fun cls d _ H => E cls d H)) (hf : ∀ f ∈ fids, f < T.nN) 
    (hm : PMk X e (tMkX (T.eA c) (fids.map T.nm) (tA T E g))) : PS X (.Raise (some e) none pos) (tS T E (sRaise c fids g)) :=
  psW (ps_raise hc tk hm) fun D σ H ⟨ρ, S, μ, hee, hr, hff⟩ => ⟨ρ, S, μ, hee, hr, hff.bind.mono fun ds S1 μ1 H1 st1 r1 h1 vs hvs => by
    split at h1
    · rename_i hl
      refine ⟨by rw [hvs.length, List.length_map]; exact hl, fun dx hd => ?_⟩
      have st : Step μ1 H1 μ1 (upd H1 dx (.xd ((fids.map T.nm).zip vs).reverse)) := Step.new hd
      exact h1 dx μ1 _ st (r1.new hd) ⟨_, upd_same, ((dfs_zip hf hvs).reverse).step st r1.r0⟩
    · exact h1.elim⟩
end
end DL

set_option Elab.async false
set_option linter.all false
set_option maxRecDepth 100000
set_option maxHeartbeats 4000000
/-! DL8: enumerate and zip over lists and tuples, mixed. -/
namespace DL
open PySem PySem.Spec PyProof.Rows L2

inductive Kd | l | t
def Kd.it : Kd → Heap → Addr → Addr → Nat → Prop
  | .l, h, it, a, i => h.IsListIter it a i
  | .t, h, it, a, i => h.IsTupleIter it a i
def Kd.sq : Kd → Heap → Addr → Array Value → Prop
  | .l, h, a, xs => h.IsList a xs
  | .t, h, a, xs => h.IsTuple a xs
def Kd.has : Kd → PySem.W.Frag → Hp → Addr → List V → Prop
  | .l, K, H, a, xs => SqL K H a xs
  | .t, K, H, a, xs => SqT K H a xs
def Kd.ob : Kd → Addr → Obj
  | .l, a => { cls := .type "list_iterator", data := .fields #[.ref a, .int 0 0] }
  | .t, a => { cls := .type "tuple_iterator", data := .fields #[.ref a, .int 0 0] }
theorem Kd.begins (k : Kd) (a : Addr) (xs : Array Value) : Begins (.ref a) (k.ob a) (fun h => k.sq h a xs) := by
  cases k with
  | l => exact begins_list a xs
  | t => exact begins_tuple a xs
theorem Kd.at0 (k : Kd) {h : Heap} {it a : Addr} (e : h.get? it = some (k.ob a)) : k.it h it a 0 := by
  cases k with
  | l => exact ⟨_, e, rfl, rfl⟩
  | t => exact ⟨_, e, rfl, rfl⟩
theorem Kd.draws (k : Kd) {P : Program} {w : World} {A : Around} (hh : A.handled = none) (it a : Addr) (hne : a ≠ it) (xs : Array Value) :
    Draws P w A it [it, a] xs.size (fun i v => xs[i]? = some v) (fun i h => k.it h it a i ∧ k.sq h a xs) := by
  cases k with
  | l => exact Draws.list hh it a hne xs
  | t => exact Draws.tuple hh it a hne xs
theorem Kd.it_at (k : Kd) {h h' : Heap} {it a : Addr} {i : Nat} (e : k.it h it a i) (q : ∀ o, h.get? it = some o → h'.get? it = some o) : k.it h' it a i := by
  cases k with
  | l => exact Heap.IsListIter.at e q
  | t => exact Heap.IsTupleIter.at e q
theorem Kd.it_obj (k : Kd) {h : Heap} {it a : Addr} {i : Nat} (e : k.it h it a i) : ∃ o, h.get? it = some o ∧ ∀ v, o.data ≠ .cell v := by
  cases k with
  | l => obtain ⟨o, h1, _, h3⟩ := e; exact ⟨o, h1, fun v q => by rw [h3] at q; cases q⟩
  | t => obtain ⟨o, h1, _, h3⟩ := e; exact ⟨o, h1, fun v q => by rw [h3] at q; cases q⟩
section
variable {X : Cx} {pins : List (Addr × Obj)} {σ : L2.St} {H : Hp} {s : Shared}
theorem Kd.read (k : Kd) {a : Addr} {xs : List V} (I : Inv X pins σ H s) (h : k.has X.K H a xs) : ∃ its : List Value, Vals xs its ∧ k.sq s.heap a its.toArray := by
  cases k with
  | l => obtain ⟨its, r, p, _⟩ := I.list h; exact ⟨its, r, p.isList⟩
  | t => obtain ⟨its, r, p, _⟩ := I.tuple h; exact ⟨its, r, p⟩
theorem Kd.lt (k : Kd) {a : Addr} {xs : List V} (I : Inv X pins σ H s) (h : k.has X.K H a xs) : a < s.heap.objs.size := by
  obtain ⟨its, _, p⟩ := k.read I h
  cases k with
  | l => obtain ⟨o, e, _⟩ := p; exact Heap.lt_size e
  | t => obtain ⟨o, e, _⟩ := p; exact Heap.lt_size e
end
/-- a tuple just made, tracked -/
theorem new_tup {P : Program} {w : World} {H : Hp} {h : Heap} {p : Addr} {xs : List V} {us : List Value} (hz : xs.length ≤ sizeLine) (r : Vals xs us) (t : h.IsTuple p us.toArray) (hd : ∀ o, h.get? p = some o → o.cls = .type "tuple" ∧ ∃ n, o.data = .seq us.toArray n) : ObjOk P w (upd H p (.tup xs)) h p (.tup xs) := by
  refine ⟨hz, us, r, ?_⟩
  obtain ⟨o, e, _⟩ := t
  obtain ⟨c, d⟩ := hd o e
  exact ⟨o, e, c, d⟩

/-- a walk of fixed items -/
def ItG (n : Nat) (Rd : Hp → Prop) (Y : Nat → List V → Prop) : It :=
  ⟨fun i H => i < n ∧ Rd H, fun i H v H' => ∃ p xs, v = .ref p ∧ H p = none ∧ H' = upd H p (.tup xs) ∧ Y i xs, fun i H => i = n ∧ Rd H⟩
section
variable {P : Program} {w : World} {K : PySem.W.Frag} {elts : List Expr} {kk : Nat} {tpos : Pos}
theorem isTuple_ok {h : Heap} {p : Addr} {vs : Array Value} (t : h.IsTuple p vs) : IsTup h p vs := t
theorem turn_enumG (k : Kd) {a e it : Addr} {xs : List V} (hne : e ≠ it) (hea : e ≠ a) (hia : a ≠ it) :
    Turn P w K (.Tuple elts kk tpos) (ItG xs.length (fun H => k.has K H a xs) fun i ys => ∃ x, xs[i]? = some x ∧ ys = [.int (i : Nat), x]) [e, it] e (fun i h => (∃ old, IsEnum h e it ((i : Nat) : Int) old) ∧ k.it h it a i) where
  mem := List.mem_cons_self
  obj := fun i h st b hb => by
    obtain ⟨⟨old, he⟩, hi⟩ := st
    rcases List.mem_cons.mp hb with z | z
    · rw [z]; exact ⟨_, he, fun v q => nomatch q⟩
    · rw [List.mem_singleton.mp z]; exact k.it_obj hi
  keep := fun i h h' st q => ⟨⟨st.1.choose, q e List.mem_cons_self _ st.1.choose_spec⟩, k.it_at st.2 fun o z => q it (List.mem_cons_of_mem _ List.mem_cons_self) o z⟩
  item := by
    intro X hP hw hK hc i pins s σ H E I hf st hg
    subst hP hw hK
    obtain ⟨hi, hq⟩ := hg
    obtain ⟨its, rv, p⟩ := k.read I hq
    have hl := rv.length
    have G := GoesN.enumFrom (elts := elts) (x1 := kk) (pos := tpos) 0 (k.draws (P := X.prog) (w := X.w) (A := X.A.in1) (I.ok.hd hc) it a hia its.toArray) e hne (by simp [hne, hea]) List.mem_cons_self
    have hx : xs[i]? = some xs[i] := List.getElem?_eq_getElem hi
    obtain ⟨u, hu, ru⟩ := rv.get hx
    have st' : (∃ old, IsEnum s.heap e it (0 + (i : Int)) old) ∧ k.it s.heap it a i ∧ k.sq s.heap a its.toArray := by rw [Int.zero_add]; exact ⟨st.1, st.2, p⟩
    refine wpAny_mono (G.goes i s (fun v s2 => ∃ x H', Inv X pins σ H' s2 ∧ RelV x v ∧ (∃ p xs', x = .ref p ∧ H p = none ∧ H' = upd H p (.tup xs') ∧ ∃ y, xs[i]? = some y ∧ xs' = [.int (i : Nat), y]) ∧ ((∃ old, IsEnum s2.heap e it ((i + 1 : Nat) : Int) old) ∧ k.it s2.heap it a (i + 1)) ∧ ∀ b ∈ [e, it], H' b = none) _ (by rw [List.size_toArray]; omega) st' fun v h' tk y st2 hk _ => ?_) (fun r s1 q => q) fun _ _ q => q
    obtain ⟨p', tk', x, rfl, hn, hx', ht⟩ := y
    have ex : x = u := by
      have q : its[i]? = some x := by simpa using hx'
      rw [hu] at q; cases q; rfl
    subst ex
    have new : ObjOk X.prog X.w (upd H p' (.tup [.int (i : Nat), xs[i]])) h' p' (.tup [.int (i : Nat), xs[i]]) :=
      ⟨show 2 ≤ sizeLine by decide, [.int (0 + (i : Int)) tk', x], .cons ⟨_, by rw [Int.zero_add]⟩ (.cons ru .nil), ht⟩
    have I1 : Inv X pins σ (upd H p' (.tup [.int (i : Nat), xs[i]])) { s with heap := h', toks := tk } := I.turnedNew (ch := [e, it]) hk hf hn new
    refine ⟨.ref p', _, I1, rfl, ⟨p', _, rfl, I.hok.fresh hn, rfl, _, hx, rfl⟩, ⟨?_, st2.2.1⟩, fun b hb => ?_⟩
    · obtain ⟨old, z⟩ := st2.1
      refine ⟨old, ?_⟩
      rw [Int.zero_add] at z
      exact z
    · have hb' : b < s.heap.objs.size := by
        rcases List.mem_cons.mp hb with z | z
        · rw [z]; obtain ⟨old, q⟩ := st.1; exact Heap.lt_size q
        · rw [List.mem_singleton.mp z]; obtain ⟨o, q, _⟩ := k.it_obj st.2; exact Heap.lt_size q
      rw [upd_ne (Nat.ne_of_lt (Nat.lt_of_lt_of_le hb' hn))]
      exact (hf b hb).1
  done := by
    intro X hP hw hK hc i pins s σ H E I hf st hg
    subst hP hw hK
    obtain ⟨rfl, hq⟩ := hg
    obtain ⟨its, rv, p⟩ := k.read I hq
    have hl := rv.length
    have G := GoesN.enumFrom (elts := elts) (x1 := kk) (pos := tpos) 0 (k.draws (P := X.prog) (w := X.w) (A := X.A.in1) (I.ok.hd hc) it a hia its.toArray) e hne (by simp [hne, hea]) List.mem_cons_self
    have st' : (∃ old, IsEnum s.heap e it (0 + ((its.toArray.size : Nat) : Int)) old) ∧ k.it s.heap it a its.toArray.size ∧ k.sq s.heap a its.toArray := by rw [Int.zero_add, List.size_toArray, ← hl]; exact ⟨st.1, st.2, p⟩
    exact G.stops s _ E st' fun h' tk hk _ => I.turnedL (ch := [e, it]) hk hf
  self := fun A i s Q E st h => wpAny_pyIter_enum st.1.choose_spec h
end
end DL

set_option Elab.async false
set_option linter.all false
set_option maxRecDepth 100000
set_option maxHeartbeats 4000000
/-! DL9: zip of two, of three; enumerate, zip as what a loop walks. -/
namespace DL
open PySem PySem.Spec PyProof.Rows L2
section
variable {P : Program} {w : World} {K : PySem.W.Frag} {elts : List Expr} {kk : Nat} {tpos : Pos}
theorem lt_min2 {i a b : Nat} (h : i < min a b) : i < a ∧ i < b := ⟨Nat.lt_of_lt_of_le h (Nat.min_le_left _ _), Nat.lt_of_lt_of_le h (Nat.min_le_right _ _)⟩
theorem turn_zip2G (k1 k2 : Kd) {a b z TI TO i1 i2 : Addr} {xs ys : List V} (S : ZipSep2 z TI TO i1 i2 [i1, a] [i2, b]) (ha : a ≠ i1) (hb : b ≠ i2) :
    Turn P w K (.Tuple elts kk tpos) (ItG (min xs.length ys.length) (fun H => k1.has K H a xs ∧ k2.has K H b ys) fun i vs => ∃ x y, xs[i]? = some x ∧ ys[i]? = some y ∧ vs = [x, y]) [z, TI, TO, i1, i2] z
      (fun i h => IsZip h z TI TO .none ∧ IsTupOf2 h TI (.ref i1) (.ref i2) ∧ (∃ u v, IsTupOf2 h TO u v) ∧ k1.it h i1 a i ∧ k2.it h i2 b i) where
  mem := List.mem_cons_self
  obj := fun i h st c hc => by
    obtain ⟨hz, hTI, ⟨u, v, hTO⟩, h1, h2⟩ := st
    have e' : c = z ∨ c = TI ∨ c = TO ∨ c = i1 ∨ c = i2 := by simpa using hc
    rcases e' with q | q | q | q | q <;> rw [q]
    · exact ⟨_, hz, fun v q => nomatch q⟩
    · exact ⟨_, hTI, fun v q => nomatch q⟩
    · exact ⟨_, hTO, fun v q => nomatch q⟩
    · exact k1.it_obj h1
    · exact k2.it_obj h2
  keep := fun i h h' st q => by
    obtain ⟨hz, hTI, ⟨u, v, hTO⟩, h1, h2⟩ := st
    exact ⟨q z (by simp) _ hz, q TI (by simp) _ hTI, ⟨u, v, q TO (by simp) _ hTO⟩, k1.it_at h1 fun o e => q i1 (by simp) o e, k2.it_at h2 fun o e => q i2 (by simp) o e⟩
  item := by
    intro X hP hw hK hc i pins s σ H E I hf st hg
    subst hP hw hK
    obtain ⟨hi, hq1, hq2⟩ := hg
    obtain ⟨hi1, hi2⟩ := lt_min2 hi
    obtain ⟨its, rv, p⟩ := k1.read I hq1
    obtain ⟨jts, rw', p'⟩ := k2.read I hq2
    have hl := rv.length
    have hl' := rw'.length
    have G := GoesN.zip2 (elts := elts) (x1 := kk) (pos := tpos) S (k1.draws (P := X.prog) (w := X.w) (A := X.A.in1) (I.ok.hd hc) i1 a ha its.toArray) (k2.draws (P := X.prog) (w := X.w) (A := X.A.in1) (I.ok.hd hc) i2 b hb jts.toArray)
    have hx : xs[i]? = some xs[i] := List.getElem?_eq_getElem hi1
    have hy : ys[i]? = some ys[i] := List.getElem?_eq_getElem hi2
    obtain ⟨u, hu, ru⟩ := rv.get hx
    obtain ⟨u2, hu2, ru2⟩ := rw'.get hy
    have lt0 : ∀ c ∈ [z, TI, TO, i1, i2], c < s.heap.objs.size := fun c hcm => by
      obtain ⟨hz, hTI, ⟨_, _, hTO⟩, h1, h2⟩ := st
      have e' : c = z ∨ c = TI ∨ c = TO ∨ c = i1 ∨ c = i2 := by simpa using hcm
      rcases e' with q | q | q | q | q <;> rw [q]
      · exact Heap.lt_size hz
      · exact Heap.lt_size hTI
      · exact Heap.lt_size hTO
      · obtain ⟨o, q, _⟩ := k1.it_obj h1; exact Heap.lt_size q
      · obtain ⟨o, q, _⟩ := k2.it_obj h2; exact Heap.lt_size q
    refine wpAny_mono (G.goes i s (fun v s2 => ∃ x H', Inv X pins σ H' s2 ∧ RelV x v ∧ (∃ p xs', x = .ref p ∧ H p = none ∧ H' = upd H p (.tup xs') ∧ ∃ x y, xs[i]? = some x ∧ ys[i]? = some y ∧ xs' = [x, y]) ∧
      (IsZip s2.heap z TI TO .none ∧ IsTupOf2 s2.heap TI (.ref i1) (.ref i2) ∧ (∃ u v, IsTupOf2 s2.heap TO u v) ∧ k1.it s2.heap i1 a (i + 1) ∧ k2.it s2.heap i2 b (i + 1)) ∧ ∀ c ∈ [z, TI, TO, i1, i2], H' c = none) _
      (by rw [List.size_toArray, List.size_toArray, ← hl, ← hl']; exact hi) ⟨st.1, st.2.1, st.2.2.1, ⟨st.2.2.2.1, p⟩, st.2.2.2.2, p'⟩ fun v h' tk y st2 hk _ => ?_) (fun r s1 q => q) fun _ _ q => q
    obtain ⟨t', x, y, rfl, hn, hx', hy', ht⟩ := y
    have ex : x = u := by
      have q : its[i]? = some x := by simpa using hx'
      rw [hu] at q; cases q; rfl
    have ey : y = u2 := by
      have q : jts[i]? = some y := by simpa using hy'
      rw [hu2] at q; cases q; rfl
    subst ex ey
    have new : ObjOk X.prog X.w (upd H t' (.tup [xs[i], ys[i]])) h' t' (.tup [xs[i], ys[i]]) := ⟨show 2 ≤ sizeLine by decide, [x, y], .cons ru (.cons ru2 .nil), ht⟩
    have I1 : Inv X pins σ (upd H t' (.tup [xs[i], ys[i]])) { s with heap := h', toks := tk } :=
      I.turnedNew (ch := [z, TO, i1, i2]) hk (fun c hcm => hf c (by simp at hcm ⊢; rcases hcm with q | q | q | q <;> simp [q])) hn new
    refine ⟨.ref t', _, I1, rfl, ⟨t', _, rfl, I.hok.fresh hn, rfl, _, _, hx, hy, rfl⟩, ⟨st2.1, st2.2.1, st2.2.2.1, st2.2.2.2.1.1, st2.2.2.2.2.1⟩, fun c hcm => ?_⟩
    rw [upd_ne (Nat.ne_of_lt (Nat.lt_of_lt_of_le (lt0 c hcm) hn))]
    exact (hf c hcm).1
  done := by
    intro X hP hw hK hc i pins s σ H E I hf st hg
    subst hP hw hK
    obtain ⟨hi, hq1, hq2⟩ := hg
    obtain ⟨its, rv, p⟩ := k1.read I hq1
    obtain ⟨jts, rw', p'⟩ := k2.read I hq2
    have hl := rv.length
    have hl' := rw'.length
    have G := GoesN.zip2 (elts := elts) (x1 := kk) (pos := tpos) S (k1.draws (P := X.prog) (w := X.w) (A := X.A.in1) (I.ok.hd hc) i1 a ha its.toArray) (k2.draws (P := X.prog) (w := X.w) (A := X.A.in1) (I.ok.hd hc) i2 b hb jts.toArray)
    have ei : i = min its.toArray.size jts.toArray.size := by rw [List.size_toArray, List.size_toArray, ← hl, ← hl']; exact hi
    subst ei
    exact G.stops s _ E ⟨st.1, st.2.1, st.2.2.1, ⟨st.2.2.2.1, p⟩, st.2.2.2.2, p'⟩ fun h' tk hk _ => I.turnedL (ch := [z, TO, i1, i2]) hk (fun c hcm => hf c (by simp at hcm ⊢; rcases hcm with q | q | q | q <;> simp [q]))
  self := fun A i s Q E st h => wpAny_pyIter_zip st.1 h
theorem turn_zip3G (k1 k2 k3 : Kd) {a b c0 z TI TO i1 i2 i3 : Addr} {xs ys zs : List V} (S : ZipSep3 z TI TO i1 i2 i3 [i1, a] [i2, b] [i3, c0]) (ha : a ≠ i1) (hb : b ≠ i2) (hc0 : c0 ≠ i3) :
    Turn P w K (.Tuple elts kk tpos) (ItG (min (min xs.length ys.length) zs.length) (fun H => k1.has K H a xs ∧ k2.has K H b ys ∧ k3.has K H c0 zs) fun i vs => ∃ x y u, xs[i]? = some x ∧ ys[i]? = some y ∧ zs[i]? = some u ∧ vs = [x, y, u]) [z, TI, TO, i1, i2, i3] z
      (fun i h => IsZip h z TI TO .none ∧ IsTupOf3 h TI (.ref i1) (.ref i2) (.ref i3) ∧ (∃ u v w, IsTupOf3 h TO u v w) ∧ k1.it h i1 a i ∧ k2.it h i2 b i ∧ k3.it h i3 c0 i) where
  mem := List.mem_cons_self
  obj := fun i h st c hc => by
    obtain ⟨hz, hTI, ⟨u, v, w', hTO⟩, h1, h2, h3⟩ := st
    have e' : c = z ∨ c = TI ∨ c = TO ∨ c = i1 ∨ c = i2 ∨ c = i3 := by simpa using hc
    rcases e' with q | q | q | q | q | q <;> rw [q]
    · exact ⟨_, hz, fun v q => nomatch q⟩
    · exact ⟨_, hTI, fun v q => nomatch q⟩
    · exact ⟨_, hTO, fun v q => nomatch q⟩
    · exact k1.it_obj h1
    · exact k2.it_obj h2
    · exact k3.it_obj h3
  keep := fun i h h' st q => by
    obtain ⟨hz, hTI, ⟨u, v, w', hTO⟩, h1, h2, h3⟩ := st
    exact ⟨q z (by simp) _ hz, q TI (by simp) _ hTI, ⟨u, v, w', q TO (by simp) _ hTO⟩, k1.it_at h1 fun o e => q i1 (by simp) o e, k2.it_at h2 fun o e => q i2 (by simp) o e, k3.it_at h3 fun o e => q i3 (by simp) o e⟩
  item := by
    intro X hP hw hK hc i pins s σ H E I hf st hg
    subst hP hw hK
    obtain ⟨hi, hq1, hq2, hq3⟩ := hg
    obtain ⟨hi12, hi3⟩ := lt_min2 hi
    obtain ⟨hi1, hi2⟩ := lt_min2 hi12
    obtain ⟨its, rv, p⟩ := k1.read I hq1
    obtain ⟨jts, rw', p'⟩ := k2.read I hq2
    obtain ⟨kts, rz, p''⟩ := k3.read I hq3
    have hl := rv.length
    have hl' := rw'.length
    have hl'' := rz.length
    have G := GoesN.zip3 (elts := elts) (x1 := kk) (pos := tpos) S (k1.draws (P := X.prog) (w := X.w) (A := X.A.in1) (I.ok.hd hc) i1 a ha its.toArray) (k2.draws (P := X.prog) (w := X.w) (A := X.A.in1) (I.ok.hd hc) i2 b hb jts.toArray) (k3.draws (P := X.prog) (w := X.w) (A := X.A.in1) (I.ok.hd hc) i3 c0 hc0 kts.toArray)
    have hx : xs[i]? = some xs[i] := List.getElem?_eq_getElem hi1
    have hy : ys[i]? = some ys[i] := List.getElem?_eq_getElem hi2
    have hz : zs[i]? = some zs[i] := List.getElem?_eq_getElem hi3
    obtain ⟨u, hu, ru⟩ := rv.get hx
    obtain ⟨u2, hu2, ru2⟩ := rw'.get hy
    obtain ⟨u3, hu3, ru3⟩ := rz.get hz
    have lt0 : ∀ c ∈ [z, TI, TO, i1, i2, i3], c < s.heap.objs.size := fun c hcm => by
      obtain ⟨hz, hTI, ⟨_, _, _, hTO⟩, h1, h2, h3⟩ := st
      have e' : c = z ∨ c = TI ∨ c = TO ∨ c = i1 ∨ c = i2 ∨ c = i3 := by simpa using hcm
      rcases e' with q | q | q | q | q | q <;> rw [q]
      · exact Heap.lt_size hz
      · exact Heap.lt_size hTI
      · exact Heap.lt_size hTO
      · obtain ⟨o, q, _⟩ := k1.it_obj h1; exact Heap.lt_size q
      · obtain ⟨o, q, _⟩ := k2.it_obj h2; exact Heap.lt_size q
      · obtain ⟨o, q, _⟩ := k3.it_obj h3; exact Heap.lt_size q
    refine wpAny_mono (G.goes i s (fun v s2 => ∃ x H', Inv X pins σ H' s2 ∧ RelV x v ∧ (∃ p xs', x = .ref p ∧ H p = none ∧ H' = upd H p (.tup xs') ∧ ∃ x y u, xs[i]? = some x ∧ ys[i]? = some y ∧ zs[i]? = some u ∧ xs' = [x, y, u]) ∧
      (IsZip s2.heap z TI TO .none ∧ IsTupOf3 s2.heap TI (.ref i1) (.ref i2) (.ref i3) ∧ (∃ u v w, IsTupOf3 s2.heap TO u v w) ∧ k1.it s2.heap i1 a (i + 1) ∧ k2.it s2.heap i2 b (i + 1) ∧ k3.it s2.heap i3 c0 (i + 1)) ∧ ∀ c ∈ [z, TI, TO, i1, i2, i3], H' c = none) _
      (by rw [List.size_toArray, List.size_toArray, List.size_toArray, ← hl, ← hl', ← hl'']; exact hi) ⟨st.1, st.2.1, st.2.2.1, ⟨st.2.2.2.1, p⟩, ⟨st.2.2.2.2.1, p'⟩, st.2.2.2.2.2, p''⟩ fun v h' tk y st2 hk _ => ?_) (fun r s1 q => q) fun _ _ q => q
    obtain ⟨t', x, y, w', rfl, hn, hx', hy', hz', ht⟩ := y
    have ex : x = u := by
      have q : its[i]? = some x := by simpa using hx'
      rw [hu] at q; cases q; rfl
    have ey : y = u2 := by
      have q : jts[i]? = some y := by simpa using hy'
      rw [hu2] at q; cases q; rfl
    have ew : w' = u3 := by
      have q : kts[i]? = some w' := by simpa using hz'
      rw [hu3] at q; cases q; rfl
    subst ex ey ew
    have new : ObjOk X.prog X.w (upd H t' (.tup [xs[i], ys[i], zs[i]])) h' t' (.tup [xs[i], ys[i], zs[i]]) := ⟨show 3 ≤ sizeLine by decide, [x, y, w'], .cons ru (.cons ru2 (.cons ru3 .nil)), ht⟩
    have I1 : Inv X pins σ (upd H t' (.tup [xs[i], ys[i], zs[i]])) { s with heap := h', toks := tk } :=
      I.turnedNew (ch := [z, TO, i1, i2, i3]) hk (fun c hcm => hf c (by simp at hcm ⊢; rcases hcm with q | q | q | q | q <;> simp [q])) hn new
    refine ⟨.ref t', _, I1, rfl, ⟨t', _, rfl, I.hok.fresh hn, rfl, _, _, _, hx, hy, hz, rfl⟩, ⟨st2.1, st2.2.1, st2.2.2.1, st2.2.2.2.1.1, st2.2.2.2.2.1.1, st2.2.2.2.2.2.1⟩, fun c hcm => ?_⟩
    rw [upd_ne (Nat.ne_of_lt (Nat.lt_of_lt_of_le (lt0 c hcm) hn))]
    exact (hf c hcm).1
  done := by
    intro X hP hw hK hc i pins s σ H E I hf st hg
    subst hP hw hK
    obtain ⟨hi, hq1, hq2, hq3⟩ := hg
    obtain ⟨its, rv, p⟩ := k1.read I hq1
    obtain ⟨jts, rw', p'⟩ := k2.read I hq2
    obtain ⟨kts, rz, p''⟩ := k3.read I hq3
    have hl := rv.length
    have hl' := rw'.length
    have hl'' := rz.length
    have G := GoesN.zip3 (elts := elts) (x1 := kk) (pos := tpos) S (k1.draws (P := X.prog) (w := X.w) (A := X.A.in1) (I.ok.hd hc) i1 a ha its.toArray) (k2.draws (P := X.prog) (w := X.w) (A := X.A.in1) (I.ok.hd hc) i2 b hb jts.toArray) (k3.draws (P := X.prog) (w := X.w) (A := X.A.in1) (I.ok.hd hc) i3 c0 hc0 kts.toArray)
    have ei : i = min (min its.toArray.size jts.toArray.size) kts.toArray.size := by rw [List.size_toArray, List.size_toArray, List.size_toArray, ← hl, ← hl', ← hl'']; exact hi
    subst ei
    exact G.stops s _ E ⟨st.1, st.2.1, st.2.2.1, ⟨st.2.2.2.1, p⟩, ⟨st.2.2.2.2.1, p'⟩, st.2.2.2.2.2, p''⟩ fun h' tk hk _ => I.turnedL (ch := [z, TO, i1, i2, i3]) hk (fun c hcm => hf c (by simp at hcm ⊢; rcases hcm with q | q | q | q | q <;> simp [q]))
  self := fun A i s Q E st h => wpAny_pyIter_zip st.1 h
end
end DL

set_option Elab.async false
set_option linter.all false
set_option maxRecDepth 100000
set_option maxHeartbeats 4000000
/-! DL10: what a loop walks; for, while, list comprehensions. -/
namespace DL
open PySem PySem.Spec PyProof.Rows L2

/-- the walk J gives the items ds -/
structure WalkD (T : Tb) (μ : List Addr) (H : Hp) (ds : List D) (J : It) : Prop where
  goes : ∀ i μ' H' S', i < ds.length → Step μ H μ' H' → Rep T μ' H' S' → J.go i H'
  stops : ∀ μ' H' S', Step μ H μ' H' → Rep T μ' H' S' → J.stop ds.length H'
  yields : ∀ i μ' H' S' x H'', i < ds.length → Step μ H μ' H' → Rep T μ' H' S' → J.yld i H' x H'' → Step μ' H' μ' H'' ∧ Rep T μ' H'' S' ∧ ∃ d, ds[i]? = some d ∧ DV T μ' H'' x d
abbrev FI := Ev → Store → Res (List D)
abbrev kI (T : Tb) (R : It → Hp → Prop) : List D → Store → List Addr → Hp → Prop := fun ds _ μ H => ∀ J, WalkD T μ H ds J → R J H
def tI (T : Tb) (E : XK) (f : FI) : TI := fun σ H R => ∃ ρ S μ, EnvR T μ H σ ρ ∧ Rep T μ H S ∧ Fin T E (kI T R) μ H (f ρ S)
section
variable {T : Tb} {μ : List Addr} {H : Hp}
theorem walkD_of {J : It} {n : Nat} {G : Hp → Prop} {Y : Nat → Hp → V → Hp → Prop} {ds : List D} (w : Walk J n G Y) (hn : n = ds.length) (hG : ∀ μ' H' S', Step μ H μ' H' → Rep T μ' H' S' → G H')
    (hY : ∀ i μ' H' S' x H'', i < ds.length → Step μ H μ' H' → Rep T μ' H' S' → Y i H' x H'' → H'' = H' ∧ ∃ d, ds[i]? = some d ∧ DV T μ' H' x d) : WalkD T μ H ds J := by
  subst hn
  refine ⟨fun i μ' H' S' hi st rp => w.goes i H' hi (hG μ' H' S' st rp), fun μ' H' S' st rp => w.stops H' (hG μ' H' S' st rp), fun i μ' H' S' x H'' hi st rp y => ?_⟩
  obtain ⟨rfl, q⟩ := hY i μ' H' S' x H'' hi st rp (w.yields i H' x H'' hi (hG μ' H' S' st rp) y)
  exact ⟨Step.refl _ _, rp, q⟩
theorem walkD_vs {J : It} {G : Hp → Prop} {xs : List V} {ds : List D} {S : Store} (r0 : Rep T μ H S) (w : Walk J xs.length G (YAt xs)) (h : DVs T μ H xs ds) (hG : ∀ μ' H' S', Step μ H μ' H' → Rep T μ' H' S' → G H') : WalkD T μ H ds J :=
  walkD_of w h.length hG fun i μ' H' S' x H'' hi st rp ⟨e, y⟩ => ⟨e, by
    obtain ⟨d, e1, e2⟩ := h.get' y
    exact ⟨d, e1, e2.step st r0.r0⟩⟩
/-- a walk of new tuples -/
theorem walkD_G {n : Nat} {Rd : Hp → Prop} {Y : Nat → List V → Prop} {ds : List (List D)} {S : Store} (r0 : Rep T μ H S) (hn : n = ds.length) (hG : ∀ μ' H' S', Step μ H μ' H' → Rep T μ' H' S' → Rd H')
    (hY : ∀ i vs es, ds[i]? = some es → Y i vs → DVs T μ H vs es) : WalkD T μ H (ds.map D.row) (ItG n Rd Y) := by
  subst hn
  refine ⟨fun i μ' H' S' hi st rp => ⟨by simpa using hi, hG μ' H' S' st rp⟩, fun μ' H' S' st rp => ⟨by simp, hG μ' H' S' st rp⟩, fun i μ' H' S' x H'' hi st rp y => ?_⟩
  obtain ⟨p, vs, rfl, hp, rfl, y⟩ := y
  have hi' : i < ds.length := by simpa using hi
  have e : ds[i]? = some ds[i] := List.getElem?_eq_getElem hi'
  have st2 : Step μ' H' μ' (upd H' p (.tup vs)) := Step.new hp
  exact ⟨st2, rp.new hp, .row ds[i], by rw [List.getElem?_map, e]; rfl, .row (.inl (.inl upd_same)) (((hY i vs _ e y).step st r0.r0).step st2 rp.r0)⟩
end
/-- the items of a list, a tuple -/
def itemsI : D → Option (List D)
  | .tup ds => some ds
  | .lst ds => some ds
  | .scr ns => some (ns.map D.int)
  | _ => none
/-- where they stand -/
theorem items_kd {T : Tb} {μ : List Addr} {H : Hp} {S : Store} {v : V} {d : D} {ds : List D} (r : Rep T μ H S) (h : DV T μ H v d) (e : itemsI d = some ds) :
    ∃ (k : Kd) (a : Addr) (xs : List V), v = .ref a ∧ DVs T μ H xs ds ∧ k.has T.K H a xs ∧ ∀ μ' H' S', Step μ H μ' H' → Rep T μ' H' S' → k.has T.K H' a xs := by
  cases h with
  | tup s q => cases e; exact ⟨.t, _, _, rfl, q, s.sq, fun μ' H' S' st _ => (s.step st r.r0).sq⟩
  | lst s n q => cases e; exact ⟨.l, _, _, rfl, q, .inl (.inl s), fun μ' H' S' st _ => .inl (.inl (st.keep _ _ s n fun ps z => nomatch z))⟩
  | scr s => cases e; exact ⟨.l, _, _, rfl, DVs.of_ints _, s.sq, fun μ' H' S' st _ => (s.step st).sq⟩
  | _ => cases e
section
variable {X : Cx} {T : Tb} {E : XK} {k : Nat}
def iSeq (fe : FE) : FI := fun ρ S => (fe ρ S).bind fun d S1 => match itemsI d with | some ds => .ok ds S1 | none => .bad
theorem fin_items {μ : List Addr} {H : Hp} {r : Res D} {R : It → Hp → Prop} (h : Fin T E (kI T R) μ H (r.bind fun d S1 => match itemsI d with | some ds => .ok ds S1 | none => .bad)) :
    Fin T E (fun d S1 μ1 H1 => ∃ ds, itemsI d = some ds ∧ ∀ J, WalkD T μ1 H1 ds J → R J H1) μ H r :=
  (Fin.bind h).mono fun d S1 μ1 H1 st1 r1 h1 => by
    split at h1
    · rename_i ds hd
      exact ⟨ds, hd, h1.ok r1⟩
    · exact h1.elim
theorem di_seq {tg e : Expr} {fe : FE} (hK : T.K = X.K) (he : PE X e (tE T E fe)) : PI X tg e (tI T E (iSeq fe)) := by
  refine ⟨fun pins s σ H R I h => ?_⟩
  obtain ⟨ρ, S, μ, hee, hr, hf⟩ := h
  refine thn (he.run pins s σ H (fun v H1 => ∃ d ds μ1 S1, Rep T μ1 H1 S1 ∧ DV T μ1 H1 v d ∧ itemsI d = some ds ∧ ∀ J, WalkD T μ1 H1 ds J → R J H1) I ⟨ρ, S, μ, hee, hr, (fin_items hf).mono fun d S1 μ1 H1 st1 r1 ⟨ds, hd, hR⟩ v hv => ⟨d, ds, μ1, S1, r1, hv, hd, hR⟩⟩) fun v s1 ⟨x, H1, I1, rx, d, ds, μ1, S1, rp, hv, hd, hR⟩ => ?_
  obtain ⟨kd, a, xs, rfl, q, hh, stay⟩ := items_kd rp hv hd
  cases rx
  rw [hK] at hh stay
  cases kd with
  | l =>
    obtain ⟨its, rv, p, hz⟩ := I1.list hh
    exact wpAny_pyIter_list p.isList (pi_one (tk := s1.toks) I1 _ (turn_list a _) ⟨_, Heap.get?_push_size _ rfl, rfl, rfl⟩ (hR _ (walkD_vs rp walk_list q stay)))
  | t =>
    obtain ⟨its, rv, p, hz⟩ := I1.tuple hh
    exact wpAny_pyIter_tuple (show s1.heap.IsTuple a its.toArray from p) (pi_one (tk := s1.toks) I1 _ (turn_tuple a _) ⟨_, Heap.get?_push_size _ rfl, rfl, rfl⟩ (hR _ (walkD_vs rp walk_tup q stay)))
/-- the signs of a text -/
def signsOf (x : Str) : List D := x.cps.toList.map fun c => D.str ⟨#[c]⟩
def iSgn (fe : FE) : FI := fun ρ S => (fe ρ S).bind fun d S1 => match d with | .str x => .ok (signsOf x) S1 | _ => .bad
theorem di_str {tg e : Expr} {fe : FE} (he : PE X e (tE T E fe)) : PI X tg e (tI T E (iSgn fe)) := by
  refine ⟨fun pins s σ H R I ⟨ρ, S, μ, hee, hr, hf⟩ => ?_⟩
  refine (pi_str (tg := tg) he).run pins s σ H R I ⟨ρ, S, μ, hee, hr, (Fin.bind hf).mono fun d S1 μ1 H1 st1 r1 h1 v hv => ?_⟩
  split at h1
  · rename_i x
    cases hv
    refine ⟨x, rfl, h1.ok r1 _ (walkD_of walk_str (by simp [signsOf]) (fun _ _ _ _ _ => trivial) fun i μ' H' S' y H'' hi st rp ⟨e, c, hc, ey⟩ => ⟨e, .str ⟨#[c]⟩, ?_, ey ▸ .str _⟩)⟩
    rw [signsOf, List.getElem?_map, Array.getElem?_toList, hc]; rfl
  · exact h1.elim
/-! ### range -/
def bigN : Int := 4611686018427387904
theorem bigN_eq : bigN = 2 ^ 62 := by decide
def upto (lo : Int) (n : Nat) : List D := (List.range n).map fun (i : Nat) => D.int (lo + i)
theorem walkD_rng {μ : List Addr} {H : Hp} {lo : Int} {n : Nat} : WalkD T μ H (upto lo n) (Itr lo n) :=
  walkD_of walk_range (by simp [upto]) (fun _ _ _ _ _ => trivial) fun i μ' H' S' x H'' hi st rp ⟨e, ex⟩ => ⟨e, .int (lo + i), by
    have hi' : i < n := by simpa [upto] using hi
    simp [upto, hi'], ex ▸ .int _⟩
def iR1 (fs : FL) : FI := fun ρ S => (fs ρ S).bind fun ds S1 => match ds with
  | [.int j] => if -bigN ≤ j ∧ j < bigN then .ok (upto 0 j.toNat) S1 else .bad
  | _ => .bad
theorem di_r1 {tg a : Expr} {fs : FL} {p pos : Pos} (hg : Gl X "range") (hm : X.mg "range" = none) (ha : PA X [a] (tA T E fs)) (hs : starEach [a] X.env = [(false, eval a X.env)] := by rfl) : PI X tg (.Call (.Name "range" p) [a] [] pos) (tI T E (iR1 fs)) := by
  refine ⟨fun pins s σ H R I ⟨ρ, S, μ, hee, hr, hf⟩ => ?_⟩
  refine (pi_range1 (tg := tg) hg hm ha hs).run pins s σ H R I ⟨ρ, S, μ, hee, hr, (Fin.bind hf).mono fun ds S1 μ1 H1 st1 r1 h1 vs hvs => ?_⟩
  split at h1
  · rename_i j
    split at h1
    · rename_i hb
      rw [bigN_eq] at hb
      obtain rfl := DVs.ints (ns := [j]) hvs
      exact ⟨j, rfl, hb.1, hb.2, h1.ok r1 _ walkD_rng⟩
    · exact h1.elim
  · exact h1.elim
def iR2 (fs : FL) : FI := fun ρ S => (fs ρ S).bind fun ds S1 => match ds with
  | [.int i, .int j] => if (-bigN ≤ i ∧ i < bigN) ∧ -bigN ≤ j ∧ j < bigN then .ok (upto i (j - i).toNat) S1 else .bad
  | _ => .bad
theorem di_r2 {tg a b : Expr} {fs : FL} {p pos : Pos} (hg : Gl X "range") (hm : X.mg "range" = none) (ha : PA X [a, b] (tA T E fs)) (hs : starEach [a, b] X.env = [(false, eval a X.env), (false, eval b X.env)] := by rfl) (hs2 : starEach [b] X.env = [(false, eval b X.env)] := by rfl) :
    PI X tg (.Call (.Name "range" p) [a, b] [] pos) (tI T E (iR2 fs)) := by
  refine ⟨fun pins s σ H R I ⟨ρ, S, μ, hee, hr, hf⟩ => ?_⟩
  refine (pi_range2 (tg := tg) hg hm ha hs hs2).run pins s σ H R I ⟨ρ, S, μ, hee, hr, (Fin.bind hf).mono fun ds S1 μ1 H1 st1 r1 h1 vs hvs => ?_⟩
  split at h1
  · rename_i i j
    split at h1
    · rename_i hb
      rw [bigN_eq] at hb
      obtain rfl := DVs.ints (ns := [i, j]) hvs
      exact ⟨i, j, rfl, ⟨hb.1.1, hb.1.2, hb.2.1, hb.2.2⟩, h1.ok r1 _ walkD_rng⟩
    · exact h1.elim
  · exact h1.elim

/-! ### for -/
def loopS (p : FG) (body : FS) : List D → FS
  | [] => fun ρ S => .nx ρ S
  | d :: ds => fun ρ S => ((p d ρ S).out fun ρ1 S1 => body ρ1 S1).next (loopS p body ds)
def sFor (fi : FI) (p : FG) (body : FS) : FS := fun ρ S => (fi ρ S).out fun ds S1 => loopS p body ds ρ S1
theorem ds_for {tg iter : Expr} {body : List Stmt} {fi : FI} {p : FG} {fb : FS} {pos : Pos} (hp : PassesOwn (model X.prog X.w) X.A X.env X.xe) (hc : X.calm = true) (hi : PI X tg iter (tI T E fi)) (hg : PG X tg (tG T E p)) (hb : PSs X body (tS T E fb))
    (hs : ∀ x, foldedSetIterable iter X.env x = Pure.pure x := by intro _; rfl) : PS X (.For tg iter body [] pos) (tS T E (sFor fi p fb)) :=
  psW (ps_for hp hc hi hg hb hs) fun D σ H ⟨ρ, S, μ, hee, hr, hf⟩ => ⟨ρ, S, μ, hee, hr, hf.bind.mono fun ds S1 μ1 H1 st1 r1 h1 J W => by
    have hr0 := hr
    refine ⟨fun i m σ' H' => m = ds.length - i ∧ i ≤ ds.length ∧ ∃ ρ' S' μ', Step μ1 H1 μ' H' ∧ EnvR T μ' H' σ' ρ' ∧ Rep T μ' H' S' ∧ FinS T E D μ' H' (loopS p fb (ds.drop i) ρ' S'), ⟨ds.length, rfl, Nat.zero_le _, ρ, S1, μ1, Step.refl _ _, hee.step st1 hr.r0, r1, h1⟩, ?_⟩
    rintro i m σ' H' ⟨rfl, hi, ρ', S', μ', st, he', rp, hl⟩
    by_cases hlt : i < ds.length
    · refine .inr ⟨W.goes i μ' H' S' hlt st rp, fun σ'' H'' => ∃ ρ' S' μ'', Step μ1 H1 μ'' H'' ∧ EnvR T μ'' H'' σ'' ρ' ∧ Rep T μ'' H'' S' ∧ FinS T E D μ'' H'' (loopS p fb (ds.drop (i + 1)) ρ' S'), fun σ'' H'' q => ⟨ds.length - (i + 1), by omega, rfl, hlt, q⟩, fun x H'' y => ?_⟩
      obtain ⟨st2, rp2, d, hd, hv⟩ := W.yields i μ' H' S' x H'' hlt st rp y
      have ed : ds.drop i = d :: ds.drop (i + 1) := by
        rw [List.drop_eq_getElem_cons hlt]
        rw [List.getElem?_eq_getElem hlt] at hd
        rw [Option.some.inj hd]
      rw [ed] at hl
      have hl := FinS.step st2 hl
      refine ⟨ρ', S', μ', d, he'.step st2 rp.r0, rp2, hv, ?_⟩
      have hl : FinS T E D μ' H'' (((p d ρ' S').out fun ρ1 S1 => fb ρ1 S1).next (loopS p fb (ds.drop (i + 1)))) := hl
      cases hpd : p d ρ' S' with
      | ok ρ2 S2 =>
        rw [hpd] at hl
        intro μ3 H3 st3 rp3 σ3 he3
        have hl : FinS T E D μ' H'' ((fb ρ2 S2).next (loopS p fb (ds.drop (i + 1)))) := hl
        have hl := FinS.step st3 hl
        refine ⟨ρ2, S2, μ3, he3, rp3, ?_⟩
        cases hb2 : fb ρ2 S2 with
        | nx ρ4 S4 =>
          rw [hb2] at hl
          exact fun σ4 μ4 H4 st4 rp4 he4 => ⟨ρ4, S4, μ4, ((st.trans st2).trans st3).trans st4, he4, rp4, FinS.step st4 hl⟩
        | rt d4 S4 => rw [hb2] at hl; exact hl
        | exc c fs S4 => rw [hb2] at hl; exact hl
        | bad => rw [hb2] at hl; exact hl
      | exc c fs S2 => rw [hpd] at hl; exact hl
      | bad => rw [hpd] at hl; exact hl
    · have e : i = ds.length := by omega
      subst e
      rw [List.drop_length] at hl
      exact .inl ⟨W.stops μ' H' S' st rp, hl.nx rp he'⟩⟩

/-! ### while -/
def whileS (c : FT) (body : FS) : Nat → FS
  | 0 => fun _ _ => .bad
  | n + 1 => fun ρ S => (c ρ S).out fun b S1 => if b = true then (body ρ S1).next (whileS c body n) else .nx ρ S1
def sWhile (fuel : Ev → Nat) (c : FT) (body : FS) : FS := fun ρ S => whileS c body (fuel ρ) ρ S
theorem ds_while {c : Expr} {body : List Stmt} {fc : FT} {fb : FS} {pos : Pos} (fuel : Ev → Nat) (hp : PassesOwn (model X.prog X.w) X.A X.env X.xe) (hc : PT X c (tT T E fc)) (hb : PSs X body (tS T E fb)) : PS X (.While c body [] pos) (tS T E (sWhile fuel fc fb)) :=
  psW (ps_while hp hc hb) fun D σ H ⟨ρ, S, μ, hee, hr, hf⟩ => by
    refine ⟨fun m σ' H' => ∃ ρ' S' μ', EnvR T μ' H' σ' ρ' ∧ Rep T μ' H' S' ∧ FinS T E D μ' H' (whileS fc fb m ρ' S'), ⟨fuel ρ, ρ, S, μ, hee, hr, hf⟩, ?_⟩
    rintro m σ' H' ⟨ρ', S', μ', he, rp, hl⟩
    cases m with
    | zero => exact hl.elim
    | succ n =>
      have hl : FinS T E D μ' H' ((fc ρ' S').out fun b S1 => if b = true then (fb ρ' S1).next (whileS fc fb n) else .nx ρ' S1) := hl
      refine ⟨ρ', S', μ', he, rp, hl.bind.mono fun b S1 μ1 H1 st1 r1 h1 => ?_⟩
      cases b with
      | true =>
        rw [if_pos rfl] at h1
        refine iteT ⟨fun σ' H' => ∃ ρ' S' μ', EnvR T μ' H' σ' ρ' ∧ Rep T μ' H' S' ∧ FinS T E D μ' H' (whileS fc fb n ρ' S'), fun σ' H' q => ⟨n, Nat.lt_succ_self n, q⟩, ρ', S1, μ1, he.step st1 rp.r0, r1, ?_⟩
        cases hb2 : fb ρ' S1 with
        | nx ρ4 S4 => rw [hb2] at h1; exact fun σ4 μ4 H4 st4 rp4 he4 => ⟨ρ4, S4, μ4, he4, rp4, FinS.step st4 h1⟩
        | rt d4 S4 => rw [hb2] at h1; exact h1
        | exc c fs S4 => rw [hb2] at h1; exact h1
        | bad => rw [hb2] at h1; exact h1
      | false =>
        rw [if_neg Bool.false_ne_true] at h1
        exact iteF (h1.nx r1 (he.step st1 rp.r0))
end
end DL

set_option Elab.async false
set_option linter.all false
set_option maxRecDepth 100000
set_option maxHeartbeats 4000000
/-! DL11: enumerate, zip as walks; list comprehensions. -/
namespace DL
open PySem PySem.Spec PyProof.Rows L2

theorem enum_new1 {v : Value} {o : Obj} {G : Heap → Prop} (B : Begins v o G) :
    Meets (Builtin.«enumerate.__new__» ⟨[.type "enumerate", v], []⟩) fun _ R s =>
      G s.heap ∧ R (.ok (.ret (.ref (s.heap.push o).objs.size))) { s with heap := (s.heap.push o).push ({ cls := .type "enumerate", data := .fields #[.none, .bool false, .ref s.heap.objs.size, rawInt 0, .none, .none] } : Obj) } := by
  refine .of_wp fun P w A R s hs => ?_
  obtain ⟨hp, g, d, tk, os⟩ := s
  obtain ⟨hg, hs⟩ := hs
  have hsub := sub_enumerate
  have step : ∀ {A' : Around} {F : Value → Shared → Prop} {Q : Value → Shared → Prop}, Q (.ref hp.objs.size) ⟨hp.push o, g, d, tk, os⟩ → wpAny (model P w) A' (pyIter v) Q F ⟨hp, g, d, tk, os⟩ := fun q => B.iter P w _ _ ⟨hp, g, d, tk, os⟩ _ hg q
  wp_walk using step
  refine wpAny_stack_any fun st => wpAny_pure ?_
  split
  · rename_i c _ _ _ _ _
    cases c == Value.type "enumerate" <;> (wp_walk using step; exact ⟨_, rfl, hs⟩)
  · wp_walk using step
    exact ⟨_, rfl, hs⟩
theorem enum_call1 {P : Program} {w : World} {A : Around} {W : Value → Shared → Prop} {s : Shared} {v : Value} {o : Obj} {G : Heap → Prop} {Q : Value → Shared → Prop} (B : Begins v o G) (hg : G s.heap)
    (h : ∀ h', IsEnum h' (s.heap.objs.size + 1) s.heap.objs.size 0 .none → h'.get? s.heap.objs.size = some o → (∀ b u, s.heap.get? b = some u → h'.get? b = some u) → Q (.ref (s.heap.objs.size + 1)) { s with heap := h' }) :
    wpAny (model P w) A (call (.type "enumerate") [v]) Q W s := by
  refine callType_new F.called_enumerate (by decide) (F.typeCall_enumerate_1 _) (F.newCall_enumerate_1 _) (fun obj => F.args_object_init_2 obj _) F.entry_enumerate_new (enum_new1 B) ⟨hg, ?_⟩
  have hz : (s.heap.push o).objs.size = s.heap.objs.size + 1 := Heap.size_push ..
  have he : IsEnum ((s.heap.push o).push ({ cls := .type "enumerate", data := .fields #[.none, .bool false, .ref s.heap.objs.size, rawInt 0, .none, .none] } : Obj)) (s.heap.objs.size + 1) s.heap.objs.size 0 .none := by
    have q := Heap.get?_push_size (s.heap.push o) (o := ({ cls := .type "enumerate", data := .fields #[.none, .bool false, .ref s.heap.objs.size, rawInt 0, .none, .none] } : Obj)) rfl
    rw [hz] at q; exact q
  show _ ∧ _
  rw [hz]
  exact ⟨⟨_, he, rfl⟩, h _ he (Heap.get?_push_of_some _ (Heap.get?_push_size _ B.free)) fun b u q => Heap.get?_push_of_some _ (Heap.get?_push_of_some _ q)⟩
section
variable {X : Cx} {T : Tb} {E : XK}
theorem fresh_fp {pins : List (Addr × Obj)} {σ : L2.St} {H : Hp} {s : Shared} (I : Inv X pins σ H s) : ∀ b, s.heap.objs.size ≤ b → FpOk X pins H b := fun b hb => I.fpOk hb (I.hok.fresh hb)
/-! ### enumerate -/
def enumL : Nat → List D → List (List D)
  | _, [] => []
  | i, d :: ds => [.int (i : Nat), d] :: enumL (i + 1) ds
theorem enumL_get : ∀ {ds : List D} {k i : Nat}, (enumL k ds)[i]? = (ds[i]?).map fun d => [D.int ((k + i : Nat) : Int), d]
  | [], _, _ => by simp [enumL]
  | d :: ds, k, 0 => by simp [enumL]
  | d :: ds, k, i + 1 => by
    rw [enumL, List.getElem?_cons_succ, List.getElem?_cons_succ, enumL_get, show k + 1 + i = k + (i + 1) by omega]
theorem enumL_len : ∀ {ds : List D} {k : Nat}, (enumL k ds).length = ds.length
  | [], _ => rfl
  | d :: ds, k => by simp [enumL, enumL_len]
def iEn (fe : FE) : FI := fun ρ S => (fe ρ S).bind fun d S1 => match itemsI d with | some ds => .ok ((enumL 0 ds).map D.row) S1 | none => .bad
theorem di_enum {e : Expr} {fe : FE} {elts : List Expr} {kk : Nat} {p pos tpos : Pos} (hK : T.K = X.K) (hg : Gl X "enumerate") (hm : X.mg "enumerate" = none) (he : PE X e (tE T E fe)) (hs : starEach [e] X.env = [(false, eval e X.env)] := by rfl) :
    PI X (.Tuple elts kk tpos) (.Call (.Name "enumerate" p) [e] [] pos) (tI T E (iEn fe)) := by
  refine ⟨fun pins s σ H R I ⟨ρ, S, μ, hee, hr, hf⟩ => ?_⟩
  have ha : PA X [e] (tA T E (fCons fe fNil)) := da_cons he da_nil hs
  refine Call_ (ld_blt I hg hm boot_enumerate (PyProof.Rows.callWith_type1 (thn (ha.run pos pins s σ H (fun vs H1 => ∃ v d ds μ1 S1, vs = [v] ∧ Rep T μ1 H1 S1 ∧ DV T μ1 H1 v d ∧ itemsI d = some ds ∧ ∀ J, WalkD T μ1 H1 ((enumL 0 ds).map D.row) J → R J H1) I ⟨ρ, S, μ, hee, hr, ?_⟩) fun us s1 ⟨vs, H1, I1, rv, v, d, ds, μ1, S1, ev, rp, hv, hd, hR⟩ => ?_) hs rfl))
  · show Fin T E _ μ H (((fe ρ S).bind fun d S1 => Res.ok (d :: []) S1))
    unfold iEn at hf
    cases hfe : fe ρ S with
    | ok d S1 =>
      rw [hfe] at hf
      simp only [Res.bind_ok] at hf ⊢
      intro μ' H' st rp vs hvs
      cases hd : itemsI d with
      | some ds =>
        rw [hd] at hf
        cases hvs with
        | cons h q => cases q; exact ⟨_, d, ds, μ', S1, rfl, rp, h, hd, hf.at st rp⟩
      | none => rw [hd] at hf; exact hf.elim
    | exc c fs S1 => rw [hfe] at hf; exact hf
    | bad => rw [hfe] at hf; exact hf.elim
  · subst ev
    cases rv with
    | cons r q =>
      cases q
      obtain ⟨kd, a, xs, rfl, q, hh, stay⟩ := items_kd rp hv hd
      cases r
      rw [hK] at hh stay
      obtain ⟨its, rvv, p1⟩ := kd.read I1 hh
      have la := kd.lt I1 hh
      refine enum_call1 (kd.begins a its.toArray) p1 fun h' hen ho hk => wpAny_pyIter_enum hen ?_
      have I2 : Inv X pins σ H1 { s1 with heap := h' } := I1.kept (t' := s1.toks) hk
      refine ⟨s1.heap.objs.size + 1, [s1.heap.objs.size + 1, s1.heap.objs.size], _, _, H1, rfl, I2, turn_enumG (K := X.K) kd (xs := xs) (Nat.succ_ne_self _) (Nat.ne_of_gt (Nat.lt_succ_of_lt la)) (Nat.ne_of_lt la), ⟨⟨.none, hen⟩, kd.at0 ho⟩, fun b hb => fresh_fp I1 b ?_, hR _ (walkD_G rp (by rw [enumL_len]; exact q.length) stay fun i vs es hes ⟨x, hx, ey⟩ => ?_)⟩
      · have e' : b = s1.heap.objs.size + 1 ∨ b = s1.heap.objs.size := by simpa using hb
        rcases e' with z | z
        · rw [z]; exact Nat.le_add_right _ _
        · rw [z]; exact Nat.le_refl _
      · rw [enumL_get] at hes
        obtain ⟨d', e1, e2⟩ := q.get' hx
        rw [e1] at hes
        cases hes
        rw [ey]
        rw [Nat.zero_add]
        exact .cons (.int _) (.cons e2 .nil)
/-! ### zip -/
def zipL : List D → List D → List (List D)
  | x :: xs, y :: ys => [x, y] :: zipL xs ys
  | _, _ => []
theorem zipL_len : ∀ {xs ys : List D}, (zipL xs ys).length = min xs.length ys.length
  | [], _ => by simp [zipL]
  | _ :: _, [] => by simp [zipL]
  | x :: xs, y :: ys => by
    have := zipL_len (xs := xs) (ys := ys)
    simp only [zipL, List.length_cons, this]; omega
theorem zipL_get : ∀ {xs ys : List D} {i : Nat} {es : List D}, (zipL xs ys)[i]? = some es → ∃ x y, xs[i]? = some x ∧ ys[i]? = some y ∧ es = [x, y]
  | [], _, _, _, h => by simp [zipL] at h
  | _ :: _, [], _, _, h => by simp [zipL] at h
  | x :: xs, y :: ys, 0, _, h => by simp [zipL] at h; exact ⟨x, y, rfl, rfl, h.symm⟩
  | x :: xs, y :: ys, i + 1, _, h => by
    rw [zipL, List.getElem?_cons_succ] at h
    obtain ⟨a, b, h1, h2, h3⟩ := zipL_get h
    exact ⟨a, b, by simpa using h1, by simpa using h2, h3⟩
def zipL3 : List D → List D → List D → List (List D)
  | x :: xs, y :: ys, z :: zs => [x, y, z] :: zipL3 xs ys zs
  | _, _, _ => []
theorem zipL3_len : ∀ {xs ys zs : List D}, (zipL3 xs ys zs).length = min (min xs.length ys.length) zs.length
  | [], _, _ => by simp [zipL3]
  | _ :: _, [], _ => by simp [zipL3]
  | _ :: _, _ :: _, [] => by simp [zipL3]
  | x :: xs, y :: ys, z :: zs => by
    have := zipL3_len (xs := xs) (ys := ys) (zs := zs)
    simp only [zipL3, List.length_cons, this]; omega
theorem zipL3_get : ∀ {xs ys zs : List D} {i : Nat} {es : List D}, (zipL3 xs ys zs)[i]? = some es → ∃ x y z, xs[i]? = some x ∧ ys[i]? = some y ∧ zs[i]? = some z ∧ es = [x, y, z]
  | [], _, _, _, _, h => by simp [zipL3] at h
  | _ :: _, [], _, _, _, h => by simp [zipL3] at h
  | _ :: _, _ :: _, [], _, _, h => by simp [zipL3] at h
  | x :: xs, y :: ys, z :: zs, 0, _, h => by simp [zipL3] at h; exact ⟨x, y, z, rfl, rfl, rfl, h.symm⟩
  | x :: xs, y :: ys, z :: zs, i + 1, _, h => by
    rw [zipL3, List.getElem?_cons_succ] at h
    obtain ⟨a, b, c, h1, h2, h3, h4⟩ := zipL3_get h
    exact ⟨a, b, c, by simpa using h1, by simpa using h2, by simpa using h3, h4⟩
def zipI2 : List D → Option (List D)
  | [d, e] => (itemsI d).bind fun xs => (itemsI e).map fun ys => (zipL xs ys).map D.row
  | _ => none
def zipI3 : List D → Option (List D)
  | [d, e, f] => (itemsI d).bind fun xs => (itemsI e).bind fun ys => (itemsI f).map fun zs => (zipL3 xs ys zs).map D.row
  | _ => none
def iZp (z : List D → Option (List D)) (fs : FL) : FI := fun ρ S => (fs ρ S).bind fun ds S1 => match z ds with | some ws => .ok ws S1 | none => .bad
theorem zipI2_eq {ds ws : List D} (h : zipI2 ds = some ws) : ∃ d e xs ys, ds = [d, e] ∧ itemsI d = some xs ∧ itemsI e = some ys ∧ ws = (zipL xs ys).map D.row := by
  unfold zipI2 at h
  split at h
  · rename_i d e
    obtain ⟨xs, h1, h⟩ := Option.bind_eq_some_iff.mp h
    obtain ⟨ys, h2, h⟩ := Option.map_eq_some_iff.mp h
    exact ⟨d, e, xs, ys, rfl, h1, h2, h.symm⟩
  · cases h
theorem zipI3_eq {ds ws : List D} (h : zipI3 ds = some ws) : ∃ d e f xs ys zs, ds = [d, e, f] ∧ itemsI d = some xs ∧ itemsI e = some ys ∧ itemsI f = some zs ∧ ws = (zipL3 xs ys zs).map D.row := by
  unfold zipI3 at h
  split at h
  · rename_i d e f
    obtain ⟨xs, h1, h⟩ := Option.bind_eq_some_iff.mp h
    obtain ⟨ys, h2, h⟩ := Option.bind_eq_some_iff.mp h
    obtain ⟨zs, h3, h⟩ := Option.map_eq_some_iff.mp h
    exact ⟨d, e, f, xs, ys, zs, rfl, h1, h2, h3, h.symm⟩
  · cases h
theorem fin_zip {μ : List Addr} {H : Hp} {r : Res (List D)} {R : It → Hp → Prop} {z : List D → Option (List D)} (h : Fin T E (kI T R) μ H (r.bind fun ds S1 => match z ds with | some ws => .ok ws S1 | none => .bad)) :
    Fin T E (kL T fun vs H1 => ∃ ds ws μ1 S1, Rep T μ1 H1 S1 ∧ DVs T μ1 H1 vs ds ∧ z ds = some ws ∧ ∀ J, WalkD T μ1 H1 ws J → R J H1) μ H r :=
  (Fin.bind h).mono fun ds S1 μ1 H1 st1 r1 h1 vs hvs => by
    split at h1
    · rename_i ws hw
      exact ⟨ds, ws, μ1, S1, r1, hvs, hw, h1.ok r1⟩
    · exact h1.elim
theorem di_zip2 {e e2 : Expr} {fs : FL} {elts : List Expr} {kk : Nat} {p pos tpos : Pos} (hK : T.K = X.K) (hg : Gl X "zip") (hm : X.mg "zip" = none) (ha : PA X [e, e2] (tA T E fs)) (hs : starEach [e, e2] X.env = (false, eval e X.env) :: starEach [e2] X.env := by rfl) (hpl : (backTo pos (starEach [e2] X.env)).any (·.1) = false := by rfl) :
    PI X (.Tuple elts kk tpos) (.Call (.Name "zip" p) [e, e2] [] pos) (tI T E (iZp zipI2 fs)) := by
  refine ⟨fun pins s σ H R I ⟨ρ, S, μ, hee, hr, hf⟩ => ?_⟩
  refine Call_ (ld_blt I hg hm PyProof.Rows.boot_zip (PyProof.Rows.callWith_type1 (thn (ha.run pos pins s σ H _ I ⟨ρ, S, μ, hee, hr, fin_zip hf⟩) fun us s1 ⟨vs, H1, I1, rv, ds, ws, μ1, S1, rp, hvs, hw, hR⟩ => ?_) hs hpl))
  · obtain ⟨d1, d2, ys1, ys2, rfl, hd1, hd2, rfl⟩ := zipI2_eq hw
    cases hvs with
    | cons h1 q => cases q with
      | cons h2 q =>
        cases q
        cases rv with
        | cons r1 rr => cases rr with
          | cons r2 rr =>
            cases rr
            obtain ⟨k1, a1, xs1, rfl, q1, hh1, stay1⟩ := items_kd rp h1 hd1
            obtain ⟨k2, a2, xs2, rfl, q2, hh2, stay2⟩ := items_kd rp h2 hd2
            cases r1
            cases r2
            rw [hK] at hh1 stay1 hh2 stay2
            obtain ⟨its1, rv1, p1⟩ := k1.read I1 hh1
            obtain ⟨its2, rv2, p2⟩ := k2.read I1 hh2
            have l1 := k1.lt I1 hh1
            have l2 := k2.lt I1 hh2
            refine zip_begins2 (k1.begins a1 its1.toArray) (k2.begins a2 its2.toArray) p1 p2 fun h' hz hTI hTO o1 o2 hsz hk => wpAny_pyIter_zip hz ?_
            have I2 : Inv X pins σ H1 { s1 with heap := h' } := I1.kept (t' := s1.toks) hk
            refine ⟨s1.heap.objs.size + 4, [s1.heap.objs.size + 4, s1.heap.objs.size + 2, s1.heap.objs.size + 3, s1.heap.objs.size, s1.heap.objs.size + 1], _, _, H1, rfl, I2,
              turn_zip2G (K := X.K) k1 k2 (xs := xs1) (ys := xs2) (zip_sep2 (fp1 := [a1]) (fp2 := [a2]) (by simpa using l1) (by simpa using l2)) (Nat.ne_of_lt l1) (Nat.ne_of_lt (Nat.lt_succ_of_lt l2)), ⟨hz, hTI, ⟨_, _, hTO⟩, k1.at0 o1, k2.at0 o2⟩, fun b hb => fresh_fp I1 b ?_,
              hR _ (walkD_G rp (by rw [zipL_len, q1.length, q2.length]) (fun μ' H' S' st r => ⟨stay1 μ' H' S' st r, stay2 μ' H' S' st r⟩) fun i vs es hes ⟨x, y, hx, hy, ey⟩ => ?_)⟩
            · have e' : b = s1.heap.objs.size + 4 ∨ b = s1.heap.objs.size + 2 ∨ b = s1.heap.objs.size + 3 ∨ b = s1.heap.objs.size ∨ b = s1.heap.objs.size + 1 := by simpa using hb
              rcases e' with z | z | z | z | z <;> rw [z] <;> first | exact Nat.le_add_right _ _ | exact Nat.le_refl _
            · obtain ⟨x', y', e1, e2, rfl⟩ := zipL_get hes
              obtain ⟨d1', f1, g1⟩ := q1.get' hx
              obtain ⟨d2', f2, g2⟩ := q2.get' hy
              rw [e1] at f1; cases f1
              rw [e2] at f2; cases f2
              rw [ey]
              exact .cons g1 (.cons g2 .nil)
theorem di_zip3 {e e2 e3 : Expr} {fs : FL} {elts : List Expr} {kk : Nat} {p pos tpos : Pos} (hK : T.K = X.K) (hg : Gl X "zip") (hm : X.mg "zip" = none) (ha : PA X [e, e2, e3] (tA T E fs)) (hs : starEach [e, e2, e3] X.env = (false, eval e X.env) :: starEach [e2, e3] X.env := by rfl) (hpl : (backTo pos (starEach [e2, e3] X.env)).any (·.1) = false := by rfl) :
    PI X (.Tuple elts kk tpos) (.Call (.Name "zip" p) [e, e2, e3] [] pos) (tI T E (iZp zipI3 fs)) := by
  refine ⟨fun pins s σ H R I ⟨ρ, S, μ, hee, hr, hf⟩ => ?_⟩
  refine Call_ (ld_blt I hg hm PyProof.Rows.boot_zip (PyProof.Rows.callWith_type1 (thn (ha.run pos pins s σ H _ I ⟨ρ, S, μ, hee, hr, fin_zip hf⟩) fun us s1 ⟨vs, H1, I1, rv, ds, ws, μ1, S1, rp, hvs, hw, hR⟩ => ?_) hs hpl))
  · obtain ⟨d1, d2, d3, ys1, ys2, ys3, rfl, hd1, hd2, hd3, rfl⟩ := zipI3_eq hw
    cases hvs with
    | cons h1 q => cases q with
      | cons h2 q => cases q with
        | cons h3 q =>
          cases q
          cases rv with
          | cons r1 rr => cases rr with
            | cons r2 rr => cases rr with
              | cons r3 rr =>
                cases rr
                obtain ⟨k1, a1, xs1, rfl, q1, hh1, stay1⟩ := items_kd rp h1 hd1
                obtain ⟨k2, a2, xs2, rfl, q2, hh2, stay2⟩ := items_kd rp h2 hd2
                obtain ⟨k3, a3, xs3, rfl, q3, hh3, stay3⟩ := items_kd rp h3 hd3
                cases r1
                cases r2
                cases r3
                rw [hK] at hh1 stay1 hh2 stay2 hh3 stay3
                obtain ⟨its1, rv1, p1⟩ := k1.read I1 hh1
                obtain ⟨its2, rv2, p2⟩ := k2.read I1 hh2
                obtain ⟨its3, rv3, p3⟩ := k3.read I1 hh3
                have l1 := k1.lt I1 hh1
                have l2 := k2.lt I1 hh2
                have l3 := k3.lt I1 hh3
                refine zip_begins3 (k1.begins a1 its1.toArray) (k2.begins a2 its2.toArray) (k3.begins a3 its3.toArray) p1 p2 p3 fun h' hz hTI hTO o1 o2 o3 hsz hk => wpAny_pyIter_zip hz ?_
                have I2 : Inv X pins σ H1 { s1 with heap := h' } := I1.kept (t' := s1.toks) hk
                refine ⟨s1.heap.objs.size + 5, [s1.heap.objs.size + 5, s1.heap.objs.size + 3, s1.heap.objs.size + 4, s1.heap.objs.size, s1.heap.objs.size + 1, s1.heap.objs.size + 2], _, _, H1, rfl, I2,
                  turn_zip3G (K := X.K) k1 k2 k3 (xs := xs1) (ys := xs2) (zs := xs3) (zip_sep3 (fp1 := [a1]) (fp2 := [a2]) (fp3 := [a3]) (by simpa using l1) (by simpa using l2) (by simpa using l3)) (Nat.ne_of_lt l1) (Nat.ne_of_lt (Nat.lt_succ_of_lt l2)) (Nat.ne_of_lt (Nat.lt_succ_of_lt (Nat.lt_succ_of_lt l3))),
                  ⟨hz, hTI, ⟨_, _, _, hTO⟩, k1.at0 o1, k2.at0 o2, k3.at0 o3⟩, fun b hb => fresh_fp I1 b ?_,
                  hR _ (walkD_G rp (by rw [zipL3_len, q1.length, q2.length, q3.length]) (fun μ' H' S' st r => ⟨stay1 μ' H' S' st r, stay2 μ' H' S' st r, stay3 μ' H' S' st r⟩) fun i vs es hes ⟨x, y, z, hx, hy, hz, ey⟩ => ?_)⟩
                · have e' : b = s1.heap.objs.size + 5 ∨ b = s1.heap.objs.size + 3 ∨ b = s1.heap.objs.size + 4 ∨ b = s1.heap.objs.size ∨ b = s1.heap.objs.size + 1 ∨ b = s1.heap.objs.size + 2 := by simpa using hb
                  rcases e' with z | z | z | z | z | z <;> rw [z] <;> first | exact Nat.le_add_right _ _ | exact Nat.le_refl _
                · obtain ⟨x', y', z', e1, e2, e3, rfl⟩ := zipL3_get hes
                  obtain ⟨d1', f1, g1⟩ := q1.get' hx
                  obtain ⟨d2', f2, g2⟩ := q2.get' hy
                  obtain ⟨d3', f3, g3⟩ := q3.get' hz
                  rw [e1] at f1; cases f1
                  rw [e2] at f2; cases f2
                  rw [e3] at f3; cases f3
                  rw [ey]
                  exact .cons g1 (.cons g2 (.cons g3 .nil))
end
end DL

set_option Elab.async false
set_option linter.all false
set_option maxRecDepth 100000
set_option maxHeartbeats 4000000
/-! DL12: list comprehensions. -/
namespace DL
open PySem PySem.Spec PyProof.Rows L2

def NX : XK := fun _ _ _ => False
/-- no exception is let out -/
def Res.noX {α : Type} : Res α → Res α | .exc _ _ _ => .bad | r => r
theorem Fin.noX {T : Tb} {α : Type} {k : α → Store → List Addr → Hp → Prop} {E : XK} {μ : List Addr} {H : Hp} {r : Res α} (h : Fin T E k μ H r.noX) : Fin T NX k μ H r := by
  cases r with
  | ok a S => exact h
  | exc c fs S => exact h.elim
  | bad => exact h.elim
def wipeE (ρ : Ev) : List Nat → Ev
  | [] => ρ
  | v :: vs => (wipeE ρ vs).set v none
theorem EnvR.clear {T : Tb} {μ : List Addr} {H : Hp} {σ : L2.St} {ρ : Ev} {i : Nat} (e : EnvR T μ H σ ρ) : EnvR T μ H (σ.set i none) (ρ.set i none) := by
  refine ⟨by rw [List.length_set, List.length_set, e.len], fun j d' hj => ?_⟩
  by_cases q : i = j
  · subst q
    have hi : i < ρ.length := by
      have := (List.getElem?_eq_some_iff.mp hj).1
      rwa [List.length_set] at this
    rw [List.getElem?_set_self hi] at hj
    cases hj
  · rw [List.getElem?_set_ne q] at hj ⊢
    exact e.at_ j d' hj
theorem EnvR.wipe {T : Tb} {μ : List Addr} {H : Hp} {σ : L2.St} {ρ : Ev} (e : EnvR T μ H σ ρ) : ∀ vs : List Nat, EnvR T μ H (L2.wipe σ vs) (wipeE ρ vs)
  | [] => e
  | v :: vs => (EnvR.wipe e vs).clear
theorem wipe_get {σ : L2.St} {j : Nat} : ∀ {vs : List Nat}, j ∈ vs → (L2.wipe σ vs)[j]? = if j < σ.length then some none else none
  | [], h => by cases h
  | v :: vs, h => by
    show ((L2.wipe σ vs).set v none)[j]? = _
    by_cases e : v = j
    · subst e
      by_cases hl : v < σ.length
      · rw [List.getElem?_set_self (by rw [L2.wipe_length]; exact hl), if_pos hl]
      · rw [List.getElem?_eq_none (by rw [List.length_set, L2.wipe_length]; omega), if_neg hl]
    · rw [List.getElem?_set_ne e]
      rcases List.mem_cons.mp h with q | q
      · exact absurd q.symm e
      · exact wipe_get q
theorem wipe_out' {σ : L2.St} {j : Nat} : ∀ {vs : List Nat}, j ∉ vs → (L2.wipe σ vs)[j]? = σ[j]?
  | [], _ => rfl
  | v :: vs, h => by
    show ((L2.wipe σ vs).set v none)[j]? = _
    rw [List.getElem?_set_ne fun e => h (by rw [e]; exact List.mem_cons_self)]
    exact wipe_out' fun q => h (List.mem_cons_of_mem _ q)
theorem wipe_eq {σ σ' : L2.St} {vs : List Nat} (hl : σ.length = σ'.length) (h : ∀ j, j ∉ vs → σ[j]? = σ'[j]?) : L2.wipe σ vs = L2.wipe σ' vs := by
  refine List.ext_getElem? fun j => ?_
  by_cases hj : j ∈ vs
  · rw [wipe_get hj, wipe_get hj, hl]
  · rw [wipe_out' hj, wipe_out' hj, h j hj]
theorem wipe_wipe {σ : L2.St} {vs : List Nat} : L2.wipe (L2.wipe σ vs) vs = L2.wipe σ vs := wipe_eq (L2.wipe_length _ _) fun j hj => wipe_out' hj
theorem wipe_set' {σ : L2.St} {vs : List Nat} {i : Nat} {x : Option V} (hi : i ∈ vs) : L2.wipe (σ.set i x) vs = L2.wipe σ vs :=
  wipe_eq (List.length_set ..) fun j hj => List.getElem?_set_ne fun e => hj (by rw [← e]; exact hi)

/-! ### a comprehension's target -/
abbrev FC := D → Ev → Option Ev
abbrev FCs := List D → Ev → Option Ev
def GOk (T : Tb) (g : TG) (p : FC) (vs : List Nat) : Prop := ∀ (v : V) (d : D) (σ : L2.St) (ρ ρ1 : Ev) (μ : List Addr) (H : Hp) (Q : L2.St → Hp → Prop), EnvR T μ H σ ρ → DV T μ H v d → p d ρ = some ρ1 →
  (∀ σ1, EnvR T μ H σ1 ρ1 → L2.wipe σ1 vs = L2.wipe σ vs → Q σ1 H) → g v σ H Q
def GsOk (T : Tb) (g : TGs) (p : FCs) (vs : List Nat) : Prop := ∀ (xs : List V) (ds : List D) (σ : L2.St) (ρ ρ1 : Ev) (μ : List Addr) (H : Hp) (Q : L2.St → Hp → Prop), EnvR T μ H σ ρ → DVs T μ H xs ds → p ds ρ = some ρ1 →
  (∀ σ1, EnvR T μ H σ1 ρ1 → L2.wipe σ1 vs = L2.wipe σ vs → Q σ1 H) → g xs σ H Q
def cName (i : Nat) : FC := fun d ρ => match d with | .row _ => none | d => some (ρ.set i (some d))
def cNil : FCs := fun ds ρ => match ds with | [] => some ρ | _ => none
def cCons (p : FC) (q : FCs) : FCs := fun ds ρ => match ds with | d :: r => (p d ρ).bind (q r) | [] => none
def cTup (n : Nat) (q : FCs) : FC := fun d ρ => match d with
  | .tup ds => if ds.length = n then q ds ρ else none
  | .row ds => if ds.length = n then q ds ρ else none
  | _ => none
theorem gok_name {T : Tb} {i : Nat} {vs : List Nat} (hi : i ∈ vs) : GOk T (gName i) (cName i) vs := fun v d σ ρ ρ1 μ H Q he hv hp hq => by
  unfold cName at hp
  split at hp
  · cases hp
  · cases hp; exact hq _ (he.set hv) (wipe_set' hi)
theorem gok_nil {T : Tb} {vs : List Nat} : GsOk T gNil cNil vs := fun xs ds σ ρ ρ1 μ H Q he hv hp hq => by
  unfold cNil at hp
  split at hp
  · cases hp; cases hv; exact ⟨rfl, hq _ he rfl⟩
  · cases hp
theorem gok_cons {T : Tb} {g : TG} {gs : TGs} {p : FC} {q : FCs} {vs : List Nat} (h1 : GOk T g p vs) (h2 : GsOk T gs q vs) : GsOk T (gCons g gs) (cCons p q) vs := fun xs ds σ ρ ρ1 μ H Q he hv hp hq => by
  unfold cCons at hp
  split at hp
  · cases hv with
    | cons r rr =>
      obtain ⟨ρ2, e1, e2⟩ := Option.bind_eq_some_iff.mp hp
      exact ⟨_, _, rfl, h1 _ _ σ ρ ρ2 μ H _ he r e1 fun σ1 he1 hw1 => h2 _ _ σ1 ρ2 ρ1 μ H Q he1 rr e2 fun σ2 he2 hw2 => hq σ2 he2 (hw2.trans hw1)⟩
  · cases hp
theorem gok_tup {T : Tb} {K : PySem.W.Frag} {n : Nat} {gs : TGs} {q : FCs} {vs : List Nat} (hK : T.K = K) (h : GsOk T gs q vs) : GOk T (L2.gTup K n gs) (cTup n q) vs := fun v d σ ρ ρ1 μ H Q he hv hp hq => by
  unfold cTup at hp
  split at hp
  · split at hp
    · rename_i hl
      cases hv with
      | tup s r => exact ⟨_, _, rfl, hK ▸ s.sq, r.length.trans hl, h _ _ σ ρ ρ1 μ H Q he r hp hq⟩
    · cases hp
  · split at hp
    · rename_i hl
      cases hv with
      | row s r => exact ⟨_, _, rfl, hK ▸ s, r.length.trans hl, h _ _ σ ρ ρ1 μ H Q he r hp hq⟩
    · cases hp
  · cases hp

/-! ### the loop -/
def fYes : FT := fun _ S => .ok true S
def appendTo (n : Nat) (y : D) (S : Store) : Option Store := match S[n]? with
  | some (.lst acc) => if pur y = true ∧ acc.length < lineN then some (S.set n (.lst (acc ++ [y]))) else none
  | _ => none
/-- the turns of a comprehension; the new list stands at n in the store -/
def lcRun (n : Nat) (p : FC) (t : FT) (e : FE) (ρ : Ev) : List D → Store → Res D
  | [], S => match S[n]? with | some (.lst acc) => .ok (.lst acc) (S.take n) | _ => .bad
  | d :: ds, S => match p d ρ with
    | none => .bad
    | some ρ1 => (t ρ1 S).noX.bind fun b S1 => if b = true then (e ρ1 S1).noX.bind fun y S2 => (match appendTo n y S2 with | some S3 => lcRun n p t e ρ ds S3 | none => .bad) else lcRun n p t e ρ ds S1
def fLc (vs : List Nat) (fi : FI) (p : FC) (t : FT) (e : FE) : FE := fun ρ S => (fi ρ S).bind fun ds S1 => lcRun S1.length p t e (wipeE ρ vs) ds (S1 ++ [.lst []])
section
variable {X : Cx} {T : Tb} {E : XK} {k : Nat}
theorem purL_append : ∀ {xs ys : List D}, purL (xs ++ ys) = (purL xs && purL ys)
  | [], ys => rfl
  | x :: xs, ys => by
    show (pur x && purL (xs ++ ys)) = ((pur x && purL xs) && purL ys)
    rw [purL_append, Bool.and_assoc]
theorem fin_noX {α β : Type} {kk : β → Store → List Addr → Hp → Prop} {μ0 μ : List Addr} {H0 H : Hp} {r : Res α} {f : α → Store → Res β} (h : Fin T E kk μ0 H0 (r.noX.bind f)) :
    Fin T NX (fun a S1 _ _ => Fin T E kk μ0 H0 (f a S1)) μ H r := by
  cases r with
  | ok a S => exact fun _ _ _ _ => h
  | exc c fs S => exact h.elim
  | bad => exact h.elim
theorem fin_noXE {α β : Type} {E' : XK} {kk : β → Store → List Addr → Hp → Prop} {μ0 μ : List Addr} {H0 H : Hp} {r : Res α} {f : α → Store → Res β} (h : Fin T E kk μ0 H0 (r.noX.bind f)) :
    Fin T E' (fun a S1 _ _ => Fin T E kk μ0 H0 (f a S1)) μ H r := by
  cases r with
  | ok a S => exact fun _ _ _ _ => h
  | exc c fs S => exact h.elim
  | bad => exact h.elim
theorem lc_weak {vs : List Nat} {fi : FI} {g : TG} {p : FC} {tt : TT} {ft : FT} {fe : FE} {E' : XK} (hg : GOk T g p vs) (hT : ∀ σ H Q, tT T E' ft σ H Q → tt σ H Q) : ∀ σ H Q, tE T E (fLc vs fi p ft fe) σ H Q → tLc (tI T E fi) g tt (tE T E' fe) vs σ H Q :=
  fun σ H Q ⟨ρ, S, μ, he, hr, hf⟩ => ⟨ρ, S, μ, he, hr, (Fin.bind hf).mono fun ds S1 μ1 H1 st1 r1 h1 J W => fun D hD => by
    have he1 := he.step st1 hr.r0
    have stA : Step μ1 H1 (μ1 ++ [D]) (upd H1 D (.lst [])) := Step.add hD
    refine ⟨fun i m H' => m = ds.length - i ∧ i ≤ ds.length ∧ ∃ S' μ', Step (μ1 ++ [D]) (upd H1 D (.lst [])) μ' H' ∧ Rep T μ' H' S' ∧ Fin T E (kD T Q) μ1 H1 (lcRun S1.length p ft fe (wipeE ρ vs) (ds.drop i) S'), ⟨ds.length, rfl, Nat.zero_le _, _, _, Step.refl _ _, r1.addL hD rfl .nil, h1⟩, ?_⟩
    have atD : ∀ {μ' H'}, Step (μ1 ++ [D]) (upd H1 D (.lst [])) μ' H' → μ'[S1.length]? = some D := fun {μ' H'} st => by
      obtain ⟨m, e, _⟩ := st.more
      rw [e, ← r1.len, List.getElem?_append_left (by simp), List.getElem?_append_right (Nat.le_refl _), Nat.sub_self]
      rfl
    have nD : D ∉ μ1 := fun hm => by
      obtain ⟨u, e, _⟩ := r1.r0.mu D hm
      rw [hD] at e; cases e
    rintro i m H' ⟨rfl, hi, S', μ', st, rp, hl⟩
    have stT := stA.trans st
    by_cases hlt : i < ds.length
    · refine .inr ⟨W.goes i μ' H' S' hlt stT rp, fun H'' => ∃ S' μ'', Step (μ1 ++ [D]) (upd H1 D (.lst [])) μ'' H'' ∧ Rep T μ'' H'' S' ∧ Fin T E (kD T Q) μ1 H1 (lcRun S1.length p ft fe (wipeE ρ vs) (ds.drop (i + 1)) S'), fun H'' q => ⟨ds.length - (i + 1), by omega, rfl, hlt, q⟩, fun x H'' y => ?_⟩
      obtain ⟨st2, rp2, d, hd, hv⟩ := W.yields i μ' H' S' x H'' hlt stT rp y
      have ed : ds.drop i = d :: ds.drop (i + 1) := by
        rw [List.drop_eq_getElem_cons hlt]
        rw [List.getElem?_eq_getElem hlt] at hd
        rw [Option.some.inj hd]
      rw [ed] at hl
      unfold lcRun at hl
      split at hl
      · exact hl.elim
      · rename_i ρ1 hp
        refine hg x d _ _ ρ1 μ' H'' _ (((he1.step stT r1.r0).step st2 rp.r0).wipe vs) hv hp fun σ1 he2 hw => ⟨hw.trans wipe_wipe, hT _ _ _ ⟨ρ1, S', μ', he2, rp2, (fin_noXE hl).mono fun b S2 μ2 H2 st3 rp3 h3 => ?_⟩⟩
        have stB := (st.trans st2).trans st3
        cases b with
        | false =>
          rw [if_neg Bool.false_ne_true] at h3
          exact iteF ⟨S2, μ2, stB, rp3, h3⟩
        | true =>
          rw [if_pos rfl] at h3
          refine iteT ⟨ρ1, S2, μ2, he2.step st3 rp2.r0, rp3, (fin_noXE h3).mono fun yd S3 μ3 H3 st4 rp4 h4 yv hyv => ?_⟩
          have stC := stB.trans st4
          split at h4
          · rename_i S4 ha
            unfold appendTo at ha
            split at ha
            · rename_i acc hacc
              split at ha
              · rename_i hc
                cases ha
                have eD := atD stC
                obtain ⟨pp, xs, e1, q1⟩ := rp4.ob _ _ _ eD hacc
                have hm : D ∈ μ3 := List.mem_of_getElem? eD
                have st5 : Step μ3 H3 μ3 (upd H3 D (.lst (xs ++ [yv]))) := Step.put e1 hm (.inl ⟨_, rfl⟩)
                refine ⟨xs, e1, by rw [q1.length]; exact lineN_lt hc.2, _, μ3, stC.trans st5, rp4.putL eD ?_ (q1.append (.cons hyv .nil)), h4⟩
                rw [purL_append, pp]
                show (true && (pur yd && true)) = true
                rw [hc.1]; rfl
              · cases ha
            · cases ha
          · exact h4.elim
    · have e : i = ds.length := by omega
      subst e
      rw [List.drop_length] at hl
      unfold lcRun at hl
      split at hl
      · rename_i acc hacc
        obtain ⟨pp, xs, e1, q1⟩ := rp.ob _ _ _ (atD st) hacc
        exact .inl ⟨W.stops μ' H' S' stT rp, hl.at stT.cut (r1.cutS stT rp) (.ref D) (.lst e1 nD (q1.less stT.sub pp))⟩
      · exact hl.elim⟩
theorem tt_yes {E' : XK} : ∀ σ H Q, tT T E' fYes σ H Q → tYes σ H Q := fun σ H Q ⟨ρ, S, μ, he, hr, hf⟩ => hf.ok hr
theorem tt_of {E' : XK} {ft : FT} : ∀ σ H Q, tT T E' ft σ H Q → tT T E' ft σ H Q := fun _ _ _ h => h
theorem de_lc {elt tg iter : Expr} {ifs : List Expr} {scope : Scope} {own : List (Str × Nat)} {pos : Pos} {fi : FI} {g : TG} {p : FC} {tt : TT} {ft : FT} {fe : FE} (hc : X.calm = true) (hN : X.N.Nodup) (hi : PI X tg iter (tI T E fi)) (ok : BlkOk X.N X.env.scope scope own)
    (hgo : GOk T g p (own.map (·.2))) (hT : ∀ σ H Q, tT T NX ft σ H Q → tt σ H Q)
    (hg : ∀ (s : Shared) (H : Hp) (C : Addr) (cl : List (Str × Addr)) (fp : List Addr), PG (X.blk s H scope (compEnvC scope cl C X.env) fp) tg g) (ht : ∀ (s : Shared) (H : Hp) (C : Addr) (cl : List (Str × Addr)) (fp : List Addr), PTs (X.blk s H scope (compEnvC scope cl C X.env) fp) ifs tt)
    (he : ∀ (s : Shared) (H : Hp) (C : Addr) (cl : List (Str × Addr)) (fp : List Addr), PE (X.blk s H scope (compEnvC scope cl C X.env) fp) elt (tE T NX fe)) (hs : ∀ x, foldedSetIterable iter X.env x = Pure.pure x := by intro _; rfl) :
    PE X (.ListComp elt [⟨tg, iter, ifs, 0⟩] scope pos) (tE T E (fLc (own.map (·.2)) fi p ft fe)) := peW (pe_lc hc hN hi ok hg ht he hs) (lc_weak hgo hT)
theorem ds_setLc {i : Nat} {y : Str} {py : Pos} {elt tg iter : Expr} {ifs : List Expr} {scope : Scope} {own : List (Str × Nat)} {pos spos : Pos} {fi : FI} {g : TG} {p : FC} {tt : TT} {ft : FT} {fe : FE} (hc : X.calm = true) (hN : X.N.Nodup) (hy : X.N[i]? = some y) (hyl : X.env.scope.names.lookup y = some .local)
    (hsw : swapsWith (.ListComp elt [⟨tg, iter, ifs, 0⟩] scope pos) (some (.Name y py)) spos.line X.env = Pure.pure true) (hi : PI X tg iter (tI T E fi)) (ok : BlkOk X.N X.env.scope scope own)
    (hgo : GOk T g p (own.map (·.2))) (hT : ∀ σ H Q, tT T NX ft σ H Q → tt σ H Q)
    (hg : ∀ (s : Shared) (H : Hp) (C : Addr) (cl : List (Str × Addr)) (fp : List Addr), PG (X.blk s H scope (compEnvC scope cl C X.env) fp) tg g) (ht : ∀ (s : Shared) (H : Hp) (C : Addr) (cl : List (Str × Addr)) (fp : List Addr), PTs (X.blk s H scope (compEnvC scope cl C X.env) fp) ifs tt)
    (he : ∀ (s : Shared) (H : Hp) (C : Addr) (cl : List (Str × Addr)) (fp : List Addr), PE (X.blk s H scope (compEnvC scope cl C X.env) fp) elt (tE T NX fe)) (hs : ∀ x, foldedSetIterable iter X.env x = Pure.pure x := by intro _; rfl) :
    PS X (.Assign [.Name y py] (.ListComp elt [⟨tg, iter, ifs, 0⟩] scope pos) spos) (tS T E (sAsg (fLc (own.map (·.2)) fi p ft fe) (pName i))) :=
  ds_set (psW (ps_setLc hc hN hy hyl hsw hi ok hg ht he hs) fun D σ H q => lc_weak hgo hT σ H _ q)
end
end DL

set_option Elab.async false
set_option linter.all false
set_option maxRecDepth 100000
set_option maxHeartbeats 4000000
/-! DL13: an own error over ValueError whose own init says super().__init__(a text) first. -/
namespace DL
open PySem PySem.Spec PyProof.Rows L2

/-! ### the bound init at the machine's level -/
section
open PySem.W
variable {prog : Program} {w : World} {A : Around} {E : Value → Shared → Prop} {h : Heap} {g : Array GenState} {d : Drawn} {t : Nat} {os : OsState}
theorem call_bound_ve {nm q : Str} {C N : Addr} {bs bm : List Value} {hdct : Bool} {sn : List Str} {sub : List Value} {ab : Bool} {col : Option Bool} {dd : Option Addr} {k0 k1 k2 k3 k5 : Option Value} {u e t0 : Addr} {rest : List Value} {Q : Value → Shared → Prop}
    (hC : h.get? C = some (excClassObj nm q C N bs bm hdct sn sub ab col dd k0 k1 k2 k3 k5 "ValueError.__new__")) (he : h.get? e = some (excRec (.ref C) t0 none .none .none (.bool false))) (hu : h.get? u = some (kxs_mw "ValueError.__init__" e)) (hrest : rest.length ≤ sizeLine)
    (hq : ∀ h' t1, (∀ b o, b ≠ e → h.get? b = some o → h'.get? b = some o) → h'.get? e = some (excRec (.ref C) t1 none .none .none (.bool false)) → Q .none ⟨h', g, d, t, os⟩) :
    wpAny (model prog w) A (call (.ref u) rest) Q E ⟨h, g, d, t, os⟩ := by
  refine wpAny_call (codeAny_of_tree ?_)
  show wpAny _ A.in1 (callAny (.ref u) ⟨rest, []⟩) _ _ _
  unfold callAny
  simp only []
  refine wpAny_bind (wpAny_load hu ?_)
  simp only [kxs_mw]
  refine KFB.if_so (by decide) (wpAny_bind (check_bound_init F.excBase_ValueError.toExcCallFacts hC he rfl (wpAny_bind (wpAny_pure (wpAny_pure ⟨plainId_quiet F.excBase_ValueError.init.plain _, codeAny_builtin F.excBase_ValueError.initEntry ?_⟩)))))
  exact exc_init_tree he hrest fun h' k e' _ => hq h' _ k e'
end

/-! ### the def's context -/
/-- the context of an init that says super() -/
def cxI (P : Program) (w : World) (K : PySem.W.Frag) (mg : Str → Option Value) (base : Heap) (N : List Str) (qual : Str) (scope : Scope) (f : Addr) (cd : Value) (cc : Addr) (A : Around) (outer : List Env) (s : Shared) (H : Hp) (E : XK) : Cx where
  prog := P
  w := w
  K := K
  mg := mg
  base := base
  A := A.deeper (PySem.W.ksEnv qual scope s.heap.objs.size f cd cc)
  N := N
  s_0 := s
  H_0 := H
  env := PySem.W.ksEnv qual scope s.heap.objs.size f cd cc
  outer := outer
  stack := PySem.W.ksEnv qual scope s.heap.objs.size f cd cc :: outer
  ex := []
  calm := true
  fn := fun _ => false
  pn := []
  xe := fun e s' => wpAny (model P w) (A.deeper (PySem.W.ksEnv qual scope s.heap.objs.size f cd cc)) (leaving (PySem.W.ksEnv qual scope s.heap.objs.size f cd cc) e) (fun _ s'' => L2.CX P w outer H s E e s'') (fun e' s'' => L2.CX P w outer H s E e' s'') s'
/-- what a look at its scope tells -/
structure InitScope (N ps : List Str) (sc : Scope) : Prop where
  kind : sc.kind = .function
  co : sc.isCoroutine = false
  gen : sc.isGenerator = false
  nd : N.Nodup
  pre : N = ps
  par : ∀ x ∈ ps, sc.names.lookup x = some .local
  nocell : ∀ y ∈ sc.names, y.2 ≠ .cell
  free : ∀ y ∈ sc.names, y.2 = .free → y.1 = ("__class__" : Str)
  sup : sc.names.lookup ("super" : Str) = some .globalImplicit
  cls : sc.names.lookup ("__class__" : Str) = some .free
theorem look_rev {α : Type} {x : Str} {u : α} : ∀ {l : List (Str × α)}, (l.map (·.1)).Nodup → (x, u) ∈ l → l.reverse.lookup x = some u
  | [], _, h => by cases h
  | p :: l, nd, h => by
    rw [List.reverse_cons, List.lookup_append]
    have nd' := List.nodup_cons.mp (show (p.1 :: l.map (·.1)).Nodup from nd)
    rcases List.mem_cons.mp h with e | h
    · subst e
      have hn : l.reverse.lookup x = none := by
        rw [List.lookup_eq_none_iff]
        intro q hq
        have hq' : q ∈ l := List.mem_reverse.mp hq
        have hne : x ≠ q.1 := fun e => by
          have hm : q.1 ∈ l.map (·.1) := List.mem_map_of_mem hq'
          rw [← e] at hm
          exact nd'.1 hm
        simpa using hne
      rw [hn]
      simp
    · rw [look_rev nd'.2 h]
      rfl
theorem zip_keys {α : Type} : ∀ {ps : List Str} {us : List α}, ps.length = us.length → (ps.zip us).map (·.1) = ps
  | [], _, _ => by simp
  | p :: ps, u :: us, h => by simp [zip_keys (ps := ps) (us := us) (by simpa using h)]
  | _ :: _, [], h => by simp at h
theorem inv_startI {P : Program} {w : World} {K : PySem.W.Frag} {mg : Str → Option Value} {base : Heap} {N ps : List Str} {qual : Str} {scope : Scope} {f cc : Addr} {cd : Value} {A : Around} {outer : List Env} {s : Shared} {h1 : Heap} {tk : Nat} {H : Hp} {E : XK} {us : List Value} {vs : List V} {oc : Obj} {cv : Option Value}
    (S : InitScope N ps scope) (hd : A.handled = none) (e0 : Env0 P w K mg base A outer s H) (r : Vals vs us) (hl : vs.length = ps.length) (hcc : K.lookup cc = some oc) (hcd : oc.data = .cell cv)
    (hns : h1.Ns s.heap.objs.size (fun x => (ps.zip us).reverse.lookup x)) (hk : ∀ b o, s.heap.get? b = some o → h1.get? b = some o) :
    Inv (cxI P w K mg base N qual scope f cd cc A outer s H E) [] (vs.map some) H { s with heap := h1, toks := tk } := by
  have noA : ∀ b : Addr, b ∉ (cxI P w K mg base N qual scope f cd cc A outer s H E).ex := fun b z => absurd (show b ∈ ([] : List Addr) from z) (by simp)
  have cls : ∀ x c, (cxI P w K mg base N qual scope f cd cc A outer s H E).env.cells.lookup x = some c → x = ("__class__" : Str) ∧ c = cc := fun x c h => by
    have h : ([(("__class__" : Str), cc)] : List (Str × Addr)).lookup x = some c := h
    have q := PySem.mem_of_lookup h
    have q := List.mem_singleton.mp q
    cases q
    exact ⟨rfl, rfl⟩
  have bcc := e0.mod.kin _ _ hcc
  have ndP : ps.Nodup := by rw [← S.pre]; exact S.nd
  refine ⟨⟨e0.mod, S.kind, rfl, rfl, Nat.le_refl _, fun y z c h1 h2 => ?_, fun y hy => ?_, fun y c h _ => ?_, fun _ => hd, Around.frames_deeper e0.frames, .inr ⟨rfl, rfl⟩, fun b z => absurd z (noA b), e0.bs, e0.bsz, fun b _ _ => noA b, fun b z => absurd z (noA b), e0.funs, e0.frf⟩,
    rfl, e0.bare, Un.kept hk, ⟨_, hns, fun i y v h1 h2 h3 => ?_⟩, fun y c h => ?_, e0.hok.fresh (Nat.le_refl _), fun y c h => ?_, fun p hp => absurd (show p ∈ ([] : List (Addr × Obj)) from hp) (by simp), e0.hok.kept hk, ?_⟩
  · rw [(cls y c h1).1, (cls z c h2).1]
  · have hy : scope.names.lookup y = some .cell ∨ scope.names.lookup y = some .free := hy
    rcases hy with hy | hy
    · exact absurd rfl (S.nocell _ (PySem.mem_of_lookup hy))
    · refine ⟨cc, ?_⟩
      have := S.free _ (PySem.mem_of_lookup hy) rfl
      subst this
      show ([(("__class__" : Str), cc)] : List (Str × Addr)).lookup _ = _
      simp
  · cases h
  · rw [List.getElem?_map] at h2
    cases e : vs[i]? with
    | none => rw [e] at h2; cases h2
    | some a =>
      rw [e] at h2
      cases h2
      obtain ⟨u, hu, rv⟩ := r.get e
      have hp : ps[i]? = some y := by rw [← S.pre]; exact h1
      refine ⟨u, rv, .inl ⟨S.par y (List.mem_of_getElem? hp), ?_⟩⟩
      refine look_rev ?_ ?_
      · rw [zip_keys (by rw [← hl]; exact r.length)]; exact ndP
      · refine List.mem_of_getElem? (i := i) ?_
        rw [List.getElem?_zip_eq_some]
        exact ⟨hp, hu⟩
  · have ec := (cls y c h).2
    subst ec
    exact ⟨cv, oc, hk _ _ (e0.bs _ _ bcc).1, hcd⟩
  · rw [(cls y c h).2]
    exact (e0.bs _ _ bcc).2
  · show (vs.map some).length = N.length
    rw [List.length_map, hl, S.pre]
end DL

set_option Elab.async false
set_option linter.all false
set_option maxRecDepth 100000
set_option maxHeartbeats 4000000
/-! DL14: super().__init__(a text) as the first statement; the rule for such an init. -/
namespace DL
open PySem PySem.Spec PyProof.Rows L2

/-- what the written part says of the class at C and of its init at f, whose cell of the class is cc -/
structure SupF (P : Program) (K : PySem.W.Frag) (mg : Str → Option Value) (C f cc cda : Addr) (fd : FuncData) (me : Str) : Prop where
  ox : OexC K C
  lkf : ∃ oc od osl, K.lookup f = some ⟨oc, od, .func fd, osl⟩
  par : ∃ ar : Arg, (fd.params.posonlyargs ++ fd.params.args).head? = some ar ∧ ar.arg = me
  code : ∃ (ccl : Value) (cdd : Option Addr) (vs : Array Value) (ccs : Array (Option Value)) (file : Str) (tf : Tok), K.lookup cda = some ⟨ccl, cdd, .fields vs, ccs⟩ ∧ vs[2]? = some (.str file tf) ∧ ((P.main.file : Str) == file) = true
  cell : ∃ cl cld csl, K.lookup cc = some ⟨cl, cld, .cell (some (.ref C)), csl⟩
  sub : PySem.W.mroIn K C (.ref C) = some true
  sup : PySem.W.ks_superIn K C C "__init__" = some (some (.builtin "ValueError.__init__"))
  ve : PySem.W.subIn K (.ref C) (.type "ValueError") = some true
  any : PySem.W.nsIn K cStatics "thirdparty.any" = some none
  ms : mg "super" = none
  top : (P.main.scope.names.lookup ("super" : Str)).isSome = false

section
open PySem.W
variable {P : Program} {w : World} {K : PySem.W.Frag} {mg : Str → Option Value} {base : Heap} {N ps : List Str} {qual self : Str} {scope : Scope} {f cc cda C a : Addr} {A : Around} {outer : List Env} {s0 s : Shared} {H0 H : Hp} {E : XK} {fd : FuncData} {σ : L2.St}
theorem super_init {body : List Stmt} {p0 p1 p2 p3 p4 : Pos} {txt : Str} {j : Nat} {X : Cx} (eX : X = cxI P w K mg base N qual scope f (.ref cda) cc A outer s0 H0 E) (S : InitScope N ps scope) (F : SupF P K mg C f cc cda fd self) (h0 : N[0]? = some self)
    (I : Inv X [] σ H s) (hσ : σ[0]? = some (some (.ref a))) (ea : H a = some (exo a C none)) {Q : Value → Shared → Prop} {pl : Sem Bool} (hq : ∀ u s', Inv X [] σ H s' → Q u s')
    (he : ∀ env : Env, eval (.Call (.Attribute (.Call (.Name "super" p0) [] [] p1) "__init__" p2) [.Constant (.str txt) j p3] [] p4) env = (do
      let ov ← attributeBase (.Call (.Name "super" p0) [] [] p1) "__init__" env (eval (.Call (.Name "super" p0) [] [] p1) env)
      standAt p2.atName
      let (f, first) ← holding [ov] (getMethod ov "__init__" pl)
      callWith p4 f first (backTo p4 (starEach [.Constant (.str txt) j p3] env)) [])) :
    PySem.wpAt (model P w) X.A (.func body X.env) (eval (.Call (.Attribute (.Call (.Name "super" p0) [] [] p1) "__init__" p2) [.Constant (.str txt) j p3] [] p4) X.env) Q X.xe s := by
  subst eX
  obtain ⟨nm, q, NN, bs, bm, sn, sub, ab, col, dd, k0, k1, k2, k3, k5, hC, hbm⟩ := F.ox.cls
  obtain ⟨oc, od, osl, hf⟩ := F.lkf
  obtain ⟨ar, hp, har⟩ := F.par
  obtain ⟨ccl, cdd, vs, ccs, file, tf, hcode, hvs, hfile⟩ := F.code
  obtain ⟨cl, cld, csl, hcell⟩ := F.cell
  have KX : K.In s.heap := I.kIn
  obtain ⟨mb, b1, b2⟩ := I.mod.blt
  obtain ⟨t1, ho⟩ := exo_at I.hok ea
  have hC' := KX _ _ hC
  have hcd : clsIn K C = some { name := nm, bases := bs, mro := .ref C :: bm, ns := NN, qualname := q, hasDict := true, slotNames := sn, subclasses := sub, abstract := ab, collection := col, hasDel := false } := by unfold clsIn; rw [hC] <;> rfl
  obtain ⟨m, hn, hl⟩ := I.loc
  have hpar : scope.names.lookup self = some .local := S.par self (List.mem_of_getElem? (by rw [← S.pre]; exact h0))
  obtain ⟨u0, ru, lk0⟩ := hl 0 self (.ref a) h0 hσ (.inl hpar)
  have eu : u0 = Value.ref a := ru
  subst eu
  have hm : m self = some (.ref a) := by
    rcases lk0 with ⟨_, z⟩ | ⟨z, _⟩
    · exact z
    · have z : scope.names.lookup self = some .cell ∨ scope.names.lookup self = some .free := z
      rcases z with z | z <;> rw [hpar] at z <;> cases z
  refine ks_wpAt_MethodCall ?_ (he _)
  · refine ks_wpAt_super_base (env := ksEnv qual scope s0.heap.objs.size f (.ref cda) cc) S.sup S.cls (by decide) rfl (KX _ _ hf) rfl hp rfl (KX _ _ hcode) rfl hvs hfile F.top ?_
    refine ks_loadName_global S.kind S.sup (PySem.Calls.loadGlobal_builtin (env := ksEnv qual scope s0.heap.objs.size f (.ref cda) cc) (I.mod.glob.keeps I.bk) F.ms (b1.keeps I.bk) ((b2 _ (by decide)).trans (by first | rfl | kernel_rfl)) ⟨rfl, ?_⟩)
    refine wpAny_loadName_free S.kind S.cls (c := cc) (by simp) ⟨_, KX _ _ hcell, rfl⟩ ?_
    rw [har]
    refine wpAny_loadName_local S.kind hpar hn hm ?_
    refine ks_wpAny_isType_cls hC' rfl ⟨rfl, ?_⟩
    obtain ⟨hp', g', d', tk', os'⟩ := s
    refine ks_wpAny_call_super hC' rfl ho rfl (fun c e => by cases e) (looks_mroIn KX F.sub) fun h1 e1 k1 => ?_
    have I1 := I.kept (h' := h1) (t' := tk') k1
    have X1 : K.In h1 := I1.kIn
    have hx : a ≠ C := fun e => by
      rw [e] at ho
      have z := KX _ _ hC
      rw [ho] at z
      cases z
    have hI : Looks (model P w) h1 (isInstance (.ref a) (.type "ValueError")) true :=
      (show InstAt h1 a _ C none from ⟨k1 _ _ ho, rfl, rfl, trivial⟩).type.andThen (looks_subIn X1 F.ve)
    have hsup := F.sup
    unfold ks_superIn at hsup
    rw [hcd] at hsup
    refine kxs_getMethod kxs_ValueError e1 (looks_opaque X1 F.any) (l₀ := .ref C :: bm) (fun A Q E s k q => wpAny_bind ((looks_clsIn X1 hcd) A _ E s k (wpAny_pure q))) rfl X1 hsup hI hx (by decide) ?_
    have I2 := I1.kept (h' := h1.push (kxs_mw "ValueError.__init__" a)) (t' := tk' + 1) fun b o e => Heap.get?_push_of_some _ e
    refine kxs_callWith (i := "ValueError.__init__") (x := a) rfl (PySem.Calls.evalArgs_plain ?_)
    refine PySem.Calls.spliced_cons (PySem.Calls.Constant_str (pos := p3) (k := j) (PySem.Calls.spliced_nil ⟨Heap.get?_push_size _ rfl, ?_⟩))
    refine call_bound_ve (t0 := t1) (Heap.get?_push_of_some _ (k1 _ _ hC')) (Heap.get?_push_of_some _ (k1 _ _ ho)) (Heap.get?_push_size _ rfl) (by show 1 ≤ sizeLine; rw [sizeLine_eq]; omega) fun h3 t3 k3 e3 => ?_
    refine hq _ _ ?_
    have J := (I2.tok (tk' + 1 + 1)).write (t' := tk' + 1 + 1) (x := a) (e := a) (o := exo a C none) (by rw [ea]; exact True.intro) (.inl rfl) k3 ⟨_, e3⟩ (exo_ok e3)
    have eu : upd H a (exo a C none) = H := by
      funext b
      by_cases hb : b = a
      · rw [hb, upd_same, ea]
      · rw [upd_ne hb]
    rw [eu] at J
    exact J
/-- THE RULE for an init whose first statement is super().__init__(a text) -/
theorem fn_super {k : Nat} {name : Str} {params : Arguments} {rest : List Stmt} {dV kV doc pm ct : Value} {an : Option Addr} {p0 p1 p2 p3 p4 p5 : Pos} {txt : Str} {j : Nat} {pl : Sem Bool} {sp : Sp}
    (S : InitScope N ps scope) (h0 : ps[0]? = some self)
    (F : SupF P K mg C f cc cda (PySem.W.ksFn name qual params (.Expr (.Call (.Attribute (.Call (.Name "super" p0) [] [] p1) "__init__" p2) [.Constant (.str txt) j p3] [] p4) p5 :: rest) scope dV kV doc pm an (.ref cda) ct cc) self)
    (hcd : PySem.W.codeIn K (.ref cda) qual = true) (len : ∀ vs H Q E, sp vs H Q E → vs.length = ps.length)
    (he : ∀ env : Env, eval (.Call (.Attribute (.Call (.Name "super" p0) [] [] p1) "__init__" p2) [.Constant (.str txt) j p3] [] p4) env = (do
      let ov ← attributeBase (.Call (.Name "super" p0) [] [] p1) "__init__" env (eval (.Call (.Name "super" p0) [] [] p1) env)
      standAt p2.atName
      let (f, first) ← holding [ov] (getMethod ov "__init__" pl)
      callWith p4 f first (backTo p4 (starEach [.Constant (.str txt) j p3] env)) []))
    (hrest : ∀ (A : Around) (outer : List Env) (s : Shared) (H : Hp) (vs : List V) (Q : VK) (E : XK), sp vs H Q E →
      ∃ a ws t, vs = .ref a :: ws ∧ H a = some (exo a C none) ∧ PSs (cxI P w K mg base N qual scope f (.ref cda) cc A outer s H E) rest t ∧ t { nx := fun _ H' => Q .non H', rt := Q } (vs.map some) H) :
    FnOk P w K mg base (L2.CX P w) (k + 1) f (PySem.W.ksFn name qual params (.Expr (.Call (.Attribute (.Call (.Name "super" p0) [] [] p1) "__init__" p2) [.Constant (.str txt) j p3] [] p4) p5 :: rest) scope dV kV doc pm an (.ref cda) ct cc) ps sp := by
  refine ⟨len, fun A outer s H args us vs Q E hr e0 hb r hsp => ?_⟩
  have hl := len _ _ _ _ hsp
  have KX : K.In s.heap := e0.mod.kin.keeps fun b o e => (e0.bs b o e).1
  have lim : s.heap.NoLimit := e0.mod.nolimit.keeps fun b o e => (e0.bs b o e).1
  obtain ⟨oc, od, osl, lk⟩ := F.lkf
  obtain ⟨cl, cld, csl, hcell⟩ := F.cell
  have hloc : ∀ x ∈ ps.zip us, scope.names.lookup x.1 = some .local := fun ⟨n, v⟩ hy => S.par n (List.of_mem_zip hy).1
  refine ks_codeAny_call_defAt (binds := ps.zip us) hr.depth (KX _ _ lk) rfl lim (PySem.W.codeRec_of KX hcd) rfl hb S.nocell hloc (fun h₁ hns hk₁ => ?_) S.co S.gen S.kind
  obtain ⟨a, ws, t, ev, ea, ht, hq⟩ := hrest A outer s H vs Q E hsp
  have I : Inv (cxI P w K mg base N qual scope f (.ref cda) cc A outer s H E) [] (vs.map some) H { s with heap := h₁, toks := s.toks + (ps.zip us).length } := inv_startI S hr.hd e0 r hl hcell rfl hns hk₁
  refine ks_wpAt_execs_cons (ks_wpAt_Expr_any (super_init rfl S F (by rw [S.pre]; exact h0) I (by rw [ev]; rfl) ea (fun u s' J => ?_) he) (hi := I.quiet))
  refine wpAt_of_wpAny (wpAny_mono (ht.run [] s' (vs.map some) H _ J hq) (fun fl s2 hs => ?_) fun e s2 hs => hs)
  have fin : ∀ {σ' : L2.St} {H' : Hp} {v : V} {u : Value}, Inv (cxI P w K mg base N qual scope f (.ref cda) cc A outer s H E) [] σ' H' s2 → RelV v u → Q v H' → CE outer P w H s Q u s2 :=
    fun {σ' H' v u} J rv q => ⟨v, H', J.os, J.bare, J.base, J.hok, rv, q⟩
  cases fl with
  | ret u =>
    obtain ⟨v, σ', H', J, rv, q⟩ := hs
    exact fin J rv q
  | next =>
    obtain ⟨σ', H', J, q⟩ := hs
    exact fin (v := V.non) (u := Value.none) J rfl q
  | brk =>
    obtain ⟨_, _, _, q⟩ := hs
    exact False.elim q
  | cont =>
    obtain ⟨_, _, _, q⟩ := hs
    exact False.elim q
end
end DL

set_option Elab.async false
set_option linter.all false
set_option maxRecDepth 100000
set_option maxHeartbeats 4000000
/-! DL15: own errors made. -/
namespace DL
open PySem PySem.Spec PyProof.Rows L2

/-- what such an init does: the fields stored in turn -/
def spE (C : Addr) (names : List Str) : Sp := fun vs H Q E => ∃ a ws, vs = V.ref a :: ws ∧ ws.length = names.length ∧ H a = some (exo a C none) ∧
  ∀ d, H d = none → d ≠ a → Q .non (upd (upd H d (exd d (names.zip ws).reverse)) a (exo a C (some d)))
theorem spE_len {C : Addr} {names : List Str} {ps : List Str} (hp : ps.length = names.length + 1) : ∀ vs H Q E, spE C names vs H Q E → vs.length = ps.length := fun vs H Q E ⟨a, ws, e, hl, _⟩ => by
  rw [e, hp, List.length_cons, hl]
def ErrD (P : Program) (w : World) (K : PySem.W.Frag) (mg : Str → Option Value) (base : Heap) (x : Str) (C : Addr) (names : List Str) (lv : Nat) : Prop :=
  OexC K C ∧ mg x = some (.ref C) ∧ ∃ fI fd ps, PySem.W.findIn K (.ref C) "__init__" = some (some (.ref fI)) ∧ PySem.W.typeIn K (.ref fI) = some (.type "function") ∧ Binds K fd ps [] ∧ FnOk P w K mg base (L2.CX P w) lv fI fd ps (spE C names)
theorem upd_del {H : Hp} {a d : Addr} {o u v w : HO} (n : H a = none) (ne : d ≠ a) : upd (del (upd (upd (upd H a o) d u) a v) a) d w = upd H d w := by
  funext b
  by_cases e : b = d
  · rw [e, upd_same, upd_same]
  · rw [upd_ne e, upd_ne e]
    by_cases f : b = a
    · rw [f, del_same, n]
    · rw [del_ne f, upd_ne f, upd_ne e, upd_ne f]
section
variable {X : Cx}
theorem mk_err {T : Tb} {E : XK} {g : FL} {x : Str} {C : Addr} {names : List Str} {lv : Nat} {e : Expr} {es : List Expr} {p pos : Pos} (G : ErrD X.prog X.w X.K X.mg X.base x C names lv) (hn : names.length ≤ 900) (hr : Room (lv + 1) X.A) (hg : Gl X x) (ha : PA X (e :: es) (tA T E g))
    (hdb : (x == ("__debug__" : Str)) = false := by decide) (he : starEach (e :: es) X.env = (false, eval e X.env) :: starEach es X.env := by rfl) (hpl : (backTo pos (starEach es X.env)).any (·.1) = false := by rfl) :
    PMk X (.Call (.Name x p) (e :: es) [] pos) (tMkX C names (tA T E g)) := by
  obtain ⟨ox, hm, fI, fd, ps, iC, tI, hb, FO⟩ := G
  have G0 := pmk_oex (p := p) (pos := pos) ox iC tI FO hr hb (dvs := []) .nil passL hg hm ha hdb he hpl
  refine fun pins s σ H Q I ⟨ρ, S, μ, hee, hr, hf⟩ => G0 pins s σ H Q I ⟨ρ, S, μ, hee, hr, hf.mono fun ds S1 μ1 H1 st r1 h1 vs hvs => ?_⟩
  obtain ⟨hl, hq⟩ := h1 vs hvs
  refine ⟨by omega, fun a na => ⟨a, vs, by rw [List.append_nil], hl, upd_same, fun d nd ne => ⟨rfl, d, (names.zip vs).reverse, upd_same, by rw [upd_ne ne, upd_same], ?_, ?_⟩⟩⟩
  · rw [upd_ne ne] at nd; exact nd
  · rw [upd_ne ne] at nd
    rw [upd_del na ne]
    exact hq d nd
end
end DL

set_option Elab.async false
set_option linter.all false
set_option maxRecDepth 100000
set_option maxHeartbeats 4000000
/-! DL16: a caught error: isinstance, its fields; count, index of truth values. -/
namespace DL
open PySem PySem.Spec PyProof.Rows L2

/-- the caught errors that T tells stand pinned in X -/
def HotX (X : Cx) (T : Tb) : Prop := ∀ a c dd, T.hot a = some (c, dd) → ∃ oe : Obj, (a, oe) ∈ X.pn ∧ oe.cls = .ref (T.eA c) ∧ oe.dict = dd ∧ ∃ vs, oe.data = .fields vs
/-- what the written part says of an error's class -/
structure ErC (K : PySem.W.Frag) (C : Addr) : Prop where
  cls : (PySem.W.clsIn K C).isSome = true
  ga : PySem.W.findIn K (.ref C) "__getattribute__" = some (some (.builtin "BaseException.__getattribute__"))
  gg : PySem.W.findIn K (.ref C) "__getattr__" = some none
  sub : PySem.W.subIn K (.ref C) (.type "BaseException") = some true
  hd : PySem.W.hasDictIn K C = true
  ha : PySem.W.findIn K (.ref C) "__class__" = some (some (.builtin "object.__class__"))
  hn : PySem.W.specialIn K (.builtin "object.__class__") "__get__" = some (some (.builtin "getset_descriptor.__get__"))
  ht : PySem.W.takesIn K (.builtin "object.__class__") = some true
  hm : PySem.W.mroIn K C (.type "object") = some true
section
variable {X : Cx} {T : Tb} {E : XK} {k : Nat}
/-- an error at a: caught and pinned, or a value in making's end; with a dict of its own or none -/
def ErrX (T : Tb) (H : Hp) (a : Addr) (c : Nat) (vs : List (Str × V)) : Prop :=
  (∃ dd, T.hot a = some (c, some dd) ∧ H dd = some (.xd vs)) ∨ (T.hot a = some (c, none) ∧ vs = []) ∨ (∃ dd, H a = some (exo a (T.eA c) (some dd)) ∧ H dd = some (.xd vs)) ∨ (H a = some (exo a (T.eA c) none) ∧ vs = [])
/-- the error's record, with its dict -/
theorem errx_at {pins : List (Addr × Obj)} {σ : L2.St} {H : Hp} {s : Shared} {a : Addr} {c : Nat} {vs : List (Str × V)} (hX : HotX X T) (I : Inv X pins σ H s) (h : ErrX T H a c vs) :
    ∃ (oe : Obj) (od : Option Obj), PySem.W.InstAt s.heap a oe (T.eA c) od ∧ ∀ f v, vs.lookup f = some v → ∃ od' u, od = some od' ∧ PySem.W.lookIn f od' = some u ∧ RelO (vs.lookup f) u := by
  have dict : ∀ {dd : Addr}, H dd = some (.xd vs) → ∃ od, s.heap.get? dd = some od ∧ ∀ f, ∃ u, PySem.W.lookIn f od = some u ∧ RelO (vs.lookup f) u := fun {dd} hd => by
    have hx : ObjOk X.prog X.w H s.heap dd (.xd vs) := I.hok dd _ hd
    obtain ⟨mA, hns, hr⟩ := hx
    obtain ⟨od, ho, hl⟩ := lookIn_ns hns
    exact ⟨od, ho, fun f => ⟨mA f, hl f, hr f⟩⟩
  rcases h with ⟨dd, h, hd⟩ | ⟨h, rfl⟩ | ⟨dd, h, hd⟩ | ⟨h, rfl⟩
  · obtain ⟨oe, hp, h1, h2, fv, h3⟩ := hX a c _ h
    obtain ⟨hget, _⟩ := I.pin (a, oe) (List.mem_append_left _ hp)
    obtain ⟨od, ho, hl⟩ := dict hd
    exact ⟨oe, some od, ⟨hget, h1, by unfold PySem.W.notCls; rw [h3] <;> rfl, by rw [h2]; exact ho⟩, fun f v _ => let ⟨u, q⟩ := hl f; ⟨od, u, rfl, q⟩⟩
  · obtain ⟨oe, hp, h1, h2, fv, h3⟩ := hX a c _ h
    obtain ⟨hget, _⟩ := I.pin (a, oe) (List.mem_append_left _ hp)
    exact ⟨oe, none, ⟨hget, h1, by unfold PySem.W.notCls; rw [h3] <;> rfl, by rw [h2]; trivial⟩, fun f v z => by cases z⟩
  · obtain ⟨t1, hget⟩ := exo_at I.hok h
    obtain ⟨od, ho, hl⟩ := dict hd
    exact ⟨_, some od, ⟨hget, rfl, rfl, ho⟩, fun f v _ => let ⟨u, q⟩ := hl f; ⟨od, u, rfl, q⟩⟩
  · obtain ⟨t1, hget⟩ := exo_at I.hok h
    exact ⟨_, none, ⟨hget, rfl, rfl, trivial⟩, fun f v z => by cases z⟩
/-! ### isinstance(e, C) -/
def rIsX (T : Tb) (K : PySem.W.Frag) : List V → Hp → VK → Prop := fun xs H Q => ∃ (a : Addr) (c : Nat) (vs : List (Str × V)) (w : V) (cv : Value) (b : Bool), xs = [.ref a, w] ∧ ErrX T H a c vs ∧ ErC K (T.eA c) ∧ (∀ u, RelV w u → u = cv) ∧ PySem.W.kitOne K (.ref (T.eA c)) cv = some b ∧ Q (.bl b) H
theorem cr_isX (hX : HotX X T) : CallR X (.builtin "isinstance") (rIsX T X.K) := by
  intro pins s σ H xs us Q I r h
  obtain ⟨a, c, vs, w, cv, b, rfl, hh, EC, hcv, e, q⟩ := h
  cases r with
  | cons rx rr =>
    cases rr with
    | cons rt rr =>
      cases rr
      cases rx
      have ec := hcv _ rt
      subst ec
      obtain ⟨oe, od, J, _⟩ := errx_at hX I hh
      exact PySem.W.kia_one (PySem.W.kitx_exc EC.cls EC.ga EC.gg EC.sub EC.ha EC.hn EC.ht EC.hm) I.kIn J e (fun z => nomatch z) fun tk => ⟨.bl b, H, I.kept (t' := tk) fun _ _ z => z, rfl, q⟩
/-- a tracked value that is an error -/
theorem DV.errx {μ : List Addr} {H : Hp} {v : V} {d : D} {c : Nat} {fs : List (Nat × D)} (h : DV T μ H v d) (e : d = .xcp c fs ∨ d = .err c fs) : ∃ a vs, v = .ref a ∧ ErrX T H a c vs ∧ DFs T μ H vs fs := by
  rcases e with rfl | rfl
  · cases h with
    | xcp hh hd n q => exact ⟨_, _, rfl, .inl ⟨_, hh, hd⟩, q⟩
    | xc0 hh => exact ⟨_, [], rfl, .inr (.inl ⟨hh, rfl⟩), .nil⟩
  · cases h with
    | err g m hd n q => exact ⟨_, _, rfl, .inr (.inr (.inl ⟨_, g, hd⟩)), q⟩
    | er0 g m => exact ⟨_, [], rfl, .inr (.inr (.inr ⟨g, rfl⟩)), .nil⟩
/-- the answers: of the class c, for the class number k, for a built-in class -/
structure IsA (T : Tb) (K : PySem.W.Frag) (ans : Nat → Nat → Option Bool) (bas : Nat → String → Option Bool) : Prop where
  own : ∀ c k b, ans c k = some b → ErC K (T.eA c) ∧ PySem.W.kitOne K (.ref (T.eA c)) (.ref (T.fA k)) = some b
  blt : ∀ c n b, bas c n = some b → ErC K (T.eA c) ∧ PySem.W.kitOne K (.ref (T.eA c)) (.type n) = some b
def isErr : D → Option (Nat × List (Nat × D))
  | .xcp c fs => some (c, fs)
  | .err c fs => some (c, fs)
  | _ => none
theorem isErr_of {d : D} {c : Nat} {fs : List (Nat × D)} (h : isErr d = some (c, fs)) : d = .xcp c fs ∨ d = .err c fs := by
  cases d <;> simp [isErr] at h
  · exact .inl (by rw [h.1, h.2])
  · exact .inr (by rw [h.1, h.2])
def gIsX (ans : Nat → Nat → Option Bool) (bas : Nat → String → Option Bool) : GL := fun ds S => match ds with
  | [d, .fn k] => (match isErr d with | some (c, _) => (match ans c k with | some b => .ok (.bl b) S | none => .bad) | none => .bad)
  | [d, .ty n] => (match isErr d with | some (c, _) => (match bas c n with | some b => .ok (.bl b) S | none => .bad) | none => .bad)
  | _ => .bad
theorem ok_isX {ans : Nat → Nat → Option Bool} {bas : Nat → String → Option Bool} (G : IsA T T.K ans bas) : OkL T E (rIsX T T.K) (gIsX ans bas) := fun ds vs S μ H Q hvs hr h => by
  unfold gIsX at h
  split at h
  · split at h
    · rename_i c fs hd
      split at h
      · rename_i b hb
        obtain ⟨g1, g2⟩ := G.own _ _ _ hb
        cases hvs with
        | cons r q => cases q with
          | cons r2 q =>
            cases q
            obtain ⟨a, ws, rfl, hx, _⟩ := r.errx (isErr_of hd)
            cases r2
            exact ⟨a, c, ws, _, _, b, rfl, hx, g1, fun u hu => hu, g2, h.ok hr _ (.bl b)⟩
      · exact h.elim
    · exact h.elim
  · split at h
    · rename_i c fs hd
      split at h
      · rename_i b hb
        obtain ⟨g1, g2⟩ := G.blt _ _ _ hb
        cases hvs with
        | cons r q => cases q with
          | cons r2 q =>
            cases q
            obtain ⟨a, ws, rfl, hx, _⟩ := r.errx (isErr_of hd)
            cases r2
            exact ⟨a, c, ws, _, _, b, rfl, hx, g1, fun u hu => hu, g2, h.ok hr _ (.bl b)⟩
      · exact h.elim
    · exact h.elim
  · exact h.elim
/-! ### e.f -/
def fXf (nE f : Nat) (fe : FE) : FE := fun ρ S => (fe ρ S).bind fun d S1 => match isErr d with
  | some (c, fs) => if c < nE then (match fs.lookup f with | some v => .ok v S1 | none => .bad) else .bad
  | none => .bad
theorem de_xf {e : Expr} {fe : FE} {f nE : Nat} {n : Str} {pos : Pos} (hK : T.K = X.K) (hX : HotX X T) (hf : f < T.nN) (hn : T.nm f = n) (EC : ∀ c, c < nE → ErC X.K (T.eA c) ∧ PySem.W.findIn X.K (.ref (T.eA c)) n = some none) (he : PE X e (tE T E fe))
    (hb : attributeBase e n X.env (eval e X.env) = eval e X.env := by rfl) : PE X (.Attribute e n pos) (tE T E (fXf nE f fe)) := by
  refine ⟨fun pins s σ H Q I ⟨ρ, S, μ, hee, hr, hff⟩ => ?_⟩
  refine attr_of hb (thn (he.run pins s σ H (fun x H1 => ∃ (a : Addr) (c : Nat) (vs : List (Str × V)) (v : V), x = .ref a ∧ c < nE ∧ ErrX T H1 a c vs ∧ vs.lookup n = some v ∧ Q v H1) I
    ⟨ρ, S, μ, hee, hr, (Fin.bind hff).mono fun d S1 μ1 H1 st1 r1 h1 v hv => ?_⟩) fun u s1 hh => ?_)
  · split at h1
    · rename_i c fs hd
      split at h1
      · rename_i hc
        split at h1
        · rename_i dv hl
          obtain ⟨a, vs, rfl, hx, q⟩ := hv.errx (isErr_of hd)
          obtain ⟨w, e1, e2⟩ := q.look hf hl
          exact ⟨a, c, vs, w, rfl, hc, hx, by rw [← hn]; exact e1, h1.ok r1 _ e2⟩
        · exact h1.elim
      · exact h1.elim
    · exact h1.elim
  · obtain ⟨x, H1, I1, rx, a, c, vs, v, ex, hc, hh, l, q⟩ := hh
    subst ex
    obtain rfl : u = Value.ref a := rx
    obtain ⟨oe, od, J, look⟩ := errx_at hX I1 hh
    obtain ⟨od', o, eo, lo, ro⟩ := look n v l
    subst eo
    rw [l] at ro
    obtain ⟨u, hu, ru⟩ := RelO.some_of (v := v) (o := o) ro
    obtain ⟨ec, hno⟩ := EC c hc
    exact HandSPX.exc_get I1.kIn J ec.ga ec.gg ec.sub (PySem.W.findObj_own ec.hd hno rfl (by rw [lo, hu])) (handed_of ru) ⟨v, H1, I1.tok _, ru, q⟩
/-! ### xs.count(b), xs.index(b) over truth values -/
theorem bools_hold {h : Heap} : ∀ {bs : List Bool} {us : List Value}, Vals (bs.map V.bl) us → PySem.W.HoldAll h us bs
  | [], _, .nil => ⟨_, .nil⟩
  | b :: bs, _, .cons r t => by
    obtain ⟨as, q⟩ := bools_hold (h := h) t
    have r : _ = Value.bool b := r
    subst r
    exact ⟨_, .cons (.bool b) q⟩
def rCntB (K : PySem.W.Frag) : V → List V → Hp → VK → Prop := fun x xs H Q => ∃ (a : Addr) (bs : List Bool) (b : Bool), x = .ref a ∧ xs = [.bl b] ∧ SqL K H a (bs.map V.bl) ∧ Q (.int (bs.countP (· == b) : Nat)) H
def rIdxB (K : PySem.W.Frag) : V → List V → Hp → VK → Prop := fun x xs H Q => ∃ (a : Addr) (bs : List Bool) (b : Bool), x = .ref a ∧ xs = [.bl b] ∧ SqL K H a (bs.map V.bl) ∧ b ∈ bs ∧ Q (.int (bs.idxOf b : Nat)) H
theorem countP_toD (b : Bool) : ∀ bs : List Bool, (bs.map PySem.W.Datum.toD).countP (fun y => PyData.eqv y (.bool b)) = bs.countP (· == b)
  | [] => rfl
  | x :: bs => by
    rw [List.map_cons, List.countP_cons, List.countP_cons, countP_toD b bs]
    have e : PyData.eqv (PySem.W.Datum.toD x) (.bool b) = (x == b) := by
      show PyData.eqv (.bool x) (.bool b) = _
      simp only [PyData.eqv]
    rw [e]
theorem plain_bools : ∀ bs : List Bool, PyData.plainAll (bs.map PySem.W.Datum.toD) = true
  | [] => rfl
  | b :: bs => by
    rw [List.map_cons]
    simp only [PyData.plainAll, plain_bools bs, Bool.and_true]
    rfl
theorem depth_bools : ∀ bs : List Bool, PyData.depthAll (bs.map PySem.W.Datum.toD) = 0
  | [] => rfl
  | b :: bs => by
    rw [List.map_cons]
    simp only [PyData.depthAll, depth_bools bs]
    rfl
theorem mt_cntB (hu : X.A.units + 64 < cLine) : MtR X "list.count" (rCntB X.K) := by
  intro pins s σ H x xs v us Q I rx rs h
  obtain ⟨a, bs, b, rfl, rfl, hq, q⟩ := h
  cases rx
  obtain ⟨u, rfl, rb⟩ := vals1 rs
  have rb : u = Value.bool b := rb
  subst rb
  obtain ⟨its, r, pl, hz⟩ := I.list hq
  obtain ⟨as, rd⟩ := bools_hold (h := s.heap) r
  refine PySem.SeqAt.count_list_data (d := .bool b) pl.isList (by simpa using rd) (.bool b) (plain_bools bs) rfl ?_ ⟨.int _, H, I.tok _, ⟨_, rfl⟩, by rw [countP_toD]; exact q⟩
  rw [depth_bools]; omega
theorem mt_idxB (hu : X.A.units + 64 < cLine) : MtR X "list.index" (rIdxB X.K) := by
  intro pins s σ H x xs v us Q I rx rs h
  obtain ⟨a, bs, b, rfl, rfl, hq, hm, q⟩ := h
  cases rx
  obtain ⟨u, rfl, rb⟩ := vals1 rs
  have rb : u = Value.bool b := rb
  subst rb
  obtain ⟨its, r, pl, hz⟩ := I.list hq
  refine PySem.W.index_list_datum pl.isList (bools_hold r) ⟨_, .bool b⟩ ?_ (by rw [List.length_map] at hz; exact hz) hm ⟨.int _, H, I.tok _, ⟨_, rfl⟩, q⟩
  show X.A.units + 1 + 0 < cLine
  omega
def gCntB : GM := fun d ds S => match items d S, ds with
  | some xs, [.bl b] => (match boolsOf xs with | some bs => .ok (.int (bs.countP (· == b) : Nat)) S | none => .bad)
  | _, _ => .bad
def gIdxB : GM := fun d ds S => match items d S, ds with
  | some xs, [.bl b] => (match boolsOf xs with | some bs => if b ∈ bs then .ok (.int (bs.idxOf b : Nat)) S else .bad | none => .bad)
  | _, _ => .bad
theorem dvs_bools {μ : List Addr} {H : Hp} : ∀ {vs : List V} {bs : List Bool}, DVs T μ H vs (bs.map D.bl) → vs = bs.map V.bl
  | _, [], .nil => rfl
  | _, _ :: _, .cons (.bl b) t => by rw [List.map_cons, dvs_bools t]
theorem ok_cntB : OkM T E (rCntB T.K) gCntB := fun d ds v vs S μ H Q hv hvs hr h => by
  unfold gCntB at h
  split at h
  · rename_i xs b hx
    split at h
    · rename_i bs hb
      obtain ⟨a, ys, rfl, hq, q⟩ := items_sq hr hv hx
      have e := boolsOf_eq hb
      subst e
      obtain rfl := dvs_bools q
      cases hvs with
      | cons r rr => cases rr; cases r; exact ⟨a, bs, b, rfl, rfl, hq, h.ok hr _ (.int _)⟩
    · exact h.elim
  · exact h.elim
theorem ok_idxB : OkM T E (rIdxB T.K) gIdxB := fun d ds v vs S μ H Q hv hvs hr h => by
  unfold gIdxB at h
  split at h
  · rename_i xs b hx
    split at h
    · rename_i bs hb
      split at h
      · rename_i hm
        obtain ⟨a, ys, rfl, hq, q⟩ := items_sq hr hv hx
        have e := boolsOf_eq hb
        subst e
        obtain rfl := dvs_bools q
        cases hvs with
        | cons r rr => cases rr; cases r; exact ⟨a, bs, b, rfl, rfl, hq, hm, h.ok hr _ (.int _)⟩
      · exact h.elim
    · exact h.elim
  · exact h.elim
end
end DL

set_option Elab.async false
set_option linter.all false
set_option maxRecDepth 100000
set_option maxHeartbeats 4000000
/-! DL17: a caught error told by a def that is called in the except suite. -/
namespace DL
open PySem PySem.Spec PyProof.Rows L2

/-- the tables with a caught error, a lambda at hand -/
def Tb.ext (T : Tb) (h : Addr → Option (Nat × Option Addr)) (l : Option (Addr × List (Option V) × Addr × Str)) : Tb := { T with hot := h, lm := l }
abbrev hot1 (a : Addr) (c : Nat) (dd : Option Addr) : Addr → Option (Nat × Option Addr) := fun b => if b = a then some (c, dd) else none
abbrev Tb.heat (T : Tb) (a : Addr) (c : Nat) (dd : Option Addr) : Tb := T.ext (hot1 a c dd) none
/-- no caught error, no lambda -/
structure Cold (T : Tb) : Prop where
  hot : ∀ b, T.hot b = none
  lm : T.lm = none
mutual
def cold : D → Bool
  | .tup ds => coldL ds
  | .row ds => coldL ds
  | .lst ds => coldL ds
  | .ins _ fs => coldF fs
  | .xcp _ _ => false
  | .err _ fs => coldF fs
  | .lam _ => false
  | _ => true
def coldL : List D → Bool
  | [] => true
  | d :: ds => cold d && coldL ds
def coldF : List (Nat × D) → Bool
  | [] => true
  | p :: ps => cold p.2 && coldF ps
end
mutual
theorem cold_of : ∀ {d : D}, pur d = true → cold d = true
  | .non, _ => rfl
  | .bl _, _ => rfl
  | .int _, _ => rfl
  | .str _, _ => rfl
  | .tup ds, p => coldL_of (ds := ds) p
  | .row ds, p => coldL_of (ds := ds) p
  | .lst ds, p => coldL_of (ds := ds) p
  | .scr _, _ => rfl
  | .obj _, _ => rfl
  | .ins _ fs, p => coldF_of (fs := fs) p
  | .fn _, _ => rfl
  | .cl _, _ => rfl
  | .ty _, _ => rfl
  | .xcp _ _, p => p
  | .err _ _, p => by cases p
  | .lam _, p => p
  | .junk, _ => rfl
theorem coldL_of : ∀ {ds : List D}, purL ds = true → coldL ds = true
  | [], _ => rfl
  | d :: ds, p => by
    have p' := Bool.and_eq_true_iff.mp p
    exact Bool.and_eq_true_iff.mpr ⟨cold_of p'.1, coldL_of p'.2⟩
theorem coldF_of : ∀ {fs : List (Nat × D)}, purF fs = true → coldF fs = true
  | [], _ => rfl
  | d :: ds, p => by
    have p' := Bool.and_eq_true_iff.mp p
    exact Bool.and_eq_true_iff.mpr ⟨cold_of p'.1, coldF_of p'.2⟩
end
section
variable {T : Tb} {μ : List Addr} {H : Hp} {h : Addr → Option (Nat × Option Addr)} {l : Option (Addr × List (Option V) × Addr × Str)}
mutual
theorem DV.hotter (n : Cold T) : ∀ {v : V} {d : D}, DV T μ H v d → DV (T.ext h l) μ H v d
  | _, _, .non => .non
  | _, _, .bl b => .bl b
  | _, _, .int i => .int i
  | _, _, .str x => .str x
  | _, _, .tup h q => .tup h (DVs.hotter n q)
  | _, _, .row h q => .row h (DVs.hotter n q)
  | _, _, .lst h z q => .lst h z (DVs.hotter n q)
  | _, _, .scr h => .scr h
  | _, _, .obj h => .obj h
  | _, _, .ins hc hk h z q => .ins hc hk h z (DFs.hotter n q)
  | _, _, .fn i => .fn i
  | _, _, .cl hc => .cl hc
  | _, _, .ty n => .ty n
  | _, _, .xcp hh _ _ _ => by rw [n.hot] at hh; cases hh
  | _, _, .err g m h z q => .err g m h z (DFs.hotter n q)
  | _, _, .xc0 hh => by rw [n.hot] at hh; cases hh
  | _, _, .er0 g m => .er0 g m
  | _, _, .lam hh _ _ _ _ => by rw [n.lm] at hh; cases hh
  | _, _, .junk v => .junk v
theorem DVs.hotter (n : Cold T) : ∀ {vs : List V} {ds : List D}, DVs T μ H vs ds → DVs (T.ext h l) μ H vs ds
  | _, _, .nil => .nil
  | _, _, .cons h q => .cons (DV.hotter n h) (DVs.hotter n q)
theorem DFs.hotter (n : Cold T) : ∀ {vs : List (Str × V)} {ds : List (Nat × D)}, DFs T μ H vs ds → DFs (T.ext h l) μ H vs ds
  | _, _, .nil => .nil
  | _, _, .cons z h q => .cons z (DV.hotter n h) (DFs.hotter n q)
end
mutual
theorem DV.cooler : ∀ {v : V} {d : D}, cold d = true → DV (T.ext h l) μ H v d → DV T μ H v d
  | _, _, _, .non => .non
  | _, _, _, .bl b => .bl b
  | _, _, _, .int i => .int i
  | _, _, _, .str x => .str x
  | _, _, p, .tup h q => .tup h (DVs.cooler p q)
  | _, _, p, .row h q => .row h (DVs.cooler p q)
  | _, _, p, .lst h z q => .lst h z (DVs.cooler p q)
  | _, _, p, .scr h => .scr h
  | _, _, p, .obj h => .obj h
  | _, _, p, .ins hc hk h z q => .ins hc hk h z (DFs.cooler p q)
  | _, _, _, .fn i => .fn i
  | _, _, _, .cl hc => .cl hc
  | _, _, _, .ty n => .ty n
  | _, _, p, .xcp _ _ _ _ => by cases p
  | _, _, p, .err g m h z q => .err g m h z (DFs.cooler p q)
  | _, _, p, .xc0 _ => by cases p
  | _, _, p, .er0 g m => .er0 g m
  | _, _, p, .lam _ _ _ _ _ => by cases p
  | _, _, _, .junk v => .junk v
theorem DVs.cooler : ∀ {vs : List V} {ds : List D}, coldL ds = true → DVs (T.ext h l) μ H vs ds → DVs T μ H vs ds
  | _, _, _, .nil => .nil
  | _, _, p, .cons h q => by
    have p' := Bool.and_eq_true_iff.mp p
    exact .cons (DV.cooler p'.1 h) (DVs.cooler p'.2 q)
theorem DFs.cooler : ∀ {vs : List (Str × V)} {ds : List (Nat × D)}, coldF ds = true → DFs (T.ext h l) μ H vs ds → DFs T μ H vs ds
  | _, _, _, .nil => .nil
  | _, _, p, .cons z h q => by
    have p' := Bool.and_eq_true_iff.mp p
    exact .cons z (DV.cooler p'.1 h) (DFs.cooler p'.2 q)
end
theorem Rep.hotter {S : Store} (n : Cold T) (r : Rep T μ H S) : Rep (T.ext h l) μ H S := by
  refine ⟨r.len, r.nd, fun l b o h1 h2 => ?_, r.tabs⟩
  have q := r.ob l b o h1 h2
  cases o with
  | lst ds => obtain ⟨p, xs, e, q⟩ := q; exact ⟨p, xs, e, q.hotter n⟩
  | ins c fs => obtain ⟨p, dx, vs, e, q⟩ := q; exact ⟨p, dx, vs, e, q.hotter n⟩
theorem Rep.cooler {S : Store} (r : Rep (T.ext h l) μ H S) : Rep T μ H S := by
  refine ⟨r.len, r.nd, fun l b o h1 h2 => ?_, r.tabs⟩
  have q := r.ob l b o h1 h2
  cases o with
  | lst ds => obtain ⟨p, xs, e, q⟩ := q; exact ⟨p, xs, e, q.cooler (coldL_of p)⟩
  | ins c fs => obtain ⟨p, dx, vs, e, q⟩ := q; exact ⟨p, dx, vs, e, q.cooler (coldF_of p.1)⟩
end

/-! ### such a def -/
/-- what it promises: p the handled error -/
structure FnR (T : Tb) (P : Program) (w : World) (K : PySem.W.Frag) (mg : Str → Option Value) (base : Heap) (k : Nat) (f : Addr) (fd : FuncData) (ps : List Str) (inE : Nat → Bool) (F : GF) : Prop where
  len : Ar ps.length F
  run : ∀ (A : Around) (outer : List Env) (s : Shared) (H : Hp) (args : Args) (us : List Value) (vs : List V) (Q : VK) (E : XK) (p : Addr × Obj) (c : Nat) (dd : Option Addr), inE c = true → L2H.RoomH k A → L2H.PinOk outer H s p → p.2.cls = .ref (T.eA c) → p.2.dict = dd → (∃ vs, p.2.data = .fields vs) → Env0 P w K mg base A outer s H → BindsTo s fd args (ps.zip us) → Vals vs us → spD (T.heat p.1 c dd) F vs H Q E →
    codeAny (model P w) A (.call (.ref f) args) (CR (L2.CX P w) outer P w H s Q E) s
section
variable {P : Program} {w : World} {K : PySem.W.Frag} {mg : Str → Option Value} {base : Heap} {T : Tb}
abbrev cxR (P : Program) (w : World) (K : PySem.W.Frag) (mg : Str → Option Value) (base : Heap) (N : List Str) (qual : Str) (scope : Scope) (f : Addr) (cd : Value) (A : Around) (outer : List Env) (s : Shared) (H : Hp) (E : XK) (p : Addr × Obj) : Cx := L2H.cxH (L2.CX P w) P w K mg base N qual scope f cd A outer s H E p
theorem fn_R {x qual : Str} {st : Stmt} {f : Addr} {fd : FuncData} {N ps : List Str} {k : Nat} {body : FS} {inE : Nat → Bool} (F : Fun K x qual st f fd) (S : FnScope N ps (defScope st))
    (hb : ∀ (cdv : Value) (A : Around) (outer : List Env) (s : Shared) (H : Hp) (E : XK) (p : Addr × Obj) (c : Nat) (dd : Option Addr), inE c = true → p.2.cls = .ref (T.eA c) → p.2.dict = dd → (∃ vs, p.2.data = .fields vs) → L2H.RoomH k (A.deeper (envOfC qual (defScope st) s.heap.objs.size f cdv)) →
      PSs (cxR P w K mg base N qual (defScope st) f cdv A outer s H E p) (defBody st) (tS (T.heat p.1 c dd) E body)) : FnR T P w K mg base (k + 1) f fd ps inE (runF ps.length N.length body) := by
  obtain ⟨oc, od, kV, doc, pm, an, cdv, ct, osl, rfl, lk, hcd⟩ := F.ex
  refine ⟨ar_runF, fun A outer s H args us vs Q E p c dd hin hr hpin hc hd hfv e0 hbn r hsp => ?_⟩
  have hl := spD_len ar_runF hsp
  have KX : K.In s.heap := e0.mod.kin.keeps fun b o e => (e0.bs b o e).1
  have lim : s.heap.NoLimit := e0.mod.nolimit.keeps fun b o e => (e0.bs b o e).1
  have hkind : ∀ y ∈ ps.zip us, (defScope st).names.lookup y.1 = some .local ∨ ((defScope st).names.lookup y.1 = some .cell ∧ ((cellsFrom (s.heap.objs.size + 1) (defScope st).names []).lookup y.1).isSome = true) := fun ⟨n, v⟩ hy =>
    (S.par n (List.of_mem_zip hy).1).elim .inl fun q => .inr ⟨q, PySem.W.cellsFrom_some _ _ _ (.inl q)⟩
  refine codeAny_call_function hr.depth (KX _ _ lk) rfl S.co S.gen rfl (PySem.W.codeRec_of KX hcd) (hbn _ _ _ _ ?_)
  refine wpAny_newFunctionEnv_cells S.kind hkind fun env he s1 x => ?_
  subst he
  refine ⟨lim.keeps x.toInCall.keep, codeAny_func ?_⟩
  have I : Inv (cxR P w K mg base N qual (defScope st) f cdv A outer s H E p) [] (L2.start N vs) H s1 := L2H.inv_startH S hpin e0 hl r x
  obtain ⟨ds, S0, μ, hv, hrr, hf⟩ := hsp
  refine wpAny_mono ((hb cdv A outer s H E p c dd hin hc hd hfv (hr.deeper _)).run [] s1 (L2.start N vs) H { nx := fun _ H' => Q .non H', rt := Q } I ⟨_, S0, μ, env_start hv, hrr, fin_run hrr hf⟩) (fun fl s' hs => ?_) fun e s' hs => hs
  have fin : ∀ {σ' : L2.St} {H' : Hp} {v : V} {u : Value}, Inv (cxR P w K mg base N qual (defScope st) f cdv A outer s H E p) [] σ' H' s' → RelV v u → Q v H' → CE outer P w H s Q u s' :=
    fun {σ' H' v u} J rv q => ⟨v, H', J.os, J.bare, J.base, J.hok, rv, q⟩
  cases fl with
  | ret u => obtain ⟨v, σ', H', J, rv, q⟩ := hs; exact fin J rv q
  | next => obtain ⟨σ', H', J, q⟩ := hs; exact fin (v := V.non) (u := Value.none) J rfl q
  | brk => obtain ⟨_, _, _, q⟩ := hs; exact q.elim
  | cont => obtain ⟨_, _, _, q⟩ := hs; exact q.elim
end
def DefR (T : Tb) (P : Program) (w : World) (K : PySem.W.Frag) (mg : Str → Option Value) (base : Heap) (x : Str) (lv : Nat) (inE : Nat → Bool) (F : GF) : Prop :=
  ∃ f fd ps, mg x = some (.ref f) ∧ PySem.W.keepIn K (.ref f) = true ∧ Binds K fd ps [] ∧ FnR T P w K mg base lv f fd ps inE F
section
variable {X : Cx} {T : Tb} {E : XK} {k lv : Nat}
theorem de_callR {x : Str} {F : GF} {inE : Nat → Bool} {p : Addr × Obj} {c : Nat} {dd : Option Addr} {q pos : Pos} {e : Expr} {es : List Expr} {fs : FL} (G : DefR T X.prog X.w X.K X.mg X.base x lv inE F) (hin : inE c = true) (hp : p ∈ X.pn) (hc : p.2.cls = .ref (T.eA c)) (hd : p.2.dict = dd) (hfv : ∃ vs, p.2.data = .fields vs) (hr : L2H.RoomH lv X.A) (hx : Passes (L2.CX X.prog X.w) X E) (hg : Gl X x)
    (ha : PA X (e :: es) (tA (T.heat p.1 c dd) E fs)) (hdb : (x == ("__debug__" : Str)) = false := by decide) (he : starEach (e :: es) X.env = (false, eval e X.env) :: starEach es X.env := by rfl) (hpl : (backTo pos (starEach es X.env)).any (·.1) = false := by rfl) :
    PE X (.Call (.Name x q) (e :: es) [] pos) (tE (T.heat p.1 c dd) E (fCallF F fs)) := by
  obtain ⟨f, fd, ps, hm, hk, hb, FO⟩ := G
  refine ⟨fun pins s σ H Q I ⟨ρ, S, μ, hee, hrr, hf⟩ => ?_⟩
  refine wpAny_Call_Name_kw (ld_glob I hg hm ?_ hdb)
  refine PySem.W.callWith_K (h₀ := X.base) I.ok.mod.kin hk (thn (ha.run pos pins s σ H (fun vs H1 => spD (T.heat p.1 c dd) F vs H1 Q E) I ⟨ρ, S, μ, hee, hrr, (Fin.bind hf).mono fun ds S1 μ1 H1 st1 r1 h1 vs hvs => ⟨ds, S1, μ1, hvs, r1, h1⟩⟩) fun us s1 ⟨vs, H1, I1, r, q1⟩ => ⟨I1.kIn, ?_⟩) he hpl
  have hl := spD_len FO.len q1
  have b := hb s1 us I1.kIn (by rw [List.append_nil, ← r.length]; exact hl)
  rw [List.append_nil] at b
  have P1 := I1.pin p (List.mem_append_left _ hp)
  have hpin : L2H.PinOk X.stack H1 s1 p := ⟨P1.1, P1.2.1, fun hm => (List.mem_cons.mp (I1.stkSub p.1 hm)).elim P1.2.2.1 P1.2.2.2.1, P1.2.2.2.2⟩
  refine wpAny_call (codeAny_mono (FO.run X.A X.stack s1 H1 ⟨us, []⟩ us vs Q E p c dd hin hr hpin hc hd hfv I1.env0 b r q1) fun r s' hq => ?_)
  cases r with
  | error e => exact hx pins σ H1 s1 e s' I1 hq
  | ok fl =>
    cases fl with
    | ret u => exact I1.after hq
    | next => exact hq.elim
    | brk => exact hq.elim
    | cont => exact hq.elim
/-! ### try: return e / except x as n: return r(n) -/
theorem pssWI {X : Cx} {st : List Stmt} {t t' : TS} (h : PSs X st t) (w : ∀ D σ H, σ.length = X.N.length → t' D σ H → t D σ H) : PSs X st t' := ⟨fun pins s σ H D I q => h.run pins s σ H D I (w D σ H I.len q)⟩
def sTold (inE : Nat → Bool) (R : GF) (f0 : FE) : FS := fun ρ S => match f0 ρ S with
  | .ok d S' => .rt d S'
  | .exc c fs S' => if inE c = true ∧ coldF fs = true then (match R [.xcp c fs] S' with | .ok d S2 => if cold d = true then .rt d S2 else .bad | _ => .bad) else .bad
  | .bad => .bad
/-- what the suite wishes -/
def tSu (T : Tb) (inE : Nat → Bool) (n i : Nat) (R : GF) (a : Addr) (cls : Value) (d : Option Addr) : TS := fun D σ H => σ.length = n → ∃ c dd, inE c = true ∧ cls = .ref (T.eA c) ∧ d = dd ∧ tS (T.heat a c dd) NX (sRet (fCallF R (fCons (fVar i) fNil))) D σ H
theorem ds_told {h : Addr → Option (Nat × Option Addr)} {l : Option (Addr × List (Option V) × Addr × Str)} {x n r : Str} {CS : Addr} {i : Nat} {e0 : Expr} {f0 : FE} {R : GF} {inE : Nat → Bool} {np p3 p6 p7 p8 q1 q2 q3 : Pos} (hs : X.stack = X.env :: X.outer) (hf : X.env.frame = some X.env.locals) (hN : X.N.Nodup) (hi : X.N[i]? = some n) (hln : X.env.kindOf n = some .local) (hc : Names X x (.ref CS))
    (hot : Cold T) (hcatch : ∀ c, inE c = true → PySem.W.exmOne X.K (.ref (T.eA c)) (.ref CS) = some true) (hr : Room lv X.A) (G : DefR T X.prog X.w X.K X.mg X.base r lv inE R) (hg : Gl X r)
    (tk : Takes X (fun _ _ _ _ => False))
    (he : ∀ (W : WX) (pn : List (Addr × Obj)) (xe : Value → Shared → Prop), Takes (X.tr pn xe) W → PE (X.tr pn xe) e0 (tE (T.ext h l) (fun cls d H => ∀ σ, W cls d σ H) f0))
    (hdn : (n == ("__debug__" : Str)) = false := by decide) (hcd : (n == ("__classdict__" : Str)) = false := by decide) (hdb : (r == ("__debug__" : Str)) = false := by decide)
    (hst : ∀ env : Env, starEach [.Name n q2] env = (false, eval (.Name n q2) env) :: starEach [] env := by intro _; rfl) (hpl : ∀ env : Env, (backTo q3 (starEach [] env)).any (·.1) = false := by intro _; rfl) :
    PS X (.Try [.Return (some e0) p3] [.ExceptHandler (some (.Name x np)) (some n) [.Return (some (.Call (.Name r q1) [.Name n q2] [] q3)) p6] p7] [] [] p8) (tS (T.ext h l) E (sTold inE R f0)) := by
  refine psW (ps_try_as hs hf hN hi hln hc tk (tb := fun W D σ H => tS (T.ext h l) (fun cls d H => ∀ σ, W cls d σ H) (sRet f0) D σ H) (ts := tSu T inE X.N.length i R) (fun W pn xe tk' _ => dss_one (ds_ret (he W pn xe tk'))) (fun a oe cls d pn hz hv => ?_)) fun D σ H ⟨ρ, S, μ, hee, hrr, hff⟩ => ⟨ρ, S, μ, hee, hrr, ?_⟩
  · refine ⟨fun pins s σ H D I h => ?_⟩
    obtain ⟨c, dd, hin, ec, ed, ht⟩ := h I.len
    have hp : PE (X.suite a ((a, oe) :: pn)) (.Call (.Name r q1) [.Name n q2] [] q3) (tE (T.heat a c dd) NX (fCallF R (fCons (fVar i) fNil))) :=
      de_callR (X := X.suite a ((a, oe) :: pn)) (p := (a, oe)) G hin List.mem_cons_self (by rw [hz.1]; exact ec) (by rw [hz.2]; exact ed) hv ⟨hr.dp, hr.un⟩ passL hg
        (da_cons (de_var (pe_var (X := X.suite a ((a, oe) :: pn)) hi (.inl hln) hdn hcd)) da_nil (hst _)) hdb (hst _) (hpl _)
    exact (dss_one (ds_ret hp)).run pins s σ H D I ht
  · show FinS (T.ext h l) _ D μ H ((f0 ρ S).out fun d S1 => .rt d S1)
    unfold sTold at hff
    cases h0 : f0 ρ S with
    | ok d S' => rw [h0] at hff; exact hff
    | bad => rw [h0] at hff; exact hff.elim
    | exc c fs S' =>
      rw [h0] at hff
      simp only at hff
      split at hff
      · rename_i hin
        intro dx μ' H' st rp hx σ'
        refine ⟨true, hcatch c hin.1, fun _ a na hl => ⟨c, some dx, hin.1, rfl, rfl, ?_⟩, fun z => nomatch z⟩
        obtain ⟨vs, hd, hfs⟩ := hx
        have hlen : σ'.length = X.N.length := by rw [List.length_set] at hl; exact hl
        have hiN : i < X.N.length := (List.getElem?_eq_some_iff.mp hi).1
        have nd : dx ∉ μ' := fun hm => by
          obtain ⟨u, e, mu⟩ := rp.r0.mu dx hm
          rw [hd] at e
          cases e
          rcases mu with ⟨_, z⟩ | ⟨_, _, _, z⟩ <;> cases z
        have dv : DV (T.heat a c (some dx)) μ' H' (.ref a) (.xcp c fs) := .xcp (if_pos rfl) hd nd ((hfs.cooler hin.2).hotter hot)
        refine ⟨(List.replicate X.N.length none).set i (some (.xcp c fs)), S', μ', ?_, rp.cooler.hotter hot, ?_⟩
        · have base : EnvR (T.heat a c (some dx)) μ' H' σ' (List.replicate X.N.length none) := by
            refine ⟨by rw [List.length_replicate]; exact hlen, fun j d hj => ?_⟩
            rw [List.getElem?_replicate] at hj
            split at hj <;> cases hj
          exact base.set dv
        · have ev : ((List.replicate X.N.length (none : Option DL.D)).set i (some (.xcp c fs)))[i]? = some (some (.xcp c fs)) := List.getElem?_set_self (by rw [List.length_replicate]; exact hiN)
          have er : fCallF R (fCons (fVar i) fNil) ((List.replicate X.N.length none).set i (some (.xcp c fs))) S' = R [.xcp c fs] S' := by
            unfold fCallF fCons fVar fNil
            rw [ev]
            rfl
          show FinS (T.heat a c (some dx)) NX _ μ' H' ((fCallF R (fCons (fVar i) fNil) ((List.replicate X.N.length none).set i (some (.xcp c fs))) S').out fun d S1 => .rt d S1)
          rw [er]
          split at hff
          · rename_i d S2 hR
            split at hff
            · rename_i hp
              rw [hR]
              intro v μ2 H2 st2 rp2 hv
              exact hff v μ2 H2 (st.trans st2) (rp2.cooler.hotter hot) ((hv.cooler hp).hotter hot)
            · exact hff.elim
          · exact hff.elim
      · exact hff.elim
end
end DL

set_option Elab.async false
set_option linter.all false
set_option maxRecDepth 100000
set_option maxHeartbeats 4000000
/-! DL18: a lambda is made: no parameter, or parameters with defaults. -/
namespace DL
open PySem PySem.Spec PyProof.Rows L2

abbrev lamFd (qual : Str) (params : Arguments) (body : Expr) (scope : Scope) (cl : List (Str × Addr)) (dV pm cdv ct : Value) : FuncData :=
  { name := "<lambda>", qualname := qual, params := params, body := .expr body, scope := scope, globals := mainGlobals, closure := cl, defaults := dV, kwdefaults := .none, doc := .none, pyModule := pm, annotations := none, code := cdv, closureTuple := ct, builtins := builtinsNs }
abbrev lamOb (qual : Str) (params : Arguments) (body : Expr) (scope : Scope) (cl : List (Str × Addr)) (dV pm : Value) (c' : Addr) (ct : Value) : Obj := { cls := .type "function", data := .func (lamFd qual params body scope cl dV pm (.ref c') ct) }
section
variable {M : Model} {A : Around} {E : Value → Shared → Prop} {s : Shared} {qual : Str} {params : Arguments} {body : Expr} {scope : Scope} {env : Env} {c P : Addr} {ps : Array Value} {pos : Pos} {firstLine : Nat} {mg : Str → Option Value} {clos : List (Str × Addr)} {Q : Value → Shared → Prop} {dV : Value}
theorem lam_tail (hcl : closureFor scope env = Pure.pure clos) (hge0 : env.globals = mainGlobals) (hg : s.heap.Ns mainGlobals mg) (hcode : env.code = .ref c) (C : PySem.W.CodeHd s.heap c P) (hP : s.heap.get? P = some (PySem.W.tabObj ps)) (ht : TriplesOk ps.toList)
    (hgP : mainGlobals ≠ P) (hb : s.heap.BuiltinsAt mg P)
    (hmiss : codeAmong pos ps.toList = none → ∀ (c' : Addr) (ctv : Value) (h' : Heap) (tk : Tok), (∀ b o, b ≠ P → s.heap.get? b = some o → h'.get? b = some o) → s.heap.objs.size ≤ c' → c' < h'.objs.size → h'.CodeRec (.ref c') qual → h'.get? P = some (PySem.W.tabObj (ps ++ #[rawInt pos.line, rawInt pos.col, .ref c'])) →
      Q (.ref h'.objs.size) { s with heap := h'.push (lamOb qual params body scope clos dV ((mg "__name__").getD .none) c' ctv), toks := tk })
    (hhit : ∀ cv, codeAmong pos ps.toList = some cv → ∀ (ctv : Value) (h' : Heap) (tk : Tok), (∀ b o, s.heap.get? b = some o → h'.get? b = some o) → s.heap.objs.size ≤ h'.objs.size →
      Q (.ref h'.objs.size) { s with heap := h'.push ({ cls := .type "function", data := .func (lamFd qual params body scope clos dV ((mg "__name__").getD .none) cv ctv) } : Obj), toks := tk }) :
    wpAny M A (makeTail "<lambda>" qual params (.expr body) scope env dV .none none pos firstLine) Q E s := by
  obtain ⟨bm, ob, hbm, hne0, _, hneP, hbo, hcls, hdict, hdata⟩ := hb
  unfold makeTail
  rw [hcl, hge0]
  refine wpAny_bind (wpAny_pure ?_)
  cases clos with
  | nil =>
    simp only [List.isEmpty_nil, if_true]
    refine wpAny_bind (wpAny_pure ?_)
    have k0 : ∀ b o, s.heap.get? b = some o → s.heap.get? b = some o := fun _ _ e => e
    have z0 : s.heap.objs.size ≤ s.heap.objs.size := Nat.le_refl _
    have C0 : PySem.W.CodeHd s.heap c P := C.keeps k0
    have P0 := k0 _ _ hP
    cases hf : codeAmong pos ps.toList with
    | none =>
      refine wpAny_bind (wpAny_functionCodeX (s := s) hcode (C0.code P0 ht) (C0.tab P0) hf fun c' h' tk hx hge hlt _ hrec htb _ => ?_)
      have hg' := (hg.keeps k0).extBut hx hgP
      refine wpAny_bind (wpAny_builtinsFor hg' hbm hne0 (hx _ _ hneP (k0 _ _ hbo)) hcls hdict hdata (wpAny_bind (wpAny_nsGet hg' ?_)))
      exact wpAny_bind (wpAny_pure (wpAny_newObj_type (hmiss hf c' _ h' tk (fun b o hb e => hx b o hb (k0 b o e)) (Nat.le_trans z0 hge) hlt hrec htb.2) (by size_fits)))
    | some cv =>
      refine wpAny_bind (wpAny_functionCode_hit (s := s) hcode (C0.code P0 ht) hf ?_)
      refine wpAny_bind (wpAny_builtinsFor (hg.keeps k0) hbm hne0 (k0 _ _ hbo) hcls hdict hdata (wpAny_bind (wpAny_nsGet (hg.keeps k0) ?_)))
      exact wpAny_bind (wpAny_pure (wpAny_newObj_type (hhit cv hf _ s.heap s.toks k0 z0) (by size_fits)))
  | cons q r =>
    simp only [List.isEmpty_cons, Bool.false_eq_true, if_false]
    refine wpAny_bind (wpAny_newTextTuple ?_)
    generalize hT : s.heap.push ({ cls := .type "tuple", data := .seq (List.map (fun x : Str × Addr => Value.ref x.2) ((q :: r).mergeSort fun a b => decide (a.1.cps.toList ≤ b.1.cps.toList))).toArray } : Obj) = h0
    have k0 : ∀ b o, s.heap.get? b = some o → h0.get? b = some o := fun b o e => by rw [← hT]; exact Heap.get?_push_of_some _ e
    have z0 : s.heap.objs.size ≤ h0.objs.size := by rw [← hT, Heap.size_push]; exact Nat.le_succ _
    have C0 : PySem.W.CodeHd h0 c P := C.keeps k0
    have P0 := k0 _ _ hP
    cases hf : codeAmong pos ps.toList with
    | none =>
      refine wpAny_bind (wpAny_functionCodeX (s := { s with heap := h0 }) hcode (C0.code P0 ht) (C0.tab P0) hf fun c' h' tk hx hge hlt _ hrec htb _ => ?_)
      have hg' := (hg.keeps k0).extBut hx hgP
      refine wpAny_bind (wpAny_builtinsFor hg' hbm hne0 (hx _ _ hneP (k0 _ _ hbo)) hcls hdict hdata (wpAny_bind (wpAny_nsGet hg' ?_)))
      exact wpAny_bind (wpAny_pure (wpAny_newObj_type (hmiss hf c' _ h' tk (fun b o hb e => hx b o hb (k0 b o e)) (Nat.le_trans z0 hge) hlt hrec htb.2) (by size_fits)))
    | some cv =>
      refine wpAny_bind (wpAny_functionCode_hit (s := { s with heap := h0 }) hcode (C0.code P0 ht) hf ?_)
      refine wpAny_bind (wpAny_builtinsFor (hg.keeps k0) hbm hne0 (k0 _ _ hbo) hcls hdict hdata (wpAny_bind (wpAny_nsGet (hg.keeps k0) ?_)))
      exact wpAny_bind (wpAny_pure (wpAny_newObj_type (hhit cv hf _ h0 s.toks k0 z0) (by size_fits)))
end
end DL

set_option Elab.async false
set_option linter.all false
set_option maxRecDepth 100000
set_option maxHeartbeats 4000000
/-! DL19: a lambda made, in a def's context. -/
namespace DL
open PySem PySem.Spec PyProof.Rows L2

/-- what the making of a lambda does to what is tracked -/
structure LamH (H H1 : Hp) : Prop where
  there : ∀ a, H1 a = none → H a = none
  keep : ∀ b o, H b = some o → (∀ ps, o ≠ .tbl ps) → H1 b = some o
theorem LamH.refl (H : Hp) : LamH H H := ⟨fun _ h => h, fun _ _ h _ => h⟩
theorem LamH.step {μ : List Addr} {H H1 : Hp} (l : LamH H H1) : Step μ H μ H1 := ⟨⟨[], by simp, fun b hb => by cases hb⟩, l.there, fun a o h _ n => l.keep a o h n⟩
/-- where its defaults stand -/
def DflOk (fr : List Addr) (dvs : List Value) (dV : Value) (h : Heap) (H1 : Hp) : Prop :=
  (dvs = [] ∧ dV = .none) ∨ ∃ td : Addr, dV = .ref td ∧ h.get? td = some ({ cls := .type "tuple", data := .seq dvs.toArray } : Obj) ∧ H1 td = none ∧ td ∉ fr
section
variable {X : Cx} {pins : List (Addr × Obj)} {σ : L2.St} {H : Hp} {s : Shared}
theorem nofr_of (I : Inv X pins σ H s) : ∀ f, s.heap.objs.size ≤ f → f ∉ frs X.stack := fun f hf z => by
  rcases List.mem_cons.mp (I.stkSub _ z) with e | e
  · have h1 := I.lt
    rw [← e] at h1
    exact Nat.lt_irrefl _ (Nat.lt_of_lt_of_le h1 hf)
  · exact I.nofs hf e
/-- with the defaults' value at hand -/
theorem lam_at {Tt : List (Addr × Str)} {c P : Addr} {params : Arguments} {body : Expr} {scope : Scope} {pos : Pos} {E : Value → Shared → Prop} {Q : Value → Shared → Prop} {dV : Value} (I : Inv X pins σ H s) (TB : LamX.TabB X.base X.mg c P) (hcode : X.env.code = .ref c)
    (hm : (P, X.env.qual ++ "<lambda>") ∈ Tt) (hu : ∀ p ∈ Tt, p.1 = P → p.2 = X.env.qual ++ "<lambda>") (hT : LamX.Tabs Tt H) (hfree : ∀ y ∈ scope.names, y.2 = .free → ∃ c, X.env.cells.lookup y.1 = some c)
    (h : ∀ (f c' : Addr) (pm ctv : Value) (H1 : Hp) (s' : Shared), Inv X pins σ H1 s' → LamH H H1 → LamX.Tabs Tt H1 → (∀ b o, b ≠ P → s.heap.get? b = some o → s'.heap.get? b = some o) → (∀ b o, s.heap.get? b = some o → b ≠ P → H b = none → H1 b = none) →
      s'.heap.get? f = some (lamOb (X.env.qual ++ "<lambda>") params body scope (cloFrom X.env.cells scope.names []) dV pm c' ctv) → H1 f = none → f ∉ frs X.stack → H1 c' = some (LamX.CodeO c' (X.env.qual ++ "<lambda>")) → Q (.ref f) s') :
    wpAny (model X.prog X.w) X.A (makeTail "<lambda>" (X.env.qual ++ "<lambda>") params (.expr body) scope X.env dV .none none pos pos.line) Q E s := by
  obtain ⟨ps, hP, ht, ha⟩ := hT _ hm
  have bP : s.heap.BuiltinsAt X.mg P := TB.bm.keeps I.bk
  have hP' : s.heap.get? P = some { cls := .none, data := .fields ps } := I.hok P _ hP
  refine lam_tail (mg := X.mg) (c := c) (P := P) (ps := ps) (closure_ok hfree) I.ok.glob (I.mod.glob.keeps I.bk) hcode (TB.code.keeps I.bk) hP' ht TB.gP bP (fun hc c' ctv h' tk hx hge hlt hrec htb => ?_) fun cv hc ctv h' tk hx hsz => ?_
  · obtain ⟨c2, oc, vs, t, e2, hoc, hd, hv⟩ := hrec
    cases e2
    have hsz : s.heap.objs.size ≤ h'.objs.size := Nat.le_trans hge (Nat.le_of_lt hlt)
    have nC : H c' = none := I.hok.fresh hge
    have nPc : P ≠ c' := ne_of_none hP nC
    generalize hob : lamOb (X.env.qual ++ "<lambda>") params body scope (cloFrom X.env.cells scope.names []) dV ((X.mg "__name__").getD .none) c' ctv = ob
    have fre : ob.isFreed = false := by rw [← hob]; rfl
    have I1 := LamX.inv_table (t' := tk) (more := #[rawInt pos.line, rawInt pos.col, .ref c']) (h' := h'.push ob) I hP (fun b o hb e => Heap.get?_push_of_some _ (hx b o hb e)) (Heap.get?_push_of_some _ htb) hge ⟨oc, vs, t, Heap.get?_push_of_some _ hoc, hd, hv⟩
    have at_ : ∀ b, b ≠ P → b ≠ c' → upd (upd H P (.tbl (ps ++ #[rawInt pos.line, rawInt pos.col, .ref c']))) c' (LamX.CodeO c' (X.env.qual ++ "<lambda>")) b = H b := fun b h1 h2 => by rw [upd_ne h2, upd_ne h1]
    have hE : ∀ b o, H b = some o → (∀ qs, o ≠ .tbl qs) → upd (upd H P (.tbl (ps ++ #[rawInt pos.line, rawInt pos.col, .ref c']))) c' (LamX.CodeO c' (X.env.qual ++ "<lambda>")) b = some o := fun b o e n => by
      rw [at_ b (fun z => n ps (Option.some.inj (e.symm.trans (by rw [z]; exact hP)))) (ne_of_none e nC)]
      exact e
    have eL : (ps ++ #[rawInt pos.line, rawInt pos.col, .ref c']).toList = ps.toList ++ [rawInt pos.line, rawInt pos.col, .ref c'] := by simp
    refine h h'.objs.size c' ((X.mg "__name__").getD .none) ctv _ _ I1 ⟨fun a na => ?_, hE⟩ (fun p hp => ?_) (fun b o hb e => Heap.get?_push_of_some _ (hx b o hb e)) (fun b o e hb nb => ?_) (by rw [hob]; exact Heap.get?_push_size _ fre) ?_ (nofr_of I _ hsz) upd_same
    · by_cases h1 : a = c'
      · rw [h1]; exact nC
      · by_cases h2 : a = P
        · rw [h2, upd_ne nPc, upd_same] at na; cases na
        · rw [at_ a h2 h1] at na; exact na
    · by_cases hb : p.1 = P
      · rw [hu p hp hb, hb]
        refine ⟨_, by rw [upd_ne nPc, upd_same], by rw [eL]; exact PySem.TriplesOk_snoc _ _ _ _ ht, fun p' cv hcv => ?_⟩
        rw [eL] at hcv
        rcases LamX.among_app _ ht hcv with z | z
        · obtain ⟨c0, e1, e2⟩ := ha p' cv z
          exact ⟨c0, e1, hE _ _ e2 LamX.codeO_ne⟩
        · exact ⟨c', z, upd_same⟩
      · obtain ⟨ps', a1, a2, a3⟩ := hT p hp
        refine ⟨ps', by rw [at_ p.1 hb (ne_of_none a1 nC)]; exact a1, a2, fun p' cv hcv => ?_⟩
        obtain ⟨c0, e1, e2⟩ := a3 p' cv hcv
        exact ⟨c0, e1, hE _ _ e2 LamX.codeO_ne⟩
    · rw [at_ b hb (fun z => by rw [z] at e; exact Nat.lt_irrefl _ (Nat.lt_of_lt_of_le (Heap.lt_size e) hge))]
      exact nb
    · have n1 : h'.objs.size ≠ c' := Nat.ne_of_gt hlt
      have n2 : h'.objs.size ≠ P := Nat.ne_of_gt (Nat.lt_of_lt_of_le (Heap.lt_size hP') hsz)
      rw [at_ _ n2 n1]
      exact I.hok.fresh hsz
  · obtain ⟨c', e, hco⟩ := ha pos cv hc
    subst e
    have I1 : Inv X pins σ H { s with heap := h'.push (lamOb (X.env.qual ++ "<lambda>") params body scope (cloFrom X.env.cells scope.names []) dV ((X.mg "__name__").getD .none) c' ctv), toks := tk } := I.kept fun b o e => Heap.get?_push_of_some _ (hx b o e)
    exact h h'.objs.size c' ((X.mg "__name__").getD .none) ctv H _ I1 (LamH.refl H) hT (fun b o _ e => Heap.get?_push_of_some _ (hx b o e)) (fun _ _ _ _ n => n) (Heap.get?_push_size _ rfl) (I.hok.fresh hsz) (nofr_of I _ hsz) hco
/-- lambda .., its defaults' values at hand -/
theorem lam_make3 {Tt : List (Addr × Str)} {c P : Addr} {params : Arguments} {body : Expr} {scope : Scope} {pos : Pos} {E : Value → Shared → Prop} {Q : Value → Shared → Prop} {dvs : List Value} (I : Inv X pins σ H s) (TB : LamX.TabB X.base X.mg c P) (hcode : X.env.code = .ref c)
    (hm : (P, X.env.qual ++ "<lambda>") ∈ Tt) (hu : ∀ p ∈ Tt, p.1 = P → p.2 = X.env.qual ++ "<lambda>") (hT : LamX.Tabs Tt H) (hfree : ∀ y ∈ scope.names, y.2 = .free → ∃ c, X.env.cells.lookup y.1 = some c)
    (h : ∀ (f c' : Addr) (dV pm ctv : Value) (H1 : Hp) (s' : Shared), Inv X pins σ H1 s' → LamH H H1 → LamX.Tabs Tt H1 → DflOk (frs X.stack) dvs dV s'.heap H1 →
      s'.heap.get? f = some (lamOb (X.env.qual ++ "<lambda>") params body scope (cloFrom X.env.cells scope.names []) dV pm c' ctv) → H1 f = none → f ∉ frs X.stack → H1 c' = some (LamX.CodeO c' (X.env.qual ++ "<lambda>")) → Q (.ref f) s') :
    wpAny (model X.prog X.w) X.A (makeFunction "<lambda>" (X.env.qual ++ "<lambda>") params (.expr body) scope X.env dvs [] [] pos pos.line) Q E s := by
  rw [makeFunction_eq]
  simp only [List.zip_nil_right, List.filterMap_nil, List.isEmpty_nil, if_true, pure_bind]
  cases dvs with
  | nil =>
    simp only [List.isEmpty_nil, if_true, pure_bind]
    exact lam_at I TB hcode hm hu hT hfree fun f c' pm ctv H1 s' J l t _ _ a b d e => h f c' _ pm ctv H1 s' J l t (.inl ⟨rfl, rfl⟩) a b d e
  | cons v r =>
    simp only [List.isEmpty_cons, Bool.false_eq_true, if_false]
    refine wpAny_bind (wpAny_newTextTuple ?_)
    have I1 : Inv X pins σ H { s with heap := s.heap.push ({ cls := .type "tuple", data := .seq (v :: r).toArray } : Obj) } := I.kept (t' := s.toks) fun b o e => Heap.get?_push_of_some _ e
    have ho : (s.heap.push ({ cls := .type "tuple", data := .seq (v :: r).toArray } : Obj)).get? s.heap.objs.size = some ({ cls := .type "tuple", data := .seq (v :: r).toArray } : Obj) := Heap.get?_push_size _ rfl
    obtain ⟨ps, hP, _, _⟩ := hT _ hm
    have hne : s.heap.objs.size ≠ P := Nat.ne_of_gt (Heap.lt_size (show s.heap.get? P = some { cls := .none, data := .fields ps } from I.hok P _ hP))
    exact lam_at I1 TB hcode hm hu hT hfree fun f c' pm ctv H1 s' J l t k1 k2 a b d e => h f c' _ pm ctv H1 s' J l t (.inr ⟨s.heap.objs.size, rfl, k1 _ _ hne ho, k2 _ _ ho hne (I.hok.fresh (Nat.le_refl _)), nofr_of I _ (Nat.le_refl _)⟩) a b d e
end
end DL

set_option Elab.async false
set_option linter.all false
set_option maxRecDepth 100000
set_option maxHeartbeats 4000000
/-! DL20: the body of a lambda, entered. -/
namespace DL
open PySem PySem.Spec PyProof.Rows L2

/-- a lambda's names: its own are parameters with defaults (their slots, if the def around has such names, are own), captured ones, globals -/
structure LamS2 (N : List Str) (sc scope : Scope) (own : List Nat) : Prop where
  kind : scope.kind = .function
  co : scope.isCoroutine = false
  gen : scope.isGenerator = false
  nocell : ∀ y ∈ scope.names, y.2 ≠ .cell
  own : ∀ i y, N[i]? = some y → scope.names.lookup y = some .local → i ∈ own
  free : ∀ y ∈ scope.names, y.2 = .free → sc.names.lookup y.1 = some .cell ∨ sc.names.lookup y.1 = some .free
theorem LamS2.has {X : Cx} {scope : Scope} {own : List Nat} (L : LamS2 X.N X.env.scope scope own) (ok : X.Ok) : ∀ y ∈ scope.names, y.2 = .free → ∃ c, X.env.cells.lookup y.1 = some c := fun y hy e =>
  (L.free y hy e).elim (fun k => ok.has _ (.inl k)) fun k => ok.has _ (.inr k)
section
variable {X : Cx} {pins : List (Addr × Obj)} {σ : L2.St} {H HZ : Hp} {s s1 : Shared}
theorem lam_start3 {A : Around} {outer : List Env} {E : XK} {scope : Scope} {own : List Nat} {f c' : Addr} {h₁ : Heap} {tk : Nat} {bnd : List (Str × Value)} (I : Inv X pins σ H s) (L : LamS2 X.N X.env.scope scope own) (e0 : Env0 X.prog X.w X.K X.mg X.base A outer s1 HZ) (hd : A.handled = none)
    (un : Un (frs X.stack) [] H HZ s.heap s1.heap) (hns : h₁.Ns s1.heap.objs.size fun y => bnd.reverse.lookup y) (kp : ∀ b o, s1.heap.get? b = some o → h₁.get? b = some o) :
    Inv (LamX.lamCx X A outer s1 HZ E scope f c') [] (L2.wipe σ own) HZ { s1 with heap := h₁, toks := tk } := by
  have hfree := L.has I.ok
  have cm : ∀ {y c}, (cloFrom X.env.cells scope.names []).lookup y = some c → X.env.cells.lookup y = some c := fun {y c} e => by
    rcases cloFrom_mem (PySem.mem_of_lookup e) with hm | ⟨h1, h2⟩
    · cases hm
    · obtain ⟨c1, hc⟩ := hfree _ h1 rfl
      have hc : X.env.cells.lookup y = some c1 := hc
      rw [h2, hc]; rfl
  have look : ∀ {y}, scope.names.lookup y = some .free → ∃ c, (cloFrom X.env.cells scope.names []).lookup y = some c := fun {y} hl => mem_lookup (cloFrom_has (cells := X.env.cells) (acc := []) (show (y, NameKind.free) ∈ scope.names from PySem.mem_of_lookup hl))
  have cellK : ∀ {c : Addr} {v : Option Value}, H c = none → s.heap.IsCell c v → h₁.IsCell c v := fun {c v} n ⟨o, ho, hd⟩ => by
    obtain ⟨sl, q⟩ := un.any ho n (by simp)
    exact ⟨_, kp _ _ q, hd⟩
  have noA : ∀ b : Addr, b ∉ (LamX.lamCx X A outer s1 HZ E scope f c').ex := fun b z => absurd (show b ∈ ([] : List Addr) from z) (by simp)
  refine ⟨⟨e0.mod, L.kind, rfl, rfl, Nat.le_refl _, fun y z c e1 e2 => I.ok.inj y z c (cm e1) (cm e2), fun y hy => ?_, fun y c z _ => (nomatch (show false = true from z)), fun _ => hd, Around.frames_deeper e0.frames, .inr ⟨rfl, rfl⟩, fun b z => absurd z (noA b), e0.bs, e0.bsz, fun b _ _ => noA b, fun b z => absurd z (noA b), e0.funs, e0.frf⟩,
    rfl, e0.bare, Un.kept kp, ⟨_, hns, fun i y v e1 e2 e3 => ?_⟩, fun y c e => ?_, e0.hok.fresh (Nat.le_refl _), fun y c e => ?_, fun q hq => absurd (show q ∈ ([] : List (Addr × Obj)) ++ [] from hq) (by simp), e0.hok.kept kp, (L2.wipe_length _ _).trans I.len⟩
  · have hy : scope.names.lookup y = some .cell ∨ scope.names.lookup y = some .free := hy
    exact hy.elim (fun hy => absurd rfl (L.nocell _ (PySem.mem_of_lookup hy))) look
  · have e3 : Vis scope y := e3
    obtain ⟨e2, no⟩ := wipe_some e2
    rcases e3 with k | k | k
    · exact absurd (L.own i y e1 k) no
    · exact absurd rfl (L.nocell _ (PySem.mem_of_lookup k))
    · obtain ⟨m, hn, hl⟩ := I.loc
      have hvis : Vis X.env.scope y := (L.free _ (PySem.mem_of_lookup k) rfl).elim (fun k => .inr (.inl k)) (fun k => .inr (.inr k))
      obtain ⟨w', r, q⟩ := hl i y v e1 e2 hvis
      obtain ⟨c2, h2⟩ := look k
      refine ⟨w', r, .inr ⟨.inr k, c2, h2, ?_⟩⟩
      have c1 := cm h2
      rcases q with ⟨k', _⟩ | ⟨_, c3, e', z⟩
      · have k' : X.env.scope.names.lookup y = some .local := k'
        rcases L.free _ (PySem.mem_of_lookup k) rfl with k2 | k2 <;> rw [show X.env.scope.names.lookup y = _ from k2] at k' <;> cases k'
      · rw [c1] at e'
        cases e'
        exact cellK (I.freeC y _ c1) z
  · obtain ⟨w', z⟩ := I.cell y c (cm e)
    exact ⟨w', cellK (I.freeC y c (cm e)) z⟩
  · obtain ⟨v, o, ho, hd⟩ := I.cell y c (cm e)
    exact un.free c o ho (I.freeC y c (cm e)) (by simp)
end

/-! ### what a lambda has captured -/
def capsOf (ρ : Ev) : List D := ρ.map fun o => o.getD .junk
def uncap (caps : List D) : Ev := caps.map fun d => match d with | .junk => none | d => some d
section
variable {T : Tb} {μ : List Addr} {H : Hp} {σ : L2.St}
theorem dvs_ext : ∀ {vs : List V} {ds : List D}, vs.length = ds.length → (∀ (i : Nat) (v : V) (d : D), vs[i]? = some v → ds[i]? = some d → DV T μ H v d) → DVs T μ H vs ds
  | [], [], _, _ => .nil
  | v :: vs, d :: ds, hl, h => .cons (h 0 v d rfl rfl) (dvs_ext (by simpa using hl) fun i v' d' e1 e2 => h (i + 1) v' d' (by simpa using e1) (by simpa using e2))
  | [], _ :: _, hl, _ => by simp at hl
  | _ :: _, [], hl, _ => by simp at hl
theorem caps_dvs {ρ : Ev} (he : EnvR T μ H σ ρ) : DVs T μ H (σ.map fun o => o.getD .non) (capsOf ρ) := by
  refine dvs_ext (by simp [capsOf, he.len]) fun i v d e1 e2 => ?_
  rw [capsOf, List.getElem?_map] at e2
  cases hr : ρ[i]? with
  | none => rw [hr] at e2; cases e2
  | some o =>
    rw [hr] at e2
    cases o with
    | none => cases e2; exact .junk v
    | some d' =>
      simp only [Option.map_some, Option.getD_some, Option.some.injEq] at e2
      subst e2
      obtain ⟨w, s1, s2⟩ := he.at_ i d' hr
      rw [List.getElem?_map, s1] at e1
      cases e1
      exact s2
theorem caps_junk {ρ : Ev} (he : EnvR T μ H σ ρ) (i : Nat) (h : σ[i]? = some none) : (capsOf ρ)[i]? = some .junk := by
  have hi : i < ρ.length := by rw [← he.len]; exact (List.getElem?_eq_some_iff.mp h).1
  obtain ⟨o, ho⟩ : ∃ o, ρ[i]? = some o := ⟨_, List.getElem?_eq_getElem hi⟩
  rw [capsOf, List.getElem?_map, ho]
  cases o with
  | none => rfl
  | some d =>
    obtain ⟨w, s1, _⟩ := he.at_ i d ho
    rw [h] at s1; cases s1
theorem uncap_env {caps : List D} (h : DVs T μ H (σ.map fun o => o.getD .non) caps) (hj : ∀ i : Nat, σ[i]? = some none → caps[i]? = some .junk) : EnvR T μ H σ (uncap caps) := by
  refine ⟨by simpa [uncap] using h.length, fun i d e => ?_⟩
  rw [uncap, List.getElem?_map] at e
  cases hc : caps[i]? with
  | none => rw [hc] at e; cases e
  | some d' =>
    rw [hc] at e
    obtain ⟨v, e1, e2⟩ := h.get hc
    rw [List.getElem?_map] at e1
    cases hs : σ[i]? with
    | none => rw [hs] at e1; cases e1
    | some o =>
      cases o with
      | none =>
        rw [hj i hs] at hc
        cases hc
        cases e
      | some w =>
        rw [hs] at e1
        cases e1
        have ed : d = d' := by
          cases d' <;> simp at e <;> first | exact e.symm | cases e
        subst ed
        exact ⟨_, rfl, e2⟩
end
end DL

set_option Elab.async false
set_option linter.all false
set_option maxRecDepth 100000
set_option maxHeartbeats 4000000
/-! DL21: told(lambda: ..): the def that calls what it got, within a try. -/
namespace DL
open PySem PySem.Spec PyProof.Rows L2

theorem Fin.hotter {T : Tb} {h : Addr → Option (Nat × Option Addr)} {l : Option (Addr × List (Option V) × Addr × Str)} {E : XK} {μ : List Addr} {H : Hp} {r : Res D} {Q : VK} (n : Cold T) (f : Fin (T.ext h l) E (kD (T.ext h l) Q) μ H r) : Fin T E (kD T Q) μ H r := by
  cases r with
  | ok d S => exact fun μ' H' st rp v hv => f μ' H' st (rp.hotter n) v (hv.hotter n)
  | exc c fs S => exact fun dx μ' H' st rp ⟨vs, e, q⟩ => f dx μ' H' st (rp.hotter n) ⟨vs, e, q.hotter n⟩
  | bad => exact f
/-- what calling slot 0's lambda computes -/
def fAct (own : List Nat) (fl : FE) : FE := fun ρ S => match ρ[(0 : Nat)]? with
  | some (some (.lam caps)) => if coldL caps = true then fl (wipeE (uncap caps) own) S else .bad
  | _ => .bad
/-- told(lambda: fl) -/
def fTold (wr : FE → FE) (n : Nat) (inE : Nat → Bool) (R : GF) (own : List Nat) (fl : FE) : FE := fun ρ S => match sTold inE R (wr (fAct own fl)) (start0 n [.lam (capsOf ρ)]) S with
  | .rt d S' => if cold d = true then .ok d S' else .bad
  | _ => .bad
section
variable {X : Cx} {T : Tb} {E : XK} {k lv : Nat}
/-- its arguments bind -/
def LamBind (X : Cx) (params : Arguments) (body : Expr) (scope : Scope) : Prop :=
  ∀ (dvs : List Value), dvs.length = params.defaults.length → ∃ bnd : List (Str × Value), (∀ y ∈ bnd, scope.names.lookup y.1 = some .local) ∧
    ∀ (q : Str) (cl : List (Str × Addr)) (dV pm cv ct : Value) (s1 : Shared), ((dvs = [] ∧ dV = .none) ∨ ∃ td : Addr, dV = .ref td ∧ s1.heap.get? td = some ({ cls := .type "tuple", data := .seq dvs.toArray } : Obj)) → BindsTo s1 (lamFd q params body scope cl dV pm cv ct) ⟨[], []⟩ bnd
/-- its defaults are evaluated -/
def LamDfl (X : Cx) (params : Arguments) : Prop := (defaultsOf params X.env).2 = [] ∧ ∀ (M : Model) (A : Around) (E : Value → Shared → Prop) (s : Shared) (K : List Value → Shared → Prop),
  (∀ dvs tk, dvs.length = params.defaults.length → K dvs { s with toks := tk }) → wpAny M A (evalAll (defaultsOf params X.env).1) K E s
theorem de_lamtold {x a xc n r : Str} {st : Stmt} {g : Addr} {fd : FuncData} {Ng : List Str} {i : Nat} {c P CS : Addr} {params : Arguments} {body : Expr} {scope : Scope} {own : List Nat} {fl : FE} {R : GF} {inE : Nat → Bool} {e0 : Expr} {wr : FE → FE} {p lpos pos p1 p2 p3 np p6 p7 p8 q1 q2 q3 : Pos}
    (hg : Gl X x) (hm : X.mg x = some (.ref g)) (Fg : Fun X.K x x st g fd) (hb : Binds X.K fd [a] []) (Sg : FnScope Ng [a] (defScope st)) (hNg : Ng[0]? = some a) (hva : Vis (defScope st) a) (hNn : Ng[i]? = some n) (hln : (defScope st).names.lookup n = some .local)
    (hbody : defBody st = [.Try [.Return (some e0) p3] [.ExceptHandler (some (.Name xc np)) (some n) [.Return (some (.Call (.Name r q1) [.Name n q2] [] q3)) p6] p7] [] [] p8])
    (hwr : ∀ (X' : Cx) (T' : Tb) (E' : XK) (f : FE), PE X' (.Call (.Name a p1) [] [] p2) (tE T' E' f) → PE X' e0 (tE T' E' (wr f)))
    (hgx : (defScope st).names.lookup xc = some .globalImplicit) (hmx : X.mg xc = some (.ref CS)) (hgr : (defScope st).names.lookup r = some .globalImplicit)
    (cl : Cold T) (hcatch : ∀ c, inE c = true → PySem.W.exmOne X.K (.ref (T.eA c)) (.ref CS) = some true) (G : DefR T X.prog X.w X.K X.mg X.base r k inE R)
    (TB : LamX.TabB X.base X.mg c P) (hcode : X.env.code = .ref c) (hmT : (P, X.env.qual ++ "<lambda>") ∈ T.tabs) (hu : ∀ p ∈ T.tabs, p.1 = P → p.2 = X.env.qual ++ "<lambda>")
    (hr : Room (k + 2) X.A) (L : LamS2 X.N X.env.scope scope own) (hdf : LamDfl X params) (hbn : LamBind X params body scope)
    (hl : ∀ (A : Around) (outer : List Env) (s : Shared) (H : Hp) (E : XK) (f c' : Addr), Room k (A.deeper (LamX.lamEnv X scope s.heap.objs.size f c')) → PE (LamX.lamCx X A outer s H E scope f c') body (tE T E fl))
    (hdb : (x == ("__debug__" : Str)) = false := by decide) (hda : (a == ("__debug__" : Str)) = false := by decide) (hca : (a == ("__classdict__" : Str)) = false := by decide) (hdx : (xc == ("__debug__" : Str)) = false := by decide)
    (hdn : (n == ("__debug__" : Str)) = false := by decide) (hcn : (n == ("__classdict__" : Str)) = false := by decide) (hdr : (r == ("__debug__" : Str)) = false := by decide)
    (hst : ∀ env : Env, starEach [.Name n q2] env = (false, eval (.Name n q2) env) :: starEach [] env := by intro _; rfl) (hpl : ∀ env : Env, (backTo q3 (starEach [] env)).any (·.1) = false := by intro _; rfl)
    (hs1 : starEach [.Lambda params body scope lpos] X.env = (false, eval (.Lambda params body scope lpos) X.env) :: starEach [] X.env := by rfl) (hp1 : (backTo pos (starEach [] X.env)).any (·.1) = false := by rfl) :
    PE X (.Call (.Name x p) [.Lambda params body scope lpos] [] pos) (tE T E (fTold wr Ng.length inE R own fl)) := by
  refine ⟨fun pins s σ H Q I ⟨ρ, S, μ, hee, hrr, hf⟩ => ?_⟩
  obtain ⟨oc, od, kV, doc, pm0, an, cdv, ct, osl, rfl, lk, hcd⟩ := Fg.ex
  refine wpAny_Call_Name_kw (ld_glob I hg hm ?_ hdb)
  refine PySem.W.callWith_K (h₀ := X.base) I.ok.mod.kin Fg.kp ?_ hs1 hp1
  rw [hs1]
  show wpAny _ _ (spliced ((false, eval (.Lambda params body scope lpos) X.env) :: backTo pos (starEach [] X.env))) _ _ s
  refine Calls.spliced_cons ?_
  rw [arm_eval_Lambda]
  obtain ⟨hd2, hd1⟩ := hdf
  cases hdd : defaultsOf params X.env with
  | mk dl kl =>
    rw [hdd] at hd1 hd2
    dsimp only at hd1 hd2
    subst hd2
    dsimp only
    refine wpAny_bind (hd1 _ _ _ _ _ fun dvs tk0 hdl => wpAny_bind (wpAny_holding (wpAny_pure ?_)))
    have I0 : Inv X pins σ H { s with toks := tk0 } := I.tok _
    refine lam_make3 I0 TB hcode hmT hu hrr.tabs (L.has I.ok) fun f c' dV pm ctv H1 s' I1 lh T1 dfl hfo hfn hfr hco => ?_
    refine Calls.spliced_nil ⟨I1.kIn, ?_⟩
    have st1 : Step μ H μ H1 := lh.step
    have keepμ : ∀ b ∈ μ, H1 b = H b := fun b hb => by
      obtain ⟨u, e, mu⟩ := hrr.r0.mu b hb
      rw [e]
      refine lh.keep b u e fun ps z => ?_
      rw [z] at mu
      rcases mu with ⟨_, y⟩ | ⟨_, _, _, y⟩ <;> cases y
    have rp1 : Rep T μ H1 S := hrr.step0 st1 keepμ fun _ => T1
    have he1 : EnvR T μ H1 σ ρ := hee.step st1 hrr.r0
    have ncμ : c' ∉ μ := fun hm => by
      obtain ⟨u, e, mu⟩ := rp1.r0.mu c' hm
      rw [hco] at e
      have z := Option.some.inj e
      unfold LamX.CodeO at z
      subst z
      rcases mu with ⟨_, y⟩ | ⟨_, _, _, y⟩ <;> cases y
    -- the tables with this lambda
    generalize hT1 : T.ext (fun _ => none) (some (f, σ, c', X.env.qual ++ "<lambda>")) = TL
    have dvl : DV TL μ H1 (.ref f) (.lam (capsOf ρ)) := by
      rw [← hT1]
      exact .lam rfl (caps_junk he1) hco ncμ ((caps_dvs he1).hotter cl)
    -- x(), in the def that got it
    have act : ∀ (W : WX) (pn : List (Addr × Obj)) (xe : Value → Shared → Prop), Takes ((cxOf (L2.CX X.prog X.w) X.prog X.w X.K X.mg X.base Ng x (defScope st) g cdv X.A X.stack s' H1 NX).tr pn xe) W → Room (k + 1) (X.A.deeper (envOfC x (defScope st) s'.heap.objs.size g cdv)) →
        PE ((cxOf (L2.CX X.prog X.w) X.prog X.w X.K X.mg X.base Ng x (defScope st) g cdv X.A X.stack s' H1 NX).tr pn xe) (.Call (.Name a p1) [] [] p2) (tE TL (fun cls d H => ∀ σ, W cls d σ H) (fAct own fl)) := by
      intro W pn xe tk hr'
      refine ⟨fun pinsZ sZ σZ HZ QZ IZ ⟨ρZ, SZ, μZ, heZ, hrZ, hfZ⟩ => ?_⟩
      unfold fAct at hfZ
      split at hfZ
      · rename_i caps hcap
        split at hfZ
        · rename_i hcold
          obtain ⟨v0, e0, dv0⟩ := heZ.at_ 0 _ hcap
          rw [← hT1] at dv0 hrZ hfZ
          cases dv0 with
          | lam hlm hj hcZ nZ qZ =>
            have hlm : some (f, σ, c', X.env.qual ++ "<lambda>") = some _ := hlm
            cases hlm
            have envL : EnvR T μZ HZ (L2.wipe σ own) (wipeE (uncap caps) own) := (uncap_env (qZ.cooler hcold) hj).wipe own
            have finL := hfZ.hotter cl
            refine wpAny_Call_Name_kw (thn ((pe_var (pos := p1) (i := 0) hNg hva hda hca).run pinsZ sZ σZ HZ (fun v H1 => v = .ref f ∧ H1 = HZ) IZ ⟨.ref f, e0, rfl, rfl⟩) fun u s1 ⟨v, H2, I2, r1, q1⟩ => ?_)
            obtain ⟨ev, eH⟩ := q1
            subst ev
            rw [eH] at I2
            obtain rfl : u = Value.ref f := r1
            have of1 := I2.base.keep f _ hfo hfn hfr (fun z => nomatch (show f ∈ ([] : List Addr) from z))
            refine PySem.W.callWith_F0 ⟨_, _, _, _, of1⟩ ?_
            have un : Un (frs X.stack) [] H1 HZ s'.heap s1.heap := I2.base
            obtain ⟨⟨oc2, vs2, t2, hoc, hdc, hvc⟩, _, _⟩ := I2.hok c' _ hcZ
            obtain ⟨bnd, hbl, hbb⟩ := hbn dvs hdl
            have hdfl : (dvs = [] ∧ dV = .none) ∨ ∃ td : Addr, dV = .ref td ∧ s1.heap.get? td = some ({ cls := .type "tuple", data := .seq dvs.toArray } : Obj) := by
              rcases dfl with z | ⟨td, z1, z2, z3, z4⟩
              · exact .inl z
              · exact .inr ⟨td, z1, I2.base.keep td _ z2 z3 z4 (fun z => nomatch (show td ∈ ([] : List Addr) from z))⟩
            have rc : codeAny (model X.prog X.w) (X.A.deeper (envOfC x (defScope st) s'.heap.objs.size g cdv)) (.call (.ref f) ⟨[], []⟩) (CR (L2.CX X.prog X.w) (envOfC x (defScope st) s'.heap.objs.size g cdv :: X.stack) X.prog X.w HZ s1 QZ (fun cls d H => ∀ σ, W cls d σ H)) s1 := by
              refine PySem.W.kla_callFunE hr'.depth of1 rfl L.co L.gen rfl ⟨c', oc2, vs2, t2, rfl, hoc, hdc, hvc⟩ ?_
              refine hbb _ _ _ _ _ _ s1 hdfl _ _ _ _ (wpAny_newFunctionEnv L.nocell hbl (fun h₁ hns hsb => ⟨I2.nolimit.fresh _ hsb, ?_⟩) L.kind)
              show codeAny _ _ (.expr body (LamX.lamEnv X scope s1.heap.objs.size f c')) _ _
              have kp : ∀ b o, s1.heap.get? b = some o → h₁.get? b = some o := fun b o e => hsb.extBut b o (Nat.ne_of_lt (Heap.lt_size e)) (Heap.get?_push_of_some _ e)
              have J : Inv (LamX.lamCx X (X.A.deeper (envOfC x (defScope st) s'.heap.objs.size g cdv)) (envOfC x (defScope st) s'.heap.objs.size g cdv :: X.stack) s1 HZ (fun cls d H => ∀ σ, W cls d σ H) scope f c') [] (L2.wipe σ own) HZ { s1 with heap := h₁, toks := s1.toks + bnd.length } :=
                lam_start3 I1 L I2.env0 hr'.hd un hns kp
              refine PySem.W.kla_codeExpr (wpAny_mono ((hl _ _ s1 HZ _ f c' (hr'.deeper _)).run [] _ _ HZ QZ J ⟨_, SZ, μZ, envL, hrZ.cooler, finL⟩) (fun v s' hq => ?_) fun e s' hq => hq)
              obtain ⟨w', H', J', rv, q⟩ := hq
              exact ⟨w', H', J'.os, J'.bare, J'.base, J'.hok, rv, q⟩
            have hx := passes_call (E := fun cls d H => ∀ σ, W cls d σ H) tk (fun cls d σ H h => h σ)
            refine wpAny_call (codeAny_mono rc fun r s' hq => ?_)
            cases r with
            | error e => exact hx pinsZ σZ HZ s1 e s' I2 hq
            | ok fl =>
              cases fl with
              | ret u => exact I2.after hq
              | next => exact hq.elim
              | brk => exact hq.elim
              | cont => exact hq.elim
        · exact hfZ.elim
      · exact hfZ.elim
    have rc : codeAny (model X.prog X.w) X.A (.call (.ref g) ⟨[.ref f], []⟩) (CR (L2.CX X.prog X.w) X.stack X.prog X.w H1 s' Q NX) s' := by
      refine LamX.run_ofS (N := Ng) (ps := [a]) (us := [.ref f]) (vs := [.ref f]) lk hcd Sg hr I1.env0 (hb s' [.ref f] I1.kIn rfl) (.cons rfl .nil) rfl fun hr' => ?_
      have told := ds_told (X := cxOf (L2.CX X.prog X.w) X.prog X.w X.K X.mg X.base Ng x (defScope st) g cdv X.A X.stack s' H1 NX) (T := T) (E := NX) (h := fun _ => none) (l := some (f, σ, c', X.env.qual ++ "<lambda>")) (x := xc) (n := n) (r := r) (CS := CS) (i := i) (e0 := e0) (f0 := wr (fAct own fl)) (R := R) (inE := inE) (lv := k)
        (np := np) (p3 := p3) (p6 := p6) (p7 := p7) (p8 := p8) (q1 := q1) (q2 := q2) (q3 := q3) rfl rfl Sg.nd hNn hln ⟨hgx, hdx, .inl hmx⟩ cl hcatch (hr'.mono (Nat.le_succ k)) G hgr (takes_of (E := fun _ _ _ => False) rfl rfl rfl rfl) (fun W pn xe tk => by rw [hT1]; exact hwr _ _ _ _ (act W pn xe tk hr')) hdn hcn hdr hst hpl
      rw [hT1] at told
      refine ⟨_, by show PSs _ (defBody st) _; rw [hbody]; exact dss_one told, ?_⟩
      have envZ : EnvR TL μ H1 (L2.start Ng [V.ref f]) (start0 Ng.length [.lam (capsOf ρ)]) := env_start (.cons dvl .nil)
      refine ⟨_, S, μ, envZ, by rw [← hT1]; exact rp1.hotter cl, ?_⟩
      unfold fTold at hf
      split at hf
      · rename_i d S' hS
        split at hf
        · rename_i hc'
          rw [hS]
          intro v μ2 H2 st2 rp2 hv
          rw [← hT1] at rp2 hv
          exact hf μ2 H2 (st1.trans st2) rp2.cooler v (hv.cooler hc')
        · exact hf.elim
      · exact hf.elim
    refine wpAny_call (codeAny_mono rc fun r s2 hq => ?_)
    cases r with
    | error e =>
      obtain ⟨_, _, _, _, _, _, _, _, _, _, _, _, z⟩ := hq
      exact z.elim
    | ok fl =>
      cases fl with
      | ret u => exact I1.after hq
      | next => exact hq.elim
      | brk => exact hq.elim
      | cont => exact hq.elim
end
end DL

set_option Elab.async false
set_option linter.all false
set_option maxRecDepth 100000
set_option maxHeartbeats 4000000
/-! DL22: a parameter that is a def, called. -/
namespace DL
open PySem PySem.Spec PyProof.Rows L2
/-- the def of number j -/
def FnAt (T : Tb) (P : Program) (w : World) (K : PySem.W.Frag) (mg : Str → Option Value) (base : Heap) (j : Nat) (lv : Nat) (F : GF) : Prop :=
  PySem.W.keepIn K (.ref (T.fA j)) = true ∧ ∃ fd ps, Binds K fd ps [] ∧ FnOk P w K mg base (L2.CX P w) lv (T.fA j) fd ps (spD T F)
def fCallV (tab : Nat → Option GF) (i : Nat) (fs : FL) : FE := fun ρ S => match ρ[i]? with
  | some (some (.fn j)) => (match tab j with | some F => (fs ρ S).bind F | none => .bad)
  | _ => .bad
section
variable {X : Cx} {T : Tb} {E : XK} {k lv : Nat}
theorem de_callV {x : Str} {i : Nat} {tab : Nat → Option GF} {p pos : Pos} {e : Expr} {es : List Expr} {fs : FL} (hv : ∀ p, PE X (.Name x p) (tVar i)) (G : ∀ j F, tab j = some F → FnAt T X.prog X.w X.K X.mg X.base j lv F) (hr : Room lv X.A) (hx : Passes (L2.CX X.prog X.w) X E) (ha : PA X (e :: es) (tA T E fs))
    (he : starEach (e :: es) X.env = (false, eval e X.env) :: starEach es X.env := by rfl) (hpl : (backTo pos (starEach es X.env)).any (·.1) = false := by rfl) :
    PE X (.Call (.Name x p) (e :: es) [] pos) (tE T E (fCallV tab i fs)) := by
  refine ⟨fun pins s σ H Q I ⟨ρ, S, μ, hee, hrr, hf⟩ => ?_⟩
  unfold fCallV at hf
  split at hf
  · rename_i j hj
    split at hf
    · rename_i F hF
      obtain ⟨hk, fd, ps, hb, FO⟩ := G j F hF
      obtain ⟨v, e1, e2⟩ := hee.at_ i _ hj
      cases e2
      refine wpAny_Call_Name_kw (thn ((hv p).run pins s σ H (fun v H1 => v = .ref (T.fA j) ∧ H1 = H) I ⟨_, e1, rfl, rfl⟩) fun u s1 ⟨v, H1, I1, r1, ev, eH⟩ => ?_)
      subst ev
      rw [eH] at I1
      obtain rfl : u = Value.ref (T.fA j) := r1
      refine PySem.W.callWith_K (h₀ := X.base) I.ok.mod.kin hk (thn (ha.run pos pins s1 σ H (fun vs H1 => spD T F vs H1 Q E) I1 ⟨ρ, S, μ, hee, hrr, (Fin.bind hf).mono fun ds S1 μ1 H1 st1 r1 h1 vs hvs => ⟨ds, S1, μ1, hvs, r1, h1⟩⟩) fun us s2 ⟨vs, H2, I2, r, q⟩ => ⟨I2.kIn, ?_⟩) he hpl
      exact run_fn (dvs := []) FO hr hb .nil hx I2 r (by rw [List.append_nil]; exact q)
    · exact hf.elim
  · exact hf.elim
end
end DL

set_option Elab.async false
set_option linter.all false
set_option maxRecDepth 100000
set_option maxHeartbeats 4000000
/-! DL23: small things: equality where an error is handled; a def that is not covered; a class's methods in the text; told's try. -/
namespace DL
open PySem PySem.Spec PyProof.Rows L2
theorem op_eqH {X : Cx} {T : Tb} (hK : T.K = X.K) (hu : X.A.units + 64 < cLine) : OpR X (compareOp .Eq) (rEqD T.K) := by rw [hK]; exact op_eqD hu
theorem op_neH {X : Cx} {T : Tb} (hK : T.K = X.K) (hu : X.A.units + 64 < cLine) : OpR X (compareOp .NotEq) (rNeD T.K) := by rw [hK]; exact op_neD hu
theorem roomH_units {k : Nat} {A : Around} (r : L2H.RoomH k A) : A.units + 64 < cLine := by have := r.un; omega
section
variable {P : Program} {w : World} {K : PySem.W.Frag} {mg : Str → Option Value} {base : Heap} {T : Tb}
theorem fn_bad {lv : Nat} {f : Addr} {fd : FuncData} {ps : List Str} : FnOk P w K mg base (L2.CX P w) lv f fd ps (spD T fun _ _ => .bad) :=
  ⟨fun vs H Q E ⟨_, _, _, _, _, h⟩ => h.elim, fun _ _ _ _ _ _ _ _ _ _ _ _ _ ⟨_, _, _, _, _, h⟩ => h.elim⟩
theorem hotX_R {N : List Str} {qual : Str} {scope : Scope} {f : Addr} {cd : Value} {A : Around} {outer : List Env} {s : Shared} {H : Hp} {E : XK} {p : Addr × Obj} {c : Nat} {dd : Option Addr} (hc : p.2.cls = .ref (T.eA c)) (hd : p.2.dict = dd) (hf : ∃ vs, p.2.data = .fields vs) :
    HotX (cxR P w K mg base N qual scope f cd A outer s H E p) (T.heat p.1 c dd) := fun a c' dd' h => by
  have h : (if a = p.1 then some (c, dd) else none) = some (c', dd') := h
  split at h
  · rename_i e
    cases h
    exact ⟨p.2, by rw [e]; exact List.mem_cons_self, hc, hd, hf⟩
  · cases h
theorem heat_at {T : Tb} {p a : Addr} {c c' : Nat} {dd dd' : Option Addr} (h : (T.heat p c dd).hot a = some (c', dd')) : c' = c := by
  have h : (if a = p then some (c, dd) else none) = some (c', dd') := h
  split at h <;> cases h
  rfl
end
/-- a class's text -/
def clsB (s : Stmt) : List Stmt := match s with
  | .ClassDef _ _ _ b _ _ _ _ _ _ _ => b
  | _ => []
end DL

set_option Elab.async false
set_option linter.all false
set_option maxRecDepth 100000
set_option maxHeartbeats 4000000
/-! DL24: x == y with the class's own __eq__. -/
namespace DL
open PySem PySem.Spec PyProof.Rows L2
/-- the class's own == -/
def EqD (T : Tb) (P : Program) (w : World) (K : PySem.W.Frag) (mg : Str → Option Value) (base : Heap) (c : Nat) (lv : Nat) (F : GF) : Prop :=
  c < T.nC ∧ PySem.W.subIn K (.type "tuple") (.ref (T.cA c)) = some false ∧ ∃ f fd ps, PySem.W.findIn K (.ref (T.cA c)) "__eq__" = some (some (.ref f)) ∧ PySem.W.isFn K (.ref f) = true ∧ Binds K fd ps [] ∧ FnOk P w K mg base (L2.CX P w) lv f fd ps (spD T F)
/-- what stands on the right: of the same class, or a tuple -/
def eqRhs (c : Nat) : D → Bool
  | .ins c' _ => c' == c
  | .tup _ => true
  | _ => false
def gEqO (c : Nat) (F : GF) : G2 := fun d e S => match d with
  | .ins c' _ => if c' = c ∧ eqRhs c e = true then (match F [d, e] S with | .ok (.bl b) S' => .ok (.bl b) S' | _ => .bad) else .bad
  | _ => .bad
section
variable {X : Cx} {T : Tb} {E : XK} {k lv : Nat}
def rEqO (T : Tb) (c : Nat) (F : GF) : R2 := fun x y H Q => ∃ (d e : D) (S : Store) (μ : List Addr), DV T μ H x d ∧ DV T μ H y e ∧ Rep T μ H S ∧ (∃ fs, d = .ins c fs) ∧ eqRhs c e = true ∧ ∃ b S', F [d, e] S = .ok (.bl b) S' ∧ ∀ μ' H', Step μ H μ' H' → Rep T μ' H' S' → Q (.bl b) H'
theorem op_eqO {c : Nat} {F : GF} (hK : T.K = X.K) (G : EqD T X.prog X.w X.K X.mg X.base c lv F) (hr : Room lv X.A) (hx : Passes (L2.CX X.prog X.w) X E) : OpR X (compareOp .Eq) (rEqO T c F) := by
  intro pins s σ H x y v u Q I rx ry h
  obtain ⟨d, e, S, μ, hd, he, hrr, ⟨fs, rfl⟩, hq, b, S', hF, hQ⟩ := h
  obtain ⟨hc, nt, f, fd, ps, hs, hf, hb, FO⟩ := G
  have hd0 := hd
  cases hd with
  | @ins a dx _ vs _ hc' hk ea n q =>
    cases rx
    obtain ⟨mA, J, _⟩ := ins_get I.hok ea
    obtain ⟨od, J, _⟩ := J.look
    obtain ⟨m, hF2⟩ := I.fr
    have hsp : spD T F [V.ref a, y] H (fun v H' => v = .bl b ∧ Q (.bl b) H') E := by
      refine ⟨[.ins c fs, e], S, μ, .cons hd0 (.cons he .nil), hrr, ?_⟩
      rw [hF]
      intro μ' H' st rp v hv
      cases hv
      exact ⟨rfl, hQ μ' H' st rp⟩
    have call_ : wpAny (model X.prog X.w) X.A (call (.ref f) [.ref a, u]) (PySem.W.CmpBack (EP X pins σ Q)) X.xe s := by
      refine wpAny_mono (run_fn (dvs := []) FO hr hb .nil hx I (.cons (show L2.RelV (V.ref a) (Value.ref a) from rfl) (.cons ry .nil)) (by rw [List.append_nil]; exact hsp)) (fun w s' hw => ?_) fun _ _ z => z
      obtain ⟨z, H', I', rz, ez, q⟩ := hw
      subst ez
      obtain rfl : w = Value.bool b := rz
      exact ⟨.bl b, H', I', rfl, q⟩
    show wpAny (model X.prog X.w) X.A (richCompare .Eq (.ref a) u) (EP X pins σ Q) X.xe s
    cases he with
    | ins hc2 hk2 eb n2 q2 =>
      cases ry
      have e2 := beq_iff_eq.mp (show (_ == c) = true from hq)
      subst e2
      obtain ⟨mB, J', _⟩ := ins_get I.hok eb
      obtain ⟨od', J', _⟩ := J'.look
      exact PySem.W.cmp_K (op := .Eq) hr.units0 hF2 I.ok.mod.kin J J'.type (by simp [PySem.W.notFirst]) hs hf call_
    | @tup b2 _ _ sq q2 =>
      cases ry
      rw [hK] at sq
      obtain ⟨o, eo, co, _⟩ := DL.Inv.tupX I sq
      have LT : PySem.W.Looks (model X.prog X.w) s.heap (typeOf (.ref b2)) (.type "tuple") := fun A Q E s k q => wpAny_typeOf_ref (k _ _ eo) (by rw [co]; exact q)
      exact PySem.W.cmp_K (op := .Eq) hr.units0 hF2 I.ok.mod.kin J LT (by unfold PySem.W.notFirst; rw [nt]; simp) hs hf call_
    | _ => cases hq
theorem ok_eqO {c : Nat} {F : GF} : Ok2 T E (rEqO T c F) (gEqO c F) := fun d e v w S μ H Q hv hw hr h => by
  unfold gEqO at h
  split at h
  · split at h
    · rename_i hc
      obtain ⟨rfl, hq⟩ := hc
      split at h
      · rename_i b S' hF
        exact ⟨_, e, S, μ, hv, hw, hr, ⟨_, rfl⟩, hq, b, S', hF, fun μ' H' st rp => h.at st rp _ (.bl b)⟩
      · exact h.elim
    · exact h.elim
  · exact h.elim
end
end DL

set_option Elab.async false
set_option linter.all false
set_option maxRecDepth 100000
set_option maxHeartbeats 4000000
/-! DL25: t[::-1] of a tuple. -/
namespace DL
open PySem PySem.Spec PyProof.Rows L2 HT
section
variable {prog : Program} {w : World} {A : Around} {E : Value → Shared → Prop} {s : Shared}
theorem adjust_back (n : Nat) : Builtin.Slice.sliceAdjust none none (-1) (n : Int) = ((n : Int) - 1, -1) := rfl
theorem places_back (n : Nat) : Builtin.Slice.slicePlaces ((n : Int) - 1) (-1) (-1) = n := by
  unfold Builtin.Slice.slicePlaces
  have h1 : ¬ ((-1 : Int) > 0) := by omega
  simp only [h1, if_false]
  by_cases h : (n : Int) - 1 > -1
  · rw [if_pos h]
    have : ((n : Int) - 1 - -1 - 1) / - -1 = (n : Int) - 1 := by rw [show (- -1 : Int) = 1 by decide, Int.ediv_one]; omega
    rw [this]
    omega
  · rw [if_neg h]; omega
theorem sliceApplied_back {sl : Addr} {vl vu vs : Value} {n : Nat} {Q : Int × Int × Nat → Shared → Prop} (hs : s.heap.IsSliceOf sl vl vu vs) (pl : IsPart vl none) (pu : IsPart vu none) (ps : IsPart vs (some (-1)))
    (h : Q ((n : Int) - 1, -1, n) s) : wpAny (model prog w) A (Builtin.Slice.sliceApplied (.ref sl) (pure (n : Int))) Q E s := by
  obtain ⟨os, hos, hcs, hds⟩ := id hs
  unfold Builtin.Slice.sliceApplied Builtin.Slice.sliceFields
  refine wpAny_bind (wpAny_bind (wpAny_field hos hds (x := vl) rfl (wpAny_bind (wpAny_field hos hds (x := vu) rfl (wpAny_bind (wpAny_field hos hds (x := vs) rfl (wpAny_pure ?_)))))))
  refine wpAny_bind (slicePart_ ps ?_)
  show wpAny _ _ (if ((-1 : Int) == 0) = true then _ else _) _ _ s
  rw [if_neg (by decide)]
  refine wpAny_bind (slicePart_ pl (wpAny_bind (slicePart_ pu (wpAny_bind (wpAny_pure ?_)))))
  show wpAny _ _ (match Builtin.Slice.sliceAdjust none none (-1) (n : Int) with | (lo, hi) => pure (lo, (-1 : Int), Builtin.Slice.slicePlaces lo hi (-1))) _ _ s
  rw [adjust_back n]
  show wpAny _ _ (pure ((n : Int) - 1, (-1 : Int), Builtin.Slice.slicePlaces ((n : Int) - 1) (-1) (-1))) _ _ s
  rw [places_back]
  exact wpAny_pure h
theorem pick_back (xs : Array Value) : ((List.range xs.size).filterMap fun (m : Nat) => xs[((xs.size : Int) - 1 + (m : Int) * -1).toNat]?).toArray = xs.toList.reverse.toArray := by
  congr 1
  have e : (List.range xs.size).filterMap (fun (m : Nat) => xs[((xs.size : Int) - 1 + (m : Int) * -1).toNat]?) = ((List.range xs.size).map fun k => xs.size - 1 - k).filterMap (xs[·]?) := by
    rw [List.filterMap_map]
    refine congrArg (fun f => List.filterMap f _) (funext fun m => ?_)
    have : ((xs.size : Int) - 1 + (m : Int) * -1).toNat = xs.size - 1 - m := by omega
    rw [this]
    rfl
  rw [e, PySem.W.krv_range, List.filterMap_reverse, PySem.W.krv_all]
theorem getItem_tuple_back {t sl : Addr} {items : Array Value} {vl vu vs : Value} {Q : Value → Shared → Prop} (ht : IsTup s.heap t items) (hs : s.heap.IsSliceOf sl vl vu vs) (pl : IsPart vl none) (pu : IsPart vu none) (ps : IsPart vs (some (-1)))
    (h : Q (.ref s.heap.objs.size) { s with heap := s.heap.push { cls := .type "tuple", data := .seq items.toList.reverse.toArray } })
    (hsz : items.size ≤ sizeLine) : wpAny (model prog w) A (getItem (.ref t) (.ref sl)) Q E s := by
  have htake : sizeOk (.seq items.toList.reverse.toArray) := by
    show items.toList.reverse.toArray.size ≤ sizeLine
    rw [List.size_toArray, List.length_reverse, Array.length_toList]
    exact hsz
  obtain ⟨os, hos, hcs, hds⟩ := id hs
  have hTs : s.TypeIs (.ref sl) "slice" := ⟨os, hos, hcs⟩
  unfold getItem
  try with_reducible refine wpAny_holding ?_
  first | refine wpAny_bind (wpAny_pure ?_) | skip
  refine wpAny_bind (wpAny_sequenceKey ht.typeIs (by decide) ?_)
  refine wpAny_bind (wpAny_callSpecial?_slot (name := Str.ofString "__getitem__") ht.typeIs PyProof.Rows.slot_tuple_getitem
    (wpAny_call_entry PyProof.Rows.slot_tuple_getitem ht.typeIs entry_tuple_getitem ?_ (args_tuple_getitem _ _)))
  show wpAny _ _ (Builtin.Tuple.tupleItemsOf (.ref t) >>= _) _ _ s
  refine wpAny_bind (tupleItemsOf_ ht ?_)
  refine wpAny_bind (wpAny_typeOf hTs ?_)
  rw [if_pos (by decide)]
  refine wpAny_bind (sliceApplied_back hs pl pu ps ?_)
  have hno : ¬ ((((items.size : Int) - 1) == 0 && (-1 : Int) == 1 && items.size == items.size) = true) := by
    intro q
    rw [Bool.and_eq_true, Bool.and_eq_true] at q
    exact absurd q.1.2 (by decide)
  show wpAny _ _ (if (((items.size : Int) - 1) == 0 && (-1 : Int) == 1 && items.size == items.size) = true then _ else _) _ _ s
  rw [if_neg hno, pick_back]
  first
    | exact wpAny_bind (m := Builtin.Tuple.tupleExact _) (wpAny_newObj_type (wpAny_pure ⟨_, rfl, wpAny_pure h⟩) htake)
    | exact wpAny_bind (m := Builtin.Tuple.tupleExact _) (wpAny_newObj_type (wpAny_bind (wpAny_pure (wpAny_pure ⟨_, rfl, wpAny_pure h⟩))) htake)
    | exact wpAny_bind (wpAny_bind (m := Builtin.Tuple.tupleExact _) (wpAny_newObj_type (wpAny_pure (wpAny_pure ⟨_, rfl, wpAny_pure h⟩)) htake))
    | exact wpAny_bind (wpAny_bind (m := Builtin.Tuple.tupleExact _) (wpAny_newObj_type (wpAny_pure ⟨_, rfl, wpAny_pure h⟩) htake))
end
section
variable {X : Cx} {T : Tb} {E : XK}
def tRevT (K : PySem.W.Frag) (te : TE) : TE := fun σ H Q => te σ H fun x H1 => ∃ a xs, x = .ref a ∧ SqT K H1 a xs ∧ ∀ (p : Addr) (o : Obj), H1 p = none → o.dict = none → Q (.ref p) (upd H1 p (.frz o (.tup xs.reverse)))
theorem pe_revT {e : Expr} {te : TE} {k : Nat} {p1 p2 p3 pos : Pos} (he : PE X e te) : PE X (.Subscript e (.Slice none none (some (.UnaryOp .USub (.Constant (.int 1) k p1) p2)) p3) pos) (tRevT X.K te) := by
  refine ⟨fun pins s σ H Q I h => ?_⟩
  refine Subscript_ (thn (he.run pins s σ H _ I h) fun v s1 ⟨x, H1, I1, r1, q1⟩ => ?_)
  obtain ⟨a, xs, ex, hx, q⟩ := q1
  subst ex
  cases r1
  have hst : PO X (some (.UnaryOp .USub (.Constant (.int 1) k p1) p2)) (tPart (tUn (rU fun i => .int (-i)) (tC (.int 1)))) := po_some (pe_un un_neg pe_int)
  refine wpAny_Slice (thn (po_none.run pins s1 σ H1 (fun o H2 => o = none ∧ H2 = H1) I1 ⟨rfl, rfl⟩) fun vl s2 ⟨l, H2, I2, pl, el, e2⟩ => ?_)
  subst el e2
  refine thn (po_none.run pins s2 σ H2 (fun o H3 => o = none ∧ H3 = H2) I2 ⟨rfl, rfl⟩) fun vu s3 ⟨u, H3, I3, pu, eu, e3⟩ => ?_
  subst eu e3
  refine thn (hst.run pins s3 σ H3 (fun o H4 => o = some (-1) ∧ H4 = H3) I3 ⟨1, rfl, -1, rfl, rfl, rfl⟩) fun vs s4 ⟨o, H4, I4, ps, eo, e4⟩ => ?_
  subst eo e4
  have I5 : Inv X pins σ H4 { s4 with heap := s4.heap.push { cls := .type "slice", data := .fields #[vl, vu, vs] } } := I4.kept (t' := s4.toks) fun b ob q => Heap.get?_push_of_some _ q
  obtain ⟨its, r, ht, hz⟩ := I5.tuple hx
  have hlen := r.length
  show wpAny (model X.prog X.w) X.A (subscriptTail e (.Slice none none (some (.UnaryOp .USub (.Constant (.int 1) k p1) p2)) p3) (.ref a) (.ref s4.heap.objs.size)) (EP X pins σ Q) X.xe { s4 with heap := s4.heap.push { cls := .type "slice", data := .fields #[vl, vu, vs] } }
  refine tail_any (ops := [.ref a, .ref s4.heap.objs.size]) ht.typeIs (PyProof.Rows.slot_tuple_getitem.lookup) ?_ (by with_unfolding_all rfl)
  refine getItem_tuple_back ht (Heap.IsSliceOf.new _ vl vu vs) pl pu ps ?_ (by rw [List.size_toArray]; omega)
  exact laid_tup I5 r.reverse (by rw [List.length_reverse]; exact hz) q
def fRevS (f : FE) : FE := fun ρ S => (f ρ S).bind fun d S1 => match d with | .tup ds => .ok (.tup ds.reverse) S1 | _ => .bad
theorem de_revS {e : Expr} {f : FE} {n : Nat} {p1 p2 p3 pos : Pos} (hK : T.K = X.K) (he : PE X e (tE T E f)) : PE X (.Subscript e (.Slice none none (some (.UnaryOp .USub (.Constant (.int 1) n p1) p2)) p3) pos) (tE T E (fRevS f)) :=
  peW (pe_revT he) fun σ H Q ⟨ρ, S, μ, he, hr, hf⟩ => ⟨ρ, S, μ, he, hr, (Fin.bind hf).mono fun d S1 μ1 H1 st1 r1 h1 v hv => by
    split at h1
    · cases hv with
      | tup s q => exact ⟨_, _, rfl, hK ▸ s.sq, fin_tup r1 q.reverse h1⟩
    · exact h1.elim⟩
end
end DL

set_option Elab.async false
set_option linter.all false
set_option maxRecDepth 100000
set_option maxHeartbeats 4000000
/-! DL26: a lambda's arguments: none, or one with a whole number's default. -/
namespace DL
open PySem PySem.Spec PyProof.Rows L2
theorem FnR.mono {T : Tb} {P : Program} {w : World} {K : PySem.W.Frag} {mg : Str → Option Value} {base : Heap} {k j : Nat} {f : Addr} {fd : FuncData} {ps : List Str} {inE : Nat → Bool} {F : GF} (h : FnR T P w K mg base k f fd ps inE F) (hj : k ≤ j) : FnR T P w K mg base j f fd ps inE F :=
  ⟨h.len, fun A outer s H args us vs Q E p c dd hin hr => h.run A outer s H args us vs Q E p c dd hin (hr.mono hj)⟩
section
variable {X : Cx} {body : Expr} {scope : Scope}
abbrev par0 : Arguments := ⟨[], [], none, [], [], none, []⟩
abbrev par1 (a : Str) (pa : Pos) (e : Expr) : Arguments := ⟨[], [⟨a, none, pa⟩], none, [], [], none, [e]⟩
theorem lamBind0 : LamBind X par0 body scope := fun dvs hl => ⟨[], (fun _ h => by cases h), fun q cl dV pm cv ct s1 h => by
  rcases h with ⟨_, e⟩ | ⟨td, e, ho⟩
  · subst e; exact BindsTo.of_eq rfl
  · subst e
    obtain rfl : dvs = [] := List.length_eq_zero_iff.mp hl
    exact BindsTo.of_defaults rfl ho rfl rfl rfl⟩
theorem lamDfl0 : LamDfl X par0 := ⟨rfl, fun M A E s K h => by
  have := h [] s.toks rfl
  show wpAny M A (evalAll []) K E s
  exact wpAny_pure this⟩
theorem lamDfl1 {a : Str} {pa p : Pos} {i : Int} {n : Nat} : LamDfl X (par1 a pa (.Constant (.int i) n p)) := ⟨rfl, fun M A E s K h => by
  show wpAny M A (evalAll [eval (.Constant (.int i) n p) X.env]) K E s
  unfold evalAll
  refine wpAny_bind (wpAny_Constant_int ?_)
  refine wpAny_bind (wpAny_holding ?_)
  unfold evalAll
  exact wpAny_pure (wpAny_pure (h [_] _ rfl))⟩
end
end DL

set_option Elab.async false
set_option linter.all false
set_option maxRecDepth 100000
set_option maxHeartbeats 4000000
/-! DL27: repr of data; defs that are called where no guard is open. -/
namespace DL
open PySem PySem.Spec PyProof.Rows L2
def isSq : D → Bool
  | .tup _ => true
  | .lst _ => true
  | .scr _ => true
  | _ => false
def canShow (p : PyData) : Bool := p.showable && !p.hasDict && decide (p.depth ≤ 100) && decide (p.shown.length ≤ lineN)
def gRepr : GL := fun ds S => match ds with
  | [d] => (match toPy d with | some p => if isSq d = true ∧ canShow p = true then .ok (.str p.shown) S else .bad | none => .bad)
  | _ => .bad
def rRepr (K : PySem.W.Frag) : List V → Hp → VK → Prop := fun xs H Q => ∃ a p, xs = [.ref a] ∧ Dp K H (.ref a) p ∧ canShow p = true ∧ Q (.str p.shown) H
section
variable {X : Cx} {T : Tb} {E : XK}
theorem cr_repr {k : Nat} (hK : T.K = X.K) (hr : Room k X.A) (GA : X.A.guards = some []) : CallR X (.builtin "repr") (rRepr T.K) := by
  intro pins s σ H xs us Q I r h
  rw [hK] at h
  obtain ⟨a, p, rfl, hp, hc, q⟩ := h
  obtain ⟨u, rfl, rx⟩ := vals1 r
  cases rx
  unfold canShow at hc
  simp only [Bool.and_eq_true, Bool.not_eq_true', decide_eq_true_eq] at hc
  obtain ⟨⟨⟨h1, h2⟩, h3⟩, h4⟩ := hc
  obtain ⟨as, rd⟩ := Dp.reads I p _ _ hp rfl
  refine PySem.repr_of_reads' rd h1 (fun z => by rw [h2] at z; cases z) GA (by have := hr.un; omega) (fun b o e => e) (fun h' u tk hk => ?_) (lineN_le h4)
  exact ⟨.str p.shown, H, I.kept (t' := tk) hk, ⟨_, rfl⟩, q⟩
theorem ok_repr : OkL T E (rRepr T.K) gRepr := fun ds vs S μ H Q hvs hr h => by
  unfold gRepr at h
  split at h
  · split at h
    · rename_i p hp
      split at h
      · rename_i hc
        cases hvs with
        | cons r q =>
          cases q
          have hd := dp_of r hp
          rename_i d v
          have : ∃ a, v = V.ref a := by
            cases r with
            | tup _ _ => exact ⟨_, rfl⟩
            | lst _ _ _ => exact ⟨_, rfl⟩
            | scr _ => exact ⟨_, rfl⟩
            | _ => cases hc.1
          obtain ⟨a, rfl⟩ := this
          exact ⟨a, p, rfl, hd, hc.2, h.ok hr _ (.str _)⟩
      · exact h.elim
    · exact h.elim
  · exact h.elim
end
/-- a def that may ask for a repr -/
structure FnG (T : Tb) (P : Program) (w : World) (K : PySem.W.Frag) (mg : Str → Option Value) (base : Heap) (k : Nat) (f : Addr) (fd : FuncData) (ps : List Str) (F : GF) : Prop where
  len : Ar ps.length F
  run : ∀ (A : Around) (outer : List Env) (s : Shared) (H : Hp) (args : Args) (us : List Value) (vs : List V) (Q : VK) (E : XK), A.guards = some [] → Room k A → Env0 P w K mg base A outer s H → BindsTo s fd args (ps.zip us) → Vals vs us → spD T F vs H Q E →
    codeAny (model P w) A (.call (.ref f) args) (CR (L2.CX P w) outer P w H s Q E) s
section
variable {P : Program} {w : World} {K : PySem.W.Frag} {mg : Str → Option Value} {base : Heap} {T : Tb}
theorem fn_G {x qual : Str} {st : Stmt} {f : Addr} {fd : FuncData} {N ps : List Str} {k : Nat} {body : FS} (F : Fun K x qual st f fd) (S : FnScope N ps (defScope st))
    (hb : ∀ (A : Around) (outer : List Env) (s : Shared) (H : Hp) (E : XK), A.guards = some [] → Room k (A.deeper (envOfC qual (defScope st) s.heap.objs.size f fd.code)) →
      PSs (cxOf (L2.CX P w) P w K mg base N qual (defScope st) f fd.code A outer s H E) (defBody st) (tS T E body)) : FnG T P w K mg base (k + 1) f fd ps (runF ps.length N.length body) := by
  obtain ⟨oc, od, kV, doc, pm, an, cdv, ct, osl, rfl, lk, hcd⟩ := F.ex
  refine ⟨ar_runF, fun A outer s H args us vs Q E hg hr e0 hbn r hsp => ?_⟩
  have hl := spD_len ar_runF hsp
  refine LamX.run_ofS lk hcd S hr e0 hbn r hl fun hr' => ?_
  obtain ⟨ds, S0, μ, hv, hrr, hf⟩ := hsp
  exact ⟨_, hb A outer s H E hg hr', _, S0, μ, env_start hv, hrr, fin_run hrr hf⟩
end
def DefG (T : Tb) (P : Program) (w : World) (K : PySem.W.Frag) (mg : Str → Option Value) (base : Heap) (x : Str) (lv : Nat) (F : GF) : Prop :=
  ∃ f fd ps, mg x = some (.ref f) ∧ PySem.W.keepIn K (.ref f) = true ∧ Binds K fd ps [] ∧ FnG T P w K mg base lv f fd ps F
section
variable {X : Cx} {T : Tb} {E : XK} {k lv : Nat}
theorem de_callG {x : Str} {F : GF} {q pos : Pos} {e : Expr} {es : List Expr} {fs : FL} (G : DefG T X.prog X.w X.K X.mg X.base x lv F) (GA : X.A.guards = some []) (hr : Room lv X.A) (hx : Passes (L2.CX X.prog X.w) X E) (hg : Gl X x) (ha : PA X (e :: es) (tA T E fs))
    (hdb : (x == ("__debug__" : Str)) = false := by decide) (he : starEach (e :: es) X.env = (false, eval e X.env) :: starEach es X.env := by rfl) (hpl : (backTo pos (starEach es X.env)).any (·.1) = false := by rfl) :
    PE X (.Call (.Name x q) (e :: es) [] pos) (tE T E (fCallF F fs)) := by
  obtain ⟨f, fd, ps, hm, hk, hb, FO⟩ := G
  refine ⟨fun pins s σ H Q I ⟨ρ, S, μ, hee, hrr, hf⟩ => ?_⟩
  refine wpAny_Call_Name_kw (ld_glob I hg hm ?_ hdb)
  refine PySem.W.callWith_K (h₀ := X.base) I.ok.mod.kin hk (thn (ha.run pos pins s σ H (fun vs H1 => spD T F vs H1 Q E) I ⟨ρ, S, μ, hee, hrr, (Fin.bind hf).mono fun ds S1 μ1 H1 st1 r1 h1 vs hvs => ⟨ds, S1, μ1, hvs, r1, h1⟩⟩) fun us s1 ⟨vs, H1, I1, r, q1⟩ => ⟨I1.kIn, ?_⟩) he hpl
  have hl := spD_len FO.len q1
  have b := hb s1 us I1.kIn (by rw [List.append_nil, ← r.length]; exact hl)
  rw [List.append_nil] at b
  refine wpAny_call (codeAny_mono (FO.run X.A X.stack s1 H1 ⟨us, []⟩ us vs Q E GA hr I1.env0 b r q1) fun r s' hq => ?_)
  cases r with
  | error e => exact hx pins σ H1 s1 e s' I1 hq
  | ok fl =>
    cases fl with
    | ret u => exact I1.after hq
    | next => exact hq.elim
    | brk => exact hq.elim
    | cont => exact hq.elim
end
end DL
namespace DL
open PySem PySem.Spec PyProof.Rows L2
theorem lamOwn_by {N : List Str} {own : List Nat} {scope : Scope} (h : ∀ i, i < N.length → scope.names.lookup (N.getD i "") = some .local → i ∈ own) : ∀ i y, N[i]? = some y → scope.names.lookup y = some .local → i ∈ own := fun i y hi hl => by
  obtain ⟨hlt, e⟩ := List.getElem?_eq_some_iff.mp hi
  refine h i hlt ?_
  rw [List.getD_eq_getElem?_getD, hi]
  exact hl
end DL

set_option Elab.async false
set_option linter.all false
set_option maxRecDepth 100000
set_option maxHeartbeats 4000000
/-! DL28: the end of a law whose def may ask for a repr and makes lambdas. -/
namespace DL
open PySem PySem.Spec PyProof.Rows L2
/-- the law's own table of code objects, empty at the start -/
structure OneTab (K : PySem.W.Frag) (c P : Addr) (h : Heap) : Prop where
  tab : h.get? P = some { cls := .none, data := .fields #[] }
  out : K.lookup P = none
  hd : PySem.W.CodeHd h c P
abbrev scrO (vs : List Value) : Obj := { cls := .type "list", data := .seq vs.toArray }
/-- what is tracked at the start: the table, the script where it's no part of the written text -/
def hp0 (K : PySem.W.Frag) (P a : Addr) (vs : List Value) (ns : List Int) : Hp := fun b =>
  if b = P then some (.tbl #[]) else if b = a ∧ K.lookup a = none then some (.frz (scrO vs) (.lst (ns.map V.int))) else none
section
variable {Pg : Program} {w : World} {K : PySem.W.Frag} {mg mb : Str → Option Value} {fa a c P : Addr} {s : Shared} {vs : List Value} {ns : List Int}
theorem hp0_tab : hp0 K P a vs ns P = some (.tbl #[]) := if_pos rfl
theorem hp0_cases (b : Addr) : hp0 K P a vs ns b = none ∨ (b = P ∧ hp0 K P a vs ns b = some (.tbl #[])) ∨ (b = a ∧ K.lookup a = none ∧ hp0 K P a vs ns b = some (.frz (scrO vs) (.lst (ns.map V.int)))) := by
  unfold hp0
  by_cases h1 : b = P
  · exact .inr (.inl ⟨h1, if_pos h1⟩)
  · by_cases h2 : b = a ∧ K.lookup a = none
    · exact .inr (.inr ⟨h2.1, h2.2, by rw [if_neg h1, if_pos h2]⟩)
    · exact .inl (by rw [if_neg h1, if_neg h2])
/-- what neither is the table nor a sequence is not tracked -/
theorem hp0_free (T : OneTab K c P s.heap) (ha : s.heap.get? a = some (scrO vs)) {b : Addr} {o : Obj} (e : s.heap.get? b = some o) (n1 : o.data ≠ .fields #[]) (n2 : ∀ xs k, o.data ≠ .seq xs k) : hp0 K P a vs ns b = none := by
  rcases hp0_cases (K := K) (P := P) (a := a) (vs := vs) (ns := ns) b with h | ⟨rfl, _⟩ | ⟨rfl, _⟩
  · exact h
  · have := T.tab.symm.trans e
    cases this
    exact (n1 rfl).elim
  · have := ha.symm.trans e
    cases this
    exact (n2 _ _ rfl).elim
theorem end_G (KX : K.In s.heap) (g1 : s.heap.Ns mainGlobals mg) (g2 : s.heap.Ns builtinsNs mb) (g3 : ∀ x : Str, x ≠ "__name__" → mb x = bootBuiltins x) (g4 : s.heap.NoLimit) (g5 : s.gens = #[]) (T : OneTab K c P s.heap)
    (bm : ∃ (m : Addr) (ob : Obj), mg "__builtins__" = some (.ref m) ∧ m ≠ builtinsNs ∧ s.heap.get? m = some ob ∧ ob.cls = .type "module" ∧ ob.dict = some builtinsNs ∧ ob.data = .plain)
    (ha : s.heap.get? a = some (scrO vs)) (hi : IntsAre vs ns) (hl : ns.length ≤ sizeLine)
    (R : ∀ (base : Heap), K.In base → base.Ns mainGlobals mg → LamX.TabB base mg c P → ∀ H : Hp, Env0 Pg w K mg base callerA [] s H → H P = some (.tbl #[]) → SqL K H a (ns.map V.int) →
      codeAny (model Pg w) callerA (.call (.ref fa) ⟨[.ref a], []⟩) (CR (L2.CX Pg w) [] Pg w H s (fun v _ => v = .bl true) NX) s) :
    codeAny (model Pg w) callerA (.call (.ref fa) ⟨[.ref a], []⟩) (fun r s' => r = .ok (.ret (.bool true)) ∧ OldK s.heap s'.heap ∧ s'.os = s.os ∧ AllBare s'.gens) s := by
  have rv : Vals (ns.map V.int) vs := vals_ints hi
  have zl : (ns.map V.int).length ≤ sizeLine := by rw [List.length_map]; exact hl
  have aP : a ≠ P := fun e => by
    have z := T.tab
    rw [← e, ha] at z
    cases z
  generalize hH : hp0 K P a vs ns = H
  have cs := hp0_cases (K := K) (P := P) (a := a) (vs := vs) (ns := ns)
  have fr := fun {b : Addr} {o : Obj} => hp0_free (K := K) (ns := ns) T ha (b := b) (o := o)
  rw [hH] at cs
  simp only [hH] at fr
  have HP : H P = some (.tbl #[]) := by rw [← hH]; exact hp0_tab
  have inB := fun {b : Addr} {o : Obj} (e : s.heap.get? b = some o) (n : H b = none) => hidT_get (H := H) e n
  have inK : K.In (hidT s.heap H) := fun b o e => by
    have e' := KX b o e
    rcases cs b with h | ⟨rfl, _⟩ | ⟨rfl, h, _⟩
    · exact inB e' h
    · rw [T.out] at e; cases e
    · rw [h] at e; cases e
  have nsB : ∀ {b : Addr} {m : Str → Option Value}, s.heap.Ns b m → (hidT s.heap H).Ns b m := fun ⟨o, es, ep, e, d, r⟩ =>
    ⟨o, es, ep, inB e (fr e (fun z => by rw [d] at z; cases z) fun xs k z => by rw [d] at z; cases z), d, r⟩
  have md : L2.Mod K mg (hidT s.heap H) := by
    obtain ⟨mc, l1, l2⟩ := g4
    exact { kin := inK, glob := nsB g1, blt := ⟨mb, nsB g2, g3⟩, nolimit := ⟨mc, nsB l1, l2⟩ }
  have gP : mainGlobals ≠ P := fun e => by
    obtain ⟨o, es, ep, q, d, _⟩ := g1
    rw [e, T.tab] at q
    cases q
    cases d
  have tB : LamX.TabB (hidT s.heap H) mg c P := by
    refine { code := ?_, bm := ?_, gP := gP }
    · obtain ⟨o, us, r⟩ := T.hd
      obtain ⟨f1, f2, f3, f4, f5, f6, f7, q1, q2, q3, q4, r⟩ := r
      refine ⟨o, us, f1, f2, f3, f4, f5, f6, f7, ?_⟩
      refine ⟨inB q1 (fr q1 (fun z => ?_) fun xs k z => ?_), q2, q3, q4, r⟩
      · rw [q3] at z
        have z' := Data.fields.inj z
        rw [z'] at q4
        cases q4
      · rw [q3] at z; cases z
    · obtain ⟨m, ob, b1, b2, b3, b4, b5, b6⟩ := bm
      have hm := fr b3 (fun z => by rw [b6] at z; cases z) fun xs k z => by rw [b6] at z; cases z
      have n1 : m ≠ mainGlobals := fun e => by
        obtain ⟨o, es, ep, q, d, _⟩ := g1
        rw [← e, b3] at q
        cases q
        rw [b6] at d
        cases d
      have n2 : m ≠ P := fun e => by rw [e, HP] at hm; cases hm
      exact ⟨m, ob, b1, b2, n1, n2, inB b3 hm, b4, b5, b6⟩
  have ok : HOk Pg w H s.heap := fun b u e => by
    rcases cs b with h | ⟨rfl, h⟩ | ⟨rfl, _, h⟩
    · rw [h] at e; cases e
    · rw [h] at e; cases e; exact T.tab
    · rw [h] at e; cases e; exact ⟨ha, zl, vs, _, rv, ha⟩
  have e0 : Env0 Pg w K mg (hidT s.heap H) callerA [] s H :=
    { frames := rfl, mod := md, bs := fun _ _ e => of_hidT e, bsz := Nat.le_of_eq (hidT_size _ _), funs := trivial, frf := fun b hb => (nomatch hb), hok := ok, bare := .of_eq g5 }
  have sq : SqL K H a (ns.map V.int) := by
    cases hk : K.lookup a with
    | none =>
      refine .inl (.inr ⟨scrO vs, ?_⟩)
      rw [← hH]
      unfold hp0
      rw [if_neg aP, if_pos ⟨rfl, hk⟩]
    | some o =>
      have z := KX a o hk
      rw [ha] at z
      cases z
      exact .inr ⟨_, vs.toArray, _, hk, rfl, rfl, rfl, by rw [List.size_toArray, hi.length]; exact hl, by simpa using rv⟩
  refine codeAny_mono (R _ inK (nsB g1) tB H e0 HP sq) fun r s' h => ?_
  cases r with
  | error e =>
    obtain ⟨_, _, _, _, _, _, _, _, _, _, _, _, z⟩ := h
    exact z.elim
  | ok fl =>
    cases fl with
    | next => exact h.elim
    | brk => exact h.elim
    | cont => exact h.elim
    | ret u =>
      obtain ⟨v, H', os, br, un, ok', rr, q⟩ := h
      have q : v = .bl true := q
      subst q
      obtain rfl : u = Value.bool true := rr
      obtain ⟨more, hm⟩ := un.tbls P _ HP
      have hm : s'.heap.get? P = some { cls := .none, data := .fields (#[] ++ more) } := ok' P _ hm
      have keep : ∀ b o, b ≠ P → s.heap.get? b = some o → s'.heap.get? b = some o := fun b o nb e => by
        rcases cs b with h | ⟨z, _⟩ | ⟨rfl, _, h⟩
        · exact un.keep b o e h (fun z => by cases z) (fun z => by cases z)
        · exact (nb z).elim
        · have z := (ok' _ _ (un.frzs _ _ _ h)).1
          rw [ha] at e
          cases e
          exact z
      refine ⟨rfl, { old := fun b o e => ?_, there := fun b o e => ?_ }, os, br⟩
      · by_cases nb : b = P
        · subst nb
          rw [T.tab] at e
          cases e
          exact .inr (.inl ⟨(T.hd.tab T.tab).isCodeTable, rfl, #[], more, rfl, hm⟩)
        · exact .inl (keep b o nb e)
      · by_cases nb : b = P
        · exact ⟨_, by rw [nb]; exact hm⟩
        · exact ⟨o, keep b o nb e⟩
end
end DL

set_option Elab.async false
set_option linter.all false
set_option maxRecDepth 100000
set_option maxHeartbeats 4000000
/-! DL29: the walk's end. -/
namespace DL
open PySem PySem.Spec PyProof.Rows L2
/-- the law keeps to true at every script -/
def Keeps (n : Nat) (F : GF) : Prop := ∀ ns : List Int, ns.length ≤ n → (∀ z ∈ ns, Builtin.Int.intBits z ≤ 1048576) → ∃ S', F [.scr ns] [] = .ok (.bl true) S'
/-- what is known of the law's def at the top's end -/
def TopG (l : PySem.W.OpenLaw) (w : World) (K : PySem.W.Frag) (k n : Nat) (x : Str) (mg : Str → Option Value) (fa : Addr) (h : Heap) : Prop :=
  ∃ (fd : FuncData) (c P : Addr) (T : Tb) (q : Str) (F : GF), OneTab K c P h ∧ T.K = K ∧ T.tabs = [(P, q)] ∧ (∀ (s : Shared) (u : Value), BindsTo s fd ⟨[u], []⟩ [(x, u)]) ∧ Keeps n F ∧
    ∀ base : Heap, K.In base → base.Ns mainGlobals mg → LamX.TabB base mg c P → FnG T l.prog w K mg base k fa fd [x] F
theorem tabs_start {H : Hp} {P : Addr} {q : Str} (h : H P = some (.tbl #[])) : LamX.Tabs [(P, q)] H := fun p hp => by
  obtain rfl := List.mem_singleton.mp hp
  exact ⟨#[], h, trivial, fun _ _ z => by cases z⟩
theorem walk_G {l : PySem.W.OpenLaw} {n k : Nat} {q : Program} {loose : List Str} {XP : (Str → Option Value) → Heap → Prop} {YP : World → Heap → Prop} {d : DefRec} {K : Params → PySem.W.Frag} {x : Str}
    (hn : l.most = some n) (hn2 : n ≤ sizeLine) (hdf : d.params.defaults = []) (hr : Room k callerA) (hrec : ((recsOf q).any fun e => e.name == d.name) = true) (hY : ∀ (w : World) (h : Heap), YP w h → (K w.params).In h)
    (F : ∀ (w : World) (mg : Str → Option Value) (fa : Addr) (h : Heap), (K w.params).In h → h.Ns mainGlobals mg → mg d.name = some (.ref fa) → LamX.OwnTab (K w.params) fa h → TopG l w (K w.params) k n x mg fa h) :
    PySem.W.WalkO q loose XP YP l.row.toRowW d [] (fun f vs => PySem.call f vs) := by
  refine Att.attach_callB hn hdf fun w s₀ s₁ mg mb fa o pm cd doc a vs ns G Y ho hd hcd hmg hobj hints hlen hbits hg => ?_
  have KX := hY w _ Y
  have own : LamX.OwnTab (K w.params) fa s₁.heap := fun c P o1 fd1 e dd vs1 sl k1 k2 k3 k4 k5 => by
    obtain ⟨dL, m, hd'⟩ := List.any_eq_true.mp hrec
    obtain ⟨a', o', fd', c', P', h1, h2, h3, h4, h5, ⟨⟨oc, vc, e1, _, e3, e4⟩, hP⟩⟩ := G.T.tab dL m
    rw [beq_iff_eq.mp hd', hmg] at h1
    cases h1
    rw [KX _ _ k1] at h2
    cases h2
    rw [k2] at h3; cases h3
    rw [k3] at h4; cases h4
    rw [KX _ _ k4] at e1; cases e1
    cases e3
    rw [k5] at e4; cases e4
    exact hP
  obtain ⟨fd, c, P, T, qn, FF, tab, hK, hT, hb, keeps, fn⟩ := F w mg fa _ KX G.T.g hmg own
  refine end_G KX G.T.g G.T.b G.T.builtins G.T.nolimit hg tab G.T.bmain hobj hints (Nat.le_trans hlen hn2) fun base b1 b2 b3 H e0 hP hS => ?_
  obtain ⟨S', hF⟩ := keeps ns hlen hbits
  refine (fn base b1 b2 b3).run callerA [] s₁ H ⟨[.ref a], []⟩ [.ref a] [.ref a] _ _ rfl hr e0 (hb s₁ (.ref a)) (.cons rfl .nil) ?_
  refine ⟨[.scr ns], [], [], .cons (.scr ?_) .nil, ⟨rfl, .nil, fun l a o h => (by cases h), by rw [hT]; exact tabs_start hP⟩, ?_⟩
  · rw [hK]
    exact hS.elim (fun h => .inl ⟨h, fun z => by cases z⟩) .inr
  · rw [hF]
    intro μ' H' st rp v hv
    cases hv
    rfl
end DL

set_option Elab.async false
set_option linter.all false
set_option maxRecDepth 100000
set_option maxHeartbeats 4000000
/-! DL30: what an own error's init does behind its first statement: no, one or two fields stored. -/
namespace DL
open PySem PySem.Spec PyProof.Rows L2
section
variable {X : Cx} {K : PySem.W.Frag} {C : Addr} {rest : List Stmt} {vs : List V} {H : Hp} {Q : VK} {E : XK} {n m : Str}
theorem err_rest1 (hK : X.K = K) (ox : OexC K C) (nf : PySem.W.findIn K (.ref C) n = some none) (hp : PSs X rest (tOst X.K n (tVar 0) (tVar 1))) (h : spE C [n] vs H Q E) :
    ∃ a ws t, vs = V.ref a :: ws ∧ H a = some (exo a C none) ∧ PSs X rest t ∧ t { nx := fun _ H' => Q .non H', rt := Q } (vs.map some) H := by
  subst hK
  obtain ⟨a, ws, rfl, hl, ea, q⟩ := h
  match ws, hl with
  | [u], _ =>
    refine ⟨a, [u], _, rfl, ea, hp, ?_⟩
    exact ⟨u, rfl, _, rfl, a, C, rfl, ox, nf, .inl ⟨ea, fun dx nx ne => q dx nx ne⟩⟩
theorem err_rest2 (hK : X.K = K) (ox : OexC K C) (nf : PySem.W.findIn K (.ref C) n = some none) (nm : PySem.W.findIn K (.ref C) m = some none) (hp : PSs X rest (tSeq (tOst X.K n (tVar 0) (tVar 1)) (tOst X.K m (tVar 0) (tVar 2)))) (h : spE C [n, m] vs H Q E) :
    ∃ a ws t, vs = V.ref a :: ws ∧ H a = some (exo a C none) ∧ PSs X rest t ∧ t { nx := fun _ H' => Q .non H', rt := Q } (vs.map some) H := by
  subst hK
  obtain ⟨a, ws, rfl, hl, ea, q⟩ := h
  match ws, hl with
  | [u, v], _ =>
    refine ⟨a, [u, v], _, rfl, ea, hp, ?_⟩
    refine ⟨u, rfl, _, rfl, a, C, rfl, ox, nf, .inl ⟨ea, fun dx nx ne => ?_⟩⟩
    refine ⟨v, rfl, _, rfl, a, C, rfl, ox, nm, .inr ⟨dx, [(n, u)], upd_same, (by rw [upd_ne ne, upd_same]), (by show 1 ≤ 900; decide), ?_⟩⟩
    have e : upd (upd (upd H dx (exd dx [(n, u)])) a (exo a C (some dx))) dx (exd dx [(m, v), (n, u)]) = upd (upd H dx (exd dx [(m, v), (n, u)])) a (exo a C (some dx)) := by
      funext b
      by_cases h1 : b = dx
      · rw [h1, upd_same, upd_ne ne, upd_same]
      · by_cases h2 : b = a
        · rw [h2, upd_ne (Ne.symm ne), upd_same, upd_same]
        · rw [upd_ne h1, upd_ne h2, upd_ne h1, upd_ne h2, upd_ne h1]
    show Q .non (upd (upd (upd H dx (exd dx [(n, u)])) a (exo a C (some dx))) dx (exd dx [(m, v), (n, u)]))
    rw [e]
    exact q dx nx ne
end
end DL

set_option Elab.async false
set_option linter.all false
set_option maxRecDepth 100000
set_option maxHeartbeats 4000000
/-! DL31: own errors as values: made, looked at. -/
namespace DL
open PySem PySem.Spec PyProof.Rows L2

/-! ### an own error made as a value -/
/-- the reading: its fields in a dict of its own, the error beside it -/
def tErrV (C : Addr) (names : List Str) (ta : TA) : TE := fun σ H Q => ta σ H fun vs H1 => vs.length = names.length ∧
  ∀ a d, H1 a = none → H1 d = none → d ≠ a → Q (.ref a) (upd (upd H1 d (.xd (names.zip vs).reverse)) a (exo a C (some d)))
theorem upd_swap {H : Hp} {a d : Addr} {u v w : HO} (ne : d ≠ a) : upd (upd (upd (upd H a u) d v) a w) d v = upd (upd H d v) a w := by
  funext b
  by_cases e : b = d
  · rw [e, upd_same, upd_ne ne, upd_same]
  · by_cases f : b = a
    · rw [f, upd_ne (fun z => ne z.symm), upd_same, upd_same]
    · rw [upd_ne e, upd_ne f, upd_ne e, upd_ne f, upd_ne f, upd_ne e]
theorem upd_swap2 {H : Hp} {a d : Addr} {u v w x : HO} (ne : d ≠ a) : upd (upd (upd (upd H a u) d v) a w) d x = upd (upd H d x) a w := by
  funext b
  by_cases e : b = d
  · rw [e, upd_same, upd_ne ne, upd_same]
  · by_cases f : b = a
    · rw [f, upd_ne (fun z => ne z.symm), upd_same, upd_same]
    · rw [upd_ne e, upd_ne f, upd_ne e, upd_ne f, upd_ne f, upd_ne e]
/-- a dict tracked as one in making is tracked as an error's dict -/
theorem Inv.settled {X : Cx} {pins : List (Addr × Obj)} {σ : L2.St} {H : Hp} {s : Shared} {d : Addr} {fl : List (Str × V)} (I : Inv X pins σ H s) (ed : H d = some (exd d fl)) : Inv X pins σ (upd H d (.xd fl)) s := by
  obtain ⟨mA, hns, rel⟩ := exd_at I.hok ed
  obtain ⟨o, es, ep, hget, hdat⟩ := id hns
  have J := I.write (t' := s.toks) (h' := s.heap) (x := d) (e := d) (o := .xd fl) (by rw [ed]; exact True.intro) (.inl rfl) (fun b u _ q => q) ⟨o, hget⟩ ⟨mA, hns, rel⟩
  exact J
section
variable {X : Cx} {T : Tb} {E : XK}
theorem pe_errv {x : Str} {C : Addr} {names : List Str} {lv : Nat} {e : Expr} {es : List Expr} {p pos : Pos} {ta : TA} (G : ErrD X.prog X.w X.K X.mg X.base x C names lv) (hn : names.length ≤ 900) (hr : Room (lv + 1) X.A) (hg : Gl X x) (ha : PA X (e :: es) ta)
    (hdb : (x == ("__debug__" : Str)) = false := by decide) (he : starEach (e :: es) X.env = (false, eval e X.env) :: starEach es X.env := by rfl) (hpl : (backTo pos (starEach es X.env)).any (·.1) = false := by rfl) :
    PE X (.Call (.Name x p) (e :: es) [] pos) (tErrV C names ta) := by
  obtain ⟨ox, hm, fI, fd, ps, iC, tI, hb, FO⟩ := G
  refine ⟨fun pins s σ H Q I h => ?_⟩
  obtain ⟨nm, qn, NN, bs, bm, sn, sub, ab, col, dd, k0, k1, k2, k3, k5, hC, hbm⟩ := ox.cls
  refine wpAny_Call_Name_kw (ld_glob I hg hm ?_ hdb)
  refine PySem.W.callWith_K (h₀ := X.base) I.ok.mod.kin ox.kC (thn (ha.run pos pins s σ H _ I h) fun us s1 ⟨vs, H1, I1, r1, hl, hq⟩ => ⟨I1.kIn, ?_⟩) he hpl
  show wpAny _ _ (call (.ref C) us) _ _ _
  obtain ⟨h0, gs, dr, tk, os⟩ := s1
  have above : h0.objs.size ≤ h0.objs.size + 1 := Nat.le_succ _
  have new : H1 (h0.objs.size + 1) = none := I1.hok.fresh above
  have grown : ∀ b o, h0.get? b = some o → ((h0.push (PySem.W.kdv_tup us)).push (PySem.HandSPX.excO C h0.objs.size)).get? b = some o := fun b o z =>
    Heap.get?_push_of_some _ (Heap.get?_push_of_some _ z)
  have there : ((h0.push (PySem.W.kdv_tup us)).push (PySem.HandSPX.excO C h0.objs.size)).get? (h0.objs.size + 1) = some (PySem.HandSPX.excO C h0.objs.size) := by heap_get
  have I2 : Inv X pins σ (upd H1 (h0.objs.size + 1) (exo (h0.objs.size + 1) C none)) ⟨(h0.push (PySem.W.kdv_tup us)).push (PySem.HandSPX.excO C h0.objs.size), gs, dr, tk, os⟩ :=
    I1.laid (t' := tk) grown above (exo_ok there)
  have both : Vals (V.ref (h0.objs.size + 1) :: vs) (Value.ref (h0.objs.size + 1) :: us) := .cons rfl r1
  -- what the init leaves
  have wish : spE C names (.ref (h0.objs.size + 1) :: vs) (upd H1 (h0.objs.size + 1) (exo (h0.objs.size + 1) C none))
      (fun v H2 => v = .non ∧ ∃ d fl, H2 (h0.objs.size + 1) = some (exo (h0.objs.size + 1) C (some d)) ∧ H2 d = some (exd d fl) ∧ Q (.ref (h0.objs.size + 1)) (upd H2 d (.xd fl))) (fun _ _ _ => False) := by
    refine ⟨_, vs, rfl, hl, upd_same, fun d nd ne => ⟨rfl, d, (names.zip vs).reverse, upd_same, by rw [upd_ne ne, upd_same], ?_⟩⟩
    rw [upd_ne ne] at nd
    rw [upd_swap2 ne]
    exact hq _ d new nd ne
  have len2 : (Value.ref (h0.objs.size + 1) :: us).length = ps.length := by
    have z := both.length
    rw [FO.len _ _ _ _ wish] at z
    exact z.symm
  have short : us.length ≤ sizeLine := by
    rw [← Paired.length r1, sizeLine_eq]
    omega
  have bnd := hb ⟨(h0.push (PySem.W.kdv_tup us)).push (PySem.HandSPX.excO C h0.objs.size), gs, dr, tk, os⟩ (Value.ref (h0.objs.size + 1) :: us) I2.kIn (by rw [List.append_nil]; exact len2)
  rw [List.append_nil] at bnd
  refine wpAny_call (PySem.HandSPX.call_own F.excBase_ValueError (fun Y => PySem.HandSPX.refsVE_contains Y bm hbm) (I1.kIn _ _ hC) (PySem.W.looks_findIn I1.kIn iC) (fun self => PySem.W.bind_fn I1.kIn self tI) short
    (codeAny_mono (FO.run _ X.stack _ _ ⟨Value.ref (h0.objs.size + 1) :: us, []⟩ (Value.ref (h0.objs.size + 1) :: us) _ _ (fun _ _ _ => False) (hr.make C us []) (I2.env0.make C us []) bnd both wish) fun r s' hr' => ?_))
  cases r with
  | error er => exact passL pins σ _ _ er s' I2 hr'
  | ok fl =>
    cases fl with
    | ret u =>
      obtain ⟨v, H2, J, rv, ev, d, fl, ea, ed, q⟩ := I2.after hr'
      subst ev
      exact ⟨rv, .ref (h0.objs.size + 1), _, Inv.settled J ed, rfl, q⟩
    | next => exact hr'.elim
    | brk => exact hr'.elim
    | cont => exact hr'.elim
end
end DL

set_option Elab.async false
set_option linter.all false
set_option maxRecDepth 100000
set_option maxHeartbeats 4000000
/-! DL32: errors as values: the D-level rules of making them. -/
namespace DL
open PySem PySem.Spec PyProof.Rows L2

def fErr (c : Nat) (fids : List Nat) (g : FL) : FE := fun ρ S => (g ρ S).bind fun ds S1 => if ds.length = fids.length then .ok (.err c (fids.zip ds).reverse) S1 else .bad
theorem exo_lst {e C : Addr} {d : Option Addr} {xs : List V} : exo e C d ≠ .lst xs := fun z => by
  have z' : HO.ext _ = HO.lst xs := z
  cases z'
theorem exo_ins {e C C' dx : Addr} {d : Option Addr} {fl : List (Str × V)} : exo e C d ≠ .ins C' dx fl := fun z => by
  have z' : HO.ext _ = HO.ins C' dx fl := z
  cases z'
theorem not_mut_exo {e C : Addr} {d : Option Addr} : ¬ MutS (exo e C d) := fun h => by
  rcases h with ⟨_, z⟩ | ⟨_, _, _, z⟩
  · exact exo_lst z
  · exact exo_ins z
theorem not_mut_xd {fl : List (Str × V)} : ¬ MutS (.xd fl) := fun h => by
  rcases h with ⟨_, z⟩ | ⟨_, _, _, z⟩ <;> cases z
theorem Rep0.out {μ : List Addr} {H : Hp} {a : Addr} {o : HO} (r : Rep0 μ H) (h : H a = some o) (n : ¬ MutS o) : a ∉ μ := fun hm => by
  obtain ⟨u, e, mu⟩ := r.mu a hm
  rw [h] at e
  cases e
  exact n mu
theorem Rep0.new {μ : List Addr} {H : Hp} {a : Addr} (r : Rep0 μ H) (h : H a = none) : a ∉ μ := fun hm => by
  obtain ⟨u, e, mu⟩ := r.mu a hm
  rw [h] at e
  cases e
section
variable {X : Cx} {T : Tb} {E : XK}
theorem de_err {c : Nat} {fids : List Nat} {x : Str} {lv : Nat} {e : Expr} {es : List Expr} {p pos : Pos} {g : FL} (G : ErrD X.prog X.w X.K X.mg X.base x (T.eA c) (fids.map T.nm) lv) (hn : fids.length ≤ 900) (hf : ∀ f ∈ fids, f < T.nN) (hr : Room (lv + 1) X.A) (hg : Gl X x) (ha : PA X (e :: es) (tA T E g))
    (hdb : (x == ("__debug__" : Str)) = false := by decide) (he : starEach (e :: es) X.env = (false, eval e X.env) :: starEach es X.env := by rfl) (hpl : (backTo pos (starEach es X.env)).any (·.1) = false := by rfl) :
    PE X (.Call (.Name x p) (e :: es) [] pos) (tE T E (fErr c fids g)) :=
  peW (pe_errv G (by rw [List.length_map]; exact hn) hr hg ha hdb he hpl) fun σ H Q ⟨ρ, S, μ, hee, hrr, hff⟩ => ⟨ρ, S, μ, hee, hrr, hff.bind.mono fun ds S1 μ1 H1 st1 r1 h1 vs hvs => by
    split at h1
    · rename_i hl
      refine ⟨by rw [hvs.length, List.length_map]; exact hl, fun a d ha hd ne => ?_⟩
      have s1 : Step μ1 H1 μ1 (upd H1 d (.xd ((fids.map T.nm).zip vs).reverse)) := Step.new hd
      have ha' : upd H1 d (.xd ((fids.map T.nm).zip vs).reverse) a = none := by rw [upd_ne (Ne.symm ne)]; exact ha
      have s2 : Step μ1 (upd H1 d (.xd ((fids.map T.nm).zip vs).reverse)) μ1 (upd (upd H1 d (.xd ((fids.map T.nm).zip vs).reverse)) a (exo a (T.eA c) (some d))) := Step.new ha'
      have r2 := (r1.new (o := .xd ((fids.map T.nm).zip vs).reverse) hd).new (o := exo a (T.eA c) (some d)) ha'
      refine h1 μ1 _ (s1.trans s2) r2 _ ?_
      exact .err upd_same (r1.r0.new ha) (by rw [upd_ne ne]; exact upd_same) (r1.r0.new hd) (((dfs_zip hf hvs).reverse).step (s1.trans s2) r1.r0)
    · exact h1.elim⟩
end
end DL

set_option Elab.async false
set_option linter.all false
set_option maxRecDepth 100000
set_option maxHeartbeats 4000000
/-! DL33: an error that is a value raised and caught in the same def: try: raise y / except c as n: suite. -/
namespace DL
open PySem PySem.Spec PyProof.Rows L2

/-- nothing is tracked at the entry but tables of code and frozen things -/
def Top0 (H : Hp) : Prop := ∀ a u, H a = some u → (∃ ps, u = .tbl ps) ∨ ∃ o v, u = .frz o v
abbrev XA := Addr → XK
/-- no error of another class lies there -/
def Apart (H : Hp) (a C : Addr) : Prop := ∀ b C' d', C' ≠ C → H b = some (exo b C' d') → b ≠ a
/-- an exception made: where it lies is told -/
def PMkA (X : Cx) (e : Expr) (t : L2.St → Hp → XA → Prop) : Prop :=
  ∀ (pins : List (Addr × Obj)) (s : Shared) (σ : L2.St) (H : Hp) (Q : XA), Inv X pins σ H s → t σ H Q →
    wpAny (model X.prog X.w) X.A (eval e X.env) (fun u s' => ∃ a, u = .ref a ∧ MkP X pins σ (Q a) u s') X.xe s
def TakesA (X : Cx) (W : Addr → WX) : Prop := ∀ a s', XE X (W a) (.ref a) s' → X.xe (.ref a) s'
def tRaiseV (X : Cx) (te : TE) : L2.St → Hp → XA → Prop := fun σ H Q => te σ H fun x H1 => ∃ a C d, x = .ref a ∧ H1 a = some (exo a C d) ∧ Raises X (.ref C) ∧ (Apart H1 a C → Q a (.ref C) d (delH H1 a))
section
variable {X : Cx}
theorem pmk_retA {e : Expr} {te : TE} (hx : X.ex = []) (h0 : Top0 X.H_0) (he : PE X e te) : PMkA X e (tRaiseV X te) := by
  intro pins s σ H Q I h
  refine wpAny_mono (he.run pins s σ H _ I h) (fun u s1 hu => ?_) fun _ _ z => z
  obtain ⟨v, H1, I1, r1, a, C, d, rfl, ha, hr, q⟩ := hu
  cases r1
  obtain ⟨t1, hget⟩ := exo_at I1.hok ha
  have ap : Apart H1 a C := fun b C' d' ne hb e => by
    subst e
    obtain ⟨t2, g2⟩ := exo_at I1.hok hb
    rw [hget] at g2
    cases g2
    exact ne rfl
  have fr : Fr0 X.H_0 a := fun o ho => by
    rcases h0 a o ho with h | ⟨oo, v, rfl⟩
    · exact h
    · have z := I1.base.frzs a oo v ho
      rw [ha] at z
      exact (exo_frz (Option.some.inj z)).elim
  obtain ⟨G, gs, ga, J⟩ := I1.untrack (show H1 a = some (.ext _) from ha) fr hx
  exact ⟨a, rfl, a, _, _, { s1 with heap := G }, delH H1 a, .ref C, d, rfl, J, gs, ga, hget, ⟨rfl, rfl⟩, rfl, rfl, delH_same, rfl, I1.bare, hr, q ap⟩
theorem ps_raiseA {W : Addr → WX} {e : Expr} {t : L2.St → Hp → XA → Prop} {at_ : Pos} (hc : X.calm = true) (tk : TakesA X W) (he : PMkA X e t) :
    PS X (.Raise (some e) none at_) (fun _ σ H => t σ H fun a cls d H' => W a cls d σ H') := by
  refine ⟨fun pins s σ H D I h => ?_⟩
  show wpAny _ _ (do standAt at_; raiseStmt X.env (some (do let x ← eval e X.env; standAt at_; pure x)) none) _ _ _
  have main := he pins s σ H (fun a cls d H' => W a cls d σ H') I h
  refine wpAny_bind (wpAny_standAt (raise_made (I.ok.hd hc) (wpAny_bind (wpAny_mono main (fun u s1 hu => wpAny_bind (wpAny_standAt (wpAny_pure ?_))) fun _ _ z => z))))
  obtain ⟨a0, ea, a, oe, fv, sI, H', cls, d, eu, J, k, hne, hat, hz, hd, h1, na, os, ag, r, q⟩ := hu
  subst ea
  cases eu
  obtain ⟨r1, r2⟩ := r (model X.prog X.w) s1.heap (J.kIn.keeps k)
  exact ⟨a0, oe, fv, cls, rfl, hat, hz.1, hd, h1, r1, r2, tk _ _ (XE.new J k hne hat hz hd h1 na os ag q)⟩
/-- what the clause wishes, told where the error lies -/
def wAsA (K : PySem.W.Frag) (c : Value) (i : Nat) (ts : Addr → Value → Option Addr → TS) (D : Ends) : Addr → WX := fun a cls d σ H =>
  PySem.W.exmOne K cls c = some true ∧ H a = none ∧ ts a cls d { nx := fun σ' H' => D.nx (σ'.set i none) H', rt := D.rt, bk := fun σ' H' => D.bk (σ'.set i none) H', ct := fun σ' H' => D.ct (σ'.set i none) H' } (σ.set i (some (.ref a))) H
theorem ps_tryA {x n : Str} {c : Value} {i : Nat} {body suite : List Stmt} {b₀ : Stmt} {np po po' : Pos} {tb : (Addr → WX) → TS} {ts : Addr → Value → Option Addr → TS} (hs : X.stack = X.env :: X.outer) (hf : X.env.frame = some X.env.locals) (hN : X.N.Nodup) (hi : X.N[i]? = some n) (hln : X.env.kindOf n = some .local) (hc : Names X x c)
    (hb : ∀ (W : Addr → WX) (pn : List (Addr × Obj)) (xe : Value → Shared → Prop), TakesA (X.tr pn xe) W → PSs (X.tr pn xe) body (tb W))
    (hsu : ∀ (a : Addr) (oe : Obj) (cls : Value) (d : Option Addr) (pn : List (Addr × Obj)), Zc cls d oe → (∃ vs, oe.data = .fields vs) → PSs (X.suite a ((a, oe) :: pn)) (b₀ :: suite) (ts a cls d)) :
    PS X (.Try body [.ExceptHandler (some (.Name x np)) (some n) (b₀ :: suite) po'] [] [] po) (fun D σ H => tb (wAsA X.K c i ts D) D σ H) := by
  refine ⟨fun pins s σ H D I h => ?_⟩
  have good := I.ok
  have frames : X.A.frames = some (X.env :: X.outer) := by rw [good.frames, hs]
  have inN : Loc X.env.scope n := .inl hln
  refine wpAny_Try_except ?_
  let xe0 : Value → Shared → Prop := fun e s₁ => wpAny (model X.prog X.w) X.A (noteFrame e X.env) (fun _ s₂ => wpAny (model X.prog X.w) X.A (setFlight e none) (fun _ s₃ =>
    wpAny (model X.prog X.w) X.A (handleBy e X.env [.ExceptHandler (some (.Name x np)) (some n) (b₀ :: suite) po']) (SP X pins D) X.xe s₃) X.xe s₂) X.xe s₁
  refine wpAny_mono ((hb (wAsA X.K c i ts D) (X.pn ++ pins) xe0 (fun a s' xx => ?_)).run [] s σ H D (I.toTry _) h) (fun f s1 hsp => ?_) (fun e s1 he => he)
  · obtain ⟨a', B, sI, pins', σ', H', cls, d, ea, J', nb, up, sky, na, os, ag, hyes, _, suit⟩ := xx
    cases ea
    have J : Inv X pins σ' H' sI := J'.ofTry good
    have air : Sky B (X.env :: X.outer) a (Zc cls d) X.env.locals s'.heap := by rw [← hs]; exact sky
    show wpAny (model X.prog X.w) X.A (noteFrame (.ref a) X.env) _ _ _
    refine Sky.land Zc.steady frames hf air fun h3 fl3 up3 => ?_
    have J3 : Inv X pins σ' H' { s' with heap := h3 } := J.landed nb fl3.1 (up.trans up3) os ag
    obtain ⟨oe3, vs3, at3, hz3, hd3⟩ := fl3.there
    have noFrame : a ∉ frs (X.env :: X.outer) := fun hm => by
      obtain ⟨_, o', e', hnf⟩ := fl3.2.2.1.mem hm
      rw [at3] at e'; cases e'
      exact hnf _ hd3
    have nL : a ≠ X.env.locals := fun z => noFrame (List.mem_filterMap.mpr ⟨X.env, List.mem_cons_self, by rw [hf, z]⟩)
    have nF : a ∉ X.fs := fun hm => by
      obtain ⟨e, he, q⟩ := List.mem_filterMap.mp hm
      exact noFrame (List.mem_filterMap.mpr ⟨e, List.mem_cons_of_mem _ he, q⟩)
    have S3 := J3.suite at3 hd3 na nL nF
    refine wpAny_handleBy_cons (codeAny_handlers_test ?_) (by intro q; cases q)
    have LT : PySem.W.Looks (model X.prog X.w) h3 (typeOf (.ref a)) cls := fun A Q E s k q => wpAny_typeOf_ref (k _ _ at3) (by rw [hz3.1]; exact q)
    have LM := PySem.W.exm_one (M := model X.prog X.w) (J3.kIn) LT hyes
    have named : ∀ {Q : Value → Shared → Prop} {E : Value → Shared → Prop}, Q c { s' with heap := h3 } → wpAny (model X.prog X.w) (X.A.mark (some (.ref a))) (eval (.Name x np) X.env) Q E { s' with heap := h3 } := fun {Q E} q => by
      obtain ⟨hg, hdbg, hm | ⟨hm, hv, hnn⟩⟩ := hc
      · exact ld_glob (X := X.suite a ((a, oe3) :: (X.pn ++ pins))) S3 hg hm q hdbg
      · exact ld_blt (X := X.suite a ((a, oe3) :: (X.pn ++ pins))) S3 hg hm hv q hnn hdbg
    refine named (LM.here ?_)
    refine codeAny_handlers_suite_as ?_
    refine HandSPX.lands_againZ fl3 fun h4 fl4 up4 => ?_
    have J4 : Inv X pins σ' H' { s' with heap := h4 } := J.landed nb fl4.1 ((up.trans up3).trans up4) os ag
    obtain ⟨oe4, vs4, at4, hz4, hd4⟩ := fl4.there
    have S4 := J4.suite at4 hd4 na nL nF
    refine store_ok (X := X.suite a ((a, oe4) :: (X.pn ++ pins))) (v := .ref a) S4 hN hi inN rfl (fun s5 S5 => ?_) (.inr hln)
    refine wpAny_mono ((hsu a oe4 cls d (X.pn ++ pins) hz4 ⟨_, hd4⟩).run [] s5 _ H' _ S5 suit) (fun f s6 hsp => ?_) (fun _ _ z => False.elim z)
    have closing : ∀ {σ6 : L2.St} {H6 : Hp} {Q : Shared → Prop}, Inv (X.suite a ((a, oe4) :: (X.pn ++ pins))) [] σ6 H6 s6 → (∀ s7, Inv X pins (σ6.set i none) H6 s7 → Q s7) →
        wpAny (model X.prog X.w) X.A (do bindName X.env n .none; unbindBehindTheSuite X.env n po') (fun _ s7 => Q s7) X.xe s6 := fun {σ6 H6 Q} S6 hq => gone_ok (S6.unsuite good) hN hi hln hq
    cases f with
    | next => obtain ⟨σ6, H6, S6, q6⟩ := hsp; exact closing S6 fun s7 J7 => ⟨_, _, J7, q6⟩
    | brk => obtain ⟨σ6, H6, S6, q6⟩ := hsp; exact closing S6 fun s7 J7 => ⟨_, _, J7, q6⟩
    | cont => obtain ⟨σ6, H6, S6, q6⟩ := hsp; exact closing S6 fun s7 J7 => ⟨_, _, J7, q6⟩
    | ret u => obtain ⟨v6, σ6, H6, S6, r6, q6⟩ := hsp; exact closing S6 fun s7 J7 => ⟨_, _, _, J7, r6, q6⟩
  · cases f with
    | next => obtain ⟨σ', H', J', q⟩ := hsp; exact wpAny_execs_nil ⟨σ', H', J'.ofTry good, q⟩
    | brk => obtain ⟨σ', H', J', q⟩ := hsp; exact ⟨σ', H', J'.ofTry good, q⟩
    | cont => obtain ⟨σ', H', J', q⟩ := hsp; exact ⟨σ', H', J'.ofTry good, q⟩
    | ret u => obtain ⟨v, σ', H', J', r, q⟩ := hsp; exact ⟨v, σ', H', J'.ofTry good, r, q⟩
end
end DL

set_option Elab.async false
set_option linter.all false
set_option maxRecDepth 100000
set_option maxHeartbeats 4000000
/-! DL34: errors without fields made; defs called in the suite that may ask for a repr; repr of any plain data. -/
namespace DL
open PySem PySem.Spec PyProof.Rows L2

/-! ### an error without fields -/
def spE0 (C : Addr) : Sp := fun vs H Q E => ∃ a, vs = [V.ref a] ∧ H a = some (exo a C none) ∧ Q .non H
def ErrD0 (P : Program) (w : World) (K : PySem.W.Frag) (mg : Str → Option Value) (base : Heap) (x : Str) (C : Addr) (lv : Nat) : Prop :=
  OexC K C ∧ mg x = some (.ref C) ∧ ∃ fI fd ps, PySem.W.findIn K (.ref C) "__init__" = some (some (.ref fI)) ∧ PySem.W.typeIn K (.ref fI) = some (.type "function") ∧ Binds K fd ps [] ∧ FnOk P w K mg base (L2.CX P w) lv fI fd ps (spE0 C)
theorem err_rest0 {X : Cx} {K : PySem.W.Frag} {C : Addr} {vs : List V} {H : Hp} {Q : VK} {E : XK} (h : spE0 C vs H Q E) :
    ∃ a ws t, vs = V.ref a :: ws ∧ H a = some (exo a C none) ∧ PSs X [] t ∧ t { nx := fun _ H' => Q .non H', rt := Q } (vs.map some) H := by
  obtain ⟨a, rfl, ea, q⟩ := h
  exact ⟨a, [], tNext, rfl, ea, pss_nil, q⟩
theorem spE0_len {C : Addr} {ps : List Str} (hp : ps.length = 1) : ∀ vs H Q E, spE0 C vs H Q E → vs.length = ps.length := fun vs H Q E ⟨a, e, _⟩ => by
  rw [e, hp]
  rfl
section
variable {X : Cx} {T : Tb} {E : XK}
theorem pe_errv0 {x : Str} {C : Addr} {lv : Nat} {p pos : Pos} (G : ErrD0 X.prog X.w X.K X.mg X.base x C lv) (hr : Room (lv + 1) X.A) (hg : Gl X x) (hdb : (x == ("__debug__" : Str)) = false := by decide) :
    PE X (.Call (.Name x p) [] [] pos) (fun σ H Q => ∀ a, H a = none → Q (.ref a) (upd H a (exo a C none))) := by
  obtain ⟨ox, hm, fI, fd, ps, iC, tI, hb, FO⟩ := G
  refine ⟨fun pins s σ H Q I h => ?_⟩
  obtain ⟨nm, qn, NN, bs, bm, sn, sub, ab, col, dd, k0, k1, k2, k3, k5, hC, hbm⟩ := ox.cls
  refine wpAny_Call_Name_kw (ld_glob I hg hm ?_ hdb)
  refine PySem.W.callWith_K0 I.kIn ox.kC ?_
  obtain ⟨h0, gs, dr, tk, os⟩ := s
  have above : h0.objs.size ≤ h0.objs.size + 1 := Nat.le_succ _
  have new : H (h0.objs.size + 1) = none := I.hok.fresh above
  have grown : ∀ b o, h0.get? b = some o → ((h0.push (PySem.W.kdv_tup [])).push (PySem.HandSPX.excO C h0.objs.size)).get? b = some o := fun b o z =>
    Heap.get?_push_of_some _ (Heap.get?_push_of_some _ z)
  have there : ((h0.push (PySem.W.kdv_tup [])).push (PySem.HandSPX.excO C h0.objs.size)).get? (h0.objs.size + 1) = some (PySem.HandSPX.excO C h0.objs.size) := by heap_get
  have I2 : Inv X pins σ (upd H (h0.objs.size + 1) (exo (h0.objs.size + 1) C none)) ⟨(h0.push (PySem.W.kdv_tup [])).push (PySem.HandSPX.excO C h0.objs.size), gs, dr, tk, os⟩ :=
    I.laid (t' := tk) grown above (exo_ok there)
  have both : Vals [V.ref (h0.objs.size + 1)] [Value.ref (h0.objs.size + 1)] := .cons rfl .nil
  have wish : spE0 C [.ref (h0.objs.size + 1)] (upd H (h0.objs.size + 1) (exo (h0.objs.size + 1) C none))
      (fun v H2 => v = .non ∧ Q (.ref (h0.objs.size + 1)) H2) (fun _ _ _ => False) := ⟨_, rfl, upd_same, rfl, h _ new⟩
  have len2 : [Value.ref (h0.objs.size + 1)].length = ps.length := by
    have z := both.length
    rw [FO.len _ _ _ _ wish] at z
    exact z.symm
  have bnd := hb ⟨(h0.push (PySem.W.kdv_tup [])).push (PySem.HandSPX.excO C h0.objs.size), gs, dr, tk, os⟩ [Value.ref (h0.objs.size + 1)] I2.kIn (by rw [List.append_nil]; exact len2)
  rw [List.append_nil] at bnd
  refine wpAny_call (PySem.HandSPX.call_own F.excBase_ValueError (fun Y => PySem.HandSPX.refsVE_contains Y bm hbm) (I.kIn _ _ hC) (PySem.W.looks_findIn I.kIn iC) (fun self => PySem.W.bind_fn I.kIn self tI) (Nat.zero_le _)
    (codeAny_mono (FO.run _ X.stack _ _ ⟨[Value.ref (h0.objs.size + 1)], []⟩ [Value.ref (h0.objs.size + 1)] _ _ (fun _ _ _ => False) (hr.make C [] []) (I2.env0.make C [] []) bnd both wish) fun r s' hr' => ?_))
  cases r with
  | error er => exact passL pins σ _ _ er s' I2 hr'
  | ok fl =>
    cases fl with
    | ret u =>
      obtain ⟨v, H2, J, rv, ev, q⟩ := I2.after hr'
      subst ev
      exact ⟨rv, .ref (h0.objs.size + 1), _, J, rfl, q⟩
    | next => exact hr'.elim
    | brk => exact hr'.elim
    | cont => exact hr'.elim
def fErr0 (c : Nat) : FE := fun _ S => .ok (.err c []) S
theorem de_err0 {c : Nat} {x : Str} {lv : Nat} {p pos : Pos} (G : ErrD0 X.prog X.w X.K X.mg X.base x (T.eA c) lv) (hr : Room (lv + 1) X.A) (hg : Gl X x) (hdb : (x == ("__debug__" : Str)) = false := by decide) :
    PE X (.Call (.Name x p) [] [] pos) (tE T E (fErr0 c)) :=
  peW (pe_errv0 G hr hg hdb) fun σ H Q ⟨ρ, S, μ, hee, hrr, hff⟩ a ha => by
    have st : Step μ H μ (upd H a (exo a (T.eA c) none)) := Step.new ha
    exact hff μ _ st (hrr.new ha) _ (.er0 upd_same (hrr.r0.new ha))
end

/-! ### repr of plain data -/
def isPl : D → Bool
  | .non => true
  | .bl _ => true
  | .int _ => true
  | .str _ => true
  | .tup _ => true
  | .lst _ => true
  | .scr _ => true
  | _ => false
def gReprP : GL := fun ds S => match ds with
  | [d] => (match toPy d with | some p => if isPl d = true ∧ canShow p = true then .ok (.str p.shown) S else .bad | none => .bad)
  | _ => .bad
def rReprP (K : PySem.W.Frag) : List V → Hp → VK → Prop := fun xs H Q => rRepr K xs H Q ∨ (xs = [.non] ∧ Q (.str "None") H) ∨ (∃ b : Bool, xs = [.bl b] ∧ Q (.str (if b then "True" else "False")) H) ∨
  (∃ i : Int, xs = [.int i] ∧ i.natAbs.log2 < 1920 ∧ Q (.str (toString i)) H) ∨ ∃ z : Str, xs = [.str z] ∧ (reprText z).length ≤ sizeLine ∧ Q (.str (reprText z)) H
section
variable {X : Cx} {T : Tb} {E : XK}
theorem cr_reprP (hK : T.K = X.K) (hu : X.A.units + 200 < cLine) (GA : X.A.guards = some []) : CallR X (.builtin "repr") (rReprP T.K) := by
  intro pins s σ H xs us Q I r h
  rw [hK] at h
  rcases h with ⟨a, p, rfl, hp, hc, q⟩ | ⟨rfl, q⟩ | ⟨b, rfl, q⟩ | ⟨i, rfl, hi, q⟩ | ⟨z, rfl, hz, q⟩
  · obtain ⟨u, rfl, rx⟩ := vals1 r
    cases rx
    unfold canShow at hc
    simp only [Bool.and_eq_true, Bool.not_eq_true', decide_eq_true_eq] at hc
    obtain ⟨⟨⟨h1, h2⟩, h3⟩, h4⟩ := hc
    obtain ⟨as, rd⟩ := Dp.reads I p _ _ hp rfl
    refine PySem.repr_of_reads' rd h1 (fun z => by rw [h2] at z; cases z) GA (by omega) (fun b o e => e) (fun h' v tk hk => ?_) (lineN_le h4)
    exact ⟨.str p.shown, H, I.kept (t' := tk) hk, ⟨_, rfl⟩, q⟩
  · obtain ⟨u, rfl, rx⟩ := vals1 r
    obtain rfl : u = Value.none := rx
    exact PySem.P.repr_of_none ⟨.str "None", H, I.tok _, ⟨_, rfl⟩, q⟩
  · obtain ⟨u, rfl, rx⟩ := vals1 r
    obtain rfl : u = Value.bool b := rx
    exact PySem.P.repr_of_bool ⟨.str _, H, I.tok _, ⟨_, rfl⟩, q⟩
  · obtain ⟨u, rfl, rx⟩ := vals1 r
    obtain ⟨t, rfl⟩ := rx
    exact PySem.P.repr_of_int hi ⟨.str _, H, I.tok _, ⟨_, rfl⟩, q⟩
  · obtain ⟨u, rfl, rx⟩ := vals1 r
    obtain ⟨t, rfl⟩ := rx
    exact PySem.P.repr_of_str ⟨.str _, H, I.tok _, ⟨_, rfl⟩, q⟩ hz
theorem ok_reprP : OkL T E (rReprP T.K) gReprP := fun ds vs S μ H Q hvs hr h => by
  unfold gReprP at h
  split at h
  · split at h
    · rename_i p hp
      split at h
      · rename_i hc
        cases hvs with
        | cons r rr =>
          cases rr
          have hd := dp_of r hp
          have hs := hc.2
          unfold canShow at hs
          simp only [Bool.and_eq_true, Bool.not_eq_true', decide_eq_true_eq] at hs
          cases r with
          | tup _ _ => exact .inl ⟨_, p, rfl, hd, hc.2, h.ok hr _ (.str _)⟩
          | lst _ _ _ => exact .inl ⟨_, p, rfl, hd, hc.2, h.ok hr _ (.str _)⟩
          | scr _ => exact .inl ⟨_, p, rfl, hd, hc.2, h.ok hr _ (.str _)⟩
          | non =>
            cases hp
            have q := h.ok hr _ (.str _)
            simp only [PyData.shown] at q
            exact .inr (.inl ⟨rfl, q⟩)
          | bl b =>
            cases hp
            have q := h.ok hr _ (.str _)
            simp only [PyData.shown] at q
            exact .inr (.inr (.inl ⟨b, rfl, q⟩))
          | int i =>
            cases hp
            have q := h.ok hr _ (.str _)
            simp only [PyData.shown] at q
            simp only [PyData.showable, decide_eq_true_eq] at hs
            exact .inr (.inr (.inr (.inl ⟨i, rfl, hs.1.1.1, q⟩)))
          | str z =>
            cases hp
            have q := h.ok hr _ (.str _)
            simp only [PyData.shown] at q hs
            exact .inr (.inr (.inr (.inr ⟨z, rfl, lineN_le hs.2, q⟩)))
          | _ => cases hc.1
      · exact h.elim
    · exact h.elim
  · exact h.elim
end

/-! ### a def called in the except suite that may ask for a repr -/
structure FnS (T : Tb) (P : Program) (w : World) (K : PySem.W.Frag) (mg : Str → Option Value) (base : Heap) (k : Nat) (f : Addr) (fd : FuncData) (ps : List Str) (inE : Nat → Bool) (F : GF) : Prop where
  len : Ar ps.length F
  run : ∀ (A : Around) (outer : List Env) (s : Shared) (H : Hp) (args : Args) (us : List Value) (vs : List V) (Q : VK) (E : XK) (p : Addr × Obj) (c : Nat) (dd : Option Addr), A.guards = some [] → inE c = true → L2H.RoomH k A → L2H.PinOk outer H s p → p.2.cls = .ref (T.eA c) → p.2.dict = dd → (∃ vs, p.2.data = .fields vs) → Env0 P w K mg base A outer s H → BindsTo s fd args (ps.zip us) → Vals vs us → spD (T.heat p.1 c dd) F vs H Q E →
    codeAny (model P w) A (.call (.ref f) args) (CR (L2.CX P w) outer P w H s Q E) s
def DefS (T : Tb) (P : Program) (w : World) (K : PySem.W.Frag) (mg : Str → Option Value) (base : Heap) (x : Str) (lv : Nat) (inE : Nat → Bool) (F : GF) : Prop :=
  ∃ f fd ps, mg x = some (.ref f) ∧ PySem.W.keepIn K (.ref f) = true ∧ Binds K fd ps [] ∧ FnS T P w K mg base lv f fd ps inE F
section
variable {P : Program} {w : World} {K : PySem.W.Frag} {mg : Str → Option Value} {base : Heap} {T : Tb}
theorem fn_S {x qual : Str} {st : Stmt} {f : Addr} {fd : FuncData} {N ps : List Str} {k : Nat} {body : FS} {inE : Nat → Bool} (F : Fun K x qual st f fd) (S : FnScope N ps (defScope st))
    (hb : ∀ (cdv : Value) (A : Around) (outer : List Env) (s : Shared) (H : Hp) (E : XK) (p : Addr × Obj) (c : Nat) (dd : Option Addr), A.guards = some [] → inE c = true → p.2.cls = .ref (T.eA c) → p.2.dict = dd → (∃ vs, p.2.data = .fields vs) → L2H.RoomH k (A.deeper (envOfC qual (defScope st) s.heap.objs.size f cdv)) →
      PSs (cxR P w K mg base N qual (defScope st) f cdv A outer s H E p) (defBody st) (tS (T.heat p.1 c dd) E body)) : FnS T P w K mg base (k + 1) f fd ps inE (runF ps.length N.length body) := by
  refine ⟨ar_runF, fun A outer s H args us vs Q E p c dd hg hin hr hpin hc hd hfv e0 hbn r hsp => ?_⟩
  obtain ⟨oc, od, kV, doc, pm, an, cdv, ct, osl, rfl, lk, hcd⟩ := F.ex
  have hl := spD_len ar_runF hsp
  have KX : K.In s.heap := e0.mod.kin.keeps fun b o e => (e0.bs b o e).1
  have lim : s.heap.NoLimit := e0.mod.nolimit.keeps fun b o e => (e0.bs b o e).1
  have kinds : ∀ y ∈ ps.zip us, (defScope st).names.lookup y.1 = some .local ∨ ((defScope st).names.lookup y.1 = some .cell ∧ ((cellsFrom (s.heap.objs.size + 1) (defScope st).names []).lookup y.1).isSome = true) := fun ⟨n, v⟩ hy =>
    (S.par n (List.of_mem_zip hy).1).elim .inl fun q => .inr ⟨q, PySem.W.cellsFrom_some _ _ _ (.inl q)⟩
  refine codeAny_call_function hr.depth (KX _ _ lk) rfl S.co S.gen rfl (PySem.W.codeRec_of KX hcd) (hbn _ _ _ _ ?_)
  refine wpAny_newFunctionEnv_cells S.kind kinds fun env he s1 x => ?_
  subst he
  refine ⟨lim.keeps x.toInCall.keep, codeAny_func ?_⟩
  have I : Inv (cxR P w K mg base N qual (defScope st) f cdv A outer s H E p) [] (L2.start N vs) H s1 := L2H.inv_startH S hpin e0 hl r x
  obtain ⟨ds, S0, μ, hv, hrr, hf⟩ := hsp
  refine wpAny_mono ((hb cdv A outer s H E p c dd hg hin hc hd hfv (hr.deeper _)).run [] s1 (L2.start N vs) H { nx := fun _ H' => Q .non H', rt := Q } I ⟨_, S0, μ, env_start hv, hrr, fin_run hrr hf⟩) (fun fl s' hs => ?_) fun e s' hs => hs
  have fin : ∀ {σ' : L2.St} {H' : Hp} {v : V} {u : Value}, Inv (cxR P w K mg base N qual (defScope st) f cdv A outer s H E p) [] σ' H' s' → RelV v u → Q v H' → CE outer P w H s Q u s' :=
    fun {σ' H' v u} J rv q => ⟨v, H', J.os, J.bare, J.base, J.hok, rv, q⟩
  cases fl with
  | ret u => obtain ⟨v, σ', H', J, rv, q⟩ := hs; exact fin J rv q
  | next => obtain ⟨σ', H', J, q⟩ := hs; exact fin (v := V.non) (u := Value.none) J rfl q
  | brk => obtain ⟨_, _, _, q⟩ := hs; exact q.elim
  | cont => obtain ⟨_, _, _, q⟩ := hs; exact q.elim
end
section
variable {X : Cx} {T : Tb} {E : XK} {k lv : Nat}
theorem de_callS {x : Str} {F : GF} {inE : Nat → Bool} {p : Addr × Obj} {c : Nat} {dd : Option Addr} {q pos : Pos} {e : Expr} {es : List Expr} {fs : FL} (G : DefS T X.prog X.w X.K X.mg X.base x lv inE F) (GA : X.A.guards = some []) (hin : inE c = true) (hp : p ∈ X.pn) (hc : p.2.cls = .ref (T.eA c)) (hd : p.2.dict = dd) (hfv : ∃ vs, p.2.data = .fields vs) (hr : L2H.RoomH lv X.A) (hx : Passes (L2.CX X.prog X.w) X E) (hg : Gl X x)
    (ha : PA X (e :: es) (tA (T.heat p.1 c dd) E fs)) (hdb : (x == ("__debug__" : Str)) = false := by decide) (he : starEach (e :: es) X.env = (false, eval e X.env) :: starEach es X.env := by rfl) (hpl : (backTo pos (starEach es X.env)).any (·.1) = false := by rfl) :
    PE X (.Call (.Name x q) (e :: es) [] pos) (tE (T.heat p.1 c dd) E (fCallF F fs)) := by
  obtain ⟨f, fd, ps, hm, hk, hb, FO⟩ := G
  refine ⟨fun pins s σ H Q I ⟨ρ, S, μ, hee, hrr, hf⟩ => ?_⟩
  refine wpAny_Call_Name_kw (ld_glob I hg hm ?_ hdb)
  refine PySem.W.callWith_K (h₀ := X.base) I.ok.mod.kin hk (thn (ha.run pos pins s σ H (fun vs H1 => spD (T.heat p.1 c dd) F vs H1 Q E) I ⟨ρ, S, μ, hee, hrr, (Fin.bind hf).mono fun ds S1 μ1 H1 st1 r1 h1 vs hvs => ⟨ds, S1, μ1, hvs, r1, h1⟩⟩) fun us s1 ⟨vs, H1, I1, r, q1⟩ => ⟨I1.kIn, ?_⟩) he hpl
  have hl := spD_len FO.len q1
  have b := hb s1 us I1.kIn (by rw [List.append_nil, ← r.length]; exact hl)
  rw [List.append_nil] at b
  have P1 := I1.pin p (List.mem_append_left _ hp)
  have hpin : L2H.PinOk X.stack H1 s1 p := ⟨P1.1, P1.2.1, fun hm => (List.mem_cons.mp (I1.stkSub p.1 hm)).elim P1.2.2.1 P1.2.2.2.1, P1.2.2.2.2⟩
  refine wpAny_call (codeAny_mono (FO.run X.A X.stack s1 H1 ⟨us, []⟩ us vs Q E p c dd GA hin hr hpin hc hd hfv I1.env0 b r q1) fun r s' hq => ?_)
  cases r with
  | error e => exact hx pins σ H1 s1 e s' I1 hq
  | ok fl =>
    cases fl with
    | ret u => exact I1.after hq
    | next => exact hq.elim
    | brk => exact hq.elim
    | cont => exact hq.elim
end
end DL

set_option Elab.async false
set_option linter.all false
set_option maxRecDepth 100000
set_option maxHeartbeats 4000000
/-! DL35: a loop over errors that are raised and caught, one by one. -/
namespace DL
open PySem PySem.Spec PyProof.Rows L2

/-! ### the heap without one of the errors -/
section
variable {T : Tb} {μ : List Addr} {H : Hp} {a C : Addr} {d : Option Addr}
theorem apart_of {b : Addr} {u : HO} (h : H a = some (exo a C d)) (g : H b = some u) (n : u ≠ exo a C d) : b ≠ a := fun e => by
  rw [e, h] at g
  exact n (Option.some.inj g).symm
theorem gone_get {b : Addr} {u : HO} (h : H a = some (exo a C d)) (g : H b = some u) (n : u ≠ exo a C d) : delH H a b = some u := by
  rw [delH_ne (apart_of h g n)]; exact g
theorem rd_gone {b : Addr} {u : HO} (h : H a = some (exo a C d)) (n : u ≠ exo a C d) (g : Rd H b u) : Rd (delH H a) b u := by
  rcases g with g | ⟨o, g⟩
  · exact .inl (gone_get h g n)
  · exact .inr ⟨o, gone_get h g fun z => exo_frz z.symm⟩
theorem SqT.gone {b : Addr} {xs : List V} (h : H a = some (exo a C d)) (g : SqT T.K H b xs) : SqT T.K (delH H a) b xs := by
  rcases g with g | g
  · exact .inl (rd_gone h (fun z => exo_tup z.symm) g)
  · exact .inr g
theorem TupX.gone {b : Addr} {xs : List V} (h : H a = some (exo a C d)) (g : TupX T.K H b xs) : TupX T.K (delH H a) b xs := by
  rcases g with ⟨o, g, q⟩ | g
  · exact .inl ⟨o, gone_get h g (fun z => exo_frz z.symm), q⟩
  · exact .inr g
theorem FzL.gone {b : Addr} {xs : List V} (h : H a = some (exo a C d)) (g : FzL T.K μ H b xs) : FzL T.K μ (delH H a) b xs := by
  rcases g with ⟨g, q⟩ | g
  · exact .inl ⟨rd_gone h (fun z => exo_lst z.symm) g, q⟩
  · exact .inr g
theorem xd_exo {fl : List (Str × V)} : (HO.xd fl) ≠ exo a C d := fun z => by
  have z' : HO.xd fl = HO.ext _ := z
  cases z'
mutual
theorem DV.gone (h : H a = some (exo a C d)) : ∀ {v : V} {x : D}, pur x = true → DV T μ H v x → DV T μ (delH H a) v x
  | _, _, _, .non => .non
  | _, _, _, .bl b => .bl b
  | _, _, _, .int i => .int i
  | _, _, _, .str x => .str x
  | _, _, p, .tup g q => .tup (TupX.gone h g) (DVs.gone h p q)
  | _, _, p, .row g q => .row (SqT.gone h g) (DVs.gone h p q)
  | _, _, p, .lst g n q => .lst (gone_get h g fun z => exo_lst z.symm) n (DVs.gone h p q)
  | _, _, _, .scr g => .scr (FzL.gone h g)
  | _, _, p, .obj _ => by cases p
  | _, _, p, .ins hc hk g n q => .ins hc hk (gone_get h g fun z => exo_ins z.symm) n (DFs.gone h p q)
  | _, _, _, .fn i => .fn i
  | _, _, _, .cl c => .cl c
  | _, _, _, .ty n => .ty n
  | _, _, p, .xcp _ _ _ _ => by cases p
  | _, _, p, .err _ _ _ _ _ => by cases p
  | _, _, p, .xc0 _ => by cases p
  | _, _, p, .er0 _ _ => by cases p
  | _, _, p, .lam _ _ _ _ _ => by cases p
  | _, _, _, .junk v => .junk v
theorem DVs.gone (h : H a = some (exo a C d)) : ∀ {vs : List V} {xs : List D}, purL xs = true → DVs T μ H vs xs → DVs T μ (delH H a) vs xs
  | _, _, _, .nil => .nil
  | _, _, p, .cons g q => .cons (DV.gone h (Bool.and_eq_true_iff.mp p).1 g) (DVs.gone h (Bool.and_eq_true_iff.mp p).2 q)
theorem DFs.gone (h : H a = some (exo a C d)) : ∀ {vs : List (Str × V)} {xs : List (Nat × D)}, purF xs = true → DFs T μ H vs xs → DFs T μ (delH H a) vs xs
  | _, _, _, .nil => .nil
  | _, _, p, .cons z g q => .cons z (DV.gone h (Bool.and_eq_true_iff.mp p).1 g) (DFs.gone h (Bool.and_eq_true_iff.mp p).2 q)
end
theorem Rep.gone {S : Store} (hT : T.tabs = []) (r : Rep T μ H S) (h : H a = some (exo a C d)) : Rep T μ (delH H a) S := by
  refine ⟨r.len, r.nd, fun l b o h1 h2 => ?_, by rw [hT]; exact fun q hq => by cases hq⟩
  have q := r.ob l b o h1 h2
  cases o with
  | lst ds => obtain ⟨p, xs, e, q⟩ := q; exact ⟨p, xs, gone_get h e fun z => exo_lst z.symm, q.gone h p⟩
  | ins c fs => obtain ⟨p, dx, vs, e, q⟩ := q; exact ⟨p, dx, vs, gone_get h e fun z => exo_ins z.symm, q.gone h p.1⟩
/-- where an error that is a value lies -/
theorem DV.err_inv {v : V} {c : Nat} {fs : List (Nat × D)} (h : DV T μ H v (.err c fs)) : ∃ a d, v = .ref a ∧ H a = some (exo a (T.eA c) d) ∧ a ∉ μ ∧
    ((∃ dd vs, d = some dd ∧ H dd = some (.xd vs) ∧ dd ∉ μ ∧ DFs T μ H vs fs) ∨ (d = none ∧ fs = [])) := by
  cases h with
  | err g m hd n q => exact ⟨_, _, rfl, g, m, .inl ⟨_, _, rfl, hd, n, q⟩⟩
  | er0 g m => exact ⟨_, _, rfl, g, m, .inr ⟨rfl, rfl⟩⟩
/-- another error stands -/
theorem DV.err_gone {v : V} {c : Nat} {fs : List (Nat × D)} (h : H a = some (exo a C d)) (ap : Apart H a C) (hc : T.eA c ≠ C) (hp : purF fs = true) (g : DV T μ H v (.err c fs)) : DV T μ (delH H a) v (.err c fs) := by
  cases g with
  | err g m hd n q => exact .err (by rw [delH_ne (ap _ _ _ hc g)]; exact g) m (gone_get h hd xd_exo) n (q.gone h hp)
  | er0 g m => exact .er0 (by rw [delH_ne (ap _ _ _ hc g)]; exact g) m
/-- the raised one, caught -/
theorem DV.err_hot {fs : List (Nat × D)} {c : Nat} (cold : Cold T) (h : H a = some (exo a (T.eA c) d)) (hp : purF fs = true)
    (q : (∃ dd vs, d = some dd ∧ H dd = some (.xd vs) ∧ dd ∉ μ ∧ DFs T μ H vs fs) ∨ (d = none ∧ fs = [])) : DV (T.heat a c d) μ (delH H a) (.ref a) (.xcp c fs) := by
  rcases q with ⟨dd, vs, rfl, hd, n, q⟩ | ⟨rfl, rfl⟩
  · exact .xcp (if_pos rfl) (gone_get h hd xd_exo) n ((q.gone h hp).hotter cold)
  · exact .xc0 (if_pos rfl)
end
/-! ### the loop -/
def fSu (i j : Nat) (Rf Sm : GF) : FS := sIf (fNotT (asB (fCallF Sm (fCons (fCallF Rf (fCons (fVar i) fNil)) (fCons (fCallF Rf (fCons (fVar j) fNil)) fNil))))) (sRet (fC (.bl false))) sNil
def tSuE (T : Tb) (inE : Nat → Bool) (n i j : Nat) (Rf Sm : GF) (a : Addr) (cls : Value) (d : Option Addr) : TS := fun D σ H => σ.length = n → ∃ c, inE c = true ∧ cls = .ref (T.eA c) ∧ tS (T.heat a c d) NX (fSu i j Rf Sm) D σ H
/-- the loop's body: a test, then raise and catch -/
def tTurnE (X : Cx) (T : Tb) (E : XK) (c0 : Value) (inE : Nat → Bool) (n i j : Nat) (Rf Sm : GF) (fI : FS) : TS :=
  tSeq (tS T E fI) (fun D σ H => tRaiseV X (tVar j) σ H fun a cls d H' => wAsA X.K c0 i (tSuE T inE n i j Rf Sm) D a cls d σ H')
/-- what is known of the errors -/
structure ErrsOk (X : Cx) (T : Tb) (c0 : Value) (inE : Nat → Bool) (n j : Nat) (Rf Sm : GF) (fI : FS) (S : Store) (cs : List (Nat × List (Nat × D))) : Prop where
  tabs : T.tabs = []
  cold : Cold T
  inj : ∀ c c', inE c = true → inE c' = true → T.eA c = T.eA c' → c = c'
  raises : ∀ c, inE c = true → Raises X (.ref (T.eA c))
  exm : ∀ c, inE c = true → PySem.W.exmOne X.K (.ref (T.eA c)) c0 = some true
  nodup : (cs.map Prod.fst).Nodup
  each : ∀ p ∈ cs, inE p.1 = true ∧ purF p.2 = true ∧ fI ((List.replicate n none).set j (some (.err p.1 p.2))) S = .nx ((List.replicate n none).set j (some (.err p.1 p.2))) S ∧ ∃ r, Rf [.xcp p.1 p.2] S = .ok r S ∧ Sm [r, r] S = .ok (.bl true) S
theorem fSu_ok {i j n : Nat} {Rf Sm : GF} {S : Store} {x r : D} (hi : i < n) (hj : j < n) (hij : i ≠ j) (h1 : Rf [x] S = .ok r S) (h2 : Sm [r, r] S = .ok (.bl true) S) :
    fSu i j Rf Sm (((List.replicate n none).set j (some x)).set i (some x)) S = .nx (((List.replicate n none).set j (some x)).set i (some x)) S := by
  have e1 : (((List.replicate n (none : Option D)).set j (some x)).set i (some x))[i]? = some (some x) := List.getElem?_set_self (by simpa using hi)
  have e2 : (((List.replicate n (none : Option D)).set j (some x)).set i (some x))[j]? = some (some x) := by
    rw [List.getElem?_set_ne hij, List.getElem?_set_self (by simpa using hj)]
  have v1 : fCallF Rf (fCons (fVar i) fNil) (((List.replicate n none).set j (some x)).set i (some x)) S = .ok r S := by
    unfold fCallF fCons fVar fNil
    rw [e1]
    exact h1
  have v2 : fCallF Rf (fCons (fVar j) fNil) (((List.replicate n none).set j (some x)).set i (some x)) S = .ok r S := by
    unfold fCallF fCons fVar fNil
    rw [e2]
    exact h1
  have v3 : fCallF Sm (fCons (fCallF Rf (fCons (fVar i) fNil)) (fCons (fCallF Rf (fCons (fVar j) fNil)) fNil)) (((List.replicate n none).set j (some x)).set i (some x)) S = .ok (.bl true) S := by
    show ((fCons (fCallF Rf (fCons (fVar i) fNil)) (fCons (fCallF Rf (fCons (fVar j) fNil)) fNil)) _ S).bind Sm = _
    unfold fCons at v1 v2 ⊢
    rw [v1, Res.bind_ok, v2]
    exact h2
  unfold fSu sIf fNotT asB
  rw [v3]
  rfl
section
variable {X : Cx} {T : Tb} {E : XK} {c0 : Value} {inE : Nat → Bool} {n i j : Nat} {Rf Sm : GF} {fI : FS} {S : Store} {cs : List (Nat × List (Nat × D))} {L : Addr} {xs : List V}
/-- between the turns -/
def PvE (T : Tb) (n : Nat) (S : Store) (cs : List (Nat × List (Nat × D))) (L : Addr) (xs : List V) (k : Nat) (σ : L2.St) (H : Hp) : Prop :=
  σ.length = n ∧ ∃ μ, Rep T μ H S ∧ H L = some (.lst xs) ∧ L ∉ μ ∧ ∀ (m : Nat) (p : Nat × List (Nat × D)), k ≤ m → cs[m]? = some p → ∃ v, xs[m]? = some v ∧ DV T μ H v (.err p.1 p.2)
theorem turnE (O : ErrsOk X T c0 inE n j Rf Sm fI S cs) (hi : i < n) (hj : j < n) (hij : i ≠ j) (hl : xs.length = cs.length) {D : Ends} {k : Nat} {x : V} {σ : L2.St} {H : Hp} (hx : xs[k]? = some x) (hP : PvE T n S cs L xs k σ H) :
    tTurnE X T E c0 inE n i j Rf Sm fI { D with nx := PvE T n S cs L xs (k + 1) } (σ.set j (some x)) H := by
  obtain ⟨hn, μ, rp, hL, nL, items⟩ := hP
  have hk : k < cs.length := by rw [← hl]; exact (List.getElem?_eq_some_iff.mp hx).1
  obtain ⟨v, ev, dv⟩ := items k cs[k] (Nat.le_refl _) (List.getElem?_eq_getElem hk)
  rw [hx] at ev
  cases ev
  obtain ⟨e1, e2, e3, r, e4, e5⟩ := O.each cs[k] (List.getElem_mem hk)
  generalize hcf : cs[k] = cf at *
  obtain ⟨c, fs⟩ := cf
  have base : EnvR T μ H σ (List.replicate n none) := by
    refine ⟨by rw [List.length_replicate]; exact hn, fun m dd hm => ?_⟩
    rw [List.getElem?_replicate] at hm
    split at hm <;> cases hm
  show tS T E fI _ (σ.set j (some x)) H
  refine ⟨_, S, μ, base.set dv, rp, ?_⟩
  rw [e3]
  intro σ' μ' H' st rp' env'
  obtain ⟨v', ev', dv'⟩ := env'.at_ j (.err c fs) (List.getElem?_set_self (by simpa using hj))
  obtain ⟨a, d, rfl, ha, na, hd⟩ := dv'.err_inv
  refine ⟨_, ev', a, T.eA c, d, rfl, ha, O.raises c e1, fun ap => ⟨O.exm c e1, delH_same, fun hlen => ⟨c, e1, rfl, ((List.replicate n none).set j (some (.xcp c fs))).set i (some (.xcp c fs)), S, μ', ?_, (rp'.gone O.tabs ha).hotter O.cold, ?_⟩⟩⟩
  · have hot := DV.err_hot (μ := μ') (fs := fs) O.cold ha e2 hd
    have len' : σ'.length = n := by rw [env'.len, List.length_set, List.length_replicate]
    refine ⟨by simp [len'], fun m dd hm => ?_⟩
    by_cases h1 : i = m
    · subst h1
      rw [List.getElem?_set_self (by simpa using hi)] at hm
      cases hm
      exact ⟨.ref a, List.getElem?_set_self (by rw [len']; exact hi), hot⟩
    · rw [List.getElem?_set_ne h1] at hm
      by_cases h2 : j = m
      · subst h2
        rw [List.getElem?_set_self (by simpa using hj)] at hm
        cases hm
        exact ⟨.ref a, by rw [List.getElem?_set_ne h1]; exact ev', hot⟩
      · rw [List.getElem?_set_ne h2, List.getElem?_replicate] at hm
        split at hm <;> cases hm
  · show FinS (T.heat a c d) NX _ μ' (delH H' a) (fSu i j Rf Sm (((List.replicate n none).set j (some (.xcp c fs))).set i (some (.xcp c fs))) S)
    rw [fSu_ok hi hj hij e4 e5]
    intro σ3 μ3 H3 st3 rp3 env3
    have hL' := st.keep _ _ hL nL fun ps z => nomatch z
    have nL' := st.out hL nL
    have hL2 : delH H' a L = some (.lst xs) := gone_get ha hL' fun z => exo_lst z.symm
    refine ⟨by rw [List.length_set, env3.len]; simp, μ3, rp3.cooler, (st3.keep _ _ hL2 nL' (fun ps z => nomatch z)), st3.out hL2 nL', fun m p hm hp => ?_⟩
    obtain ⟨v, e6, dv2⟩ := items m p (by omega) hp
    refine ⟨v, e6, ?_⟩
    have dv3 := dv2.step st rp.r0
    obtain ⟨g1, g2, _⟩ := O.each p (List.mem_of_getElem? hp)
    have hne : T.eA p.1 ≠ T.eA c := fun z => by
      have q := O.inj _ _ g1 e1 z
      have hm2 : m < cs.length := (List.getElem?_eq_some_iff.mp hp).1
      have nd := O.nodup
      have i1 : (cs.map Prod.fst)[m]? = some p.1 := by rw [List.getElem?_map, hp]; rfl
      have i2 : (cs.map Prod.fst)[k]? = some c := by rw [List.getElem?_map, List.getElem?_eq_getElem hk, hcf]; rfl
      have hmk : m = k := (List.getElem?_inj (by simpa using hm2) nd).mp (by rw [i1, i2, q])
      omega
    exact (dv3.err_gone ha ap hne g2).step st3 (rp'.gone O.tabs ha).r0
end
end DL

set_option Elab.async false
set_option linter.all false
set_option maxRecDepth 100000
set_option maxHeartbeats 4000000
/-! DL36: the loop over errors as a statement; the end of a law without lambdas that raises errors of its own. -/
namespace DL
open PySem PySem.Spec PyProof.Rows L2
section
variable {X : Cx} {T : Tb} {E : XK} {c0 : Value} {inE : Nat → Bool} {n i j : Nat} {Rf Sm : GF} {fI : FS} {S : Store} {cs : List (Nat × List (Nat × D))}
theorem loop_in (hK : T.K = X.K) (O : ErrsOk X T c0 inE n j Rf Sm fI S cs) (hi : i < n) (hj : j < n) (hij : i ≠ j) {fl : FE} {D : Ends} {σ : L2.St} {H : Hp} {ρ : Ev} {μ : List Addr} (hn : σ.length = n) (env : EnvR T μ H σ ρ) (rp : Rep T μ H S)
    (hl : fl ρ S = .ok (.lst (cs.map fun p => .err p.1 p.2)) S) (hnx : ∀ L xs σ' H', PvE T n S cs L xs cs.length σ' H' → D.nx σ' H') :
    tFor (iList X.K (tE T E fl)) (gName j) (tTurnE X T E c0 inE n i j Rf Sm fI) D σ H := by
  refine ⟨ρ, S, μ, env, rp, ?_⟩
  rw [hl]
  intro μ' H' st rp' v dv
  cases dv with
  | lst hL nL q =>
    rename_i L xs
    have len := q.length
    rw [List.length_map] at len
    refine ⟨L, rfl, ⟨xs, .inl (.inl hL)⟩, ?_⟩
    refine for_list (fun k σ H => PvE T n S cs L xs k σ H) ?_ (fun k σ2 H2 _ ⟨_, μ2, _, h2, _⟩ => .inl (.inl h2)) (fun k x σ2 H2 hx hP => ?_) (fun σ2 H2 hP => ?_)
    · refine ⟨hn, μ', rp', hL, nL, fun m p _ hp => ?_⟩
      have e : (cs.map fun p => DL.D.err p.1 p.2)[m]? = some (.err p.1 p.2) := by rw [List.getElem?_map, hp]; rfl
      obtain ⟨v, h1, h2⟩ := q.get e
      exact ⟨v, h1, h2⟩
    · exact turnE (D := { D with nx := PvE T n S cs L xs (k + 1), ct := PvE T n S cs L xs (k + 1), bk := D.nx }) O hi hj hij len hx hP
    · rw [len] at hP
      exact hnx L xs σ2 H2 hP
/-- the statement: for y in es: if ..; try: raise y / except x as n: if not same(ref(n), ref(y)): return False -/
theorem ps_errloop {y nn x : Str} {it : Expr} {ifS : Stmt} {b₀ : Stmt} {suite : List Stmt} {p1 p2 p3 np po po' pos : Pos} {fl : FE} (hK : T.K = X.K) (hp : PassesOwn (model X.prog X.w) X.A X.env X.xe) (hcalm : X.calm = true) (hex : X.ex = []) (h0 : Top0 X.H_0)
    (hs : X.stack = X.env :: X.outer) (hf : X.env.frame = some X.env.locals) (hN : X.N.Nodup) (hi : X.N[i]? = some nn) (hln : X.env.kindOf nn = some .local) (hc : Names X x c0)
    (hj : X.N[j]? = some y) (hly : X.env.scope.names.lookup y = some .local) (hd : (y == ("__debug__" : Str)) = false) (hcd : (y == ("__classdict__" : Str)) = false)
    (hit : PE X it (tE T E fl)) (hif : PS X ifS (tS T E fI))
    (hsu : ∀ (a : Addr) (oe : Obj) (cls : Value) (d : Option Addr) (pn : List (Addr × Obj)), Zc cls d oe → (∃ vs, oe.data = .fields vs) → PSs (X.suite a ((a, oe) :: pn)) (b₀ :: suite) (tSuE T inE n i j Rf Sm a cls d))
    (hst : ∀ x, foldedSetIterable it X.env x = Pure.pure x := by intro _; rfl) :
    PS X (.For (.Name y p1) it [ifS, .Try [.Raise (some (.Name y p2)) none p3] [.ExceptHandler (some (.Name x np)) (some nn) (b₀ :: suite) po'] [] [] po] [] pos) (tFor (iList X.K (tE T E fl)) (gName j) (tTurnE X T E c0 inE n i j Rf Sm fI)) := by
  refine ps_for hp hcalm (pi_list hit) (pg_name hN hj (.inl hly) (.inr hly)) (pss_cons hif (pss_one ?_)) hst
  refine ps_tryA (tb := fun W D σ H => tRaiseV X (tVar j) σ H fun a cls d H' => W a cls d σ H') hs hf hN hi hln hc (fun W pn xe tk => pss_one ?_) hsu
  exact ps_raiseA (X := X.tr pn xe) (W := W) (t := tRaiseV X (tVar j)) hcalm tk (pmk_retA (X := X.tr pn xe) hex h0 (pe_var (X := X.tr pn xe) hj (.inl hly) hd hcd))
end
/-! ### the end -/
/-- what is tracked at the start: the script where it's no part of the written text -/
def hp1 (K : PySem.W.Frag) (a : Addr) (vs : List Value) (ns : List Int) : Hp := fun b => if b = a ∧ K.lookup a = none then some (.frz (scrO vs) (.lst (ns.map V.int))) else none
section
variable {Pg : Program} {w : World} {K : PySem.W.Frag} {mg mb : Str → Option Value} {fa a : Addr} {s : Shared} {vs : List Value} {ns : List Int}
theorem hp1_cases (b : Addr) : hp1 K a vs ns b = none ∨ (b = a ∧ K.lookup a = none ∧ hp1 K a vs ns b = some (.frz (scrO vs) (.lst (ns.map V.int)))) := by
  unfold hp1
  by_cases h2 : b = a ∧ K.lookup a = none
  · exact .inr ⟨h2.1, h2.2, by rw [if_pos h2]⟩
  · exact .inl (by rw [if_neg h2])
theorem hp1_top : Top0 (hp1 K a vs ns) := fun b u h => by
  rcases hp1_cases (K := K) (a := a) (vs := vs) (ns := ns) b with z | ⟨_, _, z⟩
  · rw [z] at h; cases h
  · rw [z] at h; cases h; exact .inr ⟨_, _, rfl⟩
theorem end_P (KX : K.In s.heap) (g1 : s.heap.Ns mainGlobals mg) (g2 : s.heap.Ns builtinsNs mb) (g3 : ∀ x : Str, x ≠ "__name__" → mb x = bootBuiltins x) (g4 : s.heap.NoLimit) (g5 : s.gens = #[])
    (ha : s.heap.get? a = some (scrO vs)) (hi : IntsAre vs ns) (hl : ns.length ≤ sizeLine)
    (R : ∀ (base : Heap), K.In base → base.Ns mainGlobals mg → ∀ H : Hp, Top0 H → Env0 Pg w K mg base callerA [] s H → SqL K H a (ns.map V.int) →
      codeAny (model Pg w) callerA (.call (.ref fa) ⟨[.ref a], []⟩) (CR (L2.CX Pg w) [] Pg w H s (fun v _ => v = .bl true) NX) s) :
    codeAny (model Pg w) callerA (.call (.ref fa) ⟨[.ref a], []⟩) (fun r s' => r = .ok (.ret (.bool true)) ∧ OldK s.heap s'.heap ∧ s'.os = s.os ∧ AllBare s'.gens) s := by
  have rv : Vals (ns.map V.int) vs := vals_ints hi
  have zl : (ns.map V.int).length ≤ sizeLine := by rw [List.length_map]; exact hl
  have top := hp1_top (K := K) (a := a) (vs := vs) (ns := ns)
  generalize hH : hp1 K a vs ns = H
  have cs := hp1_cases (K := K) (a := a) (vs := vs) (ns := ns)
  rw [hH] at cs top
  have fr : ∀ {b : Addr} {o : Obj}, s.heap.get? b = some o → (∀ xs k, o.data ≠ .seq xs k) → H b = none := fun {b o} e n2 => by
    rcases cs b with h | ⟨rfl, _⟩
    · exact h
    · rw [ha] at e
      cases e
      exact (n2 _ _ rfl).elim
  have inB := fun {b : Addr} {o : Obj} (e : s.heap.get? b = some o) (n : H b = none) => hidT_get (H := H) e n
  have inK : K.In (hidT s.heap H) := fun b o e => by
    have e' := KX b o e
    rcases cs b with h | ⟨rfl, h, _⟩
    · exact inB e' h
    · rw [h] at e; cases e
  have nsB : ∀ {b : Addr} {m : Str → Option Value}, s.heap.Ns b m → (hidT s.heap H).Ns b m := fun ⟨o, es, ep, e, d, r⟩ =>
    ⟨o, es, ep, inB e (fr e fun xs k z => by rw [d] at z; cases z), d, r⟩
  have md : L2.Mod K mg (hidT s.heap H) := by
    obtain ⟨mc, l1, l2⟩ := g4
    exact { kin := inK, glob := nsB g1, blt := ⟨mb, nsB g2, g3⟩, nolimit := ⟨mc, nsB l1, l2⟩ }
  have ok : HOk Pg w H s.heap := fun b u e => by
    rcases cs b with h | ⟨rfl, _, h⟩
    · rw [h] at e; cases e
    · rw [h] at e; cases e; exact ⟨ha, zl, vs, _, rv, ha⟩
  have e0 : Env0 Pg w K mg (hidT s.heap H) callerA [] s H :=
    { frames := rfl, mod := md, bs := fun _ _ e => of_hidT e, bsz := Nat.le_of_eq (hidT_size _ _), funs := trivial, frf := fun b hb => (nomatch hb), hok := ok, bare := .of_eq g5 }
  have sq : SqL K H a (ns.map V.int) := by
    cases hk : K.lookup a with
    | none =>
      refine .inl (.inr ⟨scrO vs, ?_⟩)
      rw [← hH]
      unfold hp1
      rw [if_pos ⟨rfl, hk⟩]
    | some o =>
      have z := KX a o hk
      rw [ha] at z
      cases z
      exact .inr ⟨_, vs.toArray, _, hk, rfl, rfl, rfl, by rw [List.size_toArray, hi.length]; exact hl, by simpa using rv⟩
  refine codeAny_mono (R _ inK (nsB g1) H top e0 sq) fun r s' h => ?_
  cases r with
  | error e =>
    obtain ⟨_, _, _, _, _, _, _, _, _, _, _, _, z⟩ := h
    exact z.elim
  | ok fl =>
    cases fl with
    | next => exact h.elim
    | brk => exact h.elim
    | cont => exact h.elim
    | ret u =>
      obtain ⟨v, H', os, br, un, ok', rr, q⟩ := h
      have q : v = .bl true := q
      subst q
      obtain rfl : u = Value.bool true := rr
      have keep : ∀ b o, s.heap.get? b = some o → s'.heap.get? b = some o := fun b o e => by
        rcases cs b with h | ⟨rfl, _, h⟩
        · exact un.keep b o e h (fun z => by cases z) (fun z => by cases z)
        · have z := (ok' _ _ (un.frzs _ _ _ h)).1
          rw [ha] at e
          cases e
          exact z
      exact ⟨rfl, { old := fun b o e => .inl (keep b o e), there := fun b o e => ⟨o, keep b o e⟩ }, os, br⟩
end
end DL

set_option Elab.async false
set_option linter.all false
set_option maxRecDepth 100000
set_option maxHeartbeats 4000000
/-! DL37: the walk's end for a law without lambdas whose statements are told one by one. -/
namespace DL
open PySem PySem.Spec PyProof.Rows L2
/-- the law's def answers true -/
def TopP (l : PySem.W.OpenLaw) (w : World) (K : PySem.W.Frag) (n : Nat) (mg : Str → Option Value) (fa : Addr) : Prop :=
  ∀ (base : Heap), K.In base → base.Ns mainGlobals mg → ∀ (s : Shared) (a : Addr) (ns : List Int) (H : Hp), ns.length ≤ n → Top0 H → Env0 l.prog w K mg base callerA [] s H → SqL K H a (ns.map V.int) →
    codeAny (model l.prog w) callerA (.call (.ref fa) ⟨[.ref a], []⟩) (CR (L2.CX l.prog w) [] l.prog w H s (fun v _ => v = .bl true) NX) s
theorem walk_P {l : PySem.W.OpenLaw} {n : Nat} {q : Program} {loose : List Str} {XP : (Str → Option Value) → Heap → Prop} {YP : World → Heap → Prop} {d : DefRec} {K : Params → PySem.W.Frag}
    (hn : l.most = some n) (hn2 : n ≤ sizeLine) (hdf : d.params.defaults = []) (hY : ∀ (w : World) (h : Heap), YP w h → (K w.params).In h)
    (F : ∀ (w : World) (mg : Str → Option Value) (fa : Addr) (h : Heap), (K w.params).In h → h.Ns mainGlobals mg → mg d.name = some (.ref fa) → TopP l w (K w.params) n mg fa) :
    PySem.W.WalkO q loose XP YP l.row.toRowW d [] (fun f vs => PySem.call f vs) := by
  refine Att.attach_callB hn hdf fun w s₀ s₁ mg mb fa o pm cd doc a vs ns G Y ho hd hcd hmg hobj hints hlen hbits hg => ?_
  have KX := hY w _ Y
  have top := F w mg fa _ KX G.T.g hmg
  exact end_P KX G.T.g G.T.b G.T.builtins G.T.nolimit hg hobj hints (Nat.le_trans hlen hn2) fun base b1 b2 H h0 e0 hS => top base b1 b2 s₁ a ns H hlen h0 e0 hS
section
variable {T : Tb} {E : XK}
/-- a statement that goes on to the next -/
theorem tS_go {f : FS} {ρ ρ' : Ev} {S S' : Store} {D : Ends} {μ : List Addr} {σ : L2.St} {H : Hp} (h : f ρ S = .nx ρ' S') (env : EnvR T μ H σ ρ) (rp : Rep T μ H S)
    (k : ∀ (σ' : L2.St) (μ' : List Addr) (H' : Hp), Step μ H μ' H' → Rep T μ' H' S' → EnvR T μ' H' σ' ρ' → D.nx σ' H') : tS T E f D σ H := by
  refine ⟨ρ, S, μ, env, rp, ?_⟩
  rw [h]
  exact fun σ' μ' H' st rp' env' => k σ' μ' H' st rp' env'
/-- return of a constant -/
theorem tS_true {D : Ends} {μ : List Addr} {σ : L2.St} {H : Hp} {S : Store} {n : Nat} (hn : σ.length = n) (rp : Rep T μ H S) (k : ∀ H', D.rt (.bl true) H') : tS T E (sRet (fC (.bl true))) D σ H := by
  refine ⟨List.replicate n none, S, μ, ⟨by rw [List.length_replicate]; exact hn, fun m dd hm => ?_⟩, rp, ?_⟩
  · rw [List.getElem?_replicate] at hm
    split at hm <;> cases hm
  · intro v μ' H' st rp' hv
    cases hv
    exact k H'
end
end DL

set_option Elab.async false
set_option linter.all false
set_option maxRecDepth 100000
set_option maxHeartbeats 4000000
namespace KA
open PySem PySem.Spec PyProof.Rows L2 DL

abbrev prg : Program := PySem.Challenge.pw_waterhours_k00_errors_tell_their_fields
abbrev top (i : Nat) : Stmt := prg.main.body.getD i (.Pass ⟨0, 0, 0, 0⟩)
theorem bo_len : bootBuiltins "len" = some (.builtin "len") := by first | rfl | kernel_rfl
theorem bo_abs : bootBuiltins "abs" = some (.builtin "abs") := by first | rfl | kernel_rfl
theorem bo_isinstance : bootBuiltins "isinstance" = some (.builtin "isinstance") := by first | rfl | kernel_rfl
theorem bo_sum : bootBuiltins "sum" = some (.builtin "sum") := by first | rfl | kernel_rfl
theorem bo_max : bootBuiltins "max" = some (.builtin "max") := by first | rfl | kernel_rfl
theorem bo_min : bootBuiltins "min" = some (.builtin "min") := by first | rfl | kernel_rfl
theorem bo_all : bootBuiltins "all" = some (.builtin "all") := by first | rfl | kernel_rfl
theorem bo_int : bootBuiltins "int" = some (.type "int") := by first | rfl | kernel_rfl
theorem bo_tuple : bootBuiltins "tuple" = some (.type "tuple") := by first | rfl | kernel_rfl
theorem bo_list : bootBuiltins "list" = some (.type "list") := by first | rfl | kernel_rfl
theorem bo_bool : bootBuiltins "bool" = some (.type "bool") := by first | rfl | kernel_rfl
theorem bo_str : bootBuiltins "str" = some (.type "str") := by first | rfl | kernel_rfl
theorem bo_ValueError : bootBuiltins "ValueError" = some (.type "ValueError") := by first | rfl | kernel_rfl
theorem bo_repr : bootBuiltins "repr" = some (.builtin "repr") := by first | rfl | kernel_rfl
def nmL : List Str := ["part", "place", "value", "name", "line"]
def nmF (i : Nat) : Str := nmL.getD i ""
theorem nm_inj0 : ∀ i, i < 5 → ∀ j, j < 5 → nmF i = nmF j → i = j := by decide +kernel
theorem nm_inj : ∀ i j, i < 5 → j < 5 → nmF i = nmF j → i = j := fun i j hi hj => nm_inj0 i hi j hj
def flF : Nat → List Nat := fun c => match c with  | _ => []
abbrev tb (K : PySem.W.Frag) (cA fA : Nat → Addr) : Tb := { K := K, cA := cA, fA := fA, eA := fA, nm := nmF, nN := 5, nC := 0, fl := flF, inj := nm_inj, hot := fun _ => none, lm := none, tabs := [] }
def GcD (T : Tb) (mg : Str → Option Value) (x : Str) (d : D) : Prop := ∃ v u, mg x = some u ∧ RelV v u ∧ ∀ μ H, DV T μ H v d
theorem de_gcx {X : Cx} {T : Tb} {E : XK} {x : Str} {d : D} {pos : Pos} (hg : Gl X x) (h : GcD T X.mg x d) (hd : (x == ("__debug__" : Str)) = false := by decide) : PE X (.Name x pos) (tE T E (fC d)) := by
  obtain ⟨v, u, h1, h2, h3⟩ := h
  exact de_gc hg h1 h2 h3 hd
def inE (c : Nat) : Bool := decide (c < 9)
/-- what the text tells, the defs apart -/
structure Mx (K : PySem.W.Frag) (mg : Str → Option Value) (T : Tb) : Prop where
  bn : BN mg
  e_BadPart : mg "BadPart" = some (.ref (T.fA 0))
  e_BadNumber : mg "BadNumber" = some (.ref (T.fA 1))
  e_Unknown : mg "Unknown" = some (.ref (T.fA 2))
  e_BadCourse : mg "BadCourse" = some (.ref (T.fA 3))
  e_BadChange : mg "BadChange" = some (.ref (T.fA 4))
  e_BadText : mg "BadText" = some (.ref (T.fA 5))
  e_BadLine : mg "BadLine" = some (.ref (T.fA 6))
  e_BadClaim : mg "BadClaim" = some (.ref (T.fA 7))
  e_NothingDone : mg "NothingDone" = some (.ref (T.fA 8))
  e_ClockError : mg "ClockError" = some (.ref (T.fA 9))
  nVE : mg "ValueError" = none
  nRp : mg "repr" = none
  xC : ∀ c, inE c = true → PySem.W.exmOne K (.ref (T.fA c)) (.ref (T.fA 9)) = some true
  xE : ∀ c, c < 9 → ErC K (T.fA c)
  xK : ∀ c, c < 9 → ∀ k, k < 9 → PySem.W.kitOne K (.ref (T.fA c)) (.ref (T.fA k)) = some (c == k)
  xT : ∀ c, c < 9 → PySem.W.typeIn K (.ref (T.fA c)) = some (.type "type")
  xB : ∀ c, c < 9 → PySem.W.kitOne K (.ref (T.fA c)) (.ref (T.fA 9)) = some true
  xV : ∀ c, c < 9 → PySem.W.kitOne K (.ref (T.fA c)) (.type "ValueError") = some true
  xF : ∀ c, c < 9 → ∀ n, n ∈ nmL → PySem.W.findIn K (.ref (T.fA c)) n = some none
def ansE (c k : Nat) : Option Bool := if c < 9 ∧ k < 9 then some (c == k) else if c < 9 ∧ k = 9 then some true else none
def basE (c : Nat) (n : String) : Option Bool := if c < 9 ∧ n = "ValueError" then some true else none
theorem cold_tb {K : PySem.W.Frag} {cA fA : Nat → Addr} : Cold (tb K cA fA) := ⟨fun _ => rfl, rfl⟩
theorem hotX_tb {X : Cx} {K : PySem.W.Frag} {cA fA : Nat → Addr} : HotX X (tb K cA fA) := fun a c dd h => by cases h
theorem isE_of {K : PySem.W.Frag} {mg : Str → Option Value} {cA fA : Nat → Addr} (m : Mx K mg (tb K cA fA)) (h : Addr → Option (Nat × Option Addr)) (l : Option (Addr × List (Option V) × Addr × Str)) : IsA ((tb K cA fA).ext h l) ((tb K cA fA).ext h l).K ansE basE := by
  refine ⟨fun c k b h => ?_, fun c n b h => ?_⟩
  · unfold ansE at h
    split at h
    · rename_i hc; cases h; exact ⟨m.xE c hc.1, m.xK c hc.1 k hc.2⟩
    · split at h
      · rename_i hc; cases h; obtain ⟨h1, rfl⟩ := hc; exact ⟨m.xE c h1, m.xB c h1⟩
      · cases h
  · unfold basE at h
    split at h
    · rename_i hc; cases h; obtain ⟨h1, rfl⟩ := hc; exact ⟨m.xE c h1, m.xV c h1⟩
    · cases h
theorem isC_of {K : PySem.W.Frag} {mg : Str → Option Value} {cA fA : Nat → Addr} (m : Mx K mg (tb K cA fA)) : IsA (tb K cA fA) (tb K cA fA).K ansE basE := isE_of m (fun _ => none) none
theorem ecX_of {K : PySem.W.Frag} {mg : Str → Option Value} {cA fA : Nat → Addr} (m : Mx K mg (tb K cA fA)) (n : Str) (hn : n ∈ nmL) : ∀ c, c < 9 → ErC K (fA c) ∧ PySem.W.findIn K (.ref (fA c)) n = some none := fun c hc => ⟨m.xE c hc, m.xF c hc n hn⟩
theorem raises_of {X : Cx} {mg : Str → Option Value} {cA fA : Nat → Addr} (m : Mx X.K mg (tb X.K cA fA)) (c : Nat) (hc : c < 9) : Raises X (.ref (fA c)) := raises_own (m.xE c hc).sub (m.xT c hc)
theorem roomH_200 {k : Nat} {A : Around} (r : L2H.RoomH k A) : A.units + 200 < cLine := by have := r.un; omega
theorem room_200 {k : Nat} {A : Around} (r : Room k A) : A.units + 200 < cLine := by have := r.un; omega
section
variable {P : Program} {w : World} {K : PySem.W.Frag} {mg : Str → Option Value} {base : Heap} {cA fA : Nat → Addr}
def b__law_taken : FS := (sCons (sIf (asB (f2 gGt (f2 gIx (fVar 0) (fC (.int 3))) (fC (.int 0)))) (sCons (sAsg (f2 gMod (fCall gInt (fCons (f2 gIx (fVar 0) (fC (.int 3))) fNil)) (fVar 1)) (pName 2))
    (sCons (sAsg (f2 gDiv (f2 gIx (fVar 0) (fC (.int 3))) (fVar 1)) (pSub (fVar 0) (fC (.int 3))))
    (sRet (fVar 2)))) sNil)
    (sCons (sAsg (f2 gAdd (f2 gIx (fVar 0) (fC (.int 1))) (fC (.int 1))) (pSub (fVar 0) (fC (.int 1))))
    (sCons (sIf (asB (f2 gGt (f2 gIx (fVar 0) (fC (.int 1))) (fCall gLen (fCons (f2 gIx (fVar 0) (fC (.int 0))) fNil)))) (sCons (sAsg (f2 gMod (fCall gInt (fCons (f2 gAdd (f2 gMul (f2 gIx (fVar 0) (fC (.int 2))) (fC (.int 48271))) (fC (.int 11))) fNil)) (fC (.int 2147483647))) (pSub (fVar 0) (fC (.int 2))))
    (sRet (f2 gMod (fCall gInt (fCons (f2 gDiv (f2 gIx (fVar 0) (fC (.int 2))) (fC (.int 7))) fNil)) (fVar 1)))) sNil)
    (sCons (sAsg (f2 gIx (f2 gIx (fVar 0) (fC (.int 0))) (f2 gSub (f2 gIx (fVar 0) (fC (.int 1))) (fC (.int 1)))) (pName 3))
    (sCons (sAsg (f2 gMod (fCall gInt (fCons (f2 gAdd (f2 gAdd (f2 gMul (f2 gIx (fVar 0) (fC (.int 2))) (fC (.int 48271))) (fVar 3)) (fC (.int 11))) fNil)) (fC (.int 2147483647))) (pSub (fVar 0) (fC (.int 2))))
    (sCons (sIf (asB (f2 gGe (fVar 3) (f2 gPow (fC (.int 10)) (fC (.int 18))))) (sCons (sAsg (f2 gDiv (fVar 3) (fVar 1)) (pSub (fVar 0) (fC (.int 3))))
    (sRet (f2 gMod (fCall gInt (fCons (fVar 3) fNil)) (fVar 1)))) sNil)
    (sRet (f2 gMod (fCall gInt (fCons (f2 gAdd (f2 gMul (f2 gMod (fCall gInt (fCons (fVar 3) fNil)) (fC (.int 1000003))) (fC (.int 31))) (f2 gDiv (f2 gIx (fVar 0) (fC (.int 2))) (fC (.int 11)))) fNil)) (fVar 1)))))))))
def F__law_taken : GF := runF 2 4 b__law_taken
theorem sc__law_taken : FnScope ["row", "many", "found", "cell"] ["row", "many"] (defScope (top 12)) := ⟨rfl, rfl, rfl, by decide +kernel, rfl, by decide +kernel, by decide +kernel⟩
theorem ok__law_taken (m : Mx K mg (tb K cA fA))  {f : Addr} {fd : FuncData} (F : Fun K "_law_taken" "_law_taken" (top 12) f fd) : FnOk P w K mg base (L2.CX P w) 2 f fd ["row", "many"] (spD (tb K cA fA) F__law_taken) :=
  fn_D F sc__law_taken (fun cdv A outer s H E hr => by
    have px : Passes (L2.CX P w) (cxOf (L2.CX P w) P w K mg base ["row", "many", "found", "cell"] "_law_taken" (defScope (top 12)) f cdv A outer s H E) E := passes_call (takes_of rfl rfl rfl rfl) fun _ _ _ _ h => h
    exact (dss_cons (ds_if (dt_cmp op_gt ok_gt (de_ix rfl (de_var (pv 0)) de_int (by intro _ _; with_unfolding_all rfl)) de_int (by rfl)) (dss_cons (ds_set (ps_set (i := 2) sc__law_taken.nd rfl (by first | exact Or.inl rfl | exact Or.inr rfl) (de_mod (de_callTy call_int1 ok_int1 rfl m.bn.int bo_int (da_cons (de_ix rfl (de_var (pv 0)) de_int (by intro _ _; with_unfolding_all rfl)) da_nil)) (de_var (pv 1)))))
    (dss_cons (ds_asg (de_div (de_ix rfl (de_var (pv 0)) de_int (by intro _ _; with_unfolding_all rfl)) (de_var (pv 1))) (dg_sub (de_var (pv 0)) de_int))
    (dss_one (ds_ret (de_var (pv 2)))))) dss_nil)
    (dss_cons (ds_asg (de_add rfl (de_ix rfl (de_var (pv 0)) de_int (by intro _ _; with_unfolding_all rfl)) de_int) (dg_sub (de_var (pv 0)) de_int))
    (dss_cons (ds_if (dt_cmp op_gt ok_gt (de_ix rfl (de_var (pv 0)) de_int (by intro _ _; with_unfolding_all rfl)) (de_callB call_len ok_len rfl m.bn.len bo_len (da_cons (de_ix rfl (de_var (pv 0)) de_int (by intro _ _; with_unfolding_all rfl)) da_nil)) (by rfl)) (dss_cons (ds_asg (de_mod (de_callTy call_int1 ok_int1 rfl m.bn.int bo_int (da_cons (de_add rfl (de_mul rfl (de_ix rfl (de_var (pv 0)) de_int (by intro _ _; with_unfolding_all rfl)) de_int) de_int) da_nil)) de_int) (dg_sub (de_var (pv 0)) de_int))
    (dss_one (ds_ret (de_mod (de_callTy call_int1 ok_int1 rfl m.bn.int bo_int (da_cons (de_div (de_ix rfl (de_var (pv 0)) de_int (by intro _ _; with_unfolding_all rfl)) de_int) da_nil)) (de_var (pv 1)))))) dss_nil)
    (dss_cons (ds_set (ps_set (i := 3) sc__law_taken.nd rfl (by first | exact Or.inl rfl | exact Or.inr rfl) (de_ix rfl (de_ix rfl (de_var (pv 0)) de_int (by intro _ _; with_unfolding_all rfl)) (de_sub (de_ix rfl (de_var (pv 0)) de_int (by intro _ _; with_unfolding_all rfl)) de_int) (by intro _ _; with_unfolding_all rfl))))
    (dss_cons (ds_asg (de_mod (de_callTy call_int1 ok_int1 rfl m.bn.int bo_int (da_cons (de_add rfl (de_add rfl (de_mul rfl (de_ix rfl (de_var (pv 0)) de_int (by intro _ _; with_unfolding_all rfl)) de_int) (de_var (pv 3))) de_int) da_nil)) de_int) (dg_sub (de_var (pv 0)) de_int))
    (dss_cons (ds_if (dt_cmp op_ge ok_ge (de_var (pv 3)) (de_pow de_int de_int) (by rfl)) (dss_cons (ds_asg (de_div (de_var (pv 3)) (de_var (pv 1))) (dg_sub (de_var (pv 0)) de_int))
    (dss_one (ds_ret (de_mod (de_callTy call_int1 ok_int1 rfl m.bn.int bo_int (da_cons (de_var (pv 3)) da_nil)) (de_var (pv 1)))))) dss_nil)
    (dss_one (ds_ret (de_mod (de_callTy call_int1 ok_int1 rfl m.bn.int bo_int (da_cons (de_add rfl (de_mul rfl (de_mod (de_callTy call_int1 ok_int1 rfl m.bn.int bo_int (da_cons (de_var (pv 3)) da_nil)) de_int) de_int) (de_div (de_ix rfl (de_var (pv 0)) de_int (by intro _ _; with_unfolding_all rfl)) de_int)) da_nil)) (de_var (pv 1))))))))))))
def b__law_pick : FS := (sRet (f2 gIx (fVar 1) (fCallF F__law_taken (fCons (fVar 0) (fCons (fCall gLen (fCons (fVar 1) fNil)) fNil)))))
def F__law_pick : GF := runF 2 2 b__law_pick
theorem sc__law_pick : FnScope ["row", "things"] ["row", "things"] (defScope (top 13)) := ⟨rfl, rfl, rfl, by decide +kernel, rfl, by decide +kernel, by decide +kernel⟩
theorem ok__law_pick (m : Mx K mg (tb K cA fA)) (f__law_taken : DefD (tb K cA fA) P w K mg base "_law_taken" 2 F__law_taken) {f : Addr} {fd : FuncData} (F : Fun K "_law_pick" "_law_pick" (top 13) f fd) : FnOk P w K mg base (L2.CX P w) 3 f fd ["row", "things"] (spD (tb K cA fA) F__law_pick) :=
  fn_D F sc__law_pick (fun cdv A outer s H E hr => by
    have px : Passes (L2.CX P w) (cxOf (L2.CX P w) P w K mg base ["row", "things"] "_law_pick" (defScope (top 13)) f cdv A outer s H E) E := passes_call (takes_of rfl rfl rfl rfl) fun _ _ _ _ h => h
    exact (dss_one (ds_ret (de_ix rfl (de_var (pv 1)) (de_call f__law_taken (hr.mono (by decide)) px rfl (da_cons (de_var (pv 0)) (da_cons (de_callB call_len ok_len rfl m.bn.len bo_len (da_cons (de_var (pv 1)) da_nil)) da_nil))) (by intro _ _; with_unfolding_all rfl)))))
def b__law_same : FS := (sRet (f2 gEq (fCall gReprP (fCons (fVar 0) fNil)) (fCall gReprP (fCons (fVar 1) fNil))))
def F__law_same : GF := runF 2 2 b__law_same
theorem sc__law_same : FnScope ["found", "due"] ["found", "due"] (defScope (top 14)) := ⟨rfl, rfl, rfl, by decide +kernel, rfl, by decide +kernel, by decide +kernel⟩
theorem ok__law_same (m : Mx K mg (tb K cA fA))  {f : Addr} {fd : FuncData} (F : Fun K "_law_same" "_law_same" (top 14) f fd) : FnG (tb K cA fA) P w K mg base 2 f fd ["found", "due"] F__law_same :=
  fn_G F sc__law_same (fun A outer s H E hg0 hr => by
    have hg : (A.deeper (envOfC "_law_same" (defScope (top 14)) s.heap.objs.size f fd.code)).guards = some [] := hg0
    have px : Passes (L2.CX P w) (cxOf (L2.CX P w) P w K mg base ["found", "due"] "_law_same" (defScope (top 14)) f fd.code A outer s H E) E := passes_call (takes_of rfl rfl rfl rfl) fun _ _ _ _ h => h
    exact (dss_one (ds_ret (de_cmp (op_eqT rfl hr) ok_eq (de_callB (cr_reprP rfl (room_200 hr) hg) ok_reprP rfl m.nRp bo_repr (da_cons (de_var (pv 0)) da_nil)) (de_callB (cr_reprP rfl (room_200 hr) hg) ok_reprP rfl m.nRp bo_repr (da_cons (de_var (pv 1)) da_nil)) (by rfl)))))
theorem okS__law_same (m : Mx K mg (tb K cA fA))  {f : Addr} {fd : FuncData} (F : Fun K "_law_same" "_law_same" (top 14) f fd) : FnS (tb K cA fA) P w K mg base 2 f fd ["found", "due"] inE F__law_same :=
  fn_S F sc__law_same (fun cdv A outer s H E p c dd hg hin hpc hpd hpf hr => by
    have hX := hotX_R (P := P) (w := w) (K := K) (mg := mg) (base := base) (T := (tb K cA fA)) (N := ["found", "due"]) (qual := "_law_same") (scope := defScope (top 14)) (f := f) (cd := cdv) (A := A) (outer := outer) (s := s) (H := H) (E := E) hpc hpd hpf
    have hu := roomH_units hr
    have isE := isE_of m (hot1 p.1 c dd) none
    exact (dss_one (ds_ret (de_cmp (op_eqH rfl hu) ok_eq (de_callB (cr_reprP rfl (roomH_200 hr) hg) ok_reprP rfl m.nRp bo_repr (da_cons (de_var (pv 0)) da_nil)) (de_callB (cr_reprP rfl (roomH_200 hr) hg) ok_reprP rfl m.nRp bo_repr (da_cons (de_var (pv 1)) da_nil)) (by rfl)))))
def b__law_refusal : FS := (sCons (sAsg (fLst (fCons (fC (.str "BadPart")) (fCons (fC (.str "BadNumber")) (fCons (fC (.str "Unknown")) (fCons (fC (.str "BadCourse")) (fCons (fC (.str "BadChange")) (fCons (fC (.str "BadText")) (fCons (fC (.str "BadLine")) (fCons (fC (.str "BadClaim")) (fCons (fC (.str "NothingDone")) fNil)))))))))) (pName 1))
    (sCons (sAsg (fLst (fCons (fCall (gIsX ansE basE) (fCons (fVar 0) (fCons (fC (.fn 0)) fNil))) (fCons (fCall (gIsX ansE basE) (fCons (fVar 0) (fCons (fC (.fn 1)) fNil))) (fCons (fCall (gIsX ansE basE) (fCons (fVar 0) (fCons (fC (.fn 2)) fNil))) (fCons (fCall (gIsX ansE basE) (fCons (fVar 0) (fCons (fC (.fn 3)) fNil))) (fCons (fCall (gIsX ansE basE) (fCons (fVar 0) (fCons (fC (.fn 4)) fNil))) (fCons (fCall (gIsX ansE basE) (fCons (fVar 0) (fCons (fC (.fn 5)) fNil))) (fCons (fCall (gIsX ansE basE) (fCons (fVar 0) (fCons (fC (.fn 6)) fNil))) (fCons (fCall (gIsX ansE basE) (fCons (fVar 0) (fCons (fC (.fn 7)) fNil))) (fCons (fCall (gIsX ansE basE) (fCons (fVar 0) (fCons (fC (.fn 8)) fNil))) fNil)))))))))) (pName 2))
    (sCons (sIf (fOrT (asB (f2 gNe (fMthL gCntB (fVar 2) (fCons (fC (.bl true)) fNil)) (fC (.int 1)))) (fNotT (asB (fCall (gIsX ansE basE) (fCons (fVar 0) (fCons (fC (.ty "ValueError")) fNil)))))) (sRet (fTup (fCons (fC (.str "other")) fNil))) sNil)
    (sCons (sAsg (f2 gIx (fVar 1) (fMthL gIdxB (fVar 2) (fCons (fC (.bl true)) fNil))) (pName 3))
    (sCons (sIf (asB (f2 gEq (fVar 3) (fC (.str "BadPart")))) (sRet (fTup (fCons (fVar 3) (fCons (fXf 9 0 (fVar 0)) (fCons (fXf 9 1 (fVar 0)) fNil))))) sNil)
    (sCons (sIf (asB (f2 gEq (fVar 3) (fC (.str "BadNumber")))) (sRet (fTup (fCons (fVar 3) (fCons (fXf 9 2 (fVar 0)) fNil)))) sNil)
    (sCons (sIf (asB (f2 gEq (fVar 3) (fC (.str "Unknown")))) (sRet (fTup (fCons (fVar 3) (fCons (fXf 9 3 (fVar 0)) fNil)))) sNil)
    (sCons (sIf (asB (f2 (gIn false) (fVar 3) (fTup (fCons (fC (.str "BadText")) (fCons (fC (.str "BadLine")) fNil))))) (sRet (fTup (fCons (fVar 3) (fCons (fXf 9 4 (fVar 0)) fNil)))) sNil)
    (sCons (sIf (asB (f2 (gIn false) (fVar 3) (fTup (fCons (fC (.str "BadClaim")) (fCons (fC (.str "NothingDone")) fNil))))) (sRet (fTup (fCons (fVar 3) fNil))) sNil)
    (sRet (fTup (fCons (fVar 3) (fCons (fXf 9 1 (fVar 0)) fNil)))))))))))))
def F__law_refusal : GF := runF 1 4 b__law_refusal
theorem sc__law_refusal : FnScope ["e", "kinds", "marks", "name"] ["e"] (defScope (top 15)) := ⟨rfl, rfl, rfl, by decide +kernel, rfl, by decide +kernel, by decide +kernel⟩
theorem ok__law_refusal (m : Mx K mg (tb K cA fA))  {f : Addr} {fd : FuncData} (F : Fun K "_law_refusal" "_law_refusal" (top 15) f fd) : FnR (tb K cA fA) P w K mg base 2 f fd ["e"] inE F__law_refusal :=
  fn_R F sc__law_refusal (fun cdv A outer s H E p c dd hin hpc hpd hpf hr => by
    have hX := hotX_R (P := P) (w := w) (K := K) (mg := mg) (base := base) (T := (tb K cA fA)) (N := ["e", "kinds", "marks", "name"]) (qual := "_law_refusal") (scope := defScope (top 15)) (f := f) (cd := cdv) (A := A) (outer := outer) (s := s) (H := H) (E := E) hpc hpd hpf
    have hu := roomH_units hr
    have isE := isE_of m (hot1 p.1 c dd) none
    exact (dss_cons (ds_set (ps_set (i := 1) sc__law_refusal.nd rfl (by first | exact Or.inl rfl | exact Or.inr rfl) (de_lst (da_cons de_str (da_cons de_str (da_cons de_str (da_cons de_str (da_cons de_str (da_cons de_str (da_cons de_str (da_cons de_str (da_cons de_str da_nil))))))))))))
    (dss_cons (ds_set (ps_set (i := 2) sc__law_refusal.nd rfl (by first | exact Or.inl rfl | exact Or.inr rfl) (de_lst (da_cons (de_callB (cr_isX hX) (ok_isX isE) rfl m.bn.isinstance bo_isinstance (da_cons (de_var (pv 0)) (da_cons (de_fn (i := 0) rfl m.e_BadPart) da_nil))) (da_cons (de_callB (cr_isX hX) (ok_isX isE) rfl m.bn.isinstance bo_isinstance (da_cons (de_var (pv 0)) (da_cons (de_fn (i := 1) rfl m.e_BadNumber) da_nil))) (da_cons (de_callB (cr_isX hX) (ok_isX isE) rfl m.bn.isinstance bo_isinstance (da_cons (de_var (pv 0)) (da_cons (de_fn (i := 2) rfl m.e_Unknown) da_nil))) (da_cons (de_callB (cr_isX hX) (ok_isX isE) rfl m.bn.isinstance bo_isinstance (da_cons (de_var (pv 0)) (da_cons (de_fn (i := 3) rfl m.e_BadCourse) da_nil))) (da_cons (de_callB (cr_isX hX) (ok_isX isE) rfl m.bn.isinstance bo_isinstance (da_cons (de_var (pv 0)) (da_cons (de_fn (i := 4) rfl m.e_BadChange) da_nil))) (da_cons (de_callB (cr_isX hX) (ok_isX isE) rfl m.bn.isinstance bo_isinstance (da_cons (de_var (pv 0)) (da_cons (de_fn (i := 5) rfl m.e_BadText) da_nil))) (da_cons (de_callB (cr_isX hX) (ok_isX isE) rfl m.bn.isinstance bo_isinstance (da_cons (de_var (pv 0)) (da_cons (de_fn (i := 6) rfl m.e_BadLine) da_nil))) (da_cons (de_callB (cr_isX hX) (ok_isX isE) rfl m.bn.isinstance bo_isinstance (da_cons (de_var (pv 0)) (da_cons (de_fn (i := 7) rfl m.e_BadClaim) da_nil))) (da_cons (de_callB (cr_isX hX) (ok_isX isE) rfl m.bn.isinstance bo_isinstance (da_cons (de_var (pv 0)) (da_cons (de_fn (i := 8) rfl m.e_NothingDone) da_nil))) da_nil))))))))))))
    (dss_cons (ds_if (PW.pt (dw_or (dt_cmp (op_neH rfl hu) ok_ne (de_mthL rfl PySem.F.slot_list_count PySem.F.type_list_count (mt_cntB hu) ok_cntB (de_var (pv 2)) (da_cons de_bl da_nil)) de_int (by rfl)) (dw_or1 (dt_not (dt_val (de_callB (cr_isX hX) (ok_isX isE) rfl m.bn.isinstance bo_isinstance (da_cons (de_var (pv 0)) (da_cons (de_ty rfl m.nVE bo_ValueError) da_nil)))))))) (dss_one (ds_ret (de_tup (da_cons de_str da_nil)))) dss_nil)
    (dss_cons (ds_set (ps_set (i := 3) sc__law_refusal.nd rfl (by first | exact Or.inl rfl | exact Or.inr rfl) (de_ix rfl (de_var (pv 1)) (de_mthL rfl PySem.F.slot_list_index PySem.F.type_list_index (mt_idxB hu) ok_idxB (de_var (pv 2)) (da_cons de_bl da_nil)) (by intro _ _; with_unfolding_all rfl))))
    (dss_cons (ds_if (dt_cmp (op_eqH rfl hu) ok_eq (de_var (pv 3)) de_str (by rfl)) (dss_one (ds_ret (de_tup (da_cons (de_var (pv 3)) (da_cons (de_xf (nE := 9) rfl hX (show 0 < 5 from by decide) rfl (ecX_of m "part" (by decide)) (de_var (pv 0))) (da_cons (de_xf (nE := 9) rfl hX (show 1 < 5 from by decide) rfl (ecX_of m "place" (by decide)) (de_var (pv 0))) da_nil)))))) dss_nil)
    (dss_cons (ds_if (dt_cmp (op_eqH rfl hu) ok_eq (de_var (pv 3)) de_str (by rfl)) (dss_one (ds_ret (de_tup (da_cons (de_var (pv 3)) (da_cons (de_xf (nE := 9) rfl hX (show 2 < 5 from by decide) rfl (ecX_of m "value" (by decide)) (de_var (pv 0))) da_nil))))) dss_nil)
    (dss_cons (ds_if (dt_cmp (op_eqH rfl hu) ok_eq (de_var (pv 3)) de_str (by rfl)) (dss_one (ds_ret (de_tup (da_cons (de_var (pv 3)) (da_cons (de_xf (nE := 9) rfl hX (show 3 < 5 from by decide) rfl (ecX_of m "name" (by decide)) (de_var (pv 0))) da_nil))))) dss_nil)
    (dss_cons (ds_if (dt_cmp (op_inT rfl) (ok_in (neg := false)) (de_var (pv 3)) (de_tup (da_cons de_str (da_cons de_str da_nil))) (by rfl)) (dss_one (ds_ret (de_tup (da_cons (de_var (pv 3)) (da_cons (de_xf (nE := 9) rfl hX (show 4 < 5 from by decide) rfl (ecX_of m "line" (by decide)) (de_var (pv 0))) da_nil))))) dss_nil)
    (dss_cons (ds_if (dt_cmp (op_inT rfl) (ok_in (neg := false)) (de_var (pv 3)) (de_tup (da_cons de_str (da_cons de_str da_nil))) (by rfl)) (dss_one (ds_ret (de_tup (da_cons (de_var (pv 3)) da_nil)))) dss_nil)
    (dss_one (ds_ret (de_tup (da_cons (de_var (pv 3)) (da_cons (de_xf (nE := 9) rfl hX (show 1 < 5 from by decide) rfl (ecX_of m "place" (by decide)) (de_var (pv 0))) da_nil)))))))))))))))
theorem okD__law_refusal (m : Mx K mg (tb K cA fA))  {f : Addr} {fd : FuncData} (F : Fun K "_law_refusal" "_law_refusal" (top 15) f fd) : FnOk P w K mg base (L2.CX P w) 2 f fd ["e"] (spD (tb K cA fA) F__law_refusal) :=
  fn_D F sc__law_refusal (fun cdv A outer s H E hr => by
    exact (dss_cons (ds_set (ps_set (i := 1) sc__law_refusal.nd rfl (by first | exact Or.inl rfl | exact Or.inr rfl) (de_lst (da_cons de_str (da_cons de_str (da_cons de_str (da_cons de_str (da_cons de_str (da_cons de_str (da_cons de_str (da_cons de_str (da_cons de_str da_nil))))))))))))
    (dss_cons (ds_set (ps_set (i := 2) sc__law_refusal.nd rfl (by first | exact Or.inl rfl | exact Or.inr rfl) (de_lst (da_cons (de_callB (cr_isX hotX_tb) (ok_isX (isC_of m)) rfl m.bn.isinstance bo_isinstance (da_cons (de_var (pv 0)) (da_cons (de_fn (i := 0) rfl m.e_BadPart) da_nil))) (da_cons (de_callB (cr_isX hotX_tb) (ok_isX (isC_of m)) rfl m.bn.isinstance bo_isinstance (da_cons (de_var (pv 0)) (da_cons (de_fn (i := 1) rfl m.e_BadNumber) da_nil))) (da_cons (de_callB (cr_isX hotX_tb) (ok_isX (isC_of m)) rfl m.bn.isinstance bo_isinstance (da_cons (de_var (pv 0)) (da_cons (de_fn (i := 2) rfl m.e_Unknown) da_nil))) (da_cons (de_callB (cr_isX hotX_tb) (ok_isX (isC_of m)) rfl m.bn.isinstance bo_isinstance (da_cons (de_var (pv 0)) (da_cons (de_fn (i := 3) rfl m.e_BadCourse) da_nil))) (da_cons (de_callB (cr_isX hotX_tb) (ok_isX (isC_of m)) rfl m.bn.isinstance bo_isinstance (da_cons (de_var (pv 0)) (da_cons (de_fn (i := 4) rfl m.e_BadChange) da_nil))) (da_cons (de_callB (cr_isX hotX_tb) (ok_isX (isC_of m)) rfl m.bn.isinstance bo_isinstance (da_cons (de_var (pv 0)) (da_cons (de_fn (i := 5) rfl m.e_BadText) da_nil))) (da_cons (de_callB (cr_isX hotX_tb) (ok_isX (isC_of m)) rfl m.bn.isinstance bo_isinstance (da_cons (de_var (pv 0)) (da_cons (de_fn (i := 6) rfl m.e_BadLine) da_nil))) (da_cons (de_callB (cr_isX hotX_tb) (ok_isX (isC_of m)) rfl m.bn.isinstance bo_isinstance (da_cons (de_var (pv 0)) (da_cons (de_fn (i := 7) rfl m.e_BadClaim) da_nil))) (da_cons (de_callB (cr_isX hotX_tb) (ok_isX (isC_of m)) rfl m.bn.isinstance bo_isinstance (da_cons (de_var (pv 0)) (da_cons (de_fn (i := 8) rfl m.e_NothingDone) da_nil))) da_nil))))))))))))
    (dss_cons (ds_if (PW.pt (dw_or (dt_cmp (op_neT rfl hr) ok_ne (de_mthL rfl PySem.F.slot_list_count PySem.F.type_list_count (mt_cntB hr.units) ok_cntB (de_var (pv 2)) (da_cons de_bl da_nil)) de_int (by rfl)) (dw_or1 (dt_not (dt_val (de_callB (cr_isX hotX_tb) (ok_isX (isC_of m)) rfl m.bn.isinstance bo_isinstance (da_cons (de_var (pv 0)) (da_cons (de_ty rfl m.nVE bo_ValueError) da_nil)))))))) (dss_one (ds_ret (de_tup (da_cons de_str da_nil)))) dss_nil)
    (dss_cons (ds_set (ps_set (i := 3) sc__law_refusal.nd rfl (by first | exact Or.inl rfl | exact Or.inr rfl) (de_ix rfl (de_var (pv 1)) (de_mthL rfl PySem.F.slot_list_index PySem.F.type_list_index (mt_idxB hr.units) ok_idxB (de_var (pv 2)) (da_cons de_bl da_nil)) (by intro _ _; with_unfolding_all rfl))))
    (dss_cons (ds_if (dt_cmp (op_eqT rfl hr) ok_eq (de_var (pv 3)) de_str (by rfl)) (dss_one (ds_ret (de_tup (da_cons (de_var (pv 3)) (da_cons (de_xf (nE := 9) rfl hotX_tb (show 0 < 5 from by decide) rfl (ecX_of m "part" (by decide)) (de_var (pv 0))) (da_cons (de_xf (nE := 9) rfl hotX_tb (show 1 < 5 from by decide) rfl (ecX_of m "place" (by decide)) (de_var (pv 0))) da_nil)))))) dss_nil)
    (dss_cons (ds_if (dt_cmp (op_eqT rfl hr) ok_eq (de_var (pv 3)) de_str (by rfl)) (dss_one (ds_ret (de_tup (da_cons (de_var (pv 3)) (da_cons (de_xf (nE := 9) rfl hotX_tb (show 2 < 5 from by decide) rfl (ecX_of m "value" (by decide)) (de_var (pv 0))) da_nil))))) dss_nil)
    (dss_cons (ds_if (dt_cmp (op_eqT rfl hr) ok_eq (de_var (pv 3)) de_str (by rfl)) (dss_one (ds_ret (de_tup (da_cons (de_var (pv 3)) (da_cons (de_xf (nE := 9) rfl hotX_tb (show 3 < 5 from by decide) rfl (ecX_of m "name" (by decide)) (de_var (pv 0))) da_nil))))) dss_nil)
    (dss_cons (ds_if (dt_cmp (op_inT rfl) (ok_in (neg := false)) (de_var (pv 3)) (de_tup (da_cons de_str (da_cons de_str da_nil))) (by rfl)) (dss_one (ds_ret (de_tup (da_cons (de_var (pv 3)) (da_cons (de_xf (nE := 9) rfl hotX_tb (show 4 < 5 from by decide) rfl (ecX_of m "line" (by decide)) (de_var (pv 0))) da_nil))))) dss_nil)
    (dss_cons (ds_if (dt_cmp (op_inT rfl) (ok_in (neg := false)) (de_var (pv 3)) (de_tup (da_cons de_str (da_cons de_str da_nil))) (by rfl)) (dss_one (ds_ret (de_tup (da_cons (de_var (pv 3)) da_nil)))) dss_nil)
    (dss_one (ds_ret (de_tup (da_cons (de_var (pv 3)) (da_cons (de_xf (nE := 9) rfl hotX_tb (show 1 < 5 from by decide) rfl (ecX_of m "place" (by decide)) (de_var (pv 0))) da_nil)))))))))))))))
end
end KA
set_option Elab.async false
set_option linter.all false
set_option maxRecDepth 100000
set_option maxHeartbeats 4000000
namespace KA
open PySem PySem.Spec PyProof.Rows L2 DL
section
variable {P : Program} {w : World} {K : PySem.W.Frag} {mg : Str → Option Value} {base : Heap} {cA fA : Nat → Addr}
theorem sc_law : FnScope ["script", "row", "value", "made", "fields", "one", "e"] ["script"] (defScope (top 16)) := ⟨rfl, rfl, rfl, by decide +kernel, rfl, by decide +kernel, by decide +kernel⟩
def l0 : FS := (sAsg (fNew (fCons (fVar 0) (fCons (fC (.int 0)) (fCons (fC (.int 7000)) (fCons (fC (.int 0)) fNil))))) (pName 1))
def l1 : FS := (sAsg (fCallF F__law_pick (fCons (fVar 1) (fCons (fLst (fCons (fC .non) (fCons (fC (.bl true)) (fCons (fC (.int 0)) (fCons (fC (.int 7)) (fCons (f2 gPow (fC (.int 10)) (fC (.int 40))) (fCons (fC (.str "ann")) (fCons (fTup (fCons (fC (.int 1)) (fCons (fC (.int 2)) fNil))) (fCons (fLst (fCons (fC (.int 1)) fNil)) (fCons (fNeg (fC (.int 3))) (fCons (fC (.str "")) fNil))))))))))) fNil))) (pName 2))
def l2 : FS := (sAsg (fLst (fCons (fErr 0 [0, 1] (fCons (fC (.str "bowl")) (fCons (fVar 2) fNil))) (fCons (fErr 1 [2] (fCons (fVar 2) fNil)) (fCons (fErr 2 [3] (fCons (fVar 2) fNil)) (fCons (fErr 3 [1] (fCons (fVar 2) fNil)) (fCons (fErr 4 [1] (fCons (fVar 2) fNil)) (fCons (fErr 5 [4] (fCons (fVar 2) fNil)) (fCons (fErr 6 [4] (fCons (fVar 2) fNil)) fNil)))))))) (pName 3))
def l3 : FS := (sAsg (fLst (fCons (fXf 9 1 (f2 gIx (fVar 3) (fC (.int 0)))) (fCons (fXf 9 2 (f2 gIx (fVar 3) (fC (.int 1)))) (fCons (fXf 9 3 (f2 gIx (fVar 3) (fC (.int 2)))) (fCons (fXf 9 1 (f2 gIx (fVar 3) (fC (.int 3)))) (fCons (fXf 9 1 (f2 gIx (fVar 3) (fC (.int 4)))) (fCons (fXf 9 4 (f2 gIx (fVar 3) (fC (.int 5)))) (fCons (fXf 9 4 (f2 gIx (fVar 3) (fC (.int 6)))) fNil)))))))) (pName 4))
def l4 : FS := (sIf (fOrT (asB (f2 gNe (fLc [5] (iSeq (fVar 4)) (cName 5) (fNotT (asB (fCallF F__law_same (fCons (fVar 5) (fCons (fVar 2) fNil))))) (fVar 5)) (fLst fNil))) (asB (f2 gNe (fXf 9 0 (f2 gIx (fVar 3) (fC (.int 0)))) (fC (.str "bowl"))))) (sRet (fC (.bl false))) sNil)
def lE : FE := (f2 gAdd (fVar 3) (fLst (fCons (fErr0 7) (fCons (fErr0 8) fNil))))
def lI : FS := (sIf (fOrT (fNotT (asB (fCall (gIsX ansE basE) (fCons (fVar 5) (fCons (fC (.fn 9)) fNil))))) (fOrT (fNotT (asB (fCall (gIsX ansE basE) (fCons (fVar 5) (fCons (fC (.ty "ValueError")) fNil))))) (asB (f2 gEq (fCallF F__law_refusal (fCons (fVar 5) fNil)) (fTup (fCons (fC (.str "other")) fNil)))))) (sRet (fC (.bl false))) sNil)
/-- what the law's statements compute, one by one -/
structure LawOk (ns : List Int) : Prop where
  go : ∃ (ρ1 ρ2 ρ3 ρ4 ρ5 : Ev) (S1 S2 S3 S4 S5 : Store) (cs : List (Nat × List (Nat × D))), ρ5.length = 7 ∧ l0 (start0 7 [D.scr ns]) [] = .nx ρ1 S1 ∧ l1 ρ1 S1 = .nx ρ2 S2 ∧ l2 ρ2 S2 = .nx ρ3 S3 ∧ l3 ρ3 S3 = .nx ρ4 S4 ∧ l4 ρ4 S4 = .nx ρ5 S5 ∧ lE ρ5 S5 = .ok (.lst (cs.map fun p => .err p.1 p.2)) S5 ∧ (cs.map Prod.fst).Nodup ∧
    ∀ p ∈ cs, inE p.1 = true ∧ purF p.2 = true ∧ lI ((List.replicate 7 none).set 5 (some (.err p.1 p.2))) S5 = .nx ((List.replicate 7 none).set 5 (some (.err p.1 p.2))) S5 ∧ ∃ r, F__law_refusal [.xcp p.1 p.2] S5 = .ok r S5 ∧ F__law_same [r, r] S5 = .ok (.bl true) S5
theorem run_law (m : Mx K mg (tb K cA fA)) (inj : ∀ c c', inE c = true → inE c' = true → fA c = fA c' → c = c') (f__law_pick : DefD (tb K cA fA) P w K mg base "_law_pick" 3 F__law_pick) (er_BadLine : ErrD P w K mg base "BadLine" (fA 6) (([4] : List Nat).map nmF) 1) (er_BadText : ErrD P w K mg base "BadText" (fA 5) (([4] : List Nat).map nmF) 1) (er_BadChange : ErrD P w K mg base "BadChange" (fA 4) (([1] : List Nat).map nmF) 1) (er_BadCourse : ErrD P w K mg base "BadCourse" (fA 3) (([1] : List Nat).map nmF) 1) (er_Unknown : ErrD P w K mg base "Unknown" (fA 2) (([3] : List Nat).map nmF) 1) (er_BadNumber : ErrD P w K mg base "BadNumber" (fA 1) (([2] : List Nat).map nmF) 1) (er_BadPart : ErrD P w K mg base "BadPart" (fA 0) (([0, 1] : List Nat).map nmF) 1) (g__law_same : DefG (tb K cA fA) P w K mg base "_law_same" 2 F__law_same) (er_NothingDone : ErrD0 P w K mg base "NothingDone" (fA 8) 1) (er_BadClaim : ErrD0 P w K mg base "BadClaim" (fA 7) 1) (f__law_refusal : DefD (tb K cA fA) P w K mg base "_law_refusal" 2 F__law_refusal) (r_refusal : DefR (tb K cA fA) P w K mg base "_law_refusal" 2 inE F__law_refusal) (s_same : DefS (tb K cA fA) P w K mg base "_law_same" 2 inE F__law_same) {f : Addr} {fd : FuncData} (F : Fun K "law" "law" (top 16) f fd)
    {s : Shared} {a : Addr} {ns : List Int} {H : Hp} (h0 : Top0 H) (e0 : Env0 P w K mg base callerA [] s H) (sq : SqL K H a (ns.map V.int)) (L : LawOk ns) :
    codeAny (model P w) callerA (.call (.ref f) ⟨[.ref a], []⟩) (CR (L2.CX P w) [] P w H s (fun v _ => v = .bl true) NX) s := by
  obtain ⟨oc, od, kV, doc, pm, an, cdv, ct, osl, rfl, lk, hcd⟩ := F.ex
  refine LamX.run_ofS (us := [.ref a]) (vs := [.ref a]) (ps := ["script"]) (k := 3) lk hcd sc_law ⟨rfl, by decide, by decide⟩ e0 (BindsTo.of_eq rfl) (.cons rfl .nil) rfl fun hr => ?_
  have hg : (callerA.deeper (envOfC "law" (defScope (top 16)) s.heap.objs.size f cdv)).guards = some [] := rfl
  have px : Passes (L2.CX P w) (cxOf (L2.CX P w) P w K mg base ["script", "row", "value", "made", "fields", "one", "e"] "law" (defScope (top 16)) f cdv callerA [] s H NX) NX := passes_call (takes_of rfl rfl rfl rfl) fun _ _ _ _ h => h
  obtain ⟨ρ1, ρ2, ρ3, ρ4, ρ5, S1, S2, S3, S4, S5, cs, ql, q0, q1, q2, q3, q4, qE, nd, each⟩ := L.go
  have O : ErrsOk (cxOf (L2.CX P w) P w K mg base ["script", "row", "value", "made", "fields", "one", "e"] "law" (defScope (top 16)) f cdv callerA [] s H NX) (tb K cA fA) (.ref (fA 9)) inE 7 5 F__law_refusal F__law_same lI S5 cs :=
    ⟨rfl, cold_tb, inj, fun c hc => raises_of m c (of_decide_eq_true hc), m.xC, nd, each⟩
  refine ⟨_, pss_cons (t := tS (tb K cA fA) NX l0) (ds_set (ps_set (i := 1) sc_law.nd rfl (by first | exact Or.inl rfl | exact Or.inr rfl) (de_new (da_cons (de_var (pv 0)) (da_cons de_int (da_cons de_int (da_cons de_int da_nil)))))))
    (pss_cons (t := tS (tb K cA fA) NX l1) (ds_set (ps_set (i := 2) sc_law.nd rfl (by first | exact Or.inl rfl | exact Or.inr rfl) (de_call f__law_pick (hr.mono (by decide)) px rfl (da_cons (de_var (pv 1)) (da_cons (de_lst (da_cons de_non (da_cons de_bl (da_cons de_int (da_cons de_int (da_cons (de_pow de_int de_int) (da_cons de_str (da_cons (de_tup (da_cons de_int (da_cons de_int da_nil))) (da_cons (de_lst (da_cons de_int da_nil)) (da_cons (de_neg de_int) (da_cons de_str da_nil))))))))))) da_nil)))))
    (pss_cons (t := tS (tb K cA fA) NX l2) (ds_set (ps_set (i := 3) sc_law.nd rfl (by first | exact Or.inl rfl | exact Or.inr rfl) (de_lst (da_cons (de_err (c := 0) (fids := [0, 1]) er_BadPart (by exact Nat.le_of_ble_eq_true rfl) (show ∀ f ∈ ([0, 1] : List Nat), f < 5 from by decide) (hr.mono (by decide)) rfl (da_cons de_str (da_cons (de_var (pv 2)) da_nil))) (da_cons (de_err (c := 1) (fids := [2]) er_BadNumber (by exact Nat.le_of_ble_eq_true rfl) (show ∀ f ∈ ([2] : List Nat), f < 5 from by decide) (hr.mono (by decide)) rfl (da_cons (de_var (pv 2)) da_nil)) (da_cons (de_err (c := 2) (fids := [3]) er_Unknown (by exact Nat.le_of_ble_eq_true rfl) (show ∀ f ∈ ([3] : List Nat), f < 5 from by decide) (hr.mono (by decide)) rfl (da_cons (de_var (pv 2)) da_nil)) (da_cons (de_err (c := 3) (fids := [1]) er_BadCourse (by exact Nat.le_of_ble_eq_true rfl) (show ∀ f ∈ ([1] : List Nat), f < 5 from by decide) (hr.mono (by decide)) rfl (da_cons (de_var (pv 2)) da_nil)) (da_cons (de_err (c := 4) (fids := [1]) er_BadChange (by exact Nat.le_of_ble_eq_true rfl) (show ∀ f ∈ ([1] : List Nat), f < 5 from by decide) (hr.mono (by decide)) rfl (da_cons (de_var (pv 2)) da_nil)) (da_cons (de_err (c := 5) (fids := [4]) er_BadText (by exact Nat.le_of_ble_eq_true rfl) (show ∀ f ∈ ([4] : List Nat), f < 5 from by decide) (hr.mono (by decide)) rfl (da_cons (de_var (pv 2)) da_nil)) (da_cons (de_err (c := 6) (fids := [4]) er_BadLine (by exact Nat.le_of_ble_eq_true rfl) (show ∀ f ∈ ([4] : List Nat), f < 5 from by decide) (hr.mono (by decide)) rfl (da_cons (de_var (pv 2)) da_nil)) da_nil))))))))))
    (pss_cons (t := tS (tb K cA fA) NX l3) (ds_set (ps_set (i := 4) sc_law.nd rfl (by first | exact Or.inl rfl | exact Or.inr rfl) (de_lst (da_cons (de_xf (nE := 9) rfl hotX_tb (show 1 < 5 from by decide) rfl (ecX_of m "place" (by decide)) (de_ix rfl (de_var (pv 3)) de_int (by intro _ _; with_unfolding_all rfl))) (da_cons (de_xf (nE := 9) rfl hotX_tb (show 2 < 5 from by decide) rfl (ecX_of m "value" (by decide)) (de_ix rfl (de_var (pv 3)) de_int (by intro _ _; with_unfolding_all rfl))) (da_cons (de_xf (nE := 9) rfl hotX_tb (show 3 < 5 from by decide) rfl (ecX_of m "name" (by decide)) (de_ix rfl (de_var (pv 3)) de_int (by intro _ _; with_unfolding_all rfl))) (da_cons (de_xf (nE := 9) rfl hotX_tb (show 1 < 5 from by decide) rfl (ecX_of m "place" (by decide)) (de_ix rfl (de_var (pv 3)) de_int (by intro _ _; with_unfolding_all rfl))) (da_cons (de_xf (nE := 9) rfl hotX_tb (show 1 < 5 from by decide) rfl (ecX_of m "place" (by decide)) (de_ix rfl (de_var (pv 3)) de_int (by intro _ _; with_unfolding_all rfl))) (da_cons (de_xf (nE := 9) rfl hotX_tb (show 4 < 5 from by decide) rfl (ecX_of m "line" (by decide)) (de_ix rfl (de_var (pv 3)) de_int (by intro _ _; with_unfolding_all rfl))) (da_cons (de_xf (nE := 9) rfl hotX_tb (show 4 < 5 from by decide) rfl (ecX_of m "line" (by decide)) (de_ix rfl (de_var (pv 3)) de_int (by intro _ _; with_unfolding_all rfl))) da_nil))))))))))
    (pss_cons (t := tS (tb K cA fA) NX l4) (ds_if (PW.pt (dw_or (dt_cmp (op_neT rfl hr) ok_ne (de_lc (own := [("one", 5)]) (g := (gName 5)) rfl sc_law.nd (di_seq rfl (de_var (pv 4))) (blkOk_by (N := ["script", "row", "value", "made", "fields", "one", "e"]) (sc := defScope (top 16)) (by decide +kernel)) (gok_name (by decide)) tt_of (fun _ _ _ _ _ => (pg_name (i := 5) sc_law.nd rfl (Or.inl rfl))) (fun _ _ _ _ _ => pts_one (dt_not (dt_val (de_callG g__law_same hg (hr.mono (by decide)) passL rfl (da_cons (de_var (pv 5)) (da_cons (de_var (pv 2)) da_nil)))))) (fun _ _ _ _ _ => (de_var (pv 5)))) (de_lst da_nil) (by rfl)) (dw_or1 (dt_cmp (op_neT rfl hr) ok_ne (de_xf (nE := 9) rfl hotX_tb (show 0 < 5 from by decide) rfl (ecX_of m "part" (by decide)) (de_ix rfl (de_var (pv 3)) de_int (by intro _ _; with_unfolding_all rfl))) de_str (by rfl))))) (dss_one (ds_ret de_bl)) dss_nil)
    (pss_cons (ps_errloop (T := (tb K cA fA)) (E := NX) (c0 := .ref (fA 9)) (inE := inE) (n := 7) (i := 6) (j := 5) (Rf := F__law_refusal) (Sm := F__law_same) (fI := lI) (fl := lE) rfl (passes_of rfl) rfl rfl h0 rfl rfl sc_law.nd rfl rfl ⟨rfl, by decide, .inl m.e_ClockError⟩ rfl rfl (by decide) (by decide)
      (de_add rfl (de_var (pv 3)) (de_lst (da_cons (de_err0 er_BadClaim (hr.mono (by decide)) rfl) (da_cons (de_err0 er_NothingDone (hr.mono (by decide)) rfl) da_nil))))
      (ds_if (PW.pt (dw_or (dt_not (dt_val (de_callB (cr_isX hotX_tb) (ok_isX (isC_of m)) rfl m.bn.isinstance bo_isinstance (da_cons (de_var (pv 5)) (da_cons (de_fn (i := 9) rfl m.e_ClockError) da_nil))))) (dw_or (dt_not (dt_val (de_callB (cr_isX hotX_tb) (ok_isX (isC_of m)) rfl m.bn.isinstance bo_isinstance (da_cons (de_var (pv 5)) (da_cons (de_ty rfl m.nVE bo_ValueError) da_nil))))) (dw_or1 (dt_cmp (op_eqT rfl hr) ok_eq (de_call f__law_refusal (hr.mono (by decide)) px rfl (da_cons (de_var (pv 5)) da_nil)) (de_tup (da_cons de_str da_nil)) (by rfl)))))) (dss_one (ds_ret de_bl)) dss_nil)
      (fun a oe cls d pn hz hv => ⟨fun pins s2 σ2 H2 D I h => ?su⟩) (fun _ => rfl)) (pss_one (ds_ret (f := fC (.bl true)) (T := (tb K cA fA)) (E := NX) de_bl))))))), ?go⟩
  case su =>
    obtain ⟨c, hin, ec, ht⟩ := h I.len
    have hrR : Room 2 (callerA.deeper (envOfC "law" (defScope (top 16)) s.heap.objs.size f cdv)) := hr.mono (by decide)
    have hrS : Room 2 (callerA.deeper (envOfC "law" (defScope (top 16)) s.heap.objs.size f cdv)) := hr.mono (by decide)
    exact (pss_one (X := ((cxOf (L2.CX P w) P w K mg base ["script", "row", "value", "made", "fields", "one", "e"] "law" (defScope (top 16)) f cdv callerA [] s H NX).suite a ((a, oe) :: pn))) (ds_if (X := ((cxOf (L2.CX P w) P w K mg base ["script", "row", "value", "made", "fields", "one", "e"] "law" (defScope (top 16)) f cdv callerA [] s H NX).suite a ((a, oe) :: pn))) (dt_not (dt_val (de_callS (X := ((cxOf (L2.CX P w) P w K mg base ["script", "row", "value", "made", "fields", "one", "e"] "law" (defScope (top 16)) f cdv callerA [] s H NX).suite a ((a, oe) :: pn))) (p := (a, oe)) (c := c) (dd := d) s_same hg hin List.mem_cons_self (by rw [hz.1]; exact ec) hz.2 hv ⟨hrS.dp, hrS.un⟩ passL rfl
      (da_cons (de_callR (X := ((cxOf (L2.CX P w) P w K mg base ["script", "row", "value", "made", "fields", "one", "e"] "law" (defScope (top 16)) f cdv callerA [] s H NX).suite a ((a, oe) :: pn))) (p := (a, oe)) (c := c) (dd := d) r_refusal hin List.mem_cons_self (by rw [hz.1]; exact ec) hz.2 hv ⟨hrR.dp, hrR.un⟩ passL rfl (da_cons (de_var (pe_var (X := ((cxOf (L2.CX P w) P w K mg base ["script", "row", "value", "made", "fields", "one", "e"] "law" (defScope (top 16)) f cdv callerA [] s H NX).suite a ((a, oe) :: pn))) (i := 6) rfl (.inl rfl) (by decide) (by decide))) da_nil))
      (da_cons (de_callR (X := ((cxOf (L2.CX P w) P w K mg base ["script", "row", "value", "made", "fields", "one", "e"] "law" (defScope (top 16)) f cdv callerA [] s H NX).suite a ((a, oe) :: pn))) (p := (a, oe)) (c := c) (dd := d) r_refusal hin List.mem_cons_self (by rw [hz.1]; exact ec) hz.2 hv ⟨hrR.dp, hrR.un⟩ passL rfl (da_cons (de_var (pe_var (X := ((cxOf (L2.CX P w) P w K mg base ["script", "row", "value", "made", "fields", "one", "e"] "law" (defScope (top 16)) f cdv callerA [] s H NX).suite a ((a, oe) :: pn))) (i := 5) rfl (.inl rfl) (by decide) (by decide))) da_nil)) da_nil))))) (dss_one (ds_ret de_bl)) dss_nil)).run pins s2 σ2 H2 D I ht
  case go =>
    have v0 : DV (tb K cA fA) [] H (.ref a) (.scr ns) := .scr (sq.elim (fun h => .inl ⟨h, fun z => by cases z⟩) .inr)
    refine tS_go q0 (env_start (.cons v0 .nil)) ⟨rfl, .nil, fun l a o h => (by cases h), fun p hp => (by cases hp)⟩ fun σ1 μ1 H1 st1 rp1 env1 => ?_
    refine tS_go q1 env1 rp1 fun σ2 μ2 H2 st2 rp2 env2 => ?_
    refine tS_go q2 env2 rp2 fun σ3 μ3 H3 st3 rp3 env3 => ?_
    refine tS_go q3 env3 rp3 fun σ4 μ4 H4 st4 rp4 env4 => ?_
    refine tS_go q4 env4 rp4 fun σ5 μ5 H5 st5 rp5 env5 => ?_
    refine loop_in rfl O (by decide) (by decide) (by decide) (env5.len.trans ql) env5 rp5 qE fun L xs σ' H' hp => ?_
    obtain ⟨hn, μ', rp', _⟩ := hp
    exact tS_true hn rp' fun H'' => rfl

end
end KA

set_option Elab.async false
set_option linter.all false
set_option maxRecDepth 100000
set_option maxHeartbeats 4000000
namespace KL
open PySem PySem.Spec PyProof.Rows L2 DL KA
abbrev rw_ (ns : List Int) (i s r : Int) : SO := .lst [.scr ns, .int i, .int s, .int r]
structure RowOk (R : SO) : Prop where
  ex : ∃ ns i s r, R = rw_ ns i s r ∧ 0 ≤ i ∧ 0 ≤ s ∧ s < 2147483648
theorem at_int {ns : List Int} {k : Nat} (h : k < ns.length) : atI (ns.map D.int) (k : Int) = some (.int ns[k]) := by
  simp [atI, ixN, h]
theorem taken {Z : Store} {ns : List Int} {i s r many : Int} (hi : 0 ≤ i) (hs : 0 ≤ s) (hs2 : s < 2147483648) (hm : 0 < many) (hm2 : many < 1000000) :
    ∃ d i' s' r', 0 ≤ d ∧ d < many ∧ 0 ≤ i' ∧ 0 ≤ s' ∧ s' < 2147483648 ∧ F__law_taken [.obj 0, .int many] (rw_ ns i s r :: Z) = .ok (.int d) (rw_ ns i' s' r' :: Z) := by
  have mdiv : many < 1073741824 := by omega
  by_cases h1 : 0 < r
  · refine ⟨r % many, i, s, r / many, Int.emod_nonneg _ (by omega), Int.emod_lt_of_pos _ hm, hi, hs, hs2, ?_⟩
    simp [F__law_taken, b__law_taken, runF, start0, sCons, sIf, asB, f2, fVar, fC, gGt, gGe, gI, gIx, seqOf, items, atI, sAsg, pName, pSub, gSet, gMod, gDiv, gAdd, DL.gSub, gMul, gPow, gLen, fCall, fCons, fNil, gInt, sRet, retD, pur, ixN, h1, hm, mdiv]
  · by_cases h2 : (ns.length : Int) < i + 1
    · refine ⟨((s * 48271 + 11) % 2147483647) / 7 % many, i + 1, (s * 48271 + 11) % 2147483647, r, Int.emod_nonneg _ (by omega), Int.emod_lt_of_pos _ hm, by omega, by omega, by omega, ?_⟩
      simp [F__law_taken, b__law_taken, runF, start0, sCons, sIf, asB, f2, fVar, fC, gGt, gGe, gI, gIx, seqOf, items, atI, sAsg, pName, pSub, gSet, gMod, gDiv, gAdd, DL.gSub, gMul, gPow, gLen, fCall, fCons, fNil, gInt, sRet, retD, pur, ixN, h1, h2, hm, mdiv, mulOk, sNil]
    · obtain ⟨k, rfl⟩ : ∃ k : Nat, i = (k : Int) := ⟨i.toNat, by omega⟩
      have hk : k < ns.length := by omega
      have hat : atI (ns.map D.int) (k : Int) = some (.int ns[k]) := at_int hk
      have h2' : ¬ (ns.length : Int) < (k : Int) + 1 := h2
      generalize ns[k] = c at hat
      have a1 : atI [D.scr ns, .int (k : Int), .int s, .int r] 0 = some (.scr ns) := rfl
      have a2 : ∀ x y z : D, ∀ ns, atI [D.scr ns, x, y, z] 1 = some x := fun _ _ _ _ => rfl
      have a3 : ∀ x y z : D, ∀ ns, atI [D.scr ns, x, y, z] 2 = some y := fun _ _ _ _ => rfl
      have a4 : ∀ x y z : D, ∀ ns, atI [D.scr ns, x, y, z] 3 = some z := fun _ _ _ _ => rfl
      have a5 : ∀ x y z : D, ∀ ns, atI [D.scr ns, x, y, z] 0 = some (.scr ns) := fun _ _ _ _ => rfl
      by_cases h3 : (1000000000000000000 : Int) ≤ c
      · refine ⟨c % many, k + 1, (s * 48271 + c + 11) % 2147483647, c / many, Int.emod_nonneg _ (by omega), Int.emod_lt_of_pos _ hm, by omega, by omega, by omega, ?_⟩
        simp [F__law_taken, b__law_taken, runF, start0, sCons, sIf, asB, f2, fVar, fC, gGt, gGe, gI, gIx, seqOf, items, sAsg, pName, pSub, gSet, gMod, gDiv, gAdd, DL.gSub, gMul, gPow, gLen, fCall, fCons, fNil, gInt, sRet, retD, pur, ixN, h1, h2', hm, mdiv, mulOk, sNil, hat, a2, a3, a4, a5, h3]
      · refine ⟨(c % 1000003 * 31 + (s * 48271 + c + 11) % 2147483647 / 11) % many, k + 1, (s * 48271 + c + 11) % 2147483647, r, Int.emod_nonneg _ (by omega), Int.emod_lt_of_pos _ hm, by omega, by omega, by omega, ?_⟩
        simp [F__law_taken, b__law_taken, runF, start0, sCons, sIf, asB, f2, fVar, fC, gGt, gGe, gI, gIx, seqOf, items, sAsg, pName, pSub, gSet, gMod, gDiv, gAdd, DL.gSub, gMul, gPow, gLen, fCall, fCons, fNil, gInt, sRet, retD, pur, ixN, h1, h2', hm, mdiv, mulOk, sNil, hat, a2, a3, a4, a5, h3]
end KL

set_option Elab.async false
set_option linter.all false
set_option maxRecDepth 100000
set_option maxHeartbeats 4000000
namespace KL
open PySem PySem.Spec PyProof.Rows L2 DL KA
theorem takenR {R : SO} {Z : Store} {many : Int} (hR : RowOk R) (hm : 0 < many) (hm2 : many < 1000000) :
    ∃ d R', RowOk R' ∧ 0 ≤ d ∧ d < many ∧ F__law_taken [.obj 0, .int many] (R :: Z) = .ok (.int d) (R' :: Z) := by
  obtain ⟨ns, i, s, r, rfl, h1, h2, h3⟩ := hR.ex
  obtain ⟨d, i', s', r', g1, g2, g3, g4, g5, g⟩ := taken (Z := Z) (ns := ns) (r := r) h1 h2 h3 hm hm2
  exact ⟨d, _, ⟨ns, i', s', r', rfl, g3, g4, g5⟩, g1, g2, g⟩
theorem purL_mem {xs : List D} (h : purL xs = true) : ∀ x ∈ xs, pur x = true := by
  induction xs with
  | nil => intro x hx; cases hx
  | cons y ys ih =>
    have h' := Bool.and_eq_true_iff.mp h
    intro x hx
    rcases List.mem_cons.mp hx with rfl | hx
    · exact h'.1
    · exact ih h'.2 x hx
theorem pickR {R : SO} {Z : Store} {xs : List D} (hR : RowOk R) (h0 : 0 < xs.length) (h1 : xs.length < 1000000) (hp : purL xs = true) :
    ∃ x R', RowOk R' ∧ x ∈ xs ∧ F__law_pick [.obj 0, .lst xs] (R :: Z) = .ok x (R' :: Z) := by
  obtain ⟨d, R', hR', d0, d1, e⟩ := takenR (Z := Z) (many := (xs.length : Int)) hR (by omega) (by omega)
  obtain ⟨k, rfl⟩ : ∃ k : Nat, d = (k : Int) := ⟨d.toNat, by omega⟩
  have hk : k < xs.length := by omega
  have px : pur xs[k] = true := purL_mem hp _ (List.getElem_mem hk)
  refine ⟨xs[k], R', hR', List.getElem_mem hk, ?_⟩
  have ea : atI xs (k : Int) = some xs[k] := by simp [atI, ixN, hk]
  have rd : ∀ S' : Store, retD (Z.length + 1) xs[k] S' = .ok xs[k] (S'.take (Z.length + 1)) := fun S' => by
    unfold retD
    split
    · rename_i l e
      rw [e] at px
      cases px
    · rw [if_pos px]
  simp [F__law_pick, b__law_pick, runF, start0, sCons, f2, fVar, fC, gIx, seqOf, items, fCall, fCallF, fCons, fNil, gLen, sRet, e, ea, rd]
end KL

set_option Elab.async false
set_option linter.all false
set_option maxRecDepth 100000
set_option maxHeartbeats 4000000
/-! KR: big-step readings of the meanings. -/
namespace KL
open PySem PySem.Spec PyProof.Rows L2 DL KA
theorem ev2 {g : G2} {fa fb : FE} {ρ : Ev} {S S1 S2 : Store} {d e : D} {r : Res D} (h1 : fa ρ S = .ok d S1) (h2 : fb ρ S1 = .ok e S2) (h3 : g d e S2 = r) : f2 g fa fb ρ S = r := by
  unfold f2; rw [h1, Res.bind_ok, h2, Res.bind_ok, h3]
theorem evB2 {f : FE} {ρ : Ev} {S S1 : Store} {b : Bool} (h : f ρ S = .ok (.bl b) S1) : asB f ρ S = .ok b S1 := by
  unfold asB; rw [h]; rfl
theorem evNil {ρ : Ev} {S : Store} : fNil ρ S = .ok [] S := rfl
theorem evCons {f : FE} {g : FL} {ρ : Ev} {S S1 S2 : Store} {d : D} {ds : List D} (h1 : f ρ S = .ok d S1) (h2 : g ρ S1 = .ok ds S2) : fCons f g ρ S = .ok (d :: ds) S2 := by
  unfold fCons; rw [h1, Res.bind_ok, h2]; rfl
theorem evCall {g : GL} {fs : FL} {ρ : Ev} {S S1 : Store} {ds : List D} {r : Res D} (h1 : fs ρ S = .ok ds S1) (h2 : g ds S1 = r) : fCall g fs ρ S = r := by
  unfold fCall; rw [h1, Res.bind_ok, h2]
theorem evCallF {F : GF} {fs : FL} {ρ : Ev} {S S1 : Store} {ds : List D} {r : Res D} (h1 : fs ρ S = .ok ds S1) (h2 : F ds S1 = r) : fCallF F fs ρ S = r := by
  unfold fCallF; rw [h1, Res.bind_ok, h2]
theorem evTup {fs : FL} {ρ : Ev} {S S1 : Store} {ds : List D} (h1 : fs ρ S = .ok ds S1) (hl : ds.length ≤ 1000) : fTup fs ρ S = .ok (.tup ds) S1 := by
  unfold fTup; rw [h1, Res.bind_ok]; exact if_pos (by unfold lineN; omega)
theorem evLst {fs : FL} {ρ : Ev} {S S1 : Store} {ds : List D} (h1 : fs ρ S = .ok ds S1) (hl : ds.length ≤ 1000) : fLst fs ρ S = .ok (.lst ds) S1 := by
  unfold fLst; rw [h1, Res.bind_ok]; exact if_pos (by unfold lineN; omega)
theorem stNext {f g : FS} {ρ ρ1 : Ev} {S S1 : Store} {o : Out} (h1 : f ρ S = .nx ρ1 S1) (h2 : g ρ1 S1 = o) : sCons f g ρ S = o := by
  unfold sCons; rw [h1, Out.next_nx, h2]
theorem stStop {f g : FS} {ρ : Ev} {S S1 : Store} {d : D} (h1 : f ρ S = .rt d S1) : sCons f g ρ S = .rt d S1 := by
  unfold sCons; rw [h1]; rfl
theorem stRet {f : FE} {ρ : Ev} {S S1 : Store} {d : D} (h : f ρ S = .ok d S1) : sRet f ρ S = .rt d S1 := by
  unfold sRet; rw [h]; rfl
def notRow : D → Bool
  | .row _ => false
  | _ => true
theorem pName_ok {i : Nat} {d : D} {ρ : Ev} {S : Store} (h : notRow d = true) : pName i d ρ S = .ok (ρ.set i (some d)) S := by
  cases d <;> first | rfl | cases h
theorem stAsg {f : FE} {i : Nat} {ρ : Ev} {S S1 : Store} {d : D} (h : f ρ S = .ok d S1) (hn : notRow d = true := by rfl) : sAsg f (pName i) ρ S = .nx (ρ.set i (some d)) S1 := by
  unfold sAsg; rw [h, Res.out_ok, pName_ok hn]; rfl
theorem stIfT {c : FT} {f g : FS} {ρ : Ev} {S S1 : Store} {o : Out} (h : c ρ S = .ok true S1) (h2 : f ρ S1 = o) : sIf c f g ρ S = o := by
  unfold sIf; rw [h, Res.out_ok]; exact h2
theorem stIfF {c : FT} {f g : FS} {ρ : Ev} {S S1 : Store} {o : Out} (h : c ρ S = .ok false S1) (h2 : g ρ S1 = o) : sIf c f g ρ S = o := by
  unfold sIf; rw [h, Res.out_ok]; exact h2
theorem runRt {n m : Nat} {body : FS} {ds : List D} {S S1 S2 : Store} {d : D} (hl : ds.length = n) (hb : body (start0 m ds) S = .rt d S1) (hp : pur d = true) (hS : S1.take S.length = S2) : runF n m body ds S = .ok d S2 := by
  unfold runF
  rw [if_pos hl, hb]
  show retD S.length d S1 = _
  unfold retD
  split
  · cases hp
  · rw [if_pos hp, hS]
theorem r1_ok {fs : FL} {ρ : Ev} {S : Store} {n : Nat} (h : fs ρ S = .ok [.int (n : Int)] S) (hn : n ≤ 1000000) : iR1 fs ρ S = .ok (upto 0 n) S := by
  unfold iR1
  rw [h, Res.bind_ok]
  have z : -bigN ≤ (n : Int) ∧ (n : Int) < bigN := ⟨by unfold bigN; omega, by unfold bigN; omega⟩
  simp only [z, and_self, if_true, Int.toNat_natCast]
theorem takeS (S : Store) : S.take S.length = S := List.take_length
end KL

set_option Elab.async false
set_option linter.all false
set_option maxRecDepth 100000
set_option maxHeartbeats 4000000
/-! KL3: comprehensions read plainly. -/
namespace KL
open PySem PySem.Spec PyProof.Rows L2 DL KA
theorem get_end {S0 : Store} {x : SO} : (S0 ++ [x])[S0.length]? = some x := by simp
theorem set_end {S0 : Store} {x y : SO} : (S0 ++ [x]).set S0.length y = S0 ++ [y] := by simp
theorem take_end {S0 : Store} {x : SO} : (S0 ++ [x]).take S0.length = S0 := by simp
theorem append_end {S0 : Store} {acc : List D} {y : D} (hp : pur y = true) (hl : acc.length < lineN) : appendTo S0.length y (S0 ++ [.lst acc]) = some (S0 ++ [.lst (acc ++ [y])]) := by
  unfold appendTo
  rw [get_end]
  simp only
  rw [if_pos ⟨hp, hl⟩, set_end]
/-- a turn that leaves the store as it is -/
def Turn (S0 : Store) (p : FC) (t : FT) (e : FE) (ρ : Ev) (d : D) (ys : List D) : Prop := ∃ ρ1, p d ρ = some ρ1 ∧ ∀ acc : List D,
  (t ρ1 (S0 ++ [.lst acc]) = .ok false (S0 ++ [.lst acc]) ∧ ys = []) ∨ (t ρ1 (S0 ++ [.lst acc]) = .ok true (S0 ++ [.lst acc]) ∧ ∃ y, e ρ1 (S0 ++ [.lst acc]) = .ok y (S0 ++ [.lst acc]) ∧ pur y = true ∧ ys = [y])
theorem lc_pure {S0 : Store} {p : FC} {t : FT} {e : FE} {ρ : Ev} {f : D → List D} : ∀ (ds : List D) (acc : List D), (∀ d ∈ ds, Turn S0 p t e ρ d (f d)) → acc.length + ds.length < lineN → lcRun S0.length p t e ρ ds (S0 ++ [.lst acc]) = .ok (.lst (acc ++ ds.flatMap f)) S0
  | [], acc, _, _ => by
    unfold lcRun
    rw [get_end]
    simp only
    rw [take_end, List.flatMap_nil, List.append_nil]
  | d :: ds, acc, h, hl => by
    obtain ⟨ρ1, hp, ht⟩ := h d List.mem_cons_self
    rw [List.length_cons] at hl
    unfold lcRun
    rw [hp]
    simp only
    rcases ht acc with ⟨h1, h2⟩ | ⟨h1, y, h2, h3, h4⟩
    · rw [h1, List.flatMap_cons, h2, List.nil_append]
      exact lc_pure ds acc (fun x hx => h x (List.mem_cons_of_mem _ hx)) (by omega)
    · rw [h1, List.flatMap_cons, h4]
      simp only [Res.noX, Res.bind_ok, if_true]
      rw [h2]
      simp only [Res.noX, Res.bind_ok]
      rw [append_end h3 (by omega)]
      simp only
      rw [lc_pure ds (acc ++ [y]) (fun x hx => h x (List.mem_cons_of_mem _ hx)) (by rw [List.length_append, List.length_singleton]; omega), List.append_assoc]
theorem fLc_pure {S0 : Store} {vs : List Nat} {fi : FI} {p : FC} {t : FT} {e : FE} {ρ : Ev} {f : D → List D} {ds : List D} (hi : fi ρ S0 = .ok ds S0) (h : ∀ d ∈ ds, Turn S0 p t e (wipeE ρ vs) d (f d)) (hl : ds.length < lineN) : fLc vs fi p t e ρ S0 = .ok (.lst (ds.flatMap f)) S0 := by
  unfold fLc
  rw [hi, Res.bind_ok]
  exact lc_pure ds [] h (by simpa using hl)
/-- turns that draw: every one takes a good store to a good store -/
theorem lc_eff {Pr : Store → Prop} {Qd : D → Prop} {n : Nat} {p : FC} {e : FE} {ρ : Ev} : ∀ (ds : List D) (S0 : Store) (acc : List D), S0.length = n → Pr S0 →
    (∀ d ∈ ds, ∃ ρ1, p d ρ = some ρ1 ∧ ∀ (S : Store) (acc : List D), S.length = n → Pr S → ∃ y S', S'.length = n ∧ Pr S' ∧ Qd y ∧ pur y = true ∧ e ρ1 (S ++ [.lst acc]) = .ok y (S' ++ [.lst acc])) → acc.length + ds.length < lineN →
    ∃ ys S', S'.length = n ∧ Pr S' ∧ ys.length = ds.length ∧ (∀ y ∈ ys, Qd y) ∧ lcRun n p fYes e ρ ds (S0 ++ [.lst acc]) = .ok (.lst (acc ++ ys)) S'
  | [], S0, acc, hn, hP, _, _ => by
    subst hn
    refine ⟨[], S0, rfl, hP, rfl, (fun y hy => by cases hy), ?_⟩
    unfold lcRun
    rw [get_end]
    simp only
    rw [take_end, List.append_nil]
  | d :: ds, S0, acc, hn, hP, h, hl => by
    obtain ⟨ρ1, hp, ht⟩ := h d List.mem_cons_self
    obtain ⟨y, S', hn', hP', hq, py, he⟩ := ht S0 acc hn hP
    rw [List.length_cons] at hl
    obtain ⟨ys, S2, g1, g2, g3, g4, g5⟩ := lc_eff ds S' (acc ++ [y]) hn' hP' (fun x hx => h x (List.mem_cons_of_mem _ hx)) (by rw [List.length_append, List.length_singleton]; omega)
    refine ⟨y :: ys, S2, g1, g2, by rw [List.length_cons, List.length_cons, g3], fun z hz => ?_, ?_⟩
    · rcases List.mem_cons.mp hz with rfl | hz
      · exact hq
      · exact g4 z hz
    · unfold lcRun
      rw [hp]
      simp only [fYes, Res.noX, Res.bind_ok, if_true]
      rw [he]
      simp only [Res.noX, Res.bind_ok]
      have ea : appendTo n y (S' ++ [.lst acc]) = some (S' ++ [.lst (acc ++ [y])]) := by rw [← hn']; exact append_end py (by omega)
      rw [ea]
      simp only
      rw [g5, List.append_assoc]
      rfl
end KL

set_option Elab.async false
set_option linter.all false
set_option maxRecDepth 4000
set_option maxHeartbeats 4000000
/-! KR2: more big-step readings. -/
namespace KL
open PySem PySem.Spec PyProof.Rows L2 DL KA
section
variable {S S1 S2 S3 : Store} {ρ ρ1 : Ev}
theorem gen0 {p : Prop} (h : p) : p := h
theorem evIfT {c : FT} {f g : FE} {r : Res D} (h : c ρ S = .ok true S1) (h2 : f ρ S1 = r) : fIf c f g ρ S = r := by unfold fIf; rw [h]; exact h2
theorem evIfF {c : FT} {f g : FE} {r : Res D} (h : c ρ S = .ok false S1) (h2 : g ρ S1 = r) : fIf c f g ρ S = r := by unfold fIf; rw [h]; exact h2
theorem evNot {f : FT} {b : Bool} (h : f ρ S = .ok b S1) : fNotT f ρ S = .ok (!b) S1 := by unfold fNotT; rw [h]; rfl
theorem evNotF {f : FT} (h : f ρ S = .ok true S1) : fNotT f ρ S = .ok false S1 := by unfold fNotT; rw [h]; rfl
theorem evNotT {f : FT} (h : f ρ S = .ok false S1) : fNotT f ρ S = .ok true S1 := by unfold fNotT; rw [h]; rfl
theorem evOrF {f g : FT} {r : Res Bool} (h : f ρ S = .ok false S1) (h2 : g ρ S1 = r) : fOrT f g ρ S = r := by unfold fOrT; rw [h]; exact h2
theorem evOrT {f g : FT} (h : f ρ S = .ok true S1) : fOrT f g ρ S = .ok true S1 := by unfold fOrT; rw [h]; rfl
theorem evAndT {f g : FT} {r : Res Bool} (h : f ρ S = .ok true S1) (h2 : g ρ S1 = r) : fAndT f g ρ S = r := by unfold fAndT; rw [h]; exact h2
theorem evAndF {f g : FT} (h : f ρ S = .ok false S1) : fAndT f g ρ S = .ok false S1 := by unfold fAndT; rw [h]; rfl
theorem evA {f g : FE} {r : Res D} (h : f ρ S = .ok (.bl true) S1) (h2 : g ρ S1 = r) : fAnd f g ρ S = r := by unfold fAnd; rw [h]; exact h2
theorem evAF {f g : FE} (h : f ρ S = .ok (.bl false) S1) : fAnd f g ρ S = .ok (.bl false) S1 := by unfold fAnd; rw [h]; rfl
theorem evFld {k : Nat} {f : FE} {d : D} {r : Res D} (h : f ρ S = .ok d S1) (h2 : gFld k d S1 = r) : fFld k f ρ S = r := by unfold fFld; rw [h]; exact h2
theorem evMthL {g : GM} {fo : FE} {fs : FL} {d : D} {ds : List D} {r : Res D} (h : fo ρ S = .ok d S1) (hl : isL d S1 = true) (h2 : fs ρ S1 = .ok ds S2) (h3 : g d ds S2 = r) : fMthL g fo fs ρ S = r := by
  unfold fMthL; rw [h, Res.bind_ok, if_pos hl, h2, Res.bind_ok, h3]
theorem evSl {f : FE} {lo hi : FO} {d : D} {a b : Option Int} {r : Res D} (h : f ρ S = .ok d S1) (h1 : lo ρ S1 = .ok a S2) (h2 : hi ρ S2 = .ok b S3) (h3 : gSl d a b S3 = r) : fSl f lo hi ρ S = r := by
  unfold fSl; rw [h, Res.bind_ok, h1, Res.bind_ok, h2, Res.bind_ok, h3]
theorem evSome {f : FE} {i : Int} (h : f ρ S = .ok (.int i) S1) : oSome f ρ S = .ok (some i) S1 := by unfold oSome; rw [h]; rfl
theorem evMeth {c : Nat} {F : GF} {fo : FE} {fs : FL} {fl : List (Nat × D)} {ds : List D} {r : Res D} (h : fo ρ S = .ok (.ins c fl) S1) (h1 : fs ρ S1 = .ok ds S2) (h2 : F (.ins c fl :: ds) S2 = r) : fMeth c F fo fs ρ S = r := by
  unfold fMeth; rw [h, Res.bind_ok]; simp only [if_true]; rw [h1, Res.bind_ok, h2]
theorem evMake {c : Nat} {F : GF} {fs : FL} {ds : List D} {r : Res D} (h1 : fs ρ S = .ok ds S1) (h2 : makeD c F ds S1 = r) : fMake c F fs ρ S = r := by
  unfold fMake; rw [h1, Res.bind_ok, h2]
theorem stPar {i j : Nat} {g : FL} {x y : D} (h : g ρ S = .ok [x, y] S1) : sPar i j g ρ S = .nx ((ρ.set i (some x)).set j (some y)) S1 := by unfold sPar; rw [h]; rfl
theorem stPar3 {i j k : Nat} {g : FL} {x y z : D} (h : g ρ S = .ok [x, y, z] S1) : sPar3 i j k g ρ S = .nx (((ρ.set i (some x)).set j (some y)).set k (some z)) S1 := by unfold sPar3; rw [h]; rfl
theorem stFor {fi : FI} {p : FG} {body : FS} {ds : List D} {o : Out} (h : fi ρ S = .ok ds S1) (h2 : loopS p body ds ρ S1 = o) : sFor fi p body ρ S = o := by unfold sFor; rw [h]; exact h2
theorem stExpr {f : FE} {d : D} (h : f ρ S = .ok d S1) : sExpr f ρ S = .nx ρ S1 := by unfold sExpr; rw [h]; rfl
theorem stIfNx {c : FT} {f g : FS} {b : Bool} {o : Out} (h : c ρ S = .ok b S1) (h2 : (if b = true then f ρ S1 else g ρ S1) = o) : sIf c f g ρ S = o := by unfold sIf; rw [h]; exact h2
/-- a test that fails: `if c: return False` is passed by -/
theorem stSkip {c : FT} {f : FS} (h : c ρ S = .ok false S1) : sIf c f sNil ρ S = .nx ρ S1 := by unfold sIf; rw [h]; rfl
theorem evLst0 : fLst fNil ρ S = .ok (.lst []) S := id rfl
theorem evTup0 : fTup fNil ρ S = .ok (.tup []) S := id rfl
theorem evVar {i : Nat} {d : D} (h : ρ[i]? = some (some d)) : fVar i ρ S = .ok d S := by unfold fVar; rw [h]
end
end KL

set_option Elab.async false
set_option linter.all false
set_option maxRecDepth 100000
set_option pp.maxSteps 400
set_option maxHeartbeats 4000000
namespace KL
open PySem PySem.Spec PyProof.Rows L2 DL KA
abbrev VALS : List D := [.non, .bl true, .int 0, .int 7, .int 10000000000000000000000000000000000000000, .str "ann", .tup [.int 1, .int 2], .lst [.int 1], .int (-3), .str ""]
abbrev e1 (ns : List Int) : Ev := [some (.scr ns), some (.obj 0), none, none, none, none, none]
abbrev e2 (ns : List Int) (v : D) : Ev := [some (.scr ns), some (.obj 0), some v, none, none, none, none]
abbrev CS (v : D) : List (Nat × List (Nat × D)) := [(0, [(1, v), (0, .str "bowl")]), (1, [(2, v)]), (2, [(3, v)]), (3, [(1, v)]), (4, [(1, v)]), (5, [(4, v)]), (6, [(4, v)])]
abbrev MADE (v : D) : D := .lst ((CS v).map fun p => .err p.1 p.2)
abbrev e3 (ns : List Int) (v : D) : Ev := [some (.scr ns), some (.obj 0), some v, some (MADE v), none, none, none]
abbrev e4 (ns : List Int) (v : D) : Ev := [some (.scr ns), some (.obj 0), some v, some (MADE v), some (.lst [v, v, v, v, v, v, v]), none, none]
theorem l0_ok (ns : List Int) : l0 (start0 7 [D.scr ns]) [] = .nx (e1 ns) [rw_ ns 0 7000 0] := rfl
theorem vals_ok (ns : List Int) (S : Store) : fLst (fCons (fC .non) (fCons (fC (.bl true)) (fCons (fC (.int 0)) (fCons (fC (.int 7)) (fCons (f2 gPow (fC (.int 10)) (fC (.int 40))) (fCons (fC (.str "ann")) (fCons (fTup (fCons (fC (.int 1)) (fCons (fC (.int 2)) fNil))) (fCons (fLst (fCons (fC (.int 1)) fNil)) (fCons (fNeg (fC (.int 3))) (fCons (fC (.str "")) fNil)))))))))) (e1 ns) S = .ok (.lst VALS) S := rfl
theorem l2_ok (ns : List Int) (v : D) (S : Store) : l2 (e2 ns v) S = .nx (e3 ns v) S := rfl
theorem l3_ok (ns : List Int) (v : D) (S : Store) : l3 (e3 ns v) S = .nx (e4 ns v) S := rfl
end KL

set_option Elab.async false
set_option linter.all false
set_option maxRecDepth 4000
set_option pp.maxSteps 400
set_option maxHeartbeats 4000000
namespace KL
open PySem PySem.Spec PyProof.Rows L2 DL KA
def ref (c : Nat) (v : D) : D := match c with
  | 0 => .tup [.str "BadPart", .str "bowl", v]
  | 1 => .tup [.str "BadNumber", v]
  | 2 => .tup [.str "Unknown", v]
  | 3 => .tup [.str "BadCourse", v]
  | 4 => .tup [.str "BadChange", v]
  | 5 => .tup [.str "BadText", v]
  | 6 => .tup [.str "BadLine", v]
  | 7 => .tup [.str "BadClaim"]
  | _ => .tup [.str "NothingDone"]
section
variable {S S1 S2 S3 : Store} {ρ ρ1 : Ev} {x v : D} {c : Nat} {fs : List (Nat × D)}
theorem evXf {k : Nat} {f : FE} {w : D} (h : f ρ S = .ok x S1) (hx : isErr x = some (c, fs)) (hc : c < 9) (hl : fs.lookup k = some w) : fXf 9 k f ρ S = .ok w S1 := by
  unfold fXf; rw [h, Res.bind_ok, hx]; simp only; rw [if_pos hc, hl]
theorem isx_c {k : Nat} (hx : isErr x = some (c, fs)) (hc : c < 9) (hk : k < 9) : gIsX ansE basE [x, .fn k] S = .ok (.bl (c == k)) S := by
  unfold gIsX ansE; simp only; rw [hx]; simp only; rw [if_pos ⟨hc, hk⟩]
theorem isx_9 (hx : isErr x = some (c, fs)) (hc : c < 9) : gIsX ansE basE [x, .fn 9] S = .ok (.bl true) S := by
  unfold gIsX ansE; simp only; rw [hx]; simp only; rw [if_neg (fun z => absurd z.2 (by decide)), if_pos ⟨hc, trivial⟩]
theorem isx_v (hx : isErr x = some (c, fs)) (hc : c < 9) : gIsX ansE basE [x, .ty "ValueError"] S = .ok (.bl true) S := by
  unfold gIsX basE; simp only; rw [hx]; simp only; rw [if_pos ⟨hc, trivial⟩]
def kindsD : List D := [.str "BadPart", .str "BadNumber", .str "Unknown", .str "BadCourse", .str "BadChange", .str "BadText", .str "BadLine", .str "BadClaim", .str "NothingDone"]
def marksD (c : Nat) : List D := [.bl (c == 0), .bl (c == 1), .bl (c == 2), .bl (c == 3), .bl (c == 4), .bl (c == 5), .bl (c == 6), .bl (c == 7), .bl (c == 8)]
theorem marks_eq {o q r : Option D} (hx : isErr x = some (c, fs)) (hc : c < 9) : fLst (fCons (fCall (gIsX ansE basE) (fCons (fVar 0) (fCons (fC (.fn 0)) fNil))) (fCons (fCall (gIsX ansE basE) (fCons (fVar 0) (fCons (fC (.fn 1)) fNil))) (fCons (fCall (gIsX ansE basE) (fCons (fVar 0) (fCons (fC (.fn 2)) fNil))) (fCons (fCall (gIsX ansE basE) (fCons (fVar 0) (fCons (fC (.fn 3)) fNil))) (fCons (fCall (gIsX ansE basE) (fCons (fVar 0) (fCons (fC (.fn 4)) fNil))) (fCons (fCall (gIsX ansE basE) (fCons (fVar 0) (fCons (fC (.fn 5)) fNil))) (fCons (fCall (gIsX ansE basE) (fCons (fVar 0) (fCons (fC (.fn 6)) fNil))) (fCons (fCall (gIsX ansE basE) (fCons (fVar 0) (fCons (fC (.fn 7)) fNil))) (fCons (fCall (gIsX ansE basE) (fCons (fVar 0) (fCons (fC (.fn 8)) fNil))) fNil))))))))) [some x, o, q, r] S = .ok (.lst (marksD c)) S := by
  have i : ∀ {k}, k < 9 → fCall (gIsX ansE basE) (fCons (fVar 0) (fCons (fC (.fn k)) fNil)) [some x, o, q, r] S = .ok (.bl (c == k)) S := fun {k} hk => evCall (evCons rfl (evCons rfl evNil)) (isx_c hx hc hk)
  exact evLst (evCons (i (by decide)) (evCons (i (by decide)) (evCons (i (by decide)) (evCons (i (by decide)) (evCons (i (by decide)) (evCons (i (by decide)) (evCons (i (by decide)) (evCons (i (by decide)) (evCons (i (by decide)) evNil))))))))) (Nat.le_of_ble_eq_true rfl)
theorem seq_of {a b : Str} {r : Bool} (h : deq (.str a) (.str b) = some r) : gEq (.str a) (.str b) S = .ok (.bl r) S := by unfold gEq; rw [h]
theorem in_of {d : D} {ds : List D} {r : Bool} (h1 : flatD d = true) (h2 : ds.all flatD = true) (h3 : (ds.any fun y => eqF y d) = r) : gIn false d (.tup ds) S = .ok (.bl r) S := by
  unfold gIn
  simp only [seqOf, h1, h2, h3, and_self, if_true, Bool.false_eq_true, if_false]
theorem refuse_head {o : Out} {nm : Str} (hx : isErr x = some (c, fs)) (hc : c < 9) (h1 : gCntB (.lst (marksD c)) [.bl true] S = .ok (.int 1) S) (h2 : gIdxB (.lst (marksD c)) [.bl true] S = .ok (.int c) S) (h3 : gIx (.lst kindsD) (.int c) S = .ok (.str nm) S)
    (h : (sCons (sIf (asB (f2 gEq (fVar 3) (fC (.str "BadPart")))) (sRet (fTup (fCons (fVar 3) (fCons (fXf 9 0 (fVar 0)) (fCons (fXf 9 1 (fVar 0)) fNil))))) sNil)
    (sCons (sIf (asB (f2 gEq (fVar 3) (fC (.str "BadNumber")))) (sRet (fTup (fCons (fVar 3) (fCons (fXf 9 2 (fVar 0)) fNil)))) sNil)
    (sCons (sIf (asB (f2 gEq (fVar 3) (fC (.str "Unknown")))) (sRet (fTup (fCons (fVar 3) (fCons (fXf 9 3 (fVar 0)) fNil)))) sNil)
    (sCons (sIf (asB (f2 (gIn false) (fVar 3) (fTup (fCons (fC (.str "BadText")) (fCons (fC (.str "BadLine")) fNil))))) (sRet (fTup (fCons (fVar 3) (fCons (fXf 9 4 (fVar 0)) fNil)))) sNil)
    (sCons (sIf (asB (f2 (gIn false) (fVar 3) (fTup (fCons (fC (.str "BadClaim")) (fCons (fC (.str "NothingDone")) fNil))))) (sRet (fTup (fCons (fVar 3) fNil))) sNil)
    (sRet (fTup (fCons (fVar 3) (fCons (fXf 9 1 (fVar 0)) fNil))))))))) [some x, some (.lst kindsD), some (.lst (marksD c)), some (.str nm)] S = o) : b__law_refusal [some x, none, none, none] S = o := by
  unfold b__law_refusal
  refine stNext (stAsg (d := .lst kindsD) (evLst (evCons rfl (evCons rfl (evCons rfl (evCons rfl (evCons rfl (evCons rfl (evCons rfl (evCons rfl (evCons rfl evNil))))))))) (Nat.le_of_ble_eq_true rfl)) rfl) ?_
  refine stNext (stAsg (d := .lst (marksD c)) (marks_eq hx hc) rfl) ?_
  refine stNext (stSkip (evOrF (evB2 (ev2 (evMthL rfl rfl (evCons rfl evNil) h1) rfl (show gNe (.int 1) (.int 1) S = .ok (.bl false) S from rfl))) (evNotF (evB2 (evCall (evCons rfl (evCons rfl evNil)) (isx_v hx hc)))))) ?_
  refine stNext (stAsg (ev2 rfl (evMthL rfl rfl (evCons rfl evNil) h2) h3) rfl) ?_
  exact h
theorem refuse0 (hx : isErr x = some (0, [(1, v), (0, .str "bowl")])) (hv : pur v = true) : F__law_refusal [x] S = .ok (ref 0 v) S := by
  unfold F__law_refusal
  refine runRt (S1 := S) rfl (refuse_head hx (by decide) rfl rfl rfl ?_) (by show (true && (true && (pur v && true))) = true; rw [hv]; rfl) (takeS S)
  exact stStop (stIfT (evB2 (ev2 rfl rfl (seq_of (by decide +kernel)))) (stRet (evTup (evCons rfl (evCons (evXf rfl hx (by decide) rfl) (evCons (evXf rfl hx (by decide) rfl) evNil))) (by simp))))
theorem refuse1 (hx : isErr x = some (1, [(2, v)])) (hv : pur v = true) : F__law_refusal [x] S = .ok (ref 1 v) S := by
  unfold F__law_refusal
  refine runRt (S1 := S) rfl (refuse_head hx (by decide) rfl rfl rfl ?_) (by show (true && (pur v && true)) = true; rw [hv]; rfl) (takeS S)
  exact stNext (stSkip (evB2 (ev2 rfl rfl (seq_of (by decide +kernel))))) (stStop (stIfT (evB2 (ev2 rfl rfl (seq_of (by decide +kernel)))) (stRet (evTup (evCons rfl (evCons (evXf rfl hx (by decide) rfl) evNil)) (by simp)))))
theorem refuse2 (hx : isErr x = some (2, [(3, v)])) (hv : pur v = true) : F__law_refusal [x] S = .ok (ref 2 v) S := by
  unfold F__law_refusal
  refine runRt (S1 := S) rfl (refuse_head hx (by decide) rfl rfl rfl ?_) (by show (true && (pur v && true)) = true; rw [hv]; rfl) (takeS S)
  exact stNext (stSkip (evB2 (ev2 rfl rfl (seq_of (by decide +kernel))))) (stNext (stSkip (evB2 (ev2 rfl rfl (seq_of (by decide +kernel))))) (stStop (stIfT (evB2 (ev2 rfl rfl (seq_of (by decide +kernel)))) (stRet (evTup (evCons rfl (evCons (evXf rfl hx (by decide) rfl) evNil)) (by simp))))))
theorem refuse3 (hx : isErr x = some (3, [(1, v)])) (hv : pur v = true) : F__law_refusal [x] S = .ok (ref 3 v) S := by
  unfold F__law_refusal
  refine runRt (S1 := S) rfl (refuse_head hx (by decide) rfl rfl rfl ?_) (by show (true && (pur v && true)) = true; rw [hv]; rfl) (takeS S)
  exact stNext (stSkip (evB2 (ev2 rfl rfl (seq_of (by decide +kernel))))) (stNext (stSkip (evB2 (ev2 rfl rfl (seq_of (by decide +kernel))))) (stNext (stSkip (evB2 (ev2 rfl rfl (seq_of (by decide +kernel))))) (stNext (stSkip (evB2 (ev2 rfl (evTup (evCons rfl (evCons rfl evNil)) (by simp)) (in_of rfl rfl (by decide +kernel))))) (stNext (stSkip (evB2 (ev2 rfl (evTup (evCons rfl (evCons rfl evNil)) (by simp)) (in_of rfl rfl (by decide +kernel))))) (stRet (evTup (evCons rfl (evCons (evXf rfl hx (by decide) rfl) evNil)) (by simp)))))))
theorem refuse4 (hx : isErr x = some (4, [(1, v)])) (hv : pur v = true) : F__law_refusal [x] S = .ok (ref 4 v) S := by
  unfold F__law_refusal
  refine runRt (S1 := S) rfl (refuse_head hx (by decide) rfl rfl rfl ?_) (by show (true && (pur v && true)) = true; rw [hv]; rfl) (takeS S)
  exact stNext (stSkip (evB2 (ev2 rfl rfl (seq_of (by decide +kernel))))) (stNext (stSkip (evB2 (ev2 rfl rfl (seq_of (by decide +kernel))))) (stNext (stSkip (evB2 (ev2 rfl rfl (seq_of (by decide +kernel))))) (stNext (stSkip (evB2 (ev2 rfl (evTup (evCons rfl (evCons rfl evNil)) (by simp)) (in_of rfl rfl (by decide +kernel))))) (stNext (stSkip (evB2 (ev2 rfl (evTup (evCons rfl (evCons rfl evNil)) (by simp)) (in_of rfl rfl (by decide +kernel))))) (stRet (evTup (evCons rfl (evCons (evXf rfl hx (by decide) rfl) evNil)) (by simp)))))))
theorem refuse5 (hx : isErr x = some (5, [(4, v)])) (hv : pur v = true) : F__law_refusal [x] S = .ok (ref 5 v) S := by
  unfold F__law_refusal
  refine runRt (S1 := S) rfl (refuse_head hx (by decide) rfl rfl rfl ?_) (by show (true && (pur v && true)) = true; rw [hv]; rfl) (takeS S)
  exact stNext (stSkip (evB2 (ev2 rfl rfl (seq_of (by decide +kernel))))) (stNext (stSkip (evB2 (ev2 rfl rfl (seq_of (by decide +kernel))))) (stNext (stSkip (evB2 (ev2 rfl rfl (seq_of (by decide +kernel))))) (stStop (stIfT (evB2 (ev2 rfl (evTup (evCons rfl (evCons rfl evNil)) (by simp)) (in_of rfl rfl (by decide +kernel)))) (stRet (evTup (evCons rfl (evCons (evXf rfl hx (by decide) rfl) evNil)) (by simp)))))))
theorem refuse6 (hx : isErr x = some (6, [(4, v)])) (hv : pur v = true) : F__law_refusal [x] S = .ok (ref 6 v) S := by
  unfold F__law_refusal
  refine runRt (S1 := S) rfl (refuse_head hx (by decide) rfl rfl rfl ?_) (by show (true && (pur v && true)) = true; rw [hv]; rfl) (takeS S)
  exact stNext (stSkip (evB2 (ev2 rfl rfl (seq_of (by decide +kernel))))) (stNext (stSkip (evB2 (ev2 rfl rfl (seq_of (by decide +kernel))))) (stNext (stSkip (evB2 (ev2 rfl rfl (seq_of (by decide +kernel))))) (stStop (stIfT (evB2 (ev2 rfl (evTup (evCons rfl (evCons rfl evNil)) (by simp)) (in_of rfl rfl (by decide +kernel)))) (stRet (evTup (evCons rfl (evCons (evXf rfl hx (by decide) rfl) evNil)) (by simp)))))))
theorem refuse7 (hx : isErr x = some (7, [])) (hv : pur v = true) : F__law_refusal [x] S = .ok (ref 7 v) S := by
  unfold F__law_refusal
  refine runRt (S1 := S) rfl (refuse_head hx (by decide) rfl rfl rfl ?_) rfl (takeS S)
  exact stNext (stSkip (evB2 (ev2 rfl rfl (seq_of (by decide +kernel))))) (stNext (stSkip (evB2 (ev2 rfl rfl (seq_of (by decide +kernel))))) (stNext (stSkip (evB2 (ev2 rfl rfl (seq_of (by decide +kernel))))) (stNext (stSkip (evB2 (ev2 rfl (evTup (evCons rfl (evCons rfl evNil)) (by simp)) (in_of rfl rfl (by decide +kernel))))) (stStop (stIfT (evB2 (ev2 rfl (evTup (evCons rfl (evCons rfl evNil)) (by simp)) (in_of rfl rfl (by decide +kernel)))) (stRet (evTup (evCons rfl evNil) (by simp))))))))
theorem refuse8 (hx : isErr x = some (8, [])) (hv : pur v = true) : F__law_refusal [x] S = .ok (ref 8 v) S := by
  unfold F__law_refusal
  refine runRt (S1 := S) rfl (refuse_head hx (by decide) rfl rfl rfl ?_) rfl (takeS S)
  exact stNext (stSkip (evB2 (ev2 rfl rfl (seq_of (by decide +kernel))))) (stNext (stSkip (evB2 (ev2 rfl rfl (seq_of (by decide +kernel))))) (stNext (stSkip (evB2 (ev2 rfl rfl (seq_of (by decide +kernel))))) (stNext (stSkip (evB2 (ev2 rfl (evTup (evCons rfl (evCons rfl evNil)) (by simp)) (in_of rfl rfl (by decide +kernel))))) (stStop (stIfT (evB2 (ev2 rfl (evTup (evCons rfl (evCons rfl evNil)) (by simp)) (in_of rfl rfl (by decide +kernel)))) (stRet (evTup (evCons rfl evNil) (by simp))))))))
end
end KL

set_option Elab.async false
set_option linter.all false
set_option maxRecDepth 100000
set_option pp.maxSteps 400
set_option pp.maxSteps 400
set_option pp.maxSteps 400
set_option pp.maxSteps 400
set_option pp.maxSteps 400
set_option pp.maxSteps 400
set_option pp.maxSteps 400
set_option maxHeartbeats 4000000
namespace KL
open PySem PySem.Spec PyProof.Rows L2 DL KA
abbrev CS9 (v : D) : List (Nat × List (Nat × D)) := [(0, [(1, v), (0, .str "bowl")]), (1, [(2, v)]), (2, [(3, v)]), (3, [(1, v)]), (4, [(1, v)]), (5, [(4, v)]), (6, [(4, v)]), (7, []), (8, [])]
def okd (d : D) : Bool := match toPy d with
  | some p => isPl d && canShow p && SeqAt.shaped (.str p.shown) && PyData.eqv (.str p.shown) (.str p.shown)
  | none => false
def okq (d : D) : Bool := match deq d (.tup [.str "other"]) with
  | some b => !b
  | none => false
theorem vals_good : (VALS.all fun v => okd v && pur v && notRow v && (List.range 9).all fun c => okd (ref c v) && okq (ref c v)) = true := by decide +kernel
structure Good (v : D) : Prop where
  ok : okd v = true
  pu : pur v = true
  nr : notRow v = true
  rf : ∀ c, c < 9 → okd (ref c v) = true ∧ okq (ref c v) = true
theorem good_of {v : D} (h : v ∈ VALS) : Good v := by
  have z := List.all_eq_true.mp vals_good v h
  simp only [Bool.and_eq_true] at z
  exact ⟨z.1.1.1, z.1.1.2, z.1.2, fun c hc => by
    have y := List.all_eq_true.mp z.2 c (List.mem_range.mpr hc)
    simpa only [Bool.and_eq_true] using y⟩
section
variable {S S1 : Store} {ρ ρ1 : Ev} {x v d : D} {c : Nat} {fs : List (Nat × D)}
theorem repr_ok (h : okd d = true) : ∃ z, gReprP [d] S = .ok (.str z) S ∧ deq (.str z) (.str z) = some true := by
  unfold okd at h
  split at h
  · rename_i p hp
    simp only [Bool.and_eq_true] at h
    obtain ⟨⟨⟨h1, h2⟩, h3⟩, h4⟩ := h
    refine ⟨p.shown, ?_, ?_⟩
    · unfold gReprP
      simp only [hp]
      rw [if_pos ⟨h1, h2⟩]
    · unfold deq
      simp only [toPy]
      rw [if_pos ⟨h3, h3⟩, h4]
  · cases h
theorem same_ok (h : okd d = true) : F__law_same [d, d] S = .ok (.bl true) S := by
  obtain ⟨z, h1, h2⟩ := repr_ok (S := S) h
  unfold F__law_same
  exact runRt (S1 := S) rfl (stRet (ev2 (evCall (evCons rfl evNil) h1) (evCall (evCons rfl evNil) h1) (seq_of h2))) rfl (takeS S)
theorem okq_deq (h : okq d = true) : deq d (.tup [.str "other"]) = some false := by
  unfold okq at h
  revert h
  generalize deq d (.tup [.str "other"]) = o
  intro h
  match o, h with
  | some false, _ => rfl
theorem ne_other (h : okq d = true) : gEq d (.tup [.str "other"]) S = .ok (.bl false) S := by
  unfold gEq
  rw [okq_deq h]
theorem cn {i : Nat} {d : D} {ρ : Ev} (h : notRow d = true) : cName i d ρ = some (ρ.set i (some d)) := by
  cases d <;> first | rfl | cases h
theorem nes_of {a b : Str} {r : Bool} (h : deq (.str a) (.str b) = some r) : gNe (.str a) (.str b) S = .ok (.bl (!r)) S := by unfold gNe; rw [h]
theorem l4_ok (ns : List Int) (g : Good v) : l4 (e4 ns v) S = .nx (e4 ns v) S := by
  unfold l4
  refine stSkip (evOrF (evB2 (ev2 (fLc_pure (f := fun _ => []) (ds := [v, v, v, v, v, v, v]) rfl (fun d hd => ?_) (show 7 < lineN from by decide)) evLst0 rfl)) (evB2 (ev2 (evXf (x := .err 0 [(1, v), (0, .str "bowl")]) rfl rfl (by decide) rfl) rfl (nes_of (a := "bowl") (b := "bowl") (r := true) (by decide +kernel)))))
  have e : d = v := by simpa using hd
  subst e
  refine ⟨[some (.scr ns), some (.obj 0), some d, some (MADE d), some (.lst [d, d, d, d, d, d, d]), some d, none], ?_, fun acc => .inl ⟨?_, rfl⟩⟩
  · exact (cn g.nr).trans rfl
  exact evNotF (evB2 (evCallF (ds := [d, d]) (evCons (S1 := S ++ [.lst acc]) (S2 := S ++ [.lst acc]) rfl (evCons (S1 := S ++ [.lst acc]) rfl evNil)) (same_ok g.ok)))
theorem lE_ok (ns : List Int) : lE (e4 ns v) S = .ok (.lst ((CS9 v).map fun p => .err p.1 p.2)) S := rfl
theorem lI_ok {r : D} (hx : isErr x = some (c, fs)) (hc : c < 9) (h : F__law_refusal [x] S = .ok r S) (hr : okq r = true) : lI [none, none, none, none, none, some x, none] S = .nx [none, none, none, none, none, some x, none] S := by
  unfold lI
  exact stSkip (evOrF (evNotF (evB2 (evCall (evCons rfl (evCons rfl evNil)) (isx_9 hx hc)))) (evOrF (evNotF (evB2 (evCall (evCons rfl (evCons rfl evNil)) (isx_v hx hc)))) (evB2 (ev2 (evCallF (evCons rfl evNil) h) rfl (ne_other hr)))))
theorem refused (g : Good v) (p : Nat × List (Nat × D)) (hp : p ∈ CS9 v) (hx : isErr x = some (p.1, p.2)) : p.1 < 9 ∧ F__law_refusal [x] S = .ok (ref p.1 v) S := by
  simp only [List.mem_cons, List.not_mem_nil, or_false] at hp
  rcases hp with rfl | rfl | rfl | rfl | rfl | rfl | rfl | rfl | rfl
  · exact ⟨show 0 < 9 from by decide, refuse0 hx g.pu⟩
  · exact ⟨show 1 < 9 from by decide, refuse1 hx g.pu⟩
  · exact ⟨show 2 < 9 from by decide, refuse2 hx g.pu⟩
  · exact ⟨show 3 < 9 from by decide, refuse3 hx g.pu⟩
  · exact ⟨show 4 < 9 from by decide, refuse4 hx g.pu⟩
  · exact ⟨show 5 < 9 from by decide, refuse5 hx g.pu⟩
  · exact ⟨show 6 < 9 from by decide, refuse6 hx g.pu⟩
  · exact ⟨show 7 < 9 from by decide, refuse7 hx g.pu⟩
  · exact ⟨show 8 < 9 from by decide, refuse8 hx g.pu⟩
theorem pure_cs (g : Good v) (p : Nat × List (Nat × D)) (hp : p ∈ CS9 v) : inE p.1 = true ∧ purF p.2 = true := by
  have a : (pur v && true) = true := by rw [g.pu]; rfl
  have b : (pur v && (true && true)) = true := by rw [g.pu]; rfl
  simp only [List.mem_cons, List.not_mem_nil, or_false] at hp
  rcases hp with rfl | rfl | rfl | rfl | rfl | rfl | rfl | rfl | rfl
  · exact ⟨rfl, b⟩
  · exact ⟨rfl, a⟩
  · exact ⟨rfl, a⟩
  · exact ⟨rfl, a⟩
  · exact ⟨rfl, a⟩
  · exact ⟨rfl, a⟩
  · exact ⟨rfl, a⟩
  · exact ⟨rfl, rfl⟩
  · exact ⟨rfl, rfl⟩
end
theorem law_ok (ns : List Int) : LawOk ns := by
  obtain ⟨v, R, _, hv, hp⟩ := pickR (R := rw_ ns 0 7000 0) (Z := []) (xs := VALS) ⟨ns, 0, 7000, 0, rfl, by decide, by decide, by decide⟩ (by decide) (by decide) rfl
  have g := good_of hv
  have s1 : l1 (e1 ns) [rw_ ns 0 7000 0] = .nx (e2 ns v) [R] := by
    unfold l1
    exact stAsg (evCallF (evCons rfl (evCons (vals_ok ns _) evNil)) hp) g.nr
  refine ⟨_, _, _, _, _, _, _, _, _, _, CS9 v, ?_, l0_ok ns, s1, l2_ok ns v _, l3_ok ns v _, l4_ok ns g, lE_ok ns, ?_, fun p hp => ?_⟩
  · rfl
  · show ([0, 1, 2, 3, 4, 5, 6, 7, 8] : List Nat).Nodup
    decide
  · obtain ⟨q1, q2⟩ := pure_cs g p hp
    obtain ⟨r1, r2⟩ := refused (S := [R]) (x := .err p.1 p.2) g p hp rfl
    obtain ⟨_, r3⟩ := refused (S := [R]) (x := .xcp p.1 p.2) g p hp rfl
    exact ⟨q1, q2, lI_ok rfl r1 r2 (g.rf _ r1).2, ref p.1 v, r3, same_ok (g.rf _ r1).1⟩
end KL

set_option Elab.async false
set_option linter.all false
set_option maxRecDepth 100000
set_option maxHeartbeats 4000000
namespace KA
open PySem PySem.Spec PyProof.Rows L2 DL
abbrev Fr := PySem.W.Frag
/-- a def of the top -/
def IsDef (K : Fr) (x : Str) (st : Stmt) (f : Addr) : Prop := PySem.W.nsIn K mainGlobals x = some (some (.ref f)) ∧ ∃ fd, Fun K x x st f fd
theorem def_mk {K : Fr} {x : Str} {st : Stmt} {f : Addr} {oc : Value} {od an : Option Addr} {osl : Array (Option Value)} {kV doc pm cdv ct : Value} (a : PySem.W.nsIn K mainGlobals x = some (some (.ref f)))
    (l : K.lookup f = some ⟨oc, od, .func (PySem.W.fnOf x x (defArgs st) (defBody st) (defScope st) .none kV doc pm an cdv ct), osl⟩) (c : PySem.W.codeIn K cdv x = true) (k : PySem.W.keepIn K (.ref f) = true) : IsDef K x st f := ⟨a, _, fun_mk l c k⟩
/-- a method of the class at C -/
def IsMeth (K : Fr) (C : Addr) (x q : Str) (st : Stmt) (f : Addr) : Prop := PySem.W.findIn K (.ref C) x = some (some (.ref f)) ∧ PySem.W.isFn K (.ref f) = true ∧ ∃ fd, Fun K x q st f fd
theorem meth_mk {K : Fr} {C : Addr} {x q : Str} {st : Stmt} {f : Addr} {oc : Value} {od an : Option Addr} {osl : Array (Option Value)} {kV doc pm cdv ct : Value} (a : PySem.W.findIn K (.ref C) x = some (some (.ref f))) (i : PySem.W.isFn K (.ref f) = true)
    (l : K.lookup f = some ⟨oc, od, .func (PySem.W.fnOf x q (defArgs st) (defBody st) (defScope st) .none kV doc pm an cdv ct), osl⟩) (c : PySem.W.codeIn K cdv q = true) (k : PySem.W.keepIn K (.ref f) = true) : IsMeth K C x q st f := ⟨a, i, _, fun_mk l c k⟩
/-- an own error at C, its init -/
def IsErr (P : Program) (K : Fr) (mg : Str → Option Value) (C : Addr) (q : Str) (st : Stmt) (ns : List Str) : Prop := ∃ (f cc cda : Addr) (dV kV doc pm ct : Value) (an : Option Addr), PySem.W.findIn K (.ref C) "__init__" = some (some (.ref f)) ∧ PySem.W.typeIn K (.ref f) = some (.type "function") ∧
  PySem.W.codeIn K (.ref cda) q = true ∧ SupF P K mg C f cc cda (PySem.W.ksFn "__init__" q (defArgs st) (defBody st) (defScope st) .none kV doc pm an (.ref cda) ct cc) "self" ∧ ∀ n, n ∈ ns → PySem.W.findIn K (.ref C) n = some none
theorem er_BadPart {P : Program} {w : World} {K : Fr} {mg : Str → Option Value} {base : Heap} {C : Addr} (hm : mg "BadPart" = some (.ref C)) (h : IsErr P K mg C "BadPart.__init__" ((clsB (top 2)).getD 0 (.Pass ⟨0, 0, 0, 0⟩)) ["part", "place"]) : ErrD P w K mg base "BadPart" C (([0, 1] : List Nat).map nmF) 1 := by
  obtain ⟨f, cc, cda, dV, kV, doc, pm, ct, an, iC, tI, hcd, S, nf⟩ := h
  refine ⟨S.ox, hm, f, _, ["self", "part", "place"], iC, tI, (fun s us _ hl => ?_), fn_super (k := 0) (N := ["self", "part", "place"]) ⟨rfl, rfl, rfl, by decide +kernel, rfl, by decide +kernel, by decide +kernel, by decide +kernel, rfl, rfl⟩ rfl S hcd (spE_len rfl) (fun env => rfl) fun A outer s H vs Q E h => err_rest2 rfl S.ox (nf _ (by simp)) (nf _ (by simp)) (pss_cons (ps_ost (pv 0) (pv 1)) (pss_one (ps_ost (pv 0) (pv 2)))) h⟩
  rw [List.append_nil] at hl ⊢
  match us, hl with
  | [_, _, _], _ => exact BindsTo.of_eq rfl
theorem er_BadNumber {P : Program} {w : World} {K : Fr} {mg : Str → Option Value} {base : Heap} {C : Addr} (hm : mg "BadNumber" = some (.ref C)) (h : IsErr P K mg C "BadNumber.__init__" ((clsB (top 3)).getD 0 (.Pass ⟨0, 0, 0, 0⟩)) ["value"]) : ErrD P w K mg base "BadNumber" C (([2] : List Nat).map nmF) 1 := by
  obtain ⟨f, cc, cda, dV, kV, doc, pm, ct, an, iC, tI, hcd, S, nf⟩ := h
  refine ⟨S.ox, hm, f, _, ["self", "value"], iC, tI, (fun s us _ hl => ?_), fn_super (k := 0) (N := ["self", "value"]) ⟨rfl, rfl, rfl, by decide +kernel, rfl, by decide +kernel, by decide +kernel, by decide +kernel, rfl, rfl⟩ rfl S hcd (spE_len rfl) (fun env => rfl) fun A outer s H vs Q E h => err_rest1 rfl S.ox (nf _ (by simp)) (pss_one (ps_ost (pv 0) (pv 1))) h⟩
  rw [List.append_nil] at hl ⊢
  match us, hl with
  | [_, _], _ => exact BindsTo.of_eq rfl
theorem er_Unknown {P : Program} {w : World} {K : Fr} {mg : Str → Option Value} {base : Heap} {C : Addr} (hm : mg "Unknown" = some (.ref C)) (h : IsErr P K mg C "Unknown.__init__" ((clsB (top 4)).getD 0 (.Pass ⟨0, 0, 0, 0⟩)) ["name"]) : ErrD P w K mg base "Unknown" C (([3] : List Nat).map nmF) 1 := by
  obtain ⟨f, cc, cda, dV, kV, doc, pm, ct, an, iC, tI, hcd, S, nf⟩ := h
  refine ⟨S.ox, hm, f, _, ["self", "name"], iC, tI, (fun s us _ hl => ?_), fn_super (k := 0) (N := ["self", "name"]) ⟨rfl, rfl, rfl, by decide +kernel, rfl, by decide +kernel, by decide +kernel, by decide +kernel, rfl, rfl⟩ rfl S hcd (spE_len rfl) (fun env => rfl) fun A outer s H vs Q E h => err_rest1 rfl S.ox (nf _ (by simp)) (pss_one (ps_ost (pv 0) (pv 1))) h⟩
  rw [List.append_nil] at hl ⊢
  match us, hl with
  | [_, _], _ => exact BindsTo.of_eq rfl
theorem er_BadCourse {P : Program} {w : World} {K : Fr} {mg : Str → Option Value} {base : Heap} {C : Addr} (hm : mg "BadCourse" = some (.ref C)) (h : IsErr P K mg C "BadCourse.__init__" ((clsB (top 5)).getD 0 (.Pass ⟨0, 0, 0, 0⟩)) ["place"]) : ErrD P w K mg base "BadCourse" C (([1] : List Nat).map nmF) 1 := by
  obtain ⟨f, cc, cda, dV, kV, doc, pm, ct, an, iC, tI, hcd, S, nf⟩ := h
  refine ⟨S.ox, hm, f, _, ["self", "place"], iC, tI, (fun s us _ hl => ?_), fn_super (k := 0) (N := ["self", "place"]) ⟨rfl, rfl, rfl, by decide +kernel, rfl, by decide +kernel, by decide +kernel, by decide +kernel, rfl, rfl⟩ rfl S hcd (spE_len rfl) (fun env => rfl) fun A outer s H vs Q E h => err_rest1 rfl S.ox (nf _ (by simp)) (pss_one (ps_ost (pv 0) (pv 1))) h⟩
  rw [List.append_nil] at hl ⊢
  match us, hl with
  | [_, _], _ => exact BindsTo.of_eq rfl
theorem er_BadChange {P : Program} {w : World} {K : Fr} {mg : Str → Option Value} {base : Heap} {C : Addr} (hm : mg "BadChange" = some (.ref C)) (h : IsErr P K mg C "BadChange.__init__" ((clsB (top 6)).getD 0 (.Pass ⟨0, 0, 0, 0⟩)) ["place"]) : ErrD P w K mg base "BadChange" C (([1] : List Nat).map nmF) 1 := by
  obtain ⟨f, cc, cda, dV, kV, doc, pm, ct, an, iC, tI, hcd, S, nf⟩ := h
  refine ⟨S.ox, hm, f, _, ["self", "place"], iC, tI, (fun s us _ hl => ?_), fn_super (k := 0) (N := ["self", "place"]) ⟨rfl, rfl, rfl, by decide +kernel, rfl, by decide +kernel, by decide +kernel, by decide +kernel, rfl, rfl⟩ rfl S hcd (spE_len rfl) (fun env => rfl) fun A outer s H vs Q E h => err_rest1 rfl S.ox (nf _ (by simp)) (pss_one (ps_ost (pv 0) (pv 1))) h⟩
  rw [List.append_nil] at hl ⊢
  match us, hl with
  | [_, _], _ => exact BindsTo.of_eq rfl
theorem er_BadText {P : Program} {w : World} {K : Fr} {mg : Str → Option Value} {base : Heap} {C : Addr} (hm : mg "BadText" = some (.ref C)) (h : IsErr P K mg C "BadText.__init__" ((clsB (top 7)).getD 0 (.Pass ⟨0, 0, 0, 0⟩)) ["line"]) : ErrD P w K mg base "BadText" C (([4] : List Nat).map nmF) 1 := by
  obtain ⟨f, cc, cda, dV, kV, doc, pm, ct, an, iC, tI, hcd, S, nf⟩ := h
  refine ⟨S.ox, hm, f, _, ["self", "line"], iC, tI, (fun s us _ hl => ?_), fn_super (k := 0) (N := ["self", "line"]) ⟨rfl, rfl, rfl, by decide +kernel, rfl, by decide +kernel, by decide +kernel, by decide +kernel, rfl, rfl⟩ rfl S hcd (spE_len rfl) (fun env => rfl) fun A outer s H vs Q E h => err_rest1 rfl S.ox (nf _ (by simp)) (pss_one (ps_ost (pv 0) (pv 1))) h⟩
  rw [List.append_nil] at hl ⊢
  match us, hl with
  | [_, _], _ => exact BindsTo.of_eq rfl
theorem er_BadLine {P : Program} {w : World} {K : Fr} {mg : Str → Option Value} {base : Heap} {C : Addr} (hm : mg "BadLine" = some (.ref C)) (h : IsErr P K mg C "BadLine.__init__" ((clsB (top 8)).getD 0 (.Pass ⟨0, 0, 0, 0⟩)) ["line"]) : ErrD P w K mg base "BadLine" C (([4] : List Nat).map nmF) 1 := by
  obtain ⟨f, cc, cda, dV, kV, doc, pm, ct, an, iC, tI, hcd, S, nf⟩ := h
  refine ⟨S.ox, hm, f, _, ["self", "line"], iC, tI, (fun s us _ hl => ?_), fn_super (k := 0) (N := ["self", "line"]) ⟨rfl, rfl, rfl, by decide +kernel, rfl, by decide +kernel, by decide +kernel, by decide +kernel, rfl, rfl⟩ rfl S hcd (spE_len rfl) (fun env => rfl) fun A outer s H vs Q E h => err_rest1 rfl S.ox (nf _ (by simp)) (pss_one (ps_ost (pv 0) (pv 1))) h⟩
  rw [List.append_nil] at hl ⊢
  match us, hl with
  | [_, _], _ => exact BindsTo.of_eq rfl
theorem er_BadClaim {P : Program} {w : World} {K : PySem.W.Frag} {mg : Str → Option Value} {base : Heap} {C : Addr} (hm : mg "BadClaim" = some (.ref C)) (h : IsErr P K mg C "BadClaim.__init__" ((clsB (top 9)).getD 0 (.Pass ⟨0, 0, 0, 0⟩)) []) : ErrD0 P w K mg base "BadClaim" C 1 := by
  obtain ⟨f, cc, cda, dV, kV, doc, pm, ct, an, iC, tI, hcd, S, nf⟩ := h
  refine ⟨S.ox, hm, f, _, ["self"], iC, tI, (fun s us _ hl => ?_), fn_super (k := 0) (N := ["self"]) ⟨rfl, rfl, rfl, by decide +kernel, rfl, by decide +kernel, by decide +kernel, by decide +kernel, rfl, rfl⟩ rfl S hcd (spE0_len rfl) (fun env => rfl) fun A outer s H vs Q E h => err_rest0 (K := K) h⟩
  rw [List.append_nil] at hl ⊢
  match us, hl with
  | [_], _ => exact BindsTo.of_eq rfl
theorem er_NothingDone {P : Program} {w : World} {K : PySem.W.Frag} {mg : Str → Option Value} {base : Heap} {C : Addr} (hm : mg "NothingDone" = some (.ref C)) (h : IsErr P K mg C "NothingDone.__init__" ((clsB (top 10)).getD 0 (.Pass ⟨0, 0, 0, 0⟩)) []) : ErrD0 P w K mg base "NothingDone" C 1 := by
  obtain ⟨f, cc, cda, dV, kV, doc, pm, ct, an, iC, tI, hcd, S, nf⟩ := h
  refine ⟨S.ox, hm, f, _, ["self"], iC, tI, (fun s us _ hl => ?_), fn_super (k := 0) (N := ["self"]) ⟨rfl, rfl, rfl, by decide +kernel, rfl, by decide +kernel, by decide +kernel, by decide +kernel, rfl, rfl⟩ rfl S hcd (spE0_len rfl) (fun env => rfl) fun A outer s H vs Q E h => err_rest0 (K := K) h⟩
  rw [List.append_nil] at hl ⊢
  match us, hl with
  | [_], _ => exact BindsTo.of_eq rfl
theorem err_mk {P : Program} {K : Fr} {h : Heap} {mg : Str → Option Value} (X : K.In h) (G : h.Ns mainGlobals mg) {C f cc cda : Addr} {q : Str} {st : Stmt} {ns : List Str}
    {nm q0 N bs bm sn sub0 ab col dd k0 k1 k2 k3 k5} (lC : K.lookup C = some (excClassObj nm q0 C N bs bm true sn sub0 ab col dd k0 k1 k2 k3 k5 "ValueError.__new__")) (rv : PySem.HandSPX.refsVE bm = true) (sa : PySem.W.findIn K (.ref C) "__setattr__" = some (some (.builtin "object.__setattr__")))
    (exC : PySem.W.subIn K (.ref C) (.type "BaseException") = some true) (tyC : PySem.W.typeIn K (.ref C) = some (.type "type")) (kC : PySem.W.keepIn K (.ref C) = true) (iC : PySem.W.findIn K (.ref C) "__init__" = some (some (.ref f))) (tI : PySem.W.typeIn K (.ref f) = some (.type "function"))
    {kV doc pm ct oc : Value} {an od : Option Addr} {osl : Array (Option Value)} (lf : K.lookup f = some ⟨oc, od, .func (PySem.W.ksFn "__init__" q (defArgs st) (defBody st) (defScope st) .none kV doc pm an (.ref cda) ct cc), osl⟩) (hcd : PySem.W.codeIn K (.ref cda) q = true)
    {ccl : Value} {cdd : Option Addr} {vs : Array Value} {ccs : Array (Option Value)} {file : Str} {tf : Tok} (lcd : K.lookup cda = some ⟨ccl, cdd, .fields vs, ccs⟩) (v2 : vs[2]? = some (.str file tf)) (pf : ((P.main.file : Str) == file) = true)
    {cl : Value} {cld : Option Addr} {csl : Array (Option Value)} (lcc : K.lookup cc = some ⟨cl, cld, .cell (some (.ref C)), csl⟩) (sub : PySem.W.mroIn K C (.ref C) = some true) (sup : PySem.W.ks_superIn K C C "__init__" = some (some (.builtin "ValueError.__init__")))
    (ve : PySem.W.subIn K (.ref C) (.type "ValueError") = some true) (any : PySem.W.nsIn K cStatics "thirdparty.any" = some none) (zs : PySem.W.nsIn K mainGlobals "super" = some none) (top : (P.main.scope.names.lookup ("super" : Str)).isSome = false)
    (par : ∃ ar : Arg, ((defArgs st).posonlyargs ++ (defArgs st).args).head? = some ar ∧ ar.arg = "self") (nf : (ns.all fun n => PySem.W.findIn K (.ref C) n == some none) = true) : IsErr P K mg C q st ns :=
  ⟨f, cc, cda, .none, kV, doc, pm, ct, an, iC, tI, hcd, ⟨⟨⟨nm, q0, N, bs, bm, sn, sub0, ab, col, dd, k0, k1, k2, k3, k5, lC, rv⟩, sa, exC, tyC, kC⟩, ⟨_, _, _, lf⟩, par, ⟨_, _, _, _, _, _, lcd, v2, pf⟩, ⟨_, _, _, lcc⟩, sub, sup, ve, any, PySem.W.mg_none_of X G zs, top⟩, fun n hn => eq_of_beq (List.all_eq_true.mp nf n hn)⟩
theorem allR {n : Nat} {p : Nat → Bool} (h : (List.range n).all p = true) : ∀ i, i < n → p i = true := fun i hi => List.all_eq_true.mp h i (List.mem_range.mpr hi)
theorem gc_int {T : Tb} {mg : Str → Option Value} {x : Str} {i : Int} {t : Tok} (h : mg x = some (.int i t)) : GcD T mg x (.int i) := ⟨.int i, _, h, ⟨t, rfl⟩, fun _ _ => .int i⟩
inductive Strs : List Value → List Str → Prop
  | nil : Strs [] []
  | cons {x : Str} {t : Tok} {us : List Value} {xs : List Str} : Strs us xs → Strs (.str x t :: us) (x :: xs)
theorem strs_vals {us : List Value} {xs : List Str} (h : Strs us xs) : Vals (xs.map V.str) us := by
  induction h with
  | nil => exact .nil
  | cons _ ih => exact .cons ⟨_, rfl⟩ ih
theorem strs_dvs {T : Tb} {μ : List Addr} {H : Hp} : ∀ xs : List Str, DVs T μ H (xs.map V.str) (xs.map D.str)
  | [] => .nil
  | x :: xs => .cons (.str x) (strs_dvs xs)
theorem gc_strs {T : Tb} {mg : Str → Option Value} {x : Str} {xs : List Str} {a : Addr} {us : List Value} {n : Nat} {sl : Array (Option Value)} (h : mg x = some (.ref a)) (l : T.K.lookup a = some ⟨.type "tuple", none, .seq us.toArray n, sl⟩) (hs : Strs us xs) (hz : us.length ≤ sizeLine) : GcD T mg x (.tup (xs.map D.str)) :=
  ⟨.ref a, _, h, rfl, fun μ H => .tup (.inr ⟨_, _, _, l, rfl, rfl, rfl, by rw [List.size_toArray]; exact hz, by simpa using strs_vals hs⟩) (strs_dvs xs)⟩
end KA

set_option Elab.async false
set_option linter.all false
set_option maxRecDepth 100000
set_option maxHeartbeats 4000000
namespace KA
open PySem PySem.Spec PyProof.Rows L2 DL
theorem mx_of {K : Fr} {h : Heap} {mg : Str → Option Value} (KX : K.In h) (G : h.Ns mainGlobals mg) {e0 e1 e2 e3 e4 e5 e6 e7 e8 e9 : Addr}
    (aE0 : PySem.W.nsIn K mainGlobals "BadPart" = some (some (.ref e0)))
    (aE1 : PySem.W.nsIn K mainGlobals "BadNumber" = some (some (.ref e1)))
    (aE2 : PySem.W.nsIn K mainGlobals "Unknown" = some (some (.ref e2)))
    (aE3 : PySem.W.nsIn K mainGlobals "BadCourse" = some (some (.ref e3)))
    (aE4 : PySem.W.nsIn K mainGlobals "BadChange" = some (some (.ref e4)))
    (aE5 : PySem.W.nsIn K mainGlobals "BadText" = some (some (.ref e5)))
    (aE6 : PySem.W.nsIn K mainGlobals "BadLine" = some (some (.ref e6)))
    (aE7 : PySem.W.nsIn K mainGlobals "BadClaim" = some (some (.ref e7)))
    (aE8 : PySem.W.nsIn K mainGlobals "NothingDone" = some (some (.ref e8)))
    (aE9 : PySem.W.nsIn K mainGlobals "ClockError" = some (some (.ref e9)))
    (z_len : PySem.W.nsIn K mainGlobals "len" = some none)
    (z_isinstance : PySem.W.nsIn K mainGlobals "isinstance" = some none)
    (z_int : PySem.W.nsIn K mainGlobals "int" = some none)
    (z_abs : PySem.W.nsIn K mainGlobals "abs" = some none)
    (z_sum : PySem.W.nsIn K mainGlobals "sum" = some none)
    (z_max : PySem.W.nsIn K mainGlobals "max" = some none)
    (z_min : PySem.W.nsIn K mainGlobals "min" = some none)
    (z_all : PySem.W.nsIn K mainGlobals "all" = some none)
    (z_tuple : PySem.W.nsIn K mainGlobals "tuple" = some none)
    (z_list : PySem.W.nsIn K mainGlobals "list" = some none)
    (z_range : PySem.W.nsIn K mainGlobals "range" = some none)
    (z_enumerate : PySem.W.nsIn K mainGlobals "enumerate" = some none)
    (z_zip : PySem.W.nsIn K mainGlobals "zip" = some none)
    (z_repr : PySem.W.nsIn K mainGlobals "repr" = some none)
    (z_bool : PySem.W.nsIn K mainGlobals "bool" = some none)
    (z_str : PySem.W.nsIn K mainGlobals "str" = some none)
    (z_ValueError : PySem.W.nsIn K mainGlobals "ValueError" = some none)
    (z_super : PySem.W.nsIn K mainGlobals "super" = some none)
    (x0 : PySem.W.specialIn K (.builtin "object.__class__") "__get__" = some (some (.builtin "getset_descriptor.__get__")))
    (xt : PySem.W.takesIn K (.builtin "object.__class__") = some true)
    (x1 : ((List.range 9).all fun c => (PySem.W.clsIn K ((fun i : Nat => ([e0, e1, e2, e3, e4, e5, e6, e7, e8, e9] : List Addr).getD i 0) c)).isSome) = true)
    (x2 : ((List.range 9).all fun c => PySem.W.findIn K (.ref ((fun i : Nat => ([e0, e1, e2, e3, e4, e5, e6, e7, e8, e9] : List Addr).getD i 0) c)) "__getattribute__" == some (some (.builtin "BaseException.__getattribute__"))) = true)
    (x3 : ((List.range 9).all fun c => PySem.W.findIn K (.ref ((fun i : Nat => ([e0, e1, e2, e3, e4, e5, e6, e7, e8, e9] : List Addr).getD i 0) c)) "__getattr__" == some none) = true)
    (x4 : ((List.range 9).all fun c => PySem.W.subIn K (.ref ((fun i : Nat => ([e0, e1, e2, e3, e4, e5, e6, e7, e8, e9] : List Addr).getD i 0) c)) (.type "BaseException") == some true) = true)
    (x5 : ((List.range 9).all fun c => PySem.W.hasDictIn K ((fun i : Nat => ([e0, e1, e2, e3, e4, e5, e6, e7, e8, e9] : List Addr).getD i 0) c)) = true)
    (x6 : ((List.range 9).all fun c => PySem.W.findIn K (.ref ((fun i : Nat => ([e0, e1, e2, e3, e4, e5, e6, e7, e8, e9] : List Addr).getD i 0) c)) "__class__" == some (some (.builtin "object.__class__"))) = true)
    (x7 : ((List.range 9).all fun c => PySem.W.mroIn K ((fun i : Nat => ([e0, e1, e2, e3, e4, e5, e6, e7, e8, e9] : List Addr).getD i 0) c) (.type "object") == some true) = true)
    (x8 : ((List.range 9).all fun c => (List.range 9).all fun d => PySem.W.kitOne K (.ref ((fun i : Nat => ([e0, e1, e2, e3, e4, e5, e6, e7, e8, e9] : List Addr).getD i 0) c)) (.ref ((fun i : Nat => ([e0, e1, e2, e3, e4, e5, e6, e7, e8, e9] : List Addr).getD i 0) d)) == some (c == d)) = true)
    (x9 : ((List.range 9).all fun c => PySem.W.kitOne K (.ref ((fun i : Nat => ([e0, e1, e2, e3, e4, e5, e6, e7, e8, e9] : List Addr).getD i 0) c)) (.type "ValueError") == some true) = true)
    (x10 : ((List.range 9).all fun c => nmL.all fun n => PySem.W.findIn K (.ref ((fun i : Nat => ([e0, e1, e2, e3, e4, e5, e6, e7, e8, e9] : List Addr).getD i 0) c)) n == some none) = true)
    (x11 : ((List.range 9).all fun c => PySem.W.exmOne K (.ref ((fun i : Nat => ([e0, e1, e2, e3, e4, e5, e6, e7, e8, e9] : List Addr).getD i 0) c)) (.ref ((fun i : Nat => ([e0, e1, e2, e3, e4, e5, e6, e7, e8, e9] : List Addr).getD i 0) 9)) == some true) = true)
    (x12 : ((List.range 9).all fun c => PySem.W.kitOne K (.ref ((fun i : Nat => ([e0, e1, e2, e3, e4, e5, e6, e7, e8, e9] : List Addr).getD i 0) c)) (.ref ((fun i : Nat => ([e0, e1, e2, e3, e4, e5, e6, e7, e8, e9] : List Addr).getD i 0) 9)) == some true) = true)
    (x13 : ((List.range 9).all fun c => PySem.W.typeIn K (.ref ((fun i : Nat => ([e0, e1, e2, e3, e4, e5, e6, e7, e8, e9] : List Addr).getD i 0) c)) == some (.type "type")) = true) : Mx K mg (tb K (fun _ : Nat => (0 : Addr)) (fun i : Nat => ([e0, e1, e2, e3, e4, e5, e6, e7, e8, e9] : List Addr).getD i 0)) :=
  { bn := { len := PySem.W.mg_none_of KX G z_len, isinstance := PySem.W.mg_none_of KX G z_isinstance, int := PySem.W.mg_none_of KX G z_int, abs := PySem.W.mg_none_of KX G z_abs, sum := PySem.W.mg_none_of KX G z_sum, max := PySem.W.mg_none_of KX G z_max, min := PySem.W.mg_none_of KX G z_min, all := PySem.W.mg_none_of KX G z_all, tuple := PySem.W.mg_none_of KX G z_tuple, list := PySem.W.mg_none_of KX G z_list, range := PySem.W.mg_none_of KX G z_range, enumerate := PySem.W.mg_none_of KX G z_enumerate, zip := PySem.W.mg_none_of KX G z_zip, repr := PySem.W.mg_none_of KX G z_repr, bool := PySem.W.mg_none_of KX G z_bool, str := PySem.W.mg_none_of KX G z_str }
    e_BadPart := PySem.W.mg_of KX G aE0
    e_BadNumber := PySem.W.mg_of KX G aE1
    e_Unknown := PySem.W.mg_of KX G aE2
    e_BadCourse := PySem.W.mg_of KX G aE3
    e_BadChange := PySem.W.mg_of KX G aE4
    e_BadText := PySem.W.mg_of KX G aE5
    e_BadLine := PySem.W.mg_of KX G aE6
    e_BadClaim := PySem.W.mg_of KX G aE7
    e_NothingDone := PySem.W.mg_of KX G aE8
    e_ClockError := PySem.W.mg_of KX G aE9
    nVE := PySem.W.mg_none_of KX G z_ValueError
    nRp := PySem.W.mg_none_of KX G z_repr
    xC := fun c hc => eq_of_beq (allR x11 c (of_decide_eq_true hc))
    xE := fun c hc => ⟨allR x1 c hc, eq_of_beq (allR x2 c hc), eq_of_beq (allR x3 c hc), eq_of_beq (allR x4 c hc), allR x5 c hc, eq_of_beq (allR x6 c hc), x0, xt, eq_of_beq (allR x7 c hc)⟩
    xT := fun c hc => eq_of_beq (allR x13 c hc)
    xB := fun c hc => eq_of_beq (allR x12 c hc)
    xK := fun c hc k hk => eq_of_beq (allR (allR x8 c hc) k hk)
    xV := fun c hc => eq_of_beq (allR x9 c hc)
    xF := fun c hc n hn => eq_of_beq (List.all_eq_true.mp (allR x10 c hc) n hn) }
theorem top_mk {w : World} {K : Fr} {h : Heap} {mg : Str → Option Value} {fa : Addr} (KX : K.In h) (G : h.Ns mainGlobals mg) (hmg : mg "law" = some (.ref fa)) (keeps : ∀ ns : List Int, ns.length ≤ 63 → LawOk ns) {e0 e1 e2 e3 e4 e5 e6 e7 e8 e9 f__law_taken f__law_pick f__law_same f__law_refusal f_law : Addr}
    (aE0 : PySem.W.nsIn K mainGlobals "BadPart" = some (some (.ref e0)))
    (aE1 : PySem.W.nsIn K mainGlobals "BadNumber" = some (some (.ref e1)))
    (aE2 : PySem.W.nsIn K mainGlobals "Unknown" = some (some (.ref e2)))
    (aE3 : PySem.W.nsIn K mainGlobals "BadCourse" = some (some (.ref e3)))
    (aE4 : PySem.W.nsIn K mainGlobals "BadChange" = some (some (.ref e4)))
    (aE5 : PySem.W.nsIn K mainGlobals "BadText" = some (some (.ref e5)))
    (aE6 : PySem.W.nsIn K mainGlobals "BadLine" = some (some (.ref e6)))
    (aE7 : PySem.W.nsIn K mainGlobals "BadClaim" = some (some (.ref e7)))
    (aE8 : PySem.W.nsIn K mainGlobals "NothingDone" = some (some (.ref e8)))
    (aE9 : PySem.W.nsIn K mainGlobals "ClockError" = some (some (.ref e9)))
    (z_len : PySem.W.nsIn K mainGlobals "len" = some none)
    (z_isinstance : PySem.W.nsIn K mainGlobals "isinstance" = some none)
    (z_int : PySem.W.nsIn K mainGlobals "int" = some none)
    (z_abs : PySem.W.nsIn K mainGlobals "abs" = some none)
    (z_sum : PySem.W.nsIn K mainGlobals "sum" = some none)
    (z_max : PySem.W.nsIn K mainGlobals "max" = some none)
    (z_min : PySem.W.nsIn K mainGlobals "min" = some none)
    (z_all : PySem.W.nsIn K mainGlobals "all" = some none)
    (z_tuple : PySem.W.nsIn K mainGlobals "tuple" = some none)
    (z_list : PySem.W.nsIn K mainGlobals "list" = some none)
    (z_range : PySem.W.nsIn K mainGlobals "range" = some none)
    (z_enumerate : PySem.W.nsIn K mainGlobals "enumerate" = some none)
    (z_zip : PySem.W.nsIn K mainGlobals "zip" = some none)
    (z_repr : PySem.W.nsIn K mainGlobals "repr" = some none)
    (z_bool : PySem.W.nsIn K mainGlobals "bool" = some none)
    (z_str : PySem.W.nsIn K mainGlobals "str" = some none)
    (z_ValueError : PySem.W.nsIn K mainGlobals "ValueError" = some none)
    (z_super : PySem.W.nsIn K mainGlobals "super" = some none)
    (d__law_taken : IsDef K "_law_taken" (top 12) f__law_taken)
    (d__law_pick : IsDef K "_law_pick" (top 13) f__law_pick)
    (d__law_same : IsDef K "_law_same" (top 14) f__law_same)
    (d__law_refusal : IsDef K "_law_refusal" (top 15) f__law_refusal)
    (d_law : IsDef K "law" (top 16) f_law)
    (err_BadPart : IsErr prg K mg e0 "BadPart.__init__" ((clsB (top 2)).getD 0 (.Pass ⟨0, 0, 0, 0⟩)) ["part", "place"])
    (err_BadNumber : IsErr prg K mg e1 "BadNumber.__init__" ((clsB (top 3)).getD 0 (.Pass ⟨0, 0, 0, 0⟩)) ["value"])
    (err_Unknown : IsErr prg K mg e2 "Unknown.__init__" ((clsB (top 4)).getD 0 (.Pass ⟨0, 0, 0, 0⟩)) ["name"])
    (err_BadCourse : IsErr prg K mg e3 "BadCourse.__init__" ((clsB (top 5)).getD 0 (.Pass ⟨0, 0, 0, 0⟩)) ["place"])
    (err_BadChange : IsErr prg K mg e4 "BadChange.__init__" ((clsB (top 6)).getD 0 (.Pass ⟨0, 0, 0, 0⟩)) ["place"])
    (err_BadText : IsErr prg K mg e5 "BadText.__init__" ((clsB (top 7)).getD 0 (.Pass ⟨0, 0, 0, 0⟩)) ["line"])
    (err_BadLine : IsErr prg K mg e6 "BadLine.__init__" ((clsB (top 8)).getD 0 (.Pass ⟨0, 0, 0, 0⟩)) ["line"])
    (err_BadClaim : IsErr prg K mg e7 "BadClaim.__init__" ((clsB (top 9)).getD 0 (.Pass ⟨0, 0, 0, 0⟩)) [])
    (err_NothingDone : IsErr prg K mg e8 "NothingDone.__init__" ((clsB (top 10)).getD 0 (.Pass ⟨0, 0, 0, 0⟩)) [])
    (x0 : PySem.W.specialIn K (.builtin "object.__class__") "__get__" = some (some (.builtin "getset_descriptor.__get__")))
    (xt : PySem.W.takesIn K (.builtin "object.__class__") = some true)
    (x1 : ((List.range 9).all fun c => (PySem.W.clsIn K ((fun i : Nat => ([e0, e1, e2, e3, e4, e5, e6, e7, e8, e9] : List Addr).getD i 0) c)).isSome) = true)
    (x2 : ((List.range 9).all fun c => PySem.W.findIn K (.ref ((fun i : Nat => ([e0, e1, e2, e3, e4, e5, e6, e7, e8, e9] : List Addr).getD i 0) c)) "__getattribute__" == some (some (.builtin "BaseException.__getattribute__"))) = true)
    (x3 : ((List.range 9).all fun c => PySem.W.findIn K (.ref ((fun i : Nat => ([e0, e1, e2, e3, e4, e5, e6, e7, e8, e9] : List Addr).getD i 0) c)) "__getattr__" == some none) = true)
    (x4 : ((List.range 9).all fun c => PySem.W.subIn K (.ref ((fun i : Nat => ([e0, e1, e2, e3, e4, e5, e6, e7, e8, e9] : List Addr).getD i 0) c)) (.type "BaseException") == some true) = true)
    (x5 : ((List.range 9).all fun c => PySem.W.hasDictIn K ((fun i : Nat => ([e0, e1, e2, e3, e4, e5, e6, e7, e8, e9] : List Addr).getD i 0) c)) = true)
    (x6 : ((List.range 9).all fun c => PySem.W.findIn K (.ref ((fun i : Nat => ([e0, e1, e2, e3, e4, e5, e6, e7, e8, e9] : List Addr).getD i 0) c)) "__class__" == some (some (.builtin "object.__class__"))) = true)
    (x7 : ((List.range 9).all fun c => PySem.W.mroIn K ((fun i : Nat => ([e0, e1, e2, e3, e4, e5, e6, e7, e8, e9] : List Addr).getD i 0) c) (.type "object") == some true) = true)
    (x8 : ((List.range 9).all fun c => (List.range 9).all fun d => PySem.W.kitOne K (.ref ((fun i : Nat => ([e0, e1, e2, e3, e4, e5, e6, e7, e8, e9] : List Addr).getD i 0) c)) (.ref ((fun i : Nat => ([e0, e1, e2, e3, e4, e5, e6, e7, e8, e9] : List Addr).getD i 0) d)) == some (c == d)) = true)
    (x9 : ((List.range 9).all fun c => PySem.W.kitOne K (.ref ((fun i : Nat => ([e0, e1, e2, e3, e4, e5, e6, e7, e8, e9] : List Addr).getD i 0) c)) (.type "ValueError") == some true) = true)
    (x10 : ((List.range 9).all fun c => nmL.all fun n => PySem.W.findIn K (.ref ((fun i : Nat => ([e0, e1, e2, e3, e4, e5, e6, e7, e8, e9] : List Addr).getD i 0) c)) n == some none) = true)
    (x11 : ((List.range 9).all fun c => PySem.W.exmOne K (.ref ((fun i : Nat => ([e0, e1, e2, e3, e4, e5, e6, e7, e8, e9] : List Addr).getD i 0) c)) (.ref ((fun i : Nat => ([e0, e1, e2, e3, e4, e5, e6, e7, e8, e9] : List Addr).getD i 0) 9)) == some true) = true)
    (x12 : ((List.range 9).all fun c => PySem.W.kitOne K (.ref ((fun i : Nat => ([e0, e1, e2, e3, e4, e5, e6, e7, e8, e9] : List Addr).getD i 0) c)) (.ref ((fun i : Nat => ([e0, e1, e2, e3, e4, e5, e6, e7, e8, e9] : List Addr).getD i 0) 9)) == some true) = true)
    (x13 : ((List.range 9).all fun c => PySem.W.typeIn K (.ref ((fun i : Nat => ([e0, e1, e2, e3, e4, e5, e6, e7, e8, e9] : List Addr).getD i 0) c)) == some (.type "type")) = true)
    (x14 : ((List.range 9).all fun c => (List.range 9).all fun d => (c == d) || !(((fun i : Nat => ([e0, e1, e2, e3, e4, e5, e6, e7, e8, e9] : List Addr).getD i 0) c) == ((fun i : Nat => ([e0, e1, e2, e3, e4, e5, e6, e7, e8, e9] : List Addr).getD i 0) d))) = true) : TopP PySem.Challenge.rw_waterhours_k00_errors_tell_their_fields w K 63 mg fa := by
  intro base b1 b2 s a ns H hl h0 en0 sq
  have m := mx_of KX G aE0 aE1 aE2 aE3 aE4 aE5 aE6 aE7 aE8 aE9 z_len z_isinstance z_int z_abs z_sum z_max z_min z_all z_tuple z_list z_range z_enumerate z_zip z_repr z_bool z_str z_ValueError z_super x0 xt x1 x2 x3 x4 x5 x6 x7 x8 x9 x10 x11 x12 x13
  obtain rfl : fa = f_law := by
    have z := hmg.symm.trans (PySem.W.mg_of KX G d_law.1)
    cases z
    rfl
  have inj : ∀ c c', inE c = true → inE c' = true → (fun i : Nat => ([e0, e1, e2, e3, e4, e5, e6, e7, e8, e9] : List Addr).getD i 0) c = (fun i : Nat => ([e0, e1, e2, e3, e4, e5, e6, e7, e8, e9] : List Addr).getD i 0) c' → c = c' := fun c c' hc hc' he => by
    have z := allR (allR x14 c (of_decide_eq_true hc)) c' (of_decide_eq_true hc')
    rw [show ((fun i : Nat => ([e0, e1, e2, e3, e4, e5, e6, e7, e8, e9] : List Addr).getD i 0) c == (fun i : Nat => ([e0, e1, e2, e3, e4, e5, e6, e7, e8, e9] : List Addr).getD i 0) c') = true from beq_iff_eq.mpr he] at z
    simpa using z
  have er_BadPart := er_BadPart (P := prg) (w := w) (base := base) (PySem.W.mg_of KX G aE0) err_BadPart
  have er_BadNumber := er_BadNumber (P := prg) (w := w) (base := base) (PySem.W.mg_of KX G aE1) err_BadNumber
  have er_Unknown := er_Unknown (P := prg) (w := w) (base := base) (PySem.W.mg_of KX G aE2) err_Unknown
  have er_BadCourse := er_BadCourse (P := prg) (w := w) (base := base) (PySem.W.mg_of KX G aE3) err_BadCourse
  have er_BadChange := er_BadChange (P := prg) (w := w) (base := base) (PySem.W.mg_of KX G aE4) err_BadChange
  have er_BadText := er_BadText (P := prg) (w := w) (base := base) (PySem.W.mg_of KX G aE5) err_BadText
  have er_BadLine := er_BadLine (P := prg) (w := w) (base := base) (PySem.W.mg_of KX G aE6) err_BadLine
  have er_BadClaim := er_BadClaim (P := prg) (w := w) (base := base) (PySem.W.mg_of KX G aE7) err_BadClaim
  have er_NothingDone := er_NothingDone (P := prg) (w := w) (base := base) (PySem.W.mg_of KX G aE8) err_NothingDone
  have f__law_taken : DefD (tb K (fun _ : Nat => (0 : Addr)) (fun i : Nat => ([e0, e1, e2, e3, e4, e5, e6, e7, e8, e9] : List Addr).getD i 0)) prg w K mg base "_law_taken" 2 F__law_taken := by
    obtain ⟨a, fd, F⟩ := d__law_taken
    exact ⟨_, fd, ["row", "many"], PySem.W.mg_of KX G a, F.kp, F.binds (ps := ["row", "many"]) fun _ _ _ _ _ _ us hl => match us, hl with | [_, _], _ => rfl, ok__law_taken m  F⟩
  have f__law_pick : DefD (tb K (fun _ : Nat => (0 : Addr)) (fun i : Nat => ([e0, e1, e2, e3, e4, e5, e6, e7, e8, e9] : List Addr).getD i 0)) prg w K mg base "_law_pick" 3 F__law_pick := by
    obtain ⟨a, fd, F⟩ := d__law_pick
    exact ⟨_, fd, ["row", "things"], PySem.W.mg_of KX G a, F.kp, F.binds (ps := ["row", "things"]) fun _ _ _ _ _ _ us hl => match us, hl with | [_, _], _ => rfl, ok__law_pick m f__law_taken F⟩
  have g__law_same : DefG (tb K (fun _ : Nat => (0 : Addr)) (fun i : Nat => ([e0, e1, e2, e3, e4, e5, e6, e7, e8, e9] : List Addr).getD i 0)) prg w K mg base "_law_same" 2 F__law_same := by
    obtain ⟨a, fd, F⟩ := d__law_same
    exact ⟨_, fd, ["found", "due"], PySem.W.mg_of KX G a, F.kp, F.binds (ps := ["found", "due"]) fun _ _ _ _ _ _ us hl => match us, hl with | [_, _], _ => rfl, ok__law_same m  F⟩
  have s_same : DefS (tb K (fun _ : Nat => (0 : Addr)) (fun i : Nat => ([e0, e1, e2, e3, e4, e5, e6, e7, e8, e9] : List Addr).getD i 0)) prg w K mg base "_law_same" 2 inE F__law_same := by
    obtain ⟨a, fd, F⟩ := d__law_same
    exact ⟨_, fd, ["found", "due"], PySem.W.mg_of KX G a, F.kp, F.binds (ps := ["found", "due"]) fun _ _ _ _ _ _ us hl => match us, hl with | [_, _], _ => rfl, okS__law_same m  F⟩
  have r_refusal : DefR (tb K (fun _ : Nat => (0 : Addr)) (fun i : Nat => ([e0, e1, e2, e3, e4, e5, e6, e7, e8, e9] : List Addr).getD i 0)) prg w K mg base "_law_refusal" 2 inE F__law_refusal := by
    obtain ⟨a, fd, F⟩ := d__law_refusal
    exact ⟨_, fd, ["e"], PySem.W.mg_of KX G a, F.kp, F.binds (ps := ["e"]) fun _ _ _ _ _ _ us hl => match us, hl with | [_], _ => rfl, ok__law_refusal m  F⟩
  have f__law_refusal : DefD (tb K (fun _ : Nat => (0 : Addr)) (fun i : Nat => ([e0, e1, e2, e3, e4, e5, e6, e7, e8, e9] : List Addr).getD i 0)) prg w K mg base "_law_refusal" 2 F__law_refusal := by
    obtain ⟨a, fd, F⟩ := d__law_refusal
    exact ⟨_, fd, ["e"], PySem.W.mg_of KX G a, F.kp, F.binds (ps := ["e"]) fun _ _ _ _ _ _ us hl => match us, hl with | [_], _ => rfl, okD__law_refusal m  F⟩
  obtain ⟨_, fdL, FL⟩ := d_law
  exact run_law m inj f__law_pick er_BadLine er_BadText er_BadChange er_BadCourse er_Unknown er_BadNumber er_BadPart g__law_same er_NothingDone er_BadClaim f__law_refusal r_refusal s_same FL h0 en0 sq (keeps ns hl)
end KA

set_option Elab.async false
set_option linter.all false
set_option maxRecDepth 100000
open PySem PySem.W PyProof.Rows in
set_option maxRecDepth 100000 in
set_option maxHeartbeats 0 in
set_option pp.maxSteps 300 in
theorem PySem.Challenge.cw_waterhours_k00_errors_tell_their_fields_holds : PySem.Challenge.rw_waterhours_k00_errors_tell_their_fields.Holds := by
  w_on; o_law; k_head; (case hw => w_witness2)
  k_fill
  refine DL.walk_P (l := PySem.Challenge.rw_waterhours_k00_errors_tell_their_fields) (n := 63) ?g1 ?g2 ?g3 (fun w h Y => PySem.W.kIn_of Y) ?F
  case g1 => rfl
  case g2 => decide
  case g3 => rfl
  case F =>
    intro w mg fa h KX G hmg
    refine' KA.top_mk KX G hmg ?keeps ?aE0 ?aE1 ?aE2 ?aE3 ?aE4 ?aE5 ?aE6 ?aE7 ?aE8 ?aE9 ?z_len ?z_isinstance ?z_int ?z_abs ?z_sum ?z_max ?z_min ?z_all ?z_tuple ?z_list ?z_range ?z_enumerate ?z_zip ?z_repr ?z_bool ?z_str ?z_ValueError ?z_super ?d__law_taken ?d__law_pick ?d__law_same ?d__law_refusal ?d_law ?err_BadPart ?err_BadNumber ?err_Unknown ?err_BadCourse ?err_BadChange ?err_BadText ?err_BadLine ?err_BadClaim ?err_NothingDone ?x0 ?xt ?x1 ?x2 ?x3 ?x4 ?x5 ?x6 ?x7 ?x8 ?x9 ?x10 ?x11 ?x12 ?x13 ?x14
    (case keeps => exact fun ns _ => KL.law_ok ns)
    (case aE0 => (k_is))
    (case aE1 => (k_is))
    (case aE2 => (k_is))
    (case aE3 => (k_is))
    (case aE4 => (k_is))
    (case aE5 => (k_is))
    (case aE6 => (k_is))
    (case aE7 => (k_is))
    (case aE8 => (k_is))
    (case aE9 => (k_is))
    (case z_len => (k_is))
    (case z_isinstance => (k_is))
    (case z_int => (k_is))
    (case z_abs => (k_is))
    (case z_sum => (k_is))
    (case z_max => (k_is))
    (case z_min => (k_is))
    (case z_all => (k_is))
    (case z_tuple => (k_is))
    (case z_list => (k_is))
    (case z_range => (k_is))
    (case z_enumerate => (k_is))
    (case z_zip => (k_is))
    (case z_repr => (k_is))
    (case z_bool => (k_is))
    (case z_str => (k_is))
    (case z_ValueError => (k_is))
    (case z_super => (k_is))
    (case d__law_taken => (refine' KA.def_mk ?a ?l ?c ?k; (case a => k_is); (case l => k_is); (case c => k_is); (case k => k_is)))
    (case d__law_pick => (refine' KA.def_mk ?a ?l ?c ?k; (case a => k_is); (case l => k_is); (case c => k_is); (case k => k_is)))
    (case d__law_same => (refine' KA.def_mk ?a ?l ?c ?k; (case a => k_is); (case l => k_is); (case c => k_is); (case k => k_is)))
    (case d__law_refusal => (refine' KA.def_mk ?a ?l ?c ?k; (case a => k_is); (case l => k_is); (case c => k_is); (case k => k_is)))
    (case d_law => (refine' KA.def_mk ?a ?l ?c ?k; (case a => k_is); (case l => k_is); (case c => k_is); (case k => k_is)))
    (case err_BadPart => (refine' KA.err_mk KX G ?lC ?rv ?sa ?exC ?tyC ?kC ?iC ?tI ?lf ?hcd ?lcd ?v2 ?pf ?lcc ?sub ?sup ?ve ?any ?zs ?top ?par ?nf; (case lC => k_is); (case rv => kernel_rfl); (case sa => k_is); (case exC => k_is); (case tyC => k_is); (case kC => k_is); (case iC => k_is); (case tI => k_is); (case lf => k_is); (case hcd => k_is); (case lcd => k_is); (case v2 => rfl); (case pf => kernel_rfl); (case lcc => k_is); (case sub => k_is); (case sup => kernel_rfl); (case ve => k_is); (case any => k_is); (case zs => k_is); (case top => kernel_rfl); (case par => exact ⟨_, rfl, rfl⟩); (case nf => kernel_rfl)))
    (case err_BadNumber => (refine' KA.err_mk KX G ?lC ?rv ?sa ?exC ?tyC ?kC ?iC ?tI ?lf ?hcd ?lcd ?v2 ?pf ?lcc ?sub ?sup ?ve ?any ?zs ?top ?par ?nf; (case lC => k_is); (case rv => kernel_rfl); (case sa => k_is); (case exC => k_is); (case tyC => k_is); (case kC => k_is); (case iC => k_is); (case tI => k_is); (case lf => k_is); (case hcd => k_is); (case lcd => k_is); (case v2 => rfl); (case pf => kernel_rfl); (case lcc => k_is); (case sub => k_is); (case sup => kernel_rfl); (case ve => k_is); (case any => k_is); (case zs => k_is); (case top => kernel_rfl); (case par => exact ⟨_, rfl, rfl⟩); (case nf => kernel_rfl)))
    (case err_Unknown => (refine' KA.err_mk KX G ?lC ?rv ?sa ?exC ?tyC ?kC ?iC ?tI ?lf ?hcd ?lcd ?v2 ?pf ?lcc ?sub ?sup ?ve ?any ?zs ?top ?par ?nf; (case lC => k_is); (case rv => kernel_rfl); (case sa => k_is); (case exC => k_is); (case tyC => k_is); (case kC => k_is); (case iC => k_is); (case tI => k_is); (case lf => k_is); (case hcd => k_is); (case lcd => k_is); (case v2 => rfl); (case pf => kernel_rfl); (case lcc => k_is); (case sub => k_is); (case sup => kernel_rfl); (case ve => k_is); (case any => k_is); (case zs => k_is); (case top => kernel_rfl); (case par => exact ⟨_, rfl, rfl⟩); (case nf => kernel_rfl)))
    (case err_BadCourse => (refine' KA.err_mk KX G ?lC ?rv ?sa ?exC ?tyC ?kC ?iC ?tI ?lf ?hcd ?lcd ?v2 ?pf ?lcc ?sub ?sup ?ve ?any ?zs ?top ?par ?nf; (case lC => k_is); (case rv => kernel_rfl); (case sa => k_is); (case exC => k_is); (case tyC => k_is); (case kC => k_is); (case iC => k_is); (case tI => k_is); (case lf => k_is); (case hcd => k_is); (case lcd => k_is); (case v2 => rfl); (case pf => kernel_rfl); (case lcc => k_is); (case sub => k_is); (case sup => kernel_rfl); (case ve => k_is); (case any => k_is); (case zs => k_is); (case top => kernel_rfl); (case par => exact ⟨_, rfl, rfl⟩); (case nf => kernel_rfl)))
    (case err_BadChange => (refine' KA.err_mk KX G ?lC ?rv ?sa ?exC ?tyC ?kC ?iC ?tI ?lf ?hcd ?lcd ?v2 ?pf ?lcc ?sub ?sup ?ve ?any ?zs ?top ?par ?nf; (case lC => k_is); (case rv => kernel_rfl); (case sa => k_is); (case exC => k_is); (case tyC => k_is); (case kC => k_is); (case iC => k_is); (case tI => k_is); (case lf => k_is); (case hcd => k_is); (case lcd => k_is); (case v2 => rfl); (case pf => kernel_rfl); (case lcc => k_is); (case sub => k_is); (case sup => kernel_rfl); (case ve => k_is); (case any => k_is); (case zs => k_is); (case top => kernel_rfl); (case par => exact ⟨_, rfl, rfl⟩); (case nf => kernel_rfl)))
    (case err_BadText => (refine' KA.err_mk KX G ?lC ?rv ?sa ?exC ?tyC ?kC ?iC ?tI ?lf ?hcd ?lcd ?v2 ?pf ?lcc ?sub ?sup ?ve ?any ?zs ?top ?par ?nf; (case lC => k_is); (case rv => kernel_rfl); (case sa => k_is); (case exC => k_is); (case tyC => k_is); (case kC => k_is); (case iC => k_is); (case tI => k_is); (case lf => k_is); (case hcd => k_is); (case lcd => k_is); (case v2 => rfl); (case pf => kernel_rfl); (case lcc => k_is); (case sub => k_is); (case sup => kernel_rfl); (case ve => k_is); (case any => k_is); (case zs => k_is); (case top => kernel_rfl); (case par => exact ⟨_, rfl, rfl⟩); (case nf => kernel_rfl)))
    (case err_BadLine => (refine' KA.err_mk KX G ?lC ?rv ?sa ?exC ?tyC ?kC ?iC ?tI ?lf ?hcd ?lcd ?v2 ?pf ?lcc ?sub ?sup ?ve ?any ?zs ?top ?par ?nf; (case lC => k_is); (case rv => kernel_rfl); (case sa => k_is); (case exC => k_is); (case tyC => k_is); (case kC => k_is); (case iC => k_is); (case tI => k_is); (case lf => k_is); (case hcd => k_is); (case lcd => k_is); (case v2 => rfl); (case pf => kernel_rfl); (case lcc => k_is); (case sub => k_is); (case sup => kernel_rfl); (case ve => k_is); (case any => k_is); (case zs => k_is); (case top => kernel_rfl); (case par => exact ⟨_, rfl, rfl⟩); (case nf => kernel_rfl)))
    (case err_BadClaim => (refine' KA.err_mk KX G ?lC ?rv ?sa ?exC ?tyC ?kC ?iC ?tI ?lf ?hcd ?lcd ?v2 ?pf ?lcc ?sub ?sup ?ve ?any ?zs ?top ?par ?nf; (case lC => k_is); (case rv => kernel_rfl); (case sa => k_is); (case exC => k_is); (case tyC => k_is); (case kC => k_is); (case iC => k_is); (case tI => k_is); (case lf => k_is); (case hcd => k_is); (case lcd => k_is); (case v2 => rfl); (case pf => kernel_rfl); (case lcc => k_is); (case sub => k_is); (case sup => kernel_rfl); (case ve => k_is); (case any => k_is); (case zs => k_is); (case top => kernel_rfl); (case par => exact ⟨_, rfl, rfl⟩); (case nf => kernel_rfl)))
    (case err_NothingDone => (refine' KA.err_mk KX G ?lC ?rv ?sa ?exC ?tyC ?kC ?iC ?tI ?lf ?hcd ?lcd ?v2 ?pf ?lcc ?sub ?sup ?ve ?any ?zs ?top ?par ?nf; (case lC => k_is); (case rv => kernel_rfl); (case sa => k_is); (case exC => k_is); (case tyC => k_is); (case kC => k_is); (case iC => k_is); (case tI => k_is); (case lf => k_is); (case hcd => k_is); (case lcd => k_is); (case v2 => rfl); (case pf => kernel_rfl); (case lcc => k_is); (case sub => k_is); (case sup => kernel_rfl); (case ve => k_is); (case any => k_is); (case zs => k_is); (case top => kernel_rfl); (case par => exact ⟨_, rfl, rfl⟩); (case nf => kernel_rfl)))
    (case x0 => (kernel_rfl))
    (case xt => (kernel_rfl))
    (case x1 => (kernel_rfl))
    (case x2 => (kernel_rfl))
    (case x3 => (kernel_rfl))
    (case x4 => (kernel_rfl))
    (case x5 => (kernel_rfl))
    (case x6 => (kernel_rfl))
    (case x7 => (kernel_rfl))
    (case x8 => (kernel_rfl))
    (case x9 => (kernel_rfl))
    (case x10 => (kernel_rfl))
    (case x11 => (kernel_rfl))
    (case x12 => (kernel_rfl))
    (case x13 => (kernel_rfl))
    (case x14 => (kernel_rfl))

