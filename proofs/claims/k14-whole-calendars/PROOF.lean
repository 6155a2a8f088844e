import PyProof.Rows.All
import Wide.All
import OpenK.AllK
import Wide.FinOn
import HandS.ForMost
import HandS.ForExc
import HandS.IsInst
import HandS.TupAny
import HandS.Walk
import HandS.Zip
import HandS.Style
import HandS.Lambda
import HandS.TupMul
import HandS.Strs
import KE.KTupSum
import KE.DataMinMax
import KE.KIndexOf
import KE.GoesNew
import HandS.ExcInit
import KE.KExcSuper
import KE.DatumIndex
import KE.KExcIs
import HandS.ExcIs
import HandS.ExcField
import HandS.HotCalls
import HandS.OwnEq
import KE.KRevSl
import PyProof.ReprRoads
import HandS.EndOwn
import KE.KExcTry
import KE.KExcStr
import KE.KExcMore
import PySem.Challenge.RW_waterhours_k14_whole_calendars
set_option Elab.async false
set_option linter.all false
set_option maxRecDepth 100000
set_option maxHeartbeats 4000000
/-! DL0: Python values as plain data, a store of mutable lists, and what it means that the heap shows them. -/
namespace DL
open PySem PySem.Spec PyProof.Rows L2

/-- a Python value (row: a tuple that is only unpacked): tuples, lists that nobody writes any more and instances are told as a whole; obj l is the l-th mutable object -/
inductive D where
  | non
  | bl (b : Bool)
  | int (i : Int)
  | str (s : Str)
  | tup (ds : List D)
  | row (ds : List D)
  | lst (ds : List D)
  | scr (ns : List Int)
  | obj (l : Nat)
  | ins (c : Nat) (fs : List (Nat × D))
  | fn (i : Nat)
  | cl (c : Nat)
  | ty (n : String)
  | xcp (c : Nat) (fs : List (Nat × D))
  | lam (caps : List D)
  | junk

/-- a mutable object: a list, an instance that is being made; what they hold is not mutable itself -/
inductive SO where
  | lst (ds : List D)
  | ins (c : Nat) (fs : List (Nat × D))

abbrev Store := List SO
abbrev Ev := List (Option D)

/-- what the written part gives: the class of a number, the def of a number -/
structure Tb where
  K : PySem.W.Frag
  cA : Nat → Addr
  fA : Nat → Addr
  eA : Nat → Addr
  nm : Nat → Str
  nN : Nat
  nC : Nat
  fl : Nat → List Nat
  inj : ∀ i j, i < nN → j < nN → nm i = nm j → i = j
  hot : Addr → Option (Nat × Addr)
  lm : Option (Addr × List (Option V) × Addr × Str)
  tabs : List (Addr × Str)

mutual
/-- no mutable object within -/
def pur : D → Bool
  | .obj _ => false
  | .tup ds => purL ds
  | .row ds => purL ds
  | .lst ds => purL ds
  | .ins _ fs => purF fs
  | .xcp _ _ => false
  | .lam _ => false
  | _ => true
def purL : List D → Bool
  | [] => true
  | d :: ds => pur d && purL ds
def purF : List (Nat × D) → Bool
  | [] => true
  | p :: ps => pur p.2 && purF ps
end

/-- the script's list at a: read alone, none of the store's, or of the written part -/
def FzL (K : PySem.W.Frag) (μ : List Addr) (H : Hp) (a : Addr) (xs : List V) : Prop :=
  (Rd H a (.lst xs) ∧ a ∉ μ) ∨ ∃ (o : Obj) (its : Array Value) (n : Nat), K.lookup a = some o ∧ o.cls = .type "list" ∧ o.dict = none ∧ o.data = .seq its n ∧ its.size ≤ sizeLine ∧ Vals xs its.toList
theorem FzL.sq {K : PySem.W.Frag} {μ : List Addr} {H : Hp} {a : Addr} {xs : List V} (h : FzL K μ H a xs) : SqL K H a xs := by
  rcases h with ⟨h, _⟩ | h
  · exact .inl h
  · exact .inr h

/-- a tuple at a that has no dict: tracked with its object, or of the written part -/
def TupX (K : PySem.W.Frag) (H : Hp) (a : Addr) (xs : List V) : Prop :=
  (∃ o, H a = some (.frz o (.tup xs)) ∧ o.dict = none) ∨
    ∃ (o : Obj) (its : Array Value) (n : Nat), K.lookup a = some o ∧ o.cls = .type "tuple" ∧ o.dict = none ∧ o.data = .seq its n ∧ its.size ≤ sizeLine ∧ Vals xs its.toList
theorem TupX.sq {K : PySem.W.Frag} {H : Hp} {a : Addr} {xs : List V} (h : TupX K H a xs) : SqT K H a xs := by
  rcases h with ⟨o, h, _⟩ | ⟨o, its, n, h1, h2, _, h4, h5, h6⟩
  · exact .inl (.inr ⟨o, h⟩)
  · exact .inr ⟨o, its, n, h1, h2, h4, h5, h6⟩
mutual
inductive DV (T : Tb) (μ : List Addr) (H : Hp) : V → D → Prop
  | non : DV T μ H .non .non
  | bl (b : Bool) : DV T μ H (.bl b) (.bl b)
  | int (i : Int) : DV T μ H (.int i) (.int i)
  | str (s : Str) : DV T μ H (.str s) (.str s)
  | tup {a : Addr} {xs : List V} {ds : List D} : TupX T.K H a xs → DVs T μ H xs ds → DV T μ H (.ref a) (.tup ds)
  | row {a : Addr} {xs : List V} {ds : List D} : SqT T.K H a xs → DVs T μ H xs ds → DV T μ H (.ref a) (.row ds)
  | lst {a : Addr} {xs : List V} {ds : List D} : H a = some (.lst xs) → a ∉ μ → DVs T μ H xs ds → DV T μ H (.ref a) (.lst ds)
  | scr {a : Addr} {ns : List Int} : FzL T.K μ H a (ns.map V.int) → DV T μ H (.ref a) (.scr ns)
  | obj {a : Addr} {l : Nat} : μ[l]? = some a → DV T μ H (.ref a) (.obj l)
  | ins {a dx : Addr} {c : Nat} {vs : List (Str × V)} {fs : List (Nat × D)} : c < T.nC → (∀ p ∈ fs, p.1 ∈ T.fl c) → H a = some (.ins (T.cA c) dx vs) → a ∉ μ → DFs T μ H vs fs → DV T μ H (.ref a) (.ins c fs)
  | fn (i : Nat) : DV T μ H (.ref (T.fA i)) (.fn i)
  | cl {c : Nat} : c < T.nC → DV T μ H (.ref (T.cA c)) (.cl c)
  | ty (n : String) : DV T μ H (.ty n) (.ty n)
  | xcp {a dd : Addr} {c : Nat} {vs : List (Str × V)} {fs : List (Nat × D)} : T.hot a = some (c, dd) → H dd = some (.xd vs) → dd ∉ μ → DFs T μ H vs fs → DV T μ H (.ref a) (.xcp c fs)
  | lam {f c : Addr} {σ : List (Option V)} {q : Str} {caps : List D} : T.lm = some (f, σ, c, q) → (∀ i : Nat, σ[i]? = some none → caps[i]? = some .junk) → H c = some (LamX.CodeO c q) → c ∉ μ → DVs T μ H (σ.map fun o => o.getD .non) caps → DV T μ H (.ref f) (.lam caps)
  | junk (v : V) : DV T μ H v .junk
inductive DVs (T : Tb) (μ : List Addr) (H : Hp) : List V → List D → Prop
  | nil : DVs T μ H [] []
  | cons {v : V} {vs : List V} {d : D} {ds : List D} : DV T μ H v d → DVs T μ H vs ds → DVs T μ H (v :: vs) (d :: ds)
inductive DFs (T : Tb) (μ : List Addr) (H : Hp) : List (Str × V) → List (Nat × D) → Prop
  | nil : DFs T μ H [] []
  | cons {f : Nat} {v : V} {vs : List (Str × V)} {d : D} {ds : List (Nat × D)} : f < T.nN → DV T μ H v d → DFs T μ H vs ds → DFs T μ H ((T.nm f, v) :: vs) ((f, d) :: ds)
end

/-- what every step keeps: the store grows at its end by new objects; all that is tracked and not of the store stands -/
structure Step (μ : List Addr) (H : Hp) (μ' : List Addr) (H' : Hp) : Prop where
  more : ∃ m, μ' = μ ++ m ∧ ∀ b ∈ m, H b = none
  there : ∀ a, H' a = none → H a = none
  keep : ∀ a o, H a = some o → a ∉ μ → (∀ ps, o ≠ .tbl ps) → H' a = some o

/-- what may lie in the store -/
def MutS (o : HO) : Prop := (∃ xs, o = .lst xs) ∨ ∃ C dx fs, o = .ins C dx fs
theorem tabs_put {Tt : List (Addr × Str)} {H : Hp} {p : Addr} {o u : HO} (t : LamX.Tabs Tt H) (h : H p = some u) (m : MutS u) : LamX.Tabs Tt (upd H p o) := fun q hq => by
  obtain ⟨ps, h1, h2, h3⟩ := t q hq
  have n1 : q.1 ≠ p := fun e => by
    rw [e, h] at h1
    cases h1
    rcases m with ⟨_, z⟩ | ⟨_, _, _, z⟩ <;> cases z
  refine ⟨ps, by rw [upd_ne n1]; exact h1, h2, fun pos cv hc => ?_⟩
  obtain ⟨c, e1, e2⟩ := h3 pos cv hc
  refine ⟨c, e1, ?_⟩
  have n2 : c ≠ p := fun e => by
    rw [e, h] at e2
    have z := Option.some.inj e2
    subst z
    unfold LamX.CodeO at m
    rcases m with ⟨_, z⟩ | ⟨_, _, _, z⟩ <;> cases z
  rw [upd_ne n2]; exact e2

theorem tabs_new {Tt : List (Addr × Str)} {H : Hp} {p : Addr} {o : HO} (h : H p = none) : LamX.Tabs Tt H → LamX.Tabs Tt (upd H p o) := fun t => LamX.Tabs.ext t fun b u q => by rw [upd_ne (ne_of_none q h)]; exact q
theorem Step.refl (μ : List Addr) (H : Hp) : Step μ H μ H := ⟨⟨[], by simp, fun b hb => by cases hb⟩, fun _ h => h, fun _ _ h _ _ => h⟩
theorem Step.out {μ μ' : List Addr} {H H' : Hp} (s : Step μ H μ' H') {a : Addr} {o : HO} (h : H a = some o) (n : a ∉ μ) : a ∉ μ' := by
  obtain ⟨m, e, f⟩ := s.more
  intro hm
  rw [e] at hm
  rcases List.mem_append.mp hm with q | q
  · exact n q
  · rw [f a q] at h; cases h
theorem Step.trans {μ μ1 μ2 : List Addr} {H H1 H2 : Hp} (s : Step μ H μ1 H1) (t : Step μ1 H1 μ2 H2) : Step μ H μ2 H2 := by
  refine ⟨?_, fun a h => s.there a (t.there a h), fun a o h n z => t.keep a o (s.keep a o h n z) (s.out h n) z⟩
  obtain ⟨m1, e1, f1⟩ := s.more
  obtain ⟨m2, e2, f2⟩ := t.more
  refine ⟨m1 ++ m2, by rw [e2, e1, List.append_assoc], fun b hb => ?_⟩
  rcases List.mem_append.mp hb with q | q
  · exact f1 b q
  · exact s.there b (f2 b q)
/-- a new object, not of the store -/
theorem Step.new {μ : List Addr} {H : Hp} {p : Addr} {o : HO} (h : H p = none) : Step μ H μ (upd H p o) := by
  refine ⟨⟨[], by simp, fun b hb => by cases hb⟩, fun a q => ?_, fun a u q _ _ => by rw [upd_ne (ne_of_none q h)]; exact q⟩
  by_cases e : a = p
  · rw [e]; exact h
  · rw [upd_ne e] at q; exact q
/-- a new object of the store -/
theorem Step.add {μ : List Addr} {H : Hp} {p : Addr} {o : HO} (h : H p = none) : Step μ H (μ ++ [p]) (upd H p o) := by
  have s := Step.new (μ := μ) (o := o) h
  refine ⟨⟨[p], rfl, fun b hb => ?_⟩, s.there, s.keep⟩
  rw [List.mem_singleton.mp hb]; exact h
/-- an object of the store is written -/
theorem Step.put {μ : List Addr} {H : Hp} {p : Addr} {o u : HO} (h : H p = some u) (hm : p ∈ μ) (hu : MutS u) : Step μ H μ (upd H p o) := by
  refine ⟨⟨[], by simp, fun b hb => by cases hb⟩, fun a q => ?_, fun a u q n _ => ?_⟩
  · by_cases e : a = p
    · rw [e, upd_same] at q; cases q
    · rw [upd_ne e] at q; exact q
  · rw [upd_ne (fun e => n (by rw [e]; exact hm))]; exact q

section
variable {T : Tb} {μ μ' : List Addr} {H H' : Hp}
theorem rd_keep {a : Addr} {u : HO} (k : ∀ a o, H a = some o → a ∉ μ → (∀ ps, o ≠ .tbl ps) → H' a = some o) (hu : ∀ ps, u ≠ .tbl ps) (h : Rd H a u) (n : a ∉ μ) : Rd H' a u := by
  rcases h with h | ⟨o, h⟩
  · exact .inl (k _ _ h n hu)
  · exact .inr ⟨o, k _ _ h n fun ps z => nomatch z⟩
theorem FzL.step {a : Addr} {xs : List V} (s : Step μ H μ' H') (h : FzL T.K μ H a xs) : FzL T.K μ' H' a xs := by
  rcases h with ⟨h, n⟩ | h
  · refine .inl ⟨rd_keep s.keep (fun ps z => nomatch z) h n, ?_⟩
    rcases h with h | ⟨o, h⟩
    · exact s.out h n
    · exact s.out h n
  · exact .inr h
end

/-- the tuples stand (a store's object is never a tuple) -/
structure Rep0 (μ : List Addr) (H : Hp) : Prop where
  mu : ∀ a ∈ μ, ∃ o, H a = some o ∧ MutS o
theorem SqT.step {T : Tb} {μ μ' : List Addr} {H H' : Hp} {a : Addr} {xs : List V} (s : Step μ H μ' H') (r : Rep0 μ H) (h : SqT T.K H a xs) : SqT T.K H' a xs := by
  rcases h with h | h
  · refine .inl (rd_keep s.keep (fun ps z => nomatch z) h fun hm => ?_)
    obtain ⟨u, e, mu⟩ := r.mu a hm
    rcases h with h | ⟨o, h⟩ <;> rw [e] at h <;> cases h <;> (rcases mu with ⟨_, z⟩ | ⟨_, _, _, z⟩ <;> cases z)
  · exact .inr h
theorem TupX.step {T : Tb} {μ μ' : List Addr} {H H' : Hp} {a : Addr} {xs : List V} (s : Step μ H μ' H') (r : Rep0 μ H) (h : TupX T.K H a xs) : TupX T.K H' a xs := by
  rcases h with ⟨o, h, d⟩ | h
  · refine .inl ⟨o, s.keep a _ h (fun hm => ?_) (fun ps z => nomatch z), d⟩
    obtain ⟨u, e, mu⟩ := r.mu a hm
    rw [e] at h; cases h
    rcases mu with ⟨_, z⟩ | ⟨_, _, _, z⟩ <;> cases z
  · exact .inr h
section
variable {T : Tb} {μ μ' : List Addr} {H H' : Hp}
mutual
theorem DV.step (s : Step μ H μ' H') (r : Rep0 μ H) : ∀ {v : V} {d : D}, DV T μ H v d → DV T μ' H' v d
  | _, _, .non => .non
  | _, _, .bl b => .bl b
  | _, _, .int i => .int i
  | _, _, .str x => .str x
  | _, _, .tup h q => .tup (TupX.step s r h) (DVs.step s r q)
  | _, _, .row h q => .row (SqT.step s r h) (DVs.step s r q)
  | _, _, .lst h n q => .lst (s.keep _ _ h n (fun ps z => nomatch z)) (s.out h n) (DVs.step s r q)
  | _, _, .scr h => .scr (h.step s)
  | _, _, .obj h => .obj (by
      obtain ⟨m, e, _⟩ := s.more
      rw [e, List.getElem?_append_left (List.getElem?_eq_some_iff.mp h).1]; exact h)
  | _, _, .ins hc hk h n q => .ins hc hk (s.keep _ _ h n (fun ps z => nomatch z)) (s.out h n) (DFs.step s r q)
  | _, _, .fn i => .fn i
  | _, _, .cl c => .cl c
  | _, _, .ty n => .ty n
  | _, _, .xcp hh h n q => .xcp hh (s.keep _ _ h n (fun ps z => nomatch z)) (s.out h n) (DFs.step s r q)
  | _, _, .lam hh z h n q => .lam hh z (s.keep _ _ h n LamX.codeO_ne) (s.out h n) (DVs.step s r q)
  | _, _, .junk v => .junk v
theorem DVs.step (s : Step μ H μ' H') (r : Rep0 μ H) : ∀ {vs : List V} {ds : List D}, DVs T μ H vs ds → DVs T μ' H' vs ds
  | _, _, .nil => .nil
  | _, _, .cons h q => .cons (DV.step s r h) (DVs.step s r q)
theorem DFs.step (s : Step μ H μ' H') (r : Rep0 μ H) : ∀ {vs : List (Str × V)} {ds : List (Nat × D)}, DFs T μ H vs ds → DFs T μ' H' vs ds
  | _, _, .nil => .nil
  | _, _, .cons z h q => .cons z (DV.step s r h) (DFs.step s r q)
end
mutual
/-- what holds no mutable object is the same for a smaller store -/
theorem DV.less {ν : List Addr} (sub : ∀ a, a ∈ ν → a ∈ μ) : ∀ {v : V} {d : D}, pur d = true → DV T μ H v d → DV T ν H v d
  | _, _, _, .non => .non
  | _, _, _, .bl b => .bl b
  | _, _, _, .int i => .int i
  | _, _, _, .str x => .str x
  | _, _, p, .tup h q => .tup h (DVs.less sub p q)
  | _, _, p, .row h q => .row h (DVs.less sub p q)
  | _, _, p, .lst h n q => .lst h (fun hm => n (sub _ hm)) (DVs.less sub p q)
  | _, _, p, .scr h => .scr (h.elim (fun z => .inl ⟨z.1, fun hm => z.2 (sub _ hm)⟩) .inr)
  | _, _, p, .obj h => by cases p
  | _, _, p, .ins hc hk h n q => .ins hc hk h (fun hm => n (sub _ hm)) (DFs.less sub p q)
  | _, _, _, .fn i => .fn i
  | _, _, _, .cl c => .cl c
  | _, _, _, .ty n => .ty n
  | _, _, p, .xcp _ _ _ _ => by cases p
  | _, _, p, .lam _ _ _ _ _ => by cases p
  | _, _, _, .junk v => .junk v
theorem DVs.less {ν : List Addr} (sub : ∀ a, a ∈ ν → a ∈ μ) : ∀ {vs : List V} {ds : List D}, purL ds = true → DVs T μ H vs ds → DVs T ν H vs ds
  | _, _, _, .nil => .nil
  | _, _, p, .cons h q => by
    have p' := Bool.and_eq_true_iff.mp p
    exact .cons (DV.less sub p'.1 h) (DVs.less sub p'.2 q)
theorem DFs.less {ν : List Addr} (sub : ∀ a, a ∈ ν → a ∈ μ) : ∀ {vs : List (Str × V)} {ds : List (Nat × D)}, purF ds = true → DFs T μ H vs ds → DFs T ν H vs ds
  | _, _, _, .nil => .nil
  | _, _, p, .cons z h q => by
    have p' := Bool.and_eq_true_iff.mp p
    exact .cons z (DV.less sub p'.1 h) (DFs.less sub p'.2 q)
end
theorem DVs.length {vs : List V} {ds : List D} (h : DVs T μ H vs ds) : vs.length = ds.length := by
  induction vs generalizing ds with
  | nil => cases h; rfl
  | cons v vs ih => cases h with | cons h q => simp [ih q]
theorem DVs.get : ∀ {vs : List V} {ds : List D} {i : Nat} {d : D}, DVs T μ H vs ds → ds[i]? = some d → ∃ v, vs[i]? = some v ∧ DV T μ H v d
  | _, _, _, _, .nil, e => by simp at e
  | _, _, 0, _, .cons h _, e => by simp at e; subst e; exact ⟨_, rfl, h⟩
  | _, _, i + 1, d, .cons _ t, e => by
    obtain ⟨v, h1, h2⟩ := DVs.get (i := i) (d := d) t (by simpa using e)
    exact ⟨v, by simpa using h1, h2⟩
theorem DVs.get' {vs : List V} {ds : List D} {i : Nat} {v : V} (h : DVs T μ H vs ds) (e : vs[i]? = some v) : ∃ d, ds[i]? = some d ∧ DV T μ H v d := by
  have hl := h.length
  have hi : i < ds.length := by rw [← hl]; exact (List.getElem?_eq_some_iff.mp e).1
  obtain ⟨v', e', r⟩ := h.get (List.getElem?_eq_getElem hi)
  rw [e] at e'; cases e'
  exact ⟨_, List.getElem?_eq_getElem hi, r⟩
theorem DVs.append : ∀ {vs ws : List V} {ds es : List D}, DVs T μ H vs ds → DVs T μ H ws es → DVs T μ H (vs ++ ws) (ds ++ es)
  | _, _, _, _, .nil, q => q
  | _, _, _, _, .cons h t, q => .cons h (DVs.append t q)
theorem DVs.take : ∀ {vs : List V} {ds : List D} (n : Nat), DVs T μ H vs ds → DVs T μ H (vs.take n) (ds.take n)
  | _, _, 0, _ => by simpa using DVs.nil
  | _, _, _ + 1, .nil => .nil
  | _, _, n + 1, .cons h t => .cons h (DVs.take n t)
theorem DVs.drop : ∀ {vs : List V} {ds : List D} (n : Nat), DVs T μ H vs ds → DVs T μ H (vs.drop n) (ds.drop n)
  | _, _, 0, h => h
  | _, _, _ + 1, .nil => .nil
  | _, _, n + 1, .cons _ t => DVs.drop n t
theorem DVs.set {v : V} {d : D} (r : DV T μ H v d) : ∀ {vs : List V} {ds : List D} (i : Nat), DVs T μ H vs ds → DVs T μ H (vs.set i v) (ds.set i d)
  | _, _, _, .nil => .nil
  | _, _, 0, .cons _ t => .cons r t
  | _, _, i + 1, .cons q t => .cons q (DVs.set r i t)
theorem DVs.reverse : ∀ {vs : List V} {ds : List D}, DVs T μ H vs ds → DVs T μ H vs.reverse ds.reverse
  | _, _, .nil => by simpa using DVs.nil
  | _, _, .cons h t => by
    rw [List.reverse_cons, List.reverse_cons]
    exact DVs.append (DVs.reverse t) (.cons h .nil)
theorem DVs.ints : ∀ {vs : List V} {ns : List Int}, DVs T μ H vs (ns.map D.int) → vs = ns.map V.int
  | _, [], .nil => rfl
  | _, _ :: _, .cons (.int i) t => by rw [List.map_cons, DVs.ints t]
theorem DVs.of_ints : ∀ (ns : List Int), DVs T μ H (ns.map V.int) (ns.map D.int)
  | [] => .nil
  | _ :: ns => .cons (.int _) (DVs.of_ints ns)
theorem DFs.look : ∀ {vs : List (Str × V)} {fs : List (Nat × D)} {f : Nat} {d : D}, f < T.nN → DFs T μ H vs fs → fs.lookup f = some d → ∃ v, vs.lookup (T.nm f) = some v ∧ DV T μ H v d
  | _, _, _, _, _, .nil, e => by simp at e
  | _, _, f, d, hf, .cons (f := g) z h q, e => by
    rw [List.lookup_cons] at e ⊢
    cases hb : f == g with
    | true =>
      rw [hb] at e; cases e
      rw [beq_iff_eq.mp hb, beq_self_eq_true]
      exact ⟨_, rfl, h⟩
    | false =>
      rw [hb] at e
      have hn : (T.nm f == T.nm g) = false := by
        rw [beq_eq_false_iff_ne]
        intro hq
        rw [T.inj f g hf z hq, beq_self_eq_true] at hb; cases hb
      rw [hn]
      exact DFs.look hf q e
theorem DFs.look_none : ∀ {vs : List (Str × V)} {fs : List (Nat × D)} {m : Str}, DFs T μ H vs fs → (∀ j, j < T.nN → T.nm j ≠ m) → vs.lookup m = none
  | _, _, _, .nil, _ => rfl
  | _, _, m, .cons (f := g) z h q, n => by
    rw [List.lookup_cons, beq_eq_false_iff_ne.mpr fun e => n g z e.symm]
    exact DFs.look_none q n
theorem DFs.length : ∀ {vs : List (Str × V)} {fs : List (Nat × D)}, DFs T μ H vs fs → vs.length = fs.length
  | _, _, .nil => rfl
  | _, _, .cons _ _ q => by simp [DFs.length q]
/-- a field is stored -/
def putD (f : Nat) (d : D) : List (Nat × D) → List (Nat × D)
  | [] => [(f, d)]
  | p :: ps => if p.1 = f then (f, d) :: ps else p :: putD f d ps
theorem DFs.put {f : Nat} {v : V} {d : D} (hf : f < T.nN) (h : DV T μ H v d) : ∀ {vs : List (Str × V)} {fs : List (Nat × D)}, DFs T μ H vs fs → DFs T μ H (putF (T.nm f) v vs) (putD f d fs)
  | _, _, .nil => .cons hf h .nil
  | _, _, .cons (f := g) (v := w) (vs := vs) (d := e) (ds := ds) z q t => by
    show DFs T μ H (if T.nm g = T.nm f then _ else _) (if g = f then _ else _)
    by_cases hg : g = f
    · subst hg
      rw [if_pos rfl, if_pos rfl]
      exact .cons z h t
    · rw [if_neg hg, if_neg fun e => hg (T.inj g f z hf e)]
      exact .cons z q (DFs.put hf h t)
end

/-- an object of the heap shows one of the store -/
def RepO (T : Tb) (μ : List Addr) (H : Hp) (a : Addr) : SO → Prop
  | .lst ds => purL ds = true ∧ ∃ xs, H a = some (.lst xs) ∧ DVs T μ H xs ds
  | .ins c fs => (purF fs = true ∧ c < T.nC ∧ ∀ p ∈ fs, p.1 ∈ T.fl c) ∧ ∃ dx vs, H a = some (.ins (T.cA c) dx vs) ∧ DFs T μ H vs fs
theorem RepO.there {T : Tb} {μ : List Addr} {H : Hp} {a : Addr} {o : SO} (h : RepO T μ H a o) : ∃ u, H a = some u ∧ MutS u := by
  cases o with
  | lst ds => obtain ⟨_, xs, e, _⟩ := h; exact ⟨_, e, .inl ⟨_, rfl⟩⟩
  | ins c fs => obtain ⟨_, dx, vs, e, _⟩ := h; exact ⟨_, e, .inr ⟨_, _, _, rfl⟩⟩
theorem RepO.step {T : Tb} {μ μ' : List Addr} {H H' : Hp} {a : Addr} {o : SO} (s : Step μ H μ' H') (r : Rep0 μ H) (k : H' a = H a) (h : RepO T μ H a o) : RepO T μ' H' a o := by
  cases o with
  | lst ds => obtain ⟨p, xs, e, q⟩ := h; exact ⟨p, xs, k.trans e, q.step s r⟩
  | ins c fs => obtain ⟨p, dx, vs, e, q⟩ := h; exact ⟨p, dx, vs, k.trans e, q.step s r⟩
theorem RepO.less {T : Tb} {μ ν : List Addr} {H : Hp} {a : Addr} {o : SO} (sub : ∀ a, a ∈ ν → a ∈ μ) (h : RepO T μ H a o) : RepO T ν H a o := by
  cases o with
  | lst ds => obtain ⟨p, xs, e, q⟩ := h; exact ⟨p, xs, e, q.less sub p⟩
  | ins c fs => obtain ⟨p, dx, vs, e, q⟩ := h; exact ⟨p, dx, vs, e, q.less sub p.1⟩
/-- the heap shows the store -/
structure Rep (T : Tb) (μ : List Addr) (H : Hp) (S : Store) : Prop where
  len : μ.length = S.length
  nd : μ.Nodup
  ob : ∀ (l : Nat) (a : Addr) (o : SO), μ[l]? = some a → S[l]? = some o → RepO T μ H a o
  tabs : LamX.Tabs T.tabs H
theorem Rep.r0 {T : Tb} {μ : List Addr} {H : Hp} {S : Store} (r : Rep T μ H S) : Rep0 μ H := ⟨fun a ha => by
  obtain ⟨l, hl, e⟩ := List.mem_iff_getElem.mp ha
  have hl' : l < S.length := by rw [← r.len]; exact hl
  exact (r.ob l a S[l] (by rw [List.getElem?_eq_getElem hl, e]) (by rw [List.getElem?_eq_getElem hl'])).there⟩

/-- the slots show the environment -/
structure EnvR (T : Tb) (μ : List Addr) (H : Hp) (σ : L2.St) (ρ : Ev) : Prop where
  len : σ.length = ρ.length
  at_ : ∀ (i : Nat) (d : D), ρ[i]? = some (some d) → ∃ v, σ[i]? = some (some v) ∧ DV T μ H v d
theorem EnvR.step {T : Tb} {μ μ' : List Addr} {H H' : Hp} {σ : L2.St} {ρ : Ev} (s : Step μ H μ' H') (r : Rep0 μ H) (e : EnvR T μ H σ ρ) : EnvR T μ' H' σ ρ :=
  ⟨e.len, fun i d h => let ⟨v, h1, h2⟩ := e.at_ i d h; ⟨v, h1, h2.step s r⟩⟩
theorem EnvR.set {T : Tb} {μ : List Addr} {H : Hp} {σ : L2.St} {ρ : Ev} {i : Nat} {v : V} {d : D} (e : EnvR T μ H σ ρ) (h : DV T μ H v d) : EnvR T μ H (σ.set i (some v)) (ρ.set i (some d)) := by
  refine ⟨by rw [List.length_set, List.length_set, e.len], fun j d' hj => ?_⟩
  by_cases q : i = j
  · subst q
    have hi : i < ρ.length := by
      have := (List.getElem?_eq_some_iff.mp hj).1
      rwa [List.length_set] at this
    rw [List.getElem?_set_self hi] at hj
    cases hj
    exact ⟨v, List.getElem?_set_self (by rw [e.len]; exact hi), h⟩
  · rw [List.getElem?_set_ne q] at hj ⊢
    exact e.at_ j d' hj
/-- the new store after an allocation; o: what is laid beside it before (an instance's own dict) -/
theorem Rep.add {T : Tb} {μ : List Addr} {H H' : Hp} {S : Store} {p : Addr} {o : SO} (r : Rep T μ H S) (h : H p = none) (st : Step μ H (μ ++ [p]) H') (k : ∀ a ∈ μ, H' a = H a) (tb : LamX.Tabs T.tabs H → LamX.Tabs T.tabs H') (q : RepO T (μ ++ [p]) H' p o) : Rep T (μ ++ [p]) H' (S ++ [o]) := by
  have r0 := r.r0
  have hn : p ∉ μ := fun hm => by obtain ⟨u, e, _⟩ := r0.mu p hm; rw [h] at e; cases e
  refine ⟨by simp [r.len], List.nodup_append.mpr ⟨r.nd, by simp, fun a ha b hb => by rw [List.mem_singleton.mp hb]; exact fun e => hn (e ▸ ha)⟩, fun l a u h1 h2 => ?_, tb r.tabs⟩
  by_cases hl : l < μ.length
  · rw [List.getElem?_append_left hl] at h1
    rw [List.getElem?_append_left (by rw [← r.len]; exact hl)] at h2
    exact (r.ob l a u h1 h2).step st r0 (k a (List.mem_of_getElem? h1))
  · have hl2 : l < (μ ++ [p]).length := (List.getElem?_eq_some_iff.mp h1).1
    have el : l = μ.length := by rw [List.length_append, List.length_singleton] at hl2; omega
    subst el
    rw [List.getElem?_append_right (Nat.le_refl _), Nat.sub_self] at h1
    rw [r.len, List.getElem?_append_right (Nat.le_refl _), Nat.sub_self] at h2
    cases h1; cases h2
    exact q
theorem Rep.addL {T : Tb} {μ : List Addr} {H : Hp} {S : Store} {p : Addr} {xs : List V} {ds : List D} (r : Rep T μ H S) (h : H p = none) (hp : purL ds = true) (q : DVs T μ H xs ds) : Rep T (μ ++ [p]) (upd H p (.lst xs)) (S ++ [.lst ds]) := by
  have st := Step.add (μ := μ) (o := .lst xs) h
  refine r.add h st (fun a ha => ?_) (tabs_new h) ⟨hp, xs, upd_same, q.step st r.r0⟩
  obtain ⟨u, e, _⟩ := r.r0.mu a ha
  rw [upd_ne (ne_of_none e h)]
theorem Rep.put {T : Tb} {μ : List Addr} {H : Hp} {S : Store} {l : Nat} {p : Addr} {u : HO} {o : SO} (r : Rep T μ H S) (h : μ[l]? = some p) (q : RepO T μ (upd H p u) p o) : Rep T μ (upd H p u) (S.set l o) := by
  have r0 := r.r0
  have hm : p ∈ μ := List.mem_of_getElem? h
  obtain ⟨zs, e0, mz⟩ := r0.mu p hm
  have st := Step.put (μ := μ) (o := u) e0 hm mz
  refine ⟨by simp [r.len], r.nd, fun k a w h1 h2 => ?_, tabs_put r.tabs e0 mz⟩
  by_cases hk : l = k
  · subst hk
    rw [h] at h1; cases h1
    have hl : l < S.length := by rw [← r.len]; exact (List.getElem?_eq_some_iff.mp h).1
    rw [List.getElem?_set_self hl] at h2
    cases h2
    exact q
  · rw [List.getElem?_set_ne hk] at h2
    refine (r.ob k a w h1 h2).step st r0 ?_
    rw [upd_ne (fun e => hk ?_)]
    subst e
    obtain ⟨b1, c1⟩ := List.getElem?_eq_some_iff.mp h
    obtain ⟨b2, c2⟩ := List.getElem?_eq_some_iff.mp h1
    exact (List.getElem_inj r.nd).mp (c1.trans c2.symm)
theorem Rep.putL {T : Tb} {μ : List Addr} {H : Hp} {S : Store} {l : Nat} {p : Addr} {xs : List V} {ds : List D} (r : Rep T μ H S) (h : μ[l]? = some p) (hp : purL ds = true) (q : DVs T μ H xs ds) : Rep T μ (upd H p (.lst xs)) (S.set l (.lst ds)) := by
  have hm : p ∈ μ := List.mem_of_getElem? h
  obtain ⟨zs, e0, mz⟩ := r.r0.mu p hm
  exact r.put h ⟨hp, xs, upd_same, q.step (Step.put (μ := μ) (o := .lst xs) e0 hm mz) r.r0⟩
/-- an object laid beside the store -/
theorem Rep.step0 {T : Tb} {μ : List Addr} {H H' : Hp} {S : Store} (r : Rep T μ H S) (s : Step μ H μ H') (k : ∀ a ∈ μ, H' a = H a) (tb : LamX.Tabs T.tabs H → LamX.Tabs T.tabs H') : Rep T μ H' S :=
  ⟨r.len, r.nd, fun l a u h1 h2 => (r.ob l a u h1 h2).step s r.r0 (k a (List.mem_of_getElem? h1)), tb r.tabs⟩
theorem Rep.new {T : Tb} {μ : List Addr} {H : Hp} {S : Store} {p : Addr} {o : HO} (r : Rep T μ H S) (h : H p = none) : Rep T μ (upd H p o) S :=
  r.step0 (Step.new h) (fun a ha => by
    obtain ⟨u, e, _⟩ := r.r0.mu a ha
    rw [upd_ne (ne_of_none e h)]) (tabs_new h)
/-- the store cut back to what stood before -/
theorem Rep.cut {T : Tb} {μ μ' m : List Addr} {H' : Hp} {S' : Store} (r : Rep T μ' H' S') (e : μ' = μ ++ m) : Rep T μ H' (S'.take μ.length) := by
  refine ⟨?_, ?_, fun l a u h1 h2 => ?_, r.tabs⟩
  · rw [List.length_take, ← r.len, e, List.length_append]; omega
  · have := r.nd
    rw [e] at this
    exact (List.nodup_append.mp this).1
  · have hl : l < μ.length := (List.getElem?_eq_some_iff.mp h1).1
    rw [List.getElem?_take_of_lt hl] at h2
    exact (r.ob l a u (by rw [e, List.getElem?_append_left hl]; exact h1) h2).less (fun b hb => by rw [e]; exact List.mem_append_left _ hb)
end DL

set_option Elab.async false
set_option linter.all false
set_option maxRecDepth 100000
set_option maxHeartbeats 4000000
/-! DL1: what an expression computes, as a Lean function of the environment and the store. -/
namespace DL
open PySem PySem.Spec PyProof.Rows L2

inductive Res (α : Type) where
  | ok (a : α) (S : Store)
  | exc (c : Nat) (fs : List (Nat × D)) (S : Store)
  | bad
def Res.bind {α β : Type} (r : Res α) (f : α → Store → Res β) : Res β :=
  match r with
  | .ok a S => f a S
  | .exc c fs S => .exc c fs S
  | .bad => .bad
@[simp] theorem Res.bind_ok {α β : Type} (a : α) (S : Store) (f : α → Store → Res β) : (Res.ok a S).bind f = f a S := rfl
@[simp] theorem Res.bind_exc {α β : Type} (c : Nat) (fs : List (Nat × D)) (S : Store) (f : α → Store → Res β) : (Res.exc c fs S : Res α).bind f = .exc c fs S := rfl
@[simp] theorem Res.bind_bad {α β : Type} (f : α → Store → Res β) : (Res.bad : Res α).bind f = .bad := rfl

/-- an exception's own dict shows these fields -/
def XR (T : Tb) (μ : List Addr) (H : Hp) (dx : Addr) (fs : List (Nat × D)) : Prop := ∃ vs, H dx = some (.xd vs) ∧ DFs T μ H vs fs
/-- what is asked of the heap behind a result -/
def Fin (T : Tb) (E : XK) {α : Type} (k : α → Store → List Addr → Hp → Prop) (μ : List Addr) (H : Hp) : Res α → Prop
  | .ok a S' => ∀ μ' H', Step μ H μ' H' → Rep T μ' H' S' → k a S' μ' H'
  | .exc c fs S' => ∀ dx μ' H', Step μ H μ' H' → Rep T μ' H' S' → XR T μ' H' dx fs → E (.ref (T.eA c)) (some dx) H'
  | .bad => False
section
variable {T : Tb} {E : XK} {α β : Type} {μ μ1 : List Addr} {H H1 : Hp}
theorem Fin.step {k : α → Store → List Addr → Hp → Prop} {r : Res α} (s : Step μ H μ1 H1) (h : Fin T E k μ H r) : Fin T E k μ1 H1 r := by
  cases r with
  | ok a S => exact fun μ' H' st rp => h μ' H' (s.trans st) rp
  | exc c fs S => exact fun dx μ' H' st rp x => h dx μ' H' (s.trans st) rp x
  | bad => exact h
theorem Fin.bind {k : β → Store → List Addr → Hp → Prop} {r : Res α} {f : α → Store → Res β} (h : Fin T E k μ H (r.bind f)) :
    Fin T E (fun a S1 μ1 H1 => Fin T E k μ1 H1 (f a S1)) μ H r := by
  cases r with
  | ok a S => exact fun μ' H' st _ => Fin.step st h
  | exc c fs S => exact h
  | bad => exact h
theorem Fin.mono {k k' : α → Store → List Addr → Hp → Prop} {r : Res α} (h : Fin T E k μ H r) (m : ∀ a S' μ' H', Step μ H μ' H' → Rep T μ' H' S' → k a S' μ' H' → k' a S' μ' H') : Fin T E k' μ H r := by
  cases r with
  | ok a S => exact fun μ' H' st rp => m a S μ' H' st rp (h μ' H' st rp)
  | exc c fs S => exact h
  | bad => exact h
theorem Fin.ok {k : α → Store → List Addr → Hp → Prop} {a : α} {S : Store} (h : Fin T E k μ H (.ok a S)) (rp : Rep T μ H S) : k a S μ H := h μ H (Step.refl _ _) rp
theorem Fin.at {k : α → Store → List Addr → Hp → Prop} {a : α} {S : Store} (h : Fin T E k μ H (.ok a S)) (st : Step μ H μ1 H1) (rp : Rep T μ1 H1 S) : k a S μ1 H1 := h μ1 H1 st rp
end
abbrev kD (T : Tb) (Q : VK) : D → Store → List Addr → Hp → Prop := fun d _ μ H => ∀ v, DV T μ H v d → Q v H
abbrev kL (T : Tb) (Q : List V → Hp → Prop) : List D → Store → List Addr → Hp → Prop := fun ds _ μ H => ∀ vs, DVs T μ H vs ds → Q vs H
abbrev kB (Q : Bool → Hp → Prop) : Bool → Store → List Addr → Hp → Prop := fun b _ _ H => Q b H
abbrev FE := Ev → Store → Res D
abbrev FT := Ev → Store → Res Bool
abbrev FL := Ev → Store → Res (List D)
def tE (T : Tb) (E : XK) (f : FE) : TE := fun σ H Q => ∃ ρ S μ, EnvR T μ H σ ρ ∧ Rep T μ H S ∧ Fin T E (kD T Q) μ H (f ρ S)
def tT (T : Tb) (E : XK) (f : FT) : TT := fun σ H Q => ∃ ρ S μ, EnvR T μ H σ ρ ∧ Rep T μ H S ∧ Fin T E (kB Q) μ H (f ρ S)
def tA (T : Tb) (E : XK) (f : FL) : TA := fun σ H Q => ∃ ρ S μ, EnvR T μ H σ ρ ∧ Rep T μ H S ∧ Fin T E (kL T Q) μ H (f ρ S)

theorem peW {X : Cx} {e : Expr} {t t' : TE} (h : PE X e t) (w : ∀ σ H Q, t' σ H Q → t σ H Q) : PE X e t' := ⟨fun pins s σ H Q I q => h.run pins s σ H Q I (w σ H Q q)⟩
theorem ptW {X : Cx} {e : Expr} {t t' : TT} (h : PT X e t) (w : ∀ σ H Q, t' σ H Q → t σ H Q) : PT X e t' := ⟨fun pins s σ H Q I q => h.run pins s σ H Q I (w σ H Q q)⟩
theorem pwW {X : Cx} {e : Expr} {t t' : TT} (h : PW X e t) (w : ∀ σ H Q, t' σ H Q → t σ H Q) : PW X e t' := ⟨fun wh pins s σ H Q I q => h.run wh pins s σ H Q I (w σ H Q q)⟩
theorem paW {X : Cx} {es : List Expr} {t t' : TA} (h : PA X es t) (w : ∀ σ H Q, t' σ H Q → t σ H Q) : PA X es t' := ⟨fun pos pins s σ H Q I q => h.run pos pins s σ H Q I (w σ H Q q)⟩

/-- the built-in names are not taken by the module -/
structure BN (mg : Str → Option Value) : Prop where
  len : mg "len" = none
  isinstance : mg "isinstance" = none
  int : mg "int" = none
  abs : mg "abs" = none
  sum : mg "sum" = none
  max : mg "max" = none
  min : mg "min" = none
  all : mg "all" = none
  tuple : mg "tuple" = none
  list : mg "list" = none
  range : mg "range" = none
  enumerate : mg "enumerate" = none
  zip : mg "zip" = none
  repr : mg "repr" = none
  bool : mg "bool" = none
  str : mg "str" = none
/-- where a def's body stands -/
structure Ct (X : Cx) (T : Tb) (E : XK) (k : Nat) : Prop where
  hK : T.K = X.K
  calm : X.calm = true
  nd : X.N.Nodup
  pass : Passes (CX X.prog X.w) X E
  room : Room k X.A
  bn : BN X.mg

section
variable {X : Cx} {T : Tb} {E : XK} {k : Nat}

/-! ### names, constants -/
def fVar (i : Nat) : FE := fun ρ S => match ρ[i]? with | some (some d) => .ok d S | _ => .bad
def fC (d : D) : FE := fun _ S => .ok d S
theorem de_var {i : Nat} {x : Str} {pos : Pos} (h : PE X (.Name x pos) (tVar i)) : PE X (.Name x pos) (tE T E (fVar i)) :=
  peW h fun σ H Q ⟨ρ, S, μ, he, hr, hf⟩ => by
    unfold fVar at hf
    split at hf
    · rename_i d hd
      obtain ⟨v, e1, e2⟩ := he.at_ i d hd
      exact ⟨v, e1, hf.ok hr v e2⟩
    · exact hf.elim
theorem de_c {e : Expr} {v : V} {d : D} (h : PE X e (tC v)) (hd : ∀ μ H, DV T μ H v d) : PE X e (tE T E (fC d)) :=
  peW h fun σ H Q ⟨ρ, S, μ, he, hr, hf⟩ => hf.ok hr v (hd μ H)
theorem de_int {i j pos} : PE X (.Constant (.int i) j pos) (tE T E (fC (.int i))) := de_c pe_int fun _ _ => .int i
theorem de_bl {b j pos} : PE X (.Constant (.bool b) j pos) (tE T E (fC (.bl b))) := de_c pe_bl fun _ _ => .bl b
theorem de_non {j pos} : PE X (.Constant .none j pos) (tE T E (fC .non)) := de_c pe_non fun _ _ => .non
theorem de_str {x j pos} : PE X (.Constant (.str x) j pos) (tE T E (fC (.str x))) := de_c pe_str fun _ _ => .str x

/-! ### argument lists, displays -/
def fNil : FL := fun _ S => .ok [] S
def fCons (f : FE) (g : FL) : FL := fun ρ S => (f ρ S).bind fun d S1 => (g ρ S1).bind fun ds S2 => .ok (d :: ds) S2
theorem da_nil : PA X [] (tA T E fNil) := paW pa_nil fun σ H Q ⟨ρ, S, μ, he, hr, hf⟩ => hf.ok hr [] .nil
theorem da_cons {e : Expr} {es : List Expr} {f : FE} {g : FL} (ha : PE X e (tE T E f)) (hb : PA X es (tA T E g)) (hs : starEach (e :: es) X.env = (false, eval e X.env) :: starEach es X.env := by rfl) : PA X (e :: es) (tA T E (fCons f g)) :=
  paW (pa_cons ha hb hs) fun σ H Q ⟨ρ, S, μ, he, hr, hf⟩ =>
    ⟨ρ, S, μ, he, hr, (Fin.bind hf).mono fun d S1 μ1 H1 st1 r1 h1 v hv => ⟨ρ, S1, μ1, he.step st1 hr.r0, r1, (Fin.bind h1).mono fun ds S2 μ2 H2 st2 r2 h2 vs hvs => h2.ok r2 (v :: vs) (.cons (hv.step st2 r1.r0) hvs)⟩⟩
def lineN : Nat := 1000000
theorem lineN_le {n : Nat} (h : n ≤ lineN) : n ≤ sizeLine := Nat.le_trans h (by decide)
theorem lineN_lt {n : Nat} (h : n < lineN) : n < sizeLine := Nat.lt_of_lt_of_le h (by decide)
def fTup (g : FL) : FE := fun ρ S => (g ρ S).bind fun ds S1 => if ds.length ≤ lineN then .ok (.tup ds) S1 else .bad
def fLst (g : FL) : FE := fun ρ S => (g ρ S).bind fun ds S1 => if ds.length ≤ lineN then .ok (.lst ds) S1 else .bad
/-- a list that is to be written -/
def fNew (g : FL) : FE := fun ρ S => (g ρ S).bind fun ds S1 => if ds.length ≤ lineN ∧ purL ds = true then .ok (.obj S1.length) (S1 ++ [.lst ds]) else .bad
/-- the end of a result that lays a new tuple, list -/
theorem fin_tup {μ : List Addr} {H : Hp} {S : Store} {vs : List V} {ds : List D} {Q : VK} (hr : Rep T μ H S) (h : DVs T μ H vs ds) (hf : Fin T E (kD T Q) μ H (.ok (.tup ds) S)) (p : Addr) (o : Obj) (hp : H p = none) (ho : o.dict = none) : Q (.ref p) (upd H p (.frz o (.tup vs))) := by
  have st : Step μ H μ (upd H p (.frz o (.tup vs))) := Step.new hp
  exact hf.at st (hr.new hp) (.ref p) (.tup (.inl ⟨o, upd_same, ho⟩) (h.step st hr.r0))
theorem fin_lst {μ : List Addr} {H : Hp} {S : Store} {vs : List V} {ds : List D} {Q : VK} (hr : Rep T μ H S) (h : DVs T μ H vs ds) (hf : Fin T E (kD T Q) μ H (.ok (.lst ds) S)) (p : Addr) (hp : H p = none) : Q (.ref p) (upd H p (.lst vs)) := by
  have st : Step μ H μ (upd H p (.lst vs)) := Step.new hp
  refine hf.at st (hr.new hp) (.ref p) (.lst upd_same (fun hm => ?_) (h.step st hr.r0))
  obtain ⟨u, e, _⟩ := hr.r0.mu p hm
  rw [hp] at e; cases e
theorem fin_new {μ : List Addr} {H : Hp} {S : Store} {vs : List V} {ds : List D} {Q : VK} (hr : Rep T μ H S) (hp' : purL ds = true) (h : DVs T μ H vs ds) (hf : Fin T E (kD T Q) μ H (.ok (.obj S.length) (S ++ [.lst ds]))) (p : Addr) (hp : H p = none) : Q (.ref p) (upd H p (.lst vs)) := by
  have st : Step μ H (μ ++ [p]) (upd H p (.lst vs)) := Step.add hp
  refine hf.at st (hr.addL hp hp' h) (.ref p) (.obj ?_)
  rw [← hr.len, List.getElem?_append_right (Nat.le_refl _), Nat.sub_self]
  rfl
/-- a tuple display, its object known -/
def tTupX (t : TA) : TE := fun σ H Q => t σ H fun xs H1 => xs.length ≤ sizeLine ∧ ∀ (p : Addr) (o : Obj), H1 p = none → o.dict = none → Q (.ref p) (upd H1 p (.frz o (.tup xs)))
theorem laid_tup {pins : List (Addr × Obj)} {σ : L2.St} {H : Hp} {s : Shared} {xs : List V} {us : List Value} {Q : VK} (I : Inv X pins σ H s) (r : Vals xs us) (z : xs.length ≤ sizeLine)
    (q : ∀ (p : Addr) (o : Obj), H p = none → o.dict = none → Q (.ref p) (upd H p (.frz o (.tup xs)))) : EP X pins σ Q (.ref s.heap.objs.size) { s with heap := s.heap.push { cls := .type "tuple", data := .seq us.toArray } } := by
  have new : ObjOk X.prog X.w (upd H s.heap.objs.size (.frz { cls := .type "tuple", data := .seq us.toArray } (.tup xs))) (s.heap.push { cls := .type "tuple", data := .seq us.toArray }) s.heap.objs.size (.frz { cls := .type "tuple", data := .seq us.toArray } (.tup xs)) :=
    ⟨Heap.get?_push_size _ rfl, z, us, r, ⟨_, Heap.get?_push_size _ rfl, rfl, _, rfl⟩⟩
  exact ⟨.ref s.heap.objs.size, _, I.laid (t' := s.toks) (fun b u e => Heap.get?_push_of_some _ e) (Nat.le_refl _) new, rfl, q _ _ (I.hok.fresh (Nat.le_refl _)) rfl⟩
theorem pe_tupX {es : List Expr} {t : TA} {n : Nat} {pos : Pos} (h : PA X es t) : PE X (.Tuple es n pos) (tTupX t) :=
  ⟨fun pins s σ H Q I hq => wpAny_Tuple_spliced (thn (h.run pos pins s σ H _ I hq) fun us s1 ⟨xs, H1, I1, r, z, q⟩ => ⟨by rw [← r.length]; exact z, laid_tup I1 r z q⟩)⟩
theorem de_tup {es : List Expr} {g : FL} {n : Nat} {pos : Pos} (h : PA X es (tA T E g)) : PE X (.Tuple es n pos) (tE T E (fTup g)) :=
  peW (pe_tupX h) fun σ H Q ⟨ρ, S, μ, he, hr, hf⟩ => ⟨ρ, S, μ, he, hr, (Fin.bind hf).mono fun ds S1 μ1 H1 st1 r1 h1 vs hvs => by
    split at h1
    · rename_i hl
      exact ⟨by rw [hvs.length]; exact lineN_le hl, fin_tup r1 hvs h1⟩
    · exact h1.elim⟩
theorem de_lst {es : List Expr} {g : FL} {pos : Pos} (h : PA X es (tA T E g)) : PE X (.List es pos) (tE T E (fLst g)) :=
  peW (pe_lst h) fun σ H Q ⟨ρ, S, μ, he, hr, hf⟩ => ⟨ρ, S, μ, he, hr, (Fin.bind hf).mono fun ds S1 μ1 H1 st1 r1 h1 vs hvs => by
    split at h1
    · rename_i hl
      exact ⟨by rw [hvs.length]; exact lineN_le hl, fin_lst r1 hvs h1⟩
    · exact h1.elim⟩
theorem de_new {es : List Expr} {g : FL} {pos : Pos} (h : PA X es (tA T E g)) : PE X (.List es pos) (tE T E (fNew g)) :=
  peW (pe_lst h) fun σ H Q ⟨ρ, S, μ, he, hr, hf⟩ => ⟨ρ, S, μ, he, hr, (Fin.bind hf).mono fun ds S1 μ1 H1 st1 r1 h1 vs hvs => by
    split at h1
    · rename_i hl
      exact ⟨by rw [hvs.length]; exact lineN_le hl.1, fin_new r1 hl.2 hvs h1⟩
    · exact h1.elim⟩

/-! ### operators by values -/
abbrev G2 := D → D → Store → Res D
/-- the rule r does what g says -/
def Ok2 (T : Tb) (E : XK) (r : R2) (g : G2) : Prop := ∀ (d e : D) (v w : V) (S : Store) (μ : List Addr) (H : Hp) (Q : VK), DV T μ H v d → DV T μ H w e → Rep T μ H S → Fin T E (kD T Q) μ H (g d e S) → r v w H Q
def f2 (g : G2) (fa fb : FE) : FE := fun ρ S => (fa ρ S).bind fun d S1 => (fb ρ S1).bind fun e S2 => g d e S2
theorem te_2 {r : R2} {g : G2} {fa fb : FE} (hg : Ok2 T E r g) : ∀ σ H Q, tE T E (f2 g fa fb) σ H Q → tOp r (tE T E fa) (tE T E fb) σ H Q := fun σ H Q ⟨ρ, S, μ, he, hr, hf⟩ =>
  ⟨ρ, S, μ, he, hr, (Fin.bind hf).mono fun d S1 μ1 H1 st1 r1 h1 v hv => ⟨ρ, S1, μ1, he.step st1 hr.r0, r1, (Fin.bind h1).mono fun e S2 μ2 H2 st2 r2 h2 w hw => hg d e v w S2 μ2 H2 Q (hv.step st2 r1.r0) hw r2 h2⟩⟩
theorem de_op {op : Operator} {r : R2} {g : G2} {a b : Expr} {fa fb : FE} {pos : Pos} (ho : OpR X (binaryOp op) r) (hg : Ok2 T E r g) (ha : PE X a (tE T E fa)) (hb : PE X b (tE T E fb)) : PE X (.BinOp a op b pos) (tE T E (f2 g fa fb)) :=
  peW (pe_op ho ha hb) (te_2 hg)
theorem de_cmp {op : CmpOp} {r : R2} {g : G2} {a b : Expr} {fa fb : FE} {pos : Pos} (ho : OpR X (compareOp op) r) (hg : Ok2 T E r g) (ha : PE X a (tE T E fa)) (hb : PE X b (tE T E fb)) (hm : behindInMarks op b = false) : PE X (.Compare a [op] [b] pos) (tE T E (f2 g fa fb)) :=
  peW (pe_cmpR ho ha hb hm) (te_2 hg)
/-- a value that must be True or False, as a test's answer -/
def asB (f : FE) : FT := fun ρ S => (f ρ S).bind fun d S1 => match d with | .bl b => .ok b S1 | _ => .bad
theorem asB_fin {μ : List Addr} {H : Hp} {r : Res D} {Q : Bool → Hp → Prop} (h : Fin T E (kB Q) μ H (r.bind fun d S1 => match d with | .bl b => .ok b S1 | _ => .bad)) :
    Fin T E (kD T fun x H' => ∃ k, x = .bl k ∧ Q k H') μ H r :=
  (Fin.bind h).mono fun d S1 μ1 H1 st1 r1 h1 v hv => by
    cases hv <;> first | exact ⟨_, rfl, h1.ok r1⟩ | exact h1.elim
theorem dt_cmp {op : CmpOp} {r : R2} {g : G2} {a b : Expr} {fa fb : FE} {pos : Pos} (ho : OpR X (compareOp op) r) (hg : Ok2 T E r g) (ha : PE X a (tE T E fa)) (hb : PE X b (tE T E fb)) (hm : behindInMarks op b = false) : PT X (.Compare a [op] [b] pos) (tT T E (asB (f2 g fa fb))) :=
  ptW (pt_cmpR ho ha hb hm) fun σ H Q ⟨ρ, S, μ, he, hr, hf⟩ => te_2 hg σ H _ ⟨ρ, S, μ, he, hr, asB_fin hf⟩
theorem dt_val {e : Expr} {f : FE} (h : PE X e (tE T E f)) (he : ∀ whole, isTrue e X.env whole = (do let v ← whole; standAt e.pos; holding [v] (truthy v)) := by intro _; rfl) : PT X e (tT T E (asB f)) :=
  ptW (pt_val h he) fun σ H Q ⟨ρ, S, μ, he, hr, hf⟩ => ⟨ρ, S, μ, he, hr, asB_fin hf⟩
/-- a chain of two comparisons -/
def f3 (g g' : G2) (fa fb fc : FE) : FE := fun ρ S => (fa ρ S).bind fun d S1 => (fb ρ S1).bind fun e S2 => (g d e S2).bind fun z S3 => match z with
  | .bl true => (fc ρ S3).bind fun h S4 => g' e h S4
  | .bl false => .ok (.bl false) S3
  | _ => .bad
end
end DL

set_option Elab.async false
set_option linter.all false
set_option maxRecDepth 100000
set_option maxHeartbeats 4000000
/-! DL2: operators, comparisons, tests, subscripts. -/
namespace DL
open PySem PySem.Spec PyProof.Rows L2
section
variable {X : Cx} {T : Tb} {E : XK} {k : Nat}

/-! ### chains, and, or, not, if-expressions -/
theorem te_3 {r r' : R2} {g g' : G2} {fa fb fc : FE} (hg : Ok2 T E r g) (hg' : Ok2 T E r' g') : ∀ σ H Q, tE T E (f3 g g' fa fb fc) σ H Q → tChain r r' (tE T E fa) (tE T E fb) (tE T E fc) σ H Q := fun σ H Q ⟨ρ, S, μ, he, hr, hf⟩ =>
  ⟨ρ, S, μ, he, hr, (Fin.bind hf).mono fun d S1 μ1 H1 st1 r1 h1 v hv => ⟨ρ, S1, μ1, he.step st1 hr.r0, r1, (Fin.bind h1).mono fun e S2 μ2 H2 st2 r2 h2 w hw =>
    hg d e v w S2 μ2 H2 _ (hv.step st2 r1.r0) hw r2 ((Fin.bind h2).mono fun z S3 μ3 H3 st3 r3 h3 x hx => by
      cases hx with
      | bl b =>
        refine ⟨b, rfl, ?_⟩
        cases b with
        | true =>
          refine iteT ⟨ρ, S3, μ3, ((he.step st1 hr.r0).step st2 r1.r0).step st3 r2.r0, r3, (Fin.bind h3).mono fun h S4 μ4 H4 st4 r4 h4 y hy => ?_⟩
          exact hg' e h w y S4 μ4 H4 Q ((hw.step st3 r2.r0).step st4 r3.r0) hy r4 h4
        | false => exact iteF (h3.ok r3 _ (.bl false))
      | _ => exact h3.elim)⟩⟩
theorem de_chain {op op' : CmpOp} {r r' : R2} {g g' : G2} {a b c : Expr} {fa fb fc : FE} {pos : Pos} (ho : OpR X (compareOp op) r) (ho' : OpR X (compareOp op') r') (hg : Ok2 T E r g) (hg' : Ok2 T E r' g')
    (ha : PE X a (tE T E fa)) (hb : PE X b (tE T E fb)) (hc : PE X c (tE T E fc)) (hm : lastMarks [op, op'] [b, c] = false := by with_unfolding_all rfl) : PE X (.Compare a [op, op'] [b, c] pos) (tE T E (f3 g g' fa fb fc)) :=
  peW (pe_chain ho ho' ha hb hc hm) (te_3 hg hg')
theorem dt_chain {op op' : CmpOp} {r r' : R2} {g g' : G2} {a b c : Expr} {fa fb fc : FE} {pos : Pos} (ho : OpR X (compareOp op) r) (ho' : OpR X (compareOp op') r') (hg : Ok2 T E r g) (hg' : Ok2 T E r' g')
    (ha : PE X a (tE T E fa)) (hb : PE X b (tE T E fb)) (hc : PE X c (tE T E fc)) (hm : lastMarks [op, op'] [b, c] = false := by with_unfolding_all rfl) : PT X (.Compare a [op, op'] [b, c] pos) (tT T E (asB (f3 g g' fa fb fc))) :=
  ptW (pt_chain ho ho' ha hb hc hm) fun σ H Q ⟨ρ, S, μ, he, hr, hf⟩ => te_3 hg hg' σ H _ ⟨ρ, S, μ, he, hr, asB_fin hf⟩

def fAndT (f g : FT) : FT := fun ρ S => (f ρ S).bind fun b S1 => if b = true then g ρ S1 else .ok false S1
def fOrT (f g : FT) : FT := fun ρ S => (f ρ S).bind fun b S1 => if b = true then .ok true S1 else g ρ S1
def fNotT (f : FT) : FT := fun ρ S => (f ρ S).bind fun b S1 => .ok (!b) S1
def fAnd (f g : FE) : FE := fun ρ S => (f ρ S).bind fun d S1 => match d with | .bl true => g ρ S1 | .bl false => .ok (.bl false) S1 | _ => .bad
def fOr (f g : FE) : FE := fun ρ S => (f ρ S).bind fun d S1 => match d with | .bl true => .ok (.bl true) S1 | .bl false => g ρ S1 | _ => .bad
def fNot (f : FE) : FE := fun ρ S => (f ρ S).bind fun d S1 => match d with | .bl b => .ok (.bl (!b)) S1 | _ => .bad
def fIf (c : FT) (f g : FE) : FE := fun ρ S => (c ρ S).bind fun b S1 => if b = true then f ρ S1 else g ρ S1
variable {a b c : Expr} {rest : List Expr} {pos : Pos} {fa fb : FT} {ga gb : FE}
theorem dw_and1 (ha : PT X a (tT T E fa)) : PW X (.BoolOp .And [a] pos) (tT T E fa) := pw_and1 ha
theorem dw_or1 (ha : PT X a (tT T E fa)) : PW X (.BoolOp .Or [a] pos) (tT T E fa) := pw_or1 ha
theorem dw_and (ha : PT X a (tT T E fa)) (hb : PW X (.BoolOp .And (b :: rest) pos) (tT T E fb)) : PW X (.BoolOp .And (a :: b :: rest) pos) (tT T E (fAndT fa fb)) :=
  pwW (pw_and ha hb) fun σ H Q ⟨ρ, S, μ, he, hr, hf⟩ => ⟨ρ, S, μ, he, hr, (Fin.bind hf).mono fun d S1 μ1 H1 st1 r1 h1 => by
    cases d with
    | true => exact iteT ⟨ρ, S1, μ1, he.step st1 hr.r0, r1, h1⟩
    | false => exact iteF (h1.ok r1)⟩
theorem dw_or (ha : PT X a (tT T E fa)) (hb : PW X (.BoolOp .Or (b :: rest) pos) (tT T E fb)) : PW X (.BoolOp .Or (a :: b :: rest) pos) (tT T E (fOrT fa fb)) :=
  pwW (pw_or ha hb) fun σ H Q ⟨ρ, S, μ, he, hr, hf⟩ => ⟨ρ, S, μ, he, hr, (Fin.bind hf).mono fun d S1 μ1 H1 st1 r1 h1 => by
    cases d with
    | true => exact iteT (h1.ok r1)
    | false => exact iteF ⟨ρ, S1, μ1, he.step st1 hr.r0, r1, h1⟩⟩
theorem dt_not (ha : PT X a (tT T E fa)) : PT X (.UnaryOp .Not a pos) (tT T E (fNotT fa)) :=
  ptW (pt_not ha) fun σ H Q ⟨ρ, S, μ, he, hr, hf⟩ => ⟨ρ, S, μ, he, hr, (Fin.bind hf).mono fun d S1 μ1 H1 st1 r1 h1 => h1.ok r1⟩
theorem de_one {op : BoolOp} (ha : PE X a (tE T E ga)) : PE X (.BoolOp op [a] pos) (tE T E ga) := pe_one ha
theorem de_and (ha : PE X a (tE T E ga)) (hb : PE X (.BoolOp .And (b :: rest) pos) (tE T E gb)) : PE X (.BoolOp .And (a :: b :: rest) pos) (tE T E (fAnd ga gb)) :=
  peW (pe_and ha hb) fun σ H Q ⟨ρ, S, μ, he, hr, hf⟩ => ⟨ρ, S, μ, he, hr, (Fin.bind hf).mono fun d S1 μ1 H1 st1 r1 h1 v hv => by
    cases hv with
    | bl b =>
      refine ⟨b, rfl, ?_⟩
      cases b with
      | true => exact iteT ⟨ρ, S1, μ1, he.step st1 hr.r0, r1, h1⟩
      | false => exact iteF (h1.ok r1 _ (.bl false))
    | _ => exact h1.elim⟩
theorem de_or (ha : PE X a (tE T E ga)) (hb : PE X (.BoolOp .Or (b :: rest) pos) (tE T E gb)) : PE X (.BoolOp .Or (a :: b :: rest) pos) (tE T E (fOr ga gb)) :=
  peW (pe_or ha hb) fun σ H Q ⟨ρ, S, μ, he, hr, hf⟩ => ⟨ρ, S, μ, he, hr, (Fin.bind hf).mono fun d S1 μ1 H1 st1 r1 h1 v hv => by
    cases hv with
    | bl b =>
      refine ⟨b, rfl, ?_⟩
      cases b with
      | true => exact iteT (h1.ok r1 _ (.bl true))
      | false => exact iteF ⟨ρ, S1, μ1, he.step st1 hr.r0, r1, h1⟩
    | _ => exact h1.elim⟩
theorem de_not (ha : PE X a (tE T E ga)) : PE X (.UnaryOp .Not a pos) (tE T E (fNot ga)) :=
  peW (pe_not ha) fun σ H Q ⟨ρ, S, μ, he, hr, hf⟩ => ⟨ρ, S, μ, he, hr, (Fin.bind hf).mono fun d S1 μ1 H1 st1 r1 h1 v hv => by
    cases hv with
    | bl b => exact ⟨b, rfl, h1.ok r1 _ (.bl _)⟩
    | _ => exact h1.elim⟩
theorem de_if (hc : PT X c (tT T E fa)) (ha : PE X a (tE T E ga)) (hb : PE X b (tE T E gb)) : PE X (.IfExp c a b pos) (tE T E (fIf fa ga gb)) :=
  peW (pe_ifExp hc ha hb) fun σ H Q ⟨ρ, S, μ, he, hr, hf⟩ => ⟨ρ, S, μ, he, hr, (Fin.bind hf).mono fun d S1 μ1 H1 st1 r1 h1 => by
    cases d with
    | true => exact iteT ⟨ρ, S1, μ1, he.step st1 hr.r0, r1, h1⟩
    | false => exact iteF ⟨ρ, S1, μ1, he.step st1 hr.r0, r1, h1⟩⟩
end

/-! ### arithmetic -/
section
variable {X : Cx} {T : Tb} {E : XK} {k : Nat}
def gI (C : Int → Int → Bool) (f : Int → Int → D) : G2 := fun d e S => match d, e with
  | .int i, .int j => if C i j = true then .ok (f i j) S else .bad
  | _, _ => .bad
theorem ok_int (i : Int) {μ : List Addr} {H : Hp} : DV T μ H (.int i) (.int i) := .int i
theorem ok_gI {C : Int → Int → Prop} {C' : Int → Int → Bool} {f : Int → Int → V} {f' : Int → Int → D} (hC : ∀ i j, C' i j = true → C i j) (hf : ∀ i j μ H, DV T μ H (f i j) (f' i j)) : Ok2 T E (rI C f) (gI C' f') := fun d e v w S μ H Q hv hw hr h => by
  cases hv with
  | int i =>
    cases hw with
    | int j =>
      have h' : Fin T E (kD T Q) μ H (if C' i j = true then .ok (f' i j) S else .bad) := h
      split at h'
      · rename_i hc
        exact ⟨i, j, rfl, rfl, hC i j hc, h'.ok hr _ (hf i j _ _)⟩
      · exact h'.elim
    | _ => exact h.elim
  | _ => exact h.elim
theorem ok_gI0 {f : Int → Int → V} {f' : Int → Int → D} (hf : ∀ i j μ H, DV T μ H (f i j) (f' i j)) : Ok2 T E (rI0 f) (gI (fun _ _ => true) f') := fun d e v w S μ H Q hv hw hr h => by
  cases hv with
  | int i =>
    cases hw with
    | int j => exact ⟨i, j, rfl, rfl, h.ok hr _ (hf i j _ _)⟩
    | _ => exact h.elim
  | _ => exact h.elim
theorem ok_or_l {r r' : R2} {g : G2} (h : Ok2 T E r g) : Ok2 T E (fun x y H Q => r x y H Q ∨ r' x y H Q) g := fun d e v w S μ H Q hv hw hr hf => .inl (h d e v w S μ H Q hv hw hr hf)

def gSub : G2 := gI (fun _ _ => true) fun i j => .int (i - j)
def gMod : G2 := gI (fun _ j => decide (0 < j)) fun i j => .int (i % j)
def gDiv : G2 := gI (fun _ j => decide (0 < j ∧ j < 1073741824)) fun i j => .int (i / j)
def gPow : G2 := gI (fun i j => decide (0 ≤ j ∧ j ≤ 1000000 ∧ i.natAbs < 2 ^ 64)) fun i j => .int (i ^ j.toNat)
theorem ok_sub : Ok2 T E (rI0 fun i j => .int (i - j)) gSub := ok_gI0 fun _ _ _ _ => .int _
theorem ok_mod : Ok2 T E (rI (fun _ j => 0 < j) fun i j => .int (i % j)) gMod := ok_gI (fun _ _ h => of_decide_eq_true h) fun _ _ _ _ => .int _
theorem ok_div : Ok2 T E (rI CDiv fun i j => .int (i / j)) gDiv := ok_gI (fun i j h => (of_decide_eq_true h : 0 < j ∧ j < 1073741824)) fun _ _ _ _ => .int _
theorem ok_pow : Ok2 T E (rI CPow fun i j => .int (i ^ j.toNat)) gPow := ok_gI (fun i j h => (of_decide_eq_true h : 0 ≤ j ∧ j ≤ 1000000 ∧ i.natAbs < 2 ^ 64)) fun _ _ _ _ => .int _
def gLt : G2 := gI (fun _ _ => true) fun i j => .bl (decide (i < j))
def gLe : G2 := gI (fun _ _ => true) fun i j => .bl (decide (i ≤ j))
def gGt : G2 := gI (fun _ _ => true) fun i j => .bl (decide (j < i))
def gGe : G2 := gI (fun _ _ => true) fun i j => .bl (decide (j ≤ i))
theorem ok_lt : Ok2 T E (rI0 fun i j => .bl (decide (i < j))) gLt := ok_gI0 fun _ _ _ _ => .bl _
theorem ok_le : Ok2 T E (rI0 fun i j => .bl (decide (i ≤ j))) gLe := ok_gI0 fun _ _ _ _ => .bl _
theorem ok_gt : Ok2 T E (rI0 fun i j => .bl (decide (j < i))) gGt := ok_gI0 fun _ _ _ _ => .bl _
theorem ok_ge : Ok2 T E (rI0 fun i j => .bl (decide (j ≤ i))) gGe := ok_gI0 fun _ _ _ _ => .bl _

/-- the items of a list, wherever they stand -/
def items : D → Store → Option (List D)
  | .lst ds, _ => some ds
  | .scr ns, _ => some (ns.map D.int)
  | .obj l, S => match S[l]? with | some (.lst ds) => some ds | _ => none
  | _, _ => none
theorem items_sq {d : D} {S : Store} {ds : List D} {v : V} {μ : List Addr} {H : Hp} (hr : Rep T μ H S) (hv : DV T μ H v d) (h : items d S = some ds) : ∃ a xs, v = .ref a ∧ SqL T.K H a xs ∧ DVs T μ H xs ds := by
  cases hv with
  | lst e n q => cases h; exact ⟨_, _, rfl, SqL.of e, q⟩
  | @scr a ns e => cases h; exact ⟨_, _, rfl, e.sq, DVs.of_ints ns⟩
  | @obj a l e =>
    cases hs : S[l]? with
    | none => simp [items, hs] at h
    | some o =>
      cases o with
      | lst es =>
        simp [items, hs] at h
        subst h
        obtain ⟨_, xs, e1, e2⟩ := hr.ob l a _ e hs
        exact ⟨_, _, rfl, SqL.of e1, e2⟩
      | ins c fs => simp [items, hs] at h
  | _ => cases h
/-- the items of a list that the program has made -/
def itemsM : D → Store → Option (List D)
  | .lst ds, _ => some ds
  | .obj l, S => match S[l]? with | some (.lst ds) => some ds | _ => none
  | _, _ => none
theorem itemsM_lst {d : D} {S : Store} {ds : List D} {v : V} {μ : List Addr} {H : Hp} (hr : Rep T μ H S) (hv : DV T μ H v d) (h : itemsM d S = some ds) : ∃ a xs, v = .ref a ∧ H a = some (.lst xs) ∧ DVs T μ H xs ds := by
  cases hv with
  | lst e n q => cases h; exact ⟨_, _, rfl, e, q⟩
  | @obj a l e =>
    cases hs : S[l]? with
    | none => simp [itemsM, hs] at h
    | some o =>
      cases o with
      | lst es =>
        simp [itemsM, hs] at h
        subst h
        obtain ⟨_, xs, e1, e2⟩ := hr.ob l a _ e hs
        exact ⟨_, _, rfl, e1, e2⟩
      | ins c fs => simp [itemsM, hs] at h
  | _ => cases h

def gAdd : G2 := fun d e S => match d, e with
  | .int i, .int j => .ok (.int (i + j)) S
  | .str x, .str y => if x.length + y.length ≤ lineN then .ok (.str (x ++ y)) S else .bad
  | .tup xs, .tup ys => if xs.length + ys.length ≤ lineN then .ok (.tup (xs ++ ys)) S else .bad
  | x, y => match itemsM x S, itemsM y S with
    | some xs, some ys => if xs.length + ys.length ≤ lineN then .ok (.lst (xs ++ ys)) S else .bad
    | _, _ => .bad
/-- t + u, the object known -/
def rCatX (K : PySem.W.Frag) : R2 := fun x y H Q => ∃ a b xs ys, x = .ref a ∧ y = .ref b ∧ SqT K H a xs ∧ SqT K H b ys ∧ xs.length + ys.length ≤ sizeLine ∧
  (xs = [] → Q (.ref b) H) ∧ (xs ≠ [] → ys = [] → Q (.ref a) H) ∧ (xs ≠ [] → ys ≠ [] → ∀ (p : Addr) (o : Obj), H p = none → o.dict = none → Q (.ref p) (upd H p (.frz o (.tup (xs ++ ys)))))
theorem op_catX : OpR X (binaryOp .Add) (rCatX X.K) := by
  intro pins s σ H x y v u Q I rx ry h
  obtain ⟨a, b, xs, ys, rfl, rfl, ha, hb, hz, q0, q1, q2⟩ := h
  cases rx
  cases ry
  obtain ⟨its, r1, p1, _⟩ := I.tuple ha
  obtain ⟨its2, r2, p2, _⟩ := I.tuple hb
  by_cases hx : xs = []
  · subst hx
    cases r1
    exact L2.cat_tup0 p1 p2 ⟨.ref b, H, I, rfl, q0 rfl⟩
  · refine HT.cat_tup p1 p2 (fun z => hx (r1.nil_iff.mp z)) (fun z => ⟨.ref a, H, I, rfl, q1 hx (r2.nil_iff.mp z)⟩) (fun z => ?_) (by rw [← r1.length, ← r2.length]; exact hz)
    exact laid_tup I (r1.append r2) (by rw [List.length_append]; exact hz) (q2 hx fun w => z (r2.nil_iff.mpr w))
def rAddD (K : PySem.W.Frag) : R2 := fun x y H Q => rI0 (fun i j => .int (i + j)) x y H Q ∨ ((∃ i j, x = .str i ∧ y = .str j ∧ i.length + j.length ≤ sizeLine ∧ Q (.str (i ++ j)) H) ∨ (rCatX K x y H Q ∨ rCat x y H Q))
theorem op_addD : OpR X (binaryOp .Add) (rAddD X.K) := op_add.or (op_add_str.or (op_catX.or op_cat))
theorem ok_addM {d e : D} {v w : V} {S : Store} {μ : List Addr} {H : Hp} {Q : VK} (hv : DV T μ H v d) (hw : DV T μ H w e) (hr : Rep T μ H S)
    (h : Fin T E (kD T Q) μ H (match itemsM d S, itemsM e S with | some xs, some ys => if xs.length + ys.length ≤ lineN then .ok (.lst (xs ++ ys)) S else .bad | _, _ => .bad)) : rCat v w H Q := by
  split at h
  · rename_i xs ys hx hy
    split at h
    · rename_i hl
      obtain ⟨a, vs, rfl, e1, q1⟩ := itemsM_lst hr hv hx
      obtain ⟨b, ws, rfl, e2, q2⟩ := itemsM_lst hr hw hy
      exact ⟨a, b, vs, ws, rfl, rfl, e1, e2, by rw [q1.length, q2.length]; exact lineN_le hl, fin_lst hr (q1.append q2) h⟩
    · exact h.elim
  · exact h.elim
theorem ok_add : Ok2 T E (rAddD T.K) gAdd := fun d e v w S μ H Q hv hw hr h => by
  unfold gAdd at h
  split at h
  · cases hv; cases hw
    exact .inl ⟨_, _, rfl, rfl, h.ok hr _ (.int _)⟩
  · split at h
    · rename_i hl
      cases hv; cases hw
      exact .inr (.inl ⟨_, _, rfl, rfl, lineN_le hl, h.ok hr _ (.str _)⟩)
    · exact h.elim
  · split at h
    · rename_i hl
      cases hv with
      | tup s1 q1 =>
        cases hw with
        | tup s2 q2 =>
          refine .inr (.inr (.inl ⟨_, _, _, _, rfl, rfl, s1.sq, s2.sq, by rw [q1.length, q2.length]; exact lineN_le hl, fun e => ?_, fun e e2 => ?_, fun e e2 => fin_tup hr (q1.append q2) h⟩))
          · subst e; cases q1
            exact h.ok hr _ (.tup s2 q2)
          · subst e2; cases q2
            rw [List.append_nil] at h
            exact h.ok hr _ (.tup s1 q1)
    · exact h.elim
  · exact .inr (.inr (.inr (ok_addM hv hw hr h)))
theorem de_add {a b : Expr} {fa fb : FE} {pos : Pos} (hK : T.K = X.K) (ha : PE X a (tE T E fa)) (hb : PE X b (tE T E fb)) : PE X (.BinOp a .Add b pos) (tE T E (f2 gAdd fa fb)) := by
  have h := op_addD (X := X)
  rw [← hK] at h
  exact de_op h ok_add ha hb

def mulOk (i j : Int) : Bool := decide ((-(2 ^ 64) < i ∧ i < 2 ^ 64) ∨ (-(2 ^ 64) < j ∧ j < 2 ^ 64))
def gMul : G2 := fun d e S => match d, e with
  | .int i, .int j => if mulOk i j = true then .ok (.int (i * j)) S else .bad
  | .lst xs, .int j => if 0 ≤ j ∧ j ≤ 1000 ∧ xs.length ≤ 1000 then .ok (.lst (List.replicate j.toNat xs).flatten) S else .bad
  | _, _ => .bad

def rMulD (K : PySem.W.Frag) : R2 := fun x y H Q => rI CMul (fun i j => .int (i * j)) x y H Q ∨ rRep x y H Q
theorem op_mulD : OpR X (binaryOp .Mult) (rMulD X.K) := op_mul.or op_rep
theorem DVs.rep {μ : List Addr} {H : Hp} {xs : List V} {ds : List D} (h : DVs T μ H xs ds) : ∀ k : Nat, DVs T μ H (List.replicate k xs).flatten (List.replicate k ds).flatten
  | 0 => .nil
  | k + 1 => by
    rw [List.replicate_succ, List.replicate_succ, List.flatten_cons, List.flatten_cons]
    exact h.append (DVs.rep h k)
theorem mul_le {a b : Nat} (ha : a ≤ 1000) (hb : b ≤ 1000) : a * b ≤ lineN := Nat.mul_le_mul ha hb
theorem ok_mul : Ok2 T E (rMulD T.K) gMul := fun d e v w S μ H Q hv hw hr h => by
  unfold gMul at h
  split at h
  · split at h
    · rename_i hm
      cases hv; cases hw
      exact .inl ⟨_, _, rfl, rfl, by simp only [mulOk, decide_eq_true_eq] at hm; exact hm, h.ok hr _ (.int _)⟩
    · exact h.elim
  · split at h
    · rename_i hm
      obtain ⟨h1, h2, h3⟩ := hm
      cases hw
      cases hv with
      | lst e1 n1 q1 =>
        exact .inr ⟨_, _, _, rfl, rfl, e1, by omega, by omega, by rw [q1.length]; exact lineN_le (mul_le h3 (by omega)), fin_lst hr (q1.rep _) h⟩
    · exact h.elim
  · exact h.elim
theorem de_mul {a b : Expr} {fa fb : FE} {pos : Pos} (hK : T.K = X.K) (ha : PE X a (tE T E fa)) (hb : PE X b (tE T E fb)) : PE X (.BinOp a .Mult b pos) (tE T E (f2 gMul fa fb)) := by
  have h := op_mulD (X := X)
  rw [← hK] at h
  exact de_op h ok_mul ha hb
theorem de_sub {a b : Expr} {fa fb : FE} {pos : Pos} (ha : PE X a (tE T E fa)) (hb : PE X b (tE T E fb)) : PE X (.BinOp a .Sub b pos) (tE T E (f2 gSub fa fb)) := de_op op_sub ok_sub ha hb
theorem de_mod {a b : Expr} {fa fb : FE} {pos : Pos} (ha : PE X a (tE T E fa)) (hb : PE X b (tE T E fb)) : PE X (.BinOp a .Mod b pos) (tE T E (f2 gMod fa fb)) := de_op op_mod ok_mod ha hb
theorem de_div {a b : Expr} {fa fb : FE} {pos : Pos} (ha : PE X a (tE T E fa)) (hb : PE X b (tE T E fb)) : PE X (.BinOp a .FloorDiv b pos) (tE T E (f2 gDiv fa fb)) := de_op op_fdiv ok_div ha hb
theorem de_pow {a b : Expr} {fa fb : FE} {pos : Pos} (ha : PE X a (tE T E fa)) (hb : PE X b (tE T E fb)) : PE X (.BinOp a .Pow b pos) (tE T E (f2 gPow fa fb)) := de_op op_pow ok_pow ha hb
/-- - of an int -/
def fNeg (f : FE) : FE := fun ρ S => (f ρ S).bind fun d S1 => match d with | .int i => .ok (.int (-i)) S1 | _ => .bad
theorem de_neg {a : Expr} {f : FE} {pos : Pos} (ha : PE X a (tE T E f)) : PE X (.UnaryOp .USub a pos) (tE T E (fNeg f)) :=
  peW (pe_un un_neg ha) fun σ H Q ⟨ρ, S, μ, he, hr, hf⟩ => ⟨ρ, S, μ, he, hr, (Fin.bind hf).mono fun d S1 μ1 H1 st1 r1 h1 v hv => by
    cases hv with
    | int i => exact ⟨i, rfl, h1.ok r1 _ (.int _)⟩
    | _ => exact h1.elim⟩

/-! ### == of data -/
mutual
def toPy : D → Option PyData
  | .non => some .none
  | .bl b => some (.bool b)
  | .int i => some (.int i)
  | .str x => some (.str x)
  | .tup ds => (toPyL ds).map .tuple
  | .lst ds => (toPyL ds).map .list
  | .scr ns => some (.list (ns.map .int))
  | _ => none
def toPyL : List D → Option (List PyData)
  | [] => some []
  | d :: ds => match toPy d, toPyL ds with | some p, some ps => some (p :: ps) | _, _ => none
end
theorem dp_ints {K : PySem.W.Frag} {H : Hp} : ∀ ns : List Int, DpAll K H (ns.map V.int) (ns.map PyData.int)
  | [] => .nil
  | _ :: ns => .cons (.int _) (dp_ints ns)
mutual
theorem dp_of {μ : List Addr} {H : Hp} : ∀ {v : V} {d : D} {p : PyData}, DV T μ H v d → toPy d = some p → Dp T.K H v p
  | _, _, _, .non, h => by cases h; exact .non
  | _, _, _, .bl b, h => by cases h; exact .bl b
  | _, _, _, .int i, h => by cases h; exact .int i
  | _, _, _, .str x, h => by cases h; exact .str x
  | _, _, _, .tup (ds := ds) s q, h => by
    simp only [toPy, Option.map_eq_some_iff] at h
    obtain ⟨ps, h1, rfl⟩ := h
    exact .tup s.sq (dps_of q h1)
  | _, _, _, .lst (ds := ds) e n q, h => by
    simp only [toPy, Option.map_eq_some_iff] at h
    obtain ⟨ps, h1, rfl⟩ := h
    exact .lst (SqL.of e) (dps_of q h1)
  | _, _, _, .scr (ns := ns) e, h => by cases h; exact .lst e.sq (dp_ints ns)
  | _, _, _, .row _ _, h => by simp [toPy] at h
  | _, _, _, .obj _, h => by simp [toPy] at h
  | _, _, _, .ins _ _ _ _ _, h => by simp [toPy] at h
  | _, _, _, .fn _, h => by simp [toPy] at h
  | _, _, _, .cl _, h => by simp [toPy] at h
  | _, _, _, .ty _, h => by simp [toPy] at h
  | _, _, _, .junk _, h => by simp [toPy] at h
theorem dps_of {μ : List Addr} {H : Hp} : ∀ {vs : List V} {ds : List D} {ps : List PyData}, DVs T μ H vs ds → toPyL ds = some ps → DpAll T.K H vs ps
  | _, _, _, .nil, h => by cases h; exact .nil
  | _, _, _, .cons (d := d) (ds := ds) r q, h => by
    cases h1 : toPy d with
    | none => simp [toPyL, h1] at h
    | some p =>
      cases h2 : toPyL ds with
      | none => simp [toPyL, h1, h2] at h
      | some ps =>
        simp [toPyL, h1, h2] at h
        subst h
        exact .cons (dp_of r h1) (dps_of q h2)
end
/-- whether two values are equal, where they are plain data -/
def deq (d e : D) : Option Bool := match toPy d, toPy e with
  | some p, some q => if SeqAt.shaped p = true ∧ SeqAt.shaped q = true then some (PyData.eqv p q) else none
  | _, _ => none
def gEq : G2 := fun d e S => match deq d e with | some b => .ok (.bl b) S | none => .bad
def gNe : G2 := fun d e S => match deq d e with | some b => .ok (.bl (!b)) S | none => .bad
theorem deq_some {d e : D} {b : Bool} (h : deq d e = some b) : ∃ p q, toPy d = some p ∧ toPy e = some q ∧ SeqAt.shaped p = true ∧ SeqAt.shaped q = true ∧ b = PyData.eqv p q := by
  unfold deq at h
  split at h
  · rename_i p q h1 h2
    split at h
    · rename_i hs
      cases h
      exact ⟨p, q, h1, h2, hs.1, hs.2, rfl⟩
    · cases h
  · cases h
theorem ok_eq : Ok2 T E (rEqD T.K) gEq := fun d e v w S μ H Q hv hw hr h => by
  unfold gEq at h
  split at h
  · rename_i b hb
    obtain ⟨p, q, h1, h2, s1, s2, rfl⟩ := deq_some hb
    exact ⟨p, q, dp_of hv h1, dp_of hw h2, s1, s2, h.ok hr _ (.bl _)⟩
  · exact h.elim
theorem ok_ne : Ok2 T E (rNeD T.K) gNe := fun d e v w S μ H Q hv hw hr h => by
  unfold gNe at h
  split at h
  · rename_i b hb
    obtain ⟨p, q, h1, h2, s1, s2, rfl⟩ := deq_some hb
    exact ⟨p, q, dp_of hv h1, dp_of hw h2, s1, s2, h.ok hr _ (.bl _)⟩
  · exact h.elim
theorem op_eqT (hK : T.K = X.K) (hr : Room k X.A) : OpR X (compareOp .Eq) (rEqD T.K) := by rw [hK]; exact op_eqD hr.units
theorem op_neT (hK : T.K = X.K) (hr : Room k X.A) : OpR X (compareOp .NotEq) (rNeD T.K) := by rw [hK]; exact op_neD hr.units

/-! ### is None, is True -/
def gIsN : G2 := fun d e S => match e, d with | .non, .junk => .bad | .non, .non => .ok (.bl true) S | .non, _ => .ok (.bl false) S | _, _ => .bad
def gNotN : G2 := fun d e S => match e, d with | .non, .junk => .bad | .non, .non => .ok (.bl false) S | .non, _ => .ok (.bl true) S | _, _ => .bad
theorem ok_isN : Ok2 T E (fun x y H Q => y = .non ∧ Q (.bl (decide (x = .non))) H) gIsN := fun d e v w S μ H Q hv hw hr h => by
  cases hw with
  | non =>
    refine ⟨rfl, ?_⟩
    cases hv <;> first | exact h.elim | exact h.ok hr _ (.bl _)
  | _ => exact h.elim
theorem ok_notN : Ok2 T E (fun x y H Q => y = .non ∧ Q (.bl (!decide (x = .non))) H) gNotN := fun d e v w S μ H Q hv hw hr h => by
  cases hw with
  | non =>
    refine ⟨rfl, ?_⟩
    cases hv <;> first | exact h.elim | exact h.ok hr _ (.bl _)
  | _ => exact h.elim
def gIsB : G2 := fun d e S => match d, e with | .bl a, .bl b => .ok (.bl (decide (a = b))) S | _, _ => .bad
def gNotB : G2 := fun d e S => match d, e with | .bl a, .bl b => .ok (.bl (!decide (a = b))) S | _, _ => .bad
theorem ok_isB : Ok2 T E rIsB gIsB := fun d e v w S μ H Q hv hw hr h => by
  cases hv with
  | bl a => cases hw with
    | bl b => exact ⟨a, b, rfl, rfl, h.ok hr _ (.bl _)⟩
    | _ => exact h.elim
  | _ => exact h.elim
theorem ok_notB : Ok2 T E rNotB gNotB := fun d e v w S μ H Q hv hw hr h => by
  cases hv with
  | bl a => cases hw with
    | bl b => exact ⟨a, b, rfl, rfl, h.ok hr _ (.bl _)⟩
    | _ => exact h.elim
  | _ => exact h.elim

/-! ### in, not in over flat things -/
def flatD : D → Bool
  | .non => true
  | .bl _ => true
  | .int _ => true
  | .str _ => true
  | _ => false
def eqF : D → D → Bool
  | .non, .non => true
  | .bl a, .bl b => a == b
  | .bl a, .int b => (if a then 1 else 0) == b
  | .int a, .bl b => a == (if b then 1 else 0)
  | .int a, .int b => a == b
  | .str a, .str b => a == b
  | _, _ => false
theorem flat_of {μ : List Addr} {H : Hp} {v : V} {d : D} (h : DV T μ H v d) (f : flatD d = true) : flatV v = true := by
  cases h <;> first | rfl | cases f
theorem eqV_of {μ : List Addr} {H : Hp} {v w : V} {d e : D} (h : DV T μ H v d) (h' : DV T μ H w e) (f : flatD d = true) (f' : flatD e = true) : eqV v w = eqF d e := by
  cases h <;> first | (cases f; done) | (cases h' <;> first | rfl | (cases f'; done))
theorem flats_of {μ : List Addr} {H : Hp} : ∀ {vs : List V} {ds : List D}, DVs T μ H vs ds → ds.all flatD = true → vs.all flatV = true
  | _, _, .nil, _ => rfl
  | _, _, .cons r q, f => by
    rw [List.all_cons, Bool.and_eq_true] at f ⊢
    exact ⟨flat_of r f.1, flats_of q f.2⟩
theorem inV_of {μ : List Addr} {H : Hp} {v : V} {d : D} (h : DV T μ H v d) (f : flatD d = true) : ∀ {vs : List V} {ds : List D}, DVs T μ H vs ds → ds.all flatD = true → inV v vs = ds.any fun y => eqF y d
  | _, _, .nil, _ => rfl
  | _, _, .cons r q, g => by
    rw [List.all_cons, Bool.and_eq_true] at g
    have ih := inV_of h f q g.2
    unfold inV at ih ⊢
    rw [List.any_cons, List.any_cons, ih, eqV_of r h g.1 f]
/-- the things of a list or a tuple -/
def seqOf : D → Store → Option (List D)
  | .tup ds, _ => some ds
  | d, S => items d S
theorem seqOf_sq {d : D} {S : Store} {ds : List D} {v : V} {μ : List Addr} {H : Hp} (hr : Rep T μ H S) (hv : DV T μ H v d) (h : seqOf d S = some ds) : ∃ a xs, v = .ref a ∧ (SqL T.K H a xs ∨ SqT T.K H a xs) ∧ DVs T μ H xs ds := by
  unfold seqOf at h
  split at h
  · cases h
    cases hv with
    | tup s q => exact ⟨_, _, rfl, .inr s.sq, q⟩
  · obtain ⟨a, xs, e, s, q⟩ := items_sq hr hv h
    exact ⟨a, xs, e, .inl s, q⟩
def gIn (neg : Bool) : G2 := fun d e S => match seqOf e S with
  | some ds => if flatD d = true ∧ ds.all flatD = true then .ok (.bl (if neg = true then !(ds.any fun y => eqF y d) else ds.any fun y => eqF y d)) S else .bad
  | none => .bad
theorem ok_in {neg : Bool} : Ok2 T E (rIn T.K neg) (gIn neg) := fun d e v w S μ H Q hv hw hr h => by
  unfold gIn at h
  split at h
  · rename_i ds hs
    split at h
    · rename_i hf
      obtain ⟨a, xs, rfl, s, q⟩ := seqOf_sq hr hw hs
      refine ⟨a, xs, rfl, s, flat_of hv hf.1, flats_of q hf.2, ?_⟩
      rw [inV_of hv hf.1 q hf.2]
      exact h.ok hr _ (.bl _)
    · exact h.elim
  · exact h.elim
theorem op_inT (hK : T.K = X.K) : OpR X (compareOp .In) (rIn T.K false) := by rw [hK]; exact op_in_seq
theorem op_ninT (hK : T.K = X.K) : OpR X (compareOp .NotIn) (rIn T.K true) := by rw [hK]; exact op_notIn_seq

/-! ### subscripts -/
theorem atI_of {μ : List Addr} {H : Hp} {vs : List V} {ds : List D} {i : Int} {d : D} (h : DVs T μ H vs ds) (e : atI ds i = some d) : ∃ v, atI vs i = some v ∧ DV T μ H v d := by
  unfold atI at e ⊢
  rw [h.length]
  cases hi : ixN ds.length i with
  | none => rw [hi] at e; cases e
  | some j =>
    rw [hi] at e
    exact h.get (by simpa using e)
def gIx : G2 := fun d e S => match e with
  | .int i => match d with
    | .str z => if z.length ≤ lineN then (match atI z.cps.toList i with | some c => .ok (.str ⟨#[c]⟩) S | none => .bad) else .bad
    | d => match seqOf d S with
      | some ds => match atI ds i with | some x => .ok x S | none => .bad
      | none => .bad
  | _ => .bad
theorem ok_ix : Ok2 T E (rIx T.K) gIx := fun d e v w S μ H Q hv hw hr h => by
  cases hw with
  | int i =>
    unfold gIx at h
    split at h
    · rename_i z he
      cases he
      split at h
      · rename_i z'
        split at h
        · rename_i hl
          split at h
          · rename_i c hc
            cases hv
            exact .inr (.inr ⟨_, _, c, rfl, rfl, lineN_le hl, hc, h.ok hr _ (.str _)⟩)
          · exact h.elim
        · exact h.elim
      · split at h
        · rename_i ds hs
          split at h
          · rename_i x hx
            obtain ⟨a, xs, rfl, s, q⟩ := seqOf_sq hr hv hs
            obtain ⟨u, e1, e2⟩ := atI_of q hx
            rcases s with s | s
            · exact .inl ⟨a, xs, i, u, rfl, rfl, s, e1, h.ok hr _ e2⟩
            · exact .inr (.inl ⟨a, xs, i, u, rfl, rfl, s, e1, h.ok hr _ e2⟩)
          · exact h.elim
        · exact h.elim
    · rename_i hne
      exact absurd rfl (hne i)
  | _ => exact h.elim
theorem de_ix {a b : Expr} {fa fb : FE} {pos : Pos} (hK : T.K = X.K) (ha : PE X a (tE T E fa)) (hb : PE X b (tE T E fb)) (hs : PlainIx b) : PE X (.Subscript a b pos) (tE T E (f2 gIx fa fb)) := by
  have h := ix_seq (X := X)
  rw [← hK] at h
  exact peW (pe_ix h ha hb hs) (te_2 ok_ix)
end
end DL

set_option Elab.async false
set_option linter.all false
set_option maxRecDepth 100000
set_option maxHeartbeats 4000000
/-! DL3: slices, built-in functions, isinstance, fields, methods of lists. -/
namespace DL
open PySem PySem.Spec PyProof.Rows L2

/-- what is known of the classes -/
structure CF (T : Tb) : Prop where
  cls : ∀ c, c < T.nC → Cls T.K (T.cA c)
  noA : ∀ c, c < T.nC → ∀ f ∈ T.fl c, NoAttr T.K (T.cA c) (T.nm f)
  low : ∀ c, c < T.nC → ∀ f ∈ T.fl c, f < T.nN
  ha : ∀ c, c < T.nC → PySem.W.findIn T.K (.ref (T.cA c)) "__class__" = some (some (.builtin "object.__class__"))
  hn : PySem.W.specialIn T.K (.builtin "object.__class__") "__get__" = some (some (.builtin "getset_descriptor.__get__"))
  ht : PySem.W.takesIn T.K (.builtin "object.__class__") = some true
  hm : ∀ c, c < T.nC → PySem.W.mroIn T.K (T.cA c) (.type "object") = some true
  kb : ∀ c, c < T.nC → ∀ b ∈ ["int", "bool", "str", "tuple", "list"], PySem.W.kitOne T.K (.ref (T.cA c)) (.type b) = some false
  kt : ∀ c, c < T.nC → ∀ a ∈ ["NoneType", "bool", "int", "str", "tuple", "list"], PySem.W.kitOne T.K (.type a) (.ref (T.cA c)) = some false
  kc : ∀ c, c < T.nC → ∀ c', c' < T.nC → PySem.W.kitOne T.K (.ref (T.cA c)) (.ref (T.cA c')) = some (c == c')

section
variable {X : Cx} {T : Tb} {E : XK} {k : Nat}

/-! ### slices -/
abbrev FO := Ev → Store → Res (Option Int)
def tO (T : Tb) (E : XK) (f : FO) : TO := fun σ H Q => ∃ ρ S μ, EnvR T μ H σ ρ ∧ Rep T μ H S ∧ Fin T E (fun o _ _ H' => Q o H') μ H (f ρ S)
def oNone : FO := fun _ S => .ok none S
def oSome (f : FE) : FO := fun ρ S => (f ρ S).bind fun d S1 => match d with | .int i => .ok (some i) S1 | _ => .bad
theorem do_none : PO X none (tO T E oNone) := ⟨fun pins s σ H Q I ⟨ρ, S, μ, he, hr, hf⟩ => po_none.run pins s σ H Q I (hf.ok hr)⟩
theorem do_some {e : Expr} {f : FE} (h : PE X e (tE T E f)) : PO X (some e) (tO T E (oSome f)) :=
  ⟨fun pins s σ H Q I ⟨ρ, S, μ, he, hr, hf⟩ => (po_some h).run pins s σ H Q I ⟨ρ, S, μ, he, hr, (Fin.bind hf).mono fun d S1 μ1 H1 st1 r1 h1 v hv => by
    cases hv with
    | int i => exact ⟨i, rfl, h1.ok r1⟩
    | _ => exact h1.elim⟩⟩
def cutL {α : Type} (xs : List α) (lo hi : Option Int) : List α := (xs.drop (HT.sIx xs.length 0 lo)).take (HT.sIx xs.length xs.length hi - HT.sIx xs.length 0 lo)
theorem DVs.cut {μ : List Addr} {H : Hp} {vs : List V} {ds : List D} (h : DVs T μ H vs ds) (lo hi : Option Int) : DVs T μ H (cutV vs lo hi) (cutL ds lo hi) := by
  unfold cutV cutL
  rw [h.length]
  exact (h.drop _).take _
def rSlX (K : PySem.W.Frag) : V → Option Int → Option Int → Hp → VK → Prop := fun x lo hi H Q => ∃ a xs, x = .ref a ∧ SqT K H a xs ∧
  (HT.sIx xs.length 0 lo = 0 ∧ HT.sIx xs.length xs.length hi = xs.length → Q (.ref a) H) ∧
  (¬ (HT.sIx xs.length 0 lo = 0 ∧ HT.sIx xs.length xs.length hi = xs.length) → ∀ (p : Addr) (o : Obj), H p = none → o.dict = none → Q (.ref p) (upd H p (.frz o (.tup (cutV xs lo hi)))))
theorem sl_tupX : SlR X (rSlX X.K) := by
  intro pins s σ H x v vl vu lo hi sl Q I rx hs pl pu h
  obtain ⟨a, xs, rfl, hx, q1, q2⟩ := h
  cases rx
  obtain ⟨its, r, ht, hz⟩ := I.tuple hx
  have hlen : its.toArray.size = xs.length := by rw [List.size_toArray]; exact r.length.symm
  refine ⟨"tuple", _, PyProof.Rows.slot_tuple_getitem.lookup, ht.typeIs, ?_⟩
  by_cases hw : HT.sIx xs.length 0 lo = 0 ∧ HT.sIx xs.length xs.length hi = xs.length
  · exact getItem_tuple_whole ht hs pl pu (by rw [hlen]; exact hw) ⟨.ref a, H, I, rfl, q1 hw⟩
  · refine HT.getItem_tuple_cut ht hs pl pu (by rw [hlen]; exact hw) ?_ (by rw [hlen]; exact hz)
    rw [hlen]
    exact laid_tup I ((r.drop (HT.sIx xs.length 0 lo)).take (HT.sIx xs.length xs.length hi - HT.sIx xs.length 0 lo)) (Nat.le_trans (cutV_length xs lo hi) hz) (q2 hw)
def gSl (d : D) (lo hi : Option Int) (S : Store) : Res D := match d with
  | .tup ds => .ok (.tup (cutL ds lo hi)) S
  | d => match items d S with
    | some ds => .ok (.lst (cutL ds lo hi)) S
    | none => .bad
def rSlD (K : PySem.W.Frag) : V → Option Int → Option Int → Hp → VK → Prop := fun x lo hi H Q => rSlX K x lo hi H Q ∨ rSlL K x lo hi H Q
theorem sl_D : SlR X (rSlD X.K) := sl_tupX.or sl_list
theorem whole_cut {xs : List D} {lo hi : Option Int} (h : HT.sIx xs.length 0 lo = 0 ∧ HT.sIx xs.length xs.length hi = xs.length) : cutL xs lo hi = xs := by
  unfold cutL
  rw [h.1, h.2, List.drop_zero, Nat.sub_zero, List.take_length]
theorem ok_sl {d : D} {lo hi : Option Int} {v : V} {S : Store} {μ : List Addr} {H : Hp} {Q : VK} (hv : DV T μ H v d) (hr : Rep T μ H S) (h : Fin T E (kD T Q) μ H (gSl d lo hi S)) : rSlD T.K v lo hi H Q := by
  unfold gSl at h
  split at h
  · cases hv with
    | tup s q =>
      refine .inl ⟨_, _, rfl, s.sq, fun hw => ?_, fun hw => fin_tup hr (q.cut lo hi) h⟩
      rw [q.length] at hw
      rw [whole_cut hw] at h
      exact h.ok hr _ (.tup s q)
  · split at h
    · rename_i ds hs
      obtain ⟨a, xs, rfl, s, q⟩ := items_sq hr hv hs
      exact .inr ⟨a, xs, rfl, s, fin_lst hr (q.cut lo hi) h⟩
    · exact h.elim
def fSl (f : FE) (lo hi : FO) : FE := fun ρ S => (f ρ S).bind fun d S1 => (lo ρ S1).bind fun l S2 => (hi ρ S2).bind fun u S3 => gSl d l u S3
theorem de_sl {e : Expr} {lo hi : Option Expr} {f : FE} {fl fh : FO} {p2 pos : Pos} (hK : T.K = X.K) (he : PE X e (tE T E f)) (hl : PO X lo (tO T E fl)) (hu : PO X hi (tO T E fh)) : PE X (.Subscript e (.Slice lo hi none p2) pos) (tE T E (fSl f fl fh)) := by
  have h := sl_D (X := X)
  rw [← hK] at h
  exact peW (pe_slice h he hl hu) fun σ H Q ⟨ρ, S, μ, he, hr, hf⟩ => ⟨ρ, S, μ, he, hr, (Fin.bind hf).mono fun d S1 μ1 H1 st1 r1 h1 v hv =>
    ⟨ρ, S1, μ1, he.step st1 hr.r0, r1, (Fin.bind h1).mono fun l S2 μ2 H2 st2 r2 h2 => ⟨ρ, S2, μ2, (he.step st1 hr.r0).step st2 r1.r0, r2, (Fin.bind h2).mono fun u S3 μ3 H3 st3 r3 h3 => ok_sl ((hv.step st2 r1.r0).step st3 r2.r0) r3 h3⟩⟩⟩
/-- xs[::-1] of a list -/
def fRev (f : FE) : FE := fun ρ S => (f ρ S).bind fun d S1 => match items d S1 with | some ds => .ok (.lst ds.reverse) S1 | none => .bad
theorem de_rev {e : Expr} {f : FE} {n : Nat} {p1 p2 p3 pos : Pos} (hK : T.K = X.K) (he : PE X e (tE T E f)) : PE X (.Subscript e (.Slice none none (some (.UnaryOp .USub (.Constant (.int 1) n p1) p2)) p3) pos) (tE T E (fRev f)) :=
  peW (pe_revL he) fun σ H Q ⟨ρ, S, μ, he, hr, hf⟩ => ⟨ρ, S, μ, he, hr, (Fin.bind hf).mono fun d S1 μ1 H1 st1 r1 h1 v hv => by
    split at h1
    · rename_i ds hs
      obtain ⟨a, xs, rfl, s, q⟩ := items_sq r1 hv hs
      exact ⟨a, xs, rfl, hK ▸ s, fin_lst r1 q.reverse h1⟩
    · exact h1.elim⟩

/-! ### calls of built-ins by values -/
abbrev GL := List D → Store → Res D
def OkL (T : Tb) (E : XK) (r : List V → Hp → VK → Prop) (g : GL) : Prop := ∀ (ds : List D) (vs : List V) (S : Store) (μ : List Addr) (H : Hp) (Q : VK), DVs T μ H vs ds → Rep T μ H S → Fin T E (kD T Q) μ H (g ds S) → r vs H Q
def fCall (g : GL) (fs : FL) : FE := fun ρ S => (fs ρ S).bind g
theorem te_call {r : List V → Hp → VK → Prop} {g : GL} {fs : FL} (hg : OkL T E r g) : ∀ σ H Q, tE T E (fCall g fs) σ H Q → tCB r (tA T E fs) σ H Q := fun σ H Q ⟨ρ, S, μ, he, hr, hf⟩ =>
  ⟨ρ, S, μ, he, hr, (Fin.bind hf).mono fun ds S1 μ1 H1 st1 r1 h1 vs hvs => hg ds vs S1 μ1 H1 Q hvs r1 h1⟩
theorem de_callB {x : Str} {id : String} {r : List V → Hp → VK → Prop} {g : GL} {p pos : Pos} {e : Expr} {es : List Expr} {fs : FL} (hc : CallR X (.builtin id) r) (hg : OkL T E r g) (hgl : Gl X x) (hm : X.mg x = none) (hv : bootBuiltins x = some (.builtin id)) (ha : PA X (e :: es) (tA T E fs))
    (hn : x ≠ "__name__" := by decide) (hdb : (x == ("__debug__" : Str)) = false := by decide) (he : starEach (e :: es) X.env = (false, eval e X.env) :: starEach es X.env := by rfl) (hpl : (backTo pos (starEach es X.env)).any (·.1) = false := by rfl) :
    PE X (.Call (.Name x p) (e :: es) [] pos) (tE T E (fCall g fs)) := peW (pe_callB hc hgl hm hv ha hn hdb he hpl) (te_call hg)
theorem de_callTy {x : Str} {id : String} {r : List V → Hp → VK → Prop} {g : GL} {p pos : Pos} {e : Expr} {es : List Expr} {fs : FL} (hc : CallR X (.type id) r) (hg : OkL T E r g) (hgl : Gl X x) (hm : X.mg x = none) (hv : bootBuiltins x = some (.type id)) (ha : PA X (e :: es) (tA T E fs))
    (hn : x ≠ "__name__" := by decide) (hdb : (x == ("__debug__" : Str)) = false := by decide) (he : starEach (e :: es) X.env = (false, eval e X.env) :: starEach es X.env := by rfl) (hpl : (backTo pos (starEach es X.env)).any (·.1) = false := by rfl) :
    PE X (.Call (.Name x p) (e :: es) [] pos) (tE T E (fCall g fs)) := peW (pe_callTy hc hgl hm hv ha hn hdb he hpl) (te_call hg)

def gLen : GL := fun ds S => match ds with
  | [.str z] => if z.length ≤ lineN then .ok (.int z.length) S else .bad
  | [d] => match seqOf d S with | some xs => .ok (.int xs.length) S | none => .bad
  | _ => .bad
theorem ok_len : OkL T E (fun xs H Q => ∃ x n, xs = [x] ∧ LenV T.K x H n ∧ Q (.int n) H) gLen := fun ds vs S μ H Q hvs hr h => by
  unfold gLen at h
  split at h
  · cases hvs with
    | cons r q =>
      cases q; cases r
      split at h
      · rename_i hl
        exact ⟨_, _, rfl, ⟨lineN_le hl, rfl⟩, h.ok hr _ (.int _)⟩
      · exact h.elim
  · split at h
    · rename_i xs hs
      cases hvs with
      | cons r q =>
        cases q
        obtain ⟨a, ys, rfl, s, q⟩ := seqOf_sq hr r hs
        refine ⟨.ref a, xs.length, rfl, ?_, h.ok hr _ (.int _)⟩
        rcases s with s | s
        · exact .inl ⟨ys, s, q.length.symm⟩
        · exact .inr ⟨ys, s, q.length.symm⟩
    · exact h.elim
  · exact h.elim
def gAbs : GL := fun ds S => match ds with | [.int i] => .ok (.int (if i < 0 then -i else i)) S | _ => .bad
theorem ok_abs : OkL T E (fun xs H Q => ∃ i, xs = [.int i] ∧ Q (.int (if i < 0 then -i else i)) H) gAbs := fun ds vs S μ H Q hvs hr h => by
  unfold gAbs at h
  split at h
  · cases hvs with
    | cons r q => cases q; cases r; exact ⟨_, rfl, h.ok hr _ (.int _)⟩
  · exact h.elim
def gInt : GL := fun ds S => match ds with | [.int i] => .ok (.int i) S | [.bl b] => .ok (.int (if b then 1 else 0)) S | _ => .bad
theorem ok_int1 : OkL T E (fun xs H Q => (∃ i, xs = [.int i] ∧ Q (.int i) H) ∨ ∃ k, xs = [.bl k] ∧ Q (.int (if k then 1 else 0)) H) gInt := fun ds vs S μ H Q hvs hr h => by
  unfold gInt at h
  split at h
  · cases hvs with
    | cons r q => cases q; cases r; exact .inl ⟨_, rfl, h.ok hr _ (.int _)⟩
  · cases hvs with
    | cons r q => cases q; cases r; exact .inr ⟨_, rfl, h.ok hr _ (.int _)⟩
  · exact h.elim
/-- the ints of a row -/
def intsOf : List D → Option (List Int)
  | [] => some []
  | .int i :: ds => (intsOf ds).map (i :: ·)
  | _ :: _ => none
theorem intsOf_eq : ∀ {ds : List D} {ns : List Int}, intsOf ds = some ns → ds = ns.map D.int
  | [], _, h => by cases h; rfl
  | .int i :: ds, ns, h => by
    simp only [intsOf, Option.map_eq_some_iff] at h
    obtain ⟨ms, h1, rfl⟩ := h
    rw [intsOf_eq h1]; rfl
@[simp] theorem intsOf_map (ns : List Int) : intsOf (ns.map D.int) = some ns := by
  induction ns with
  | nil => rfl
  | cons n ns ih => simp [intsOf, ih]
def boolsOf : List D → Option (List Bool)
  | [] => some []
  | .bl b :: ds => (boolsOf ds).map (b :: ·)
  | _ :: _ => none
theorem boolsOf_eq : ∀ {ds : List D} {bs : List Bool}, boolsOf ds = some bs → ds = bs.map D.bl
  | [], _, h => by cases h; rfl
  | .bl b :: ds, bs, h => by
    simp only [boolsOf, Option.map_eq_some_iff] at h
    obtain ⟨ms, h1, rfl⟩ := h
    rw [boolsOf_eq h1]; rfl
@[simp] theorem boolsOf_map (bs : List Bool) : boolsOf (bs.map D.bl) = some bs := by
  induction bs with
  | nil => rfl
  | cons n ns ih => simp [boolsOf, ih]
theorem DVs.bools {μ : List Addr} {H : Hp} : ∀ {vs : List V} {bs : List Bool}, DVs T μ H vs (bs.map D.bl) → vs = bs.map V.bl
  | _, [], .nil => rfl
  | _, _ :: _, .cons (.bl b) t => by rw [List.map_cons, DVs.bools t]
def gAll : GL := fun ds S => match ds with
  | [d] => match items d S with
    | some xs => match boolsOf xs with | some bs => .ok (.bl (bs.all id)) S | none => .bad
    | none => .bad
  | _ => .bad
theorem ok_all : OkL T E (rAll T.K) gAll := fun ds vs S μ H Q hvs hr h => by
  unfold gAll at h
  split at h
  · split at h
    · rename_i xs hs
      split at h
      · rename_i bs hb
        cases hvs with
        | cons r q =>
          cases q
          obtain ⟨a, ys, rfl, s, q⟩ := items_sq hr r hs
          rw [boolsOf_eq hb] at q
          rw [q.bools] at s
          exact ⟨a, bs, rfl, s, h.ok hr _ (.bl _)⟩
      · exact h.elim
    · exact h.elim
  · exact h.elim
end
end DL

set_option Elab.async false
set_option linter.all false
set_option maxRecDepth 100000
set_option maxHeartbeats 4000000
/-! DL4: sum, max, min, tuple, list, isinstance, fields, append, index. -/
namespace DL
open PySem PySem.Spec PyProof.Rows L2
section
variable {X : Cx} {T : Tb} {E : XK} {k : Nat}
def rSumT (K : PySem.W.Frag) : List V → Hp → VK → Prop := fun vs H Q => ∃ (a : Addr) (ns : List Int), vs = [V.ref a] ∧ SqT K H a (ns.map V.int) ∧ Q (.int ns.sum) H
theorem cr_sumT (hc : X.calm = true) : CallR X (.builtin "sum") (rSumT X.K) := by
  intro pins s σ H vs us Q I r h
  obtain ⟨a, ns, rfl, hs, q⟩ := h
  obtain ⟨its, rv, ht, _⟩ := I.tuple hs
  rw [Vals.ref1 r]
  have hi := rv.ints
  obtain ⟨xs, e⟩ := hi.allInts.items
  have hn : numsOf (intItems xs).toList = ns := by rw [← e]; exact hi.numsOf
  rw [nums_intItems] at hn
  rw [e] at ht
  refine PySem.W.ktm_sumG (I.ok.hd hc) ht fun h' tk t' hk => ?_
  rw [preSum_eq, List.take_of_length_le (by simp), hn]
  exact ⟨.int _, H, I.kept hk, ⟨_, rfl⟩, q⟩
/-- the greatest, the least of a row that is not empty -/
def maxI (x : Int) (xs : List Int) : Int := xs.foldl (fun a y => if a < y then y else a) x
def minI (x : Int) (xs : List Int) : Int := xs.foldl (fun a y => if y < a then y else a) x
theorem maxI_spec : ∀ (xs : List Int) (x : Int), maxI x xs ∈ x :: xs ∧ ∀ y ∈ x :: xs, y ≤ maxI x xs
  | [], x => ⟨List.mem_singleton.mpr rfl, fun y hy => by rw [List.mem_singleton.mp hy]; exact Int.le_refl _⟩
  | z :: zs, x => by
    have ih := maxI_spec zs (if x < z then z else x)
    have e : maxI x (z :: zs) = maxI (if x < z then z else x) zs := rfl
    rw [e]
    have h0 := ih.2 _ List.mem_cons_self
    have hx : x ≤ (if x < z then z else x) := by split <;> omega
    have hz : z ≤ (if x < z then z else x) := by split <;> omega
    refine ⟨?_, fun y hy => ?_⟩
    · rcases List.mem_cons.mp ih.1 with q | q
      · rw [q]
        by_cases c : x < z
        · rw [if_pos c]; exact List.mem_cons_of_mem _ List.mem_cons_self
        · rw [if_neg c]; exact List.mem_cons_self
      · exact List.mem_cons_of_mem _ (List.mem_cons_of_mem _ q)
    · rcases List.mem_cons.mp hy with q | q
      · rw [q]; exact Int.le_trans hx h0
      · rcases List.mem_cons.mp q with q | q
        · rw [q]; exact Int.le_trans hz h0
        · exact ih.2 y (List.mem_cons_of_mem _ q)
theorem minI_spec : ∀ (xs : List Int) (x : Int), minI x xs ∈ x :: xs ∧ ∀ y ∈ x :: xs, minI x xs ≤ y
  | [], x => ⟨List.mem_singleton.mpr rfl, fun y hy => by rw [List.mem_singleton.mp hy]; exact Int.le_refl _⟩
  | z :: zs, x => by
    have ih := minI_spec zs (if z < x then z else x)
    have e : minI x (z :: zs) = minI (if z < x then z else x) zs := rfl
    rw [e]
    have h0 := ih.2 _ List.mem_cons_self
    have hx : (if z < x then z else x) ≤ x := by split <;> omega
    have hz : (if z < x then z else x) ≤ z := by split <;> omega
    refine ⟨?_, fun y hy => ?_⟩
    · rcases List.mem_cons.mp ih.1 with q | q
      · rw [q]
        by_cases c : z < x
        · rw [if_pos c]; exact List.mem_cons_of_mem _ List.mem_cons_self
        · rw [if_neg c]; exact List.mem_cons_self
      · exact List.mem_cons_of_mem _ (List.mem_cons_of_mem _ q)
    · rcases List.mem_cons.mp hy with q | q
      · rw [q]; exact Int.le_trans h0 hx
      · rcases List.mem_cons.mp q with q | q
        · rw [q]; exact Int.le_trans h0 hz
        · exact ih.2 y (List.mem_cons_of_mem _ q)
theorem maxI_uniq {x m : Int} {xs : List Int} (h1 : m ∈ x :: xs) (h2 : ∀ y ∈ x :: xs, y ≤ m) : m = maxI x xs :=
  Int.le_antisymm ((maxI_spec xs x).2 m h1) (h2 _ (maxI_spec xs x).1)
theorem minI_uniq {x m : Int} {xs : List Int} (h1 : m ∈ x :: xs) (h2 : ∀ y ∈ x :: xs, m ≤ y) : m = minI x xs :=
  Int.le_antisymm (h2 _ (minI_spec xs x).1) ((minI_spec xs x).2 m h1)
theorem maxD_ints : ∀ (xs : List Int) (x : Int), PySem.W.maxD (.int x) (xs.map PyData.int) = .int (maxI x xs)
  | [], _ => rfl
  | z :: zs, x => by
    show List.foldl _ (if PySem.W.dataLt (.int x) (.int z) = true then PyData.int z else PyData.int x) (zs.map PyData.int) = .int (maxI (if x < z then z else x) zs)
    rw [PySem.W.dataLt_int]
    by_cases c : x < z
    · simp only [c, decide_true, if_true]
      exact maxD_ints zs z
    · simp only [c, decide_false, Bool.false_eq_true, if_false]
      exact maxD_ints zs x
theorem minD_ints : ∀ (xs : List Int) (x : Int), PySem.W.minD (.int x) (xs.map PyData.int) = .int (minI x xs)
  | [], _ => rfl
  | z :: zs, x => by
    show List.foldl _ (if PySem.W.dataLt (.int z) (.int x) = true then PyData.int z else PyData.int x) (zs.map PyData.int) = .int (minI (if z < x then z else x) zs)
    rw [PySem.W.dataLt_int]
    by_cases c : z < x
    · simp only [c, decide_true, if_true]
      exact minD_ints zs z
    · simp only [c, decide_false, Bool.false_eq_true, if_false]
      exact minD_ints zs x
theorem reads_ints {h : Heap} : ∀ {us : List Value} {ns : List Int}, Vals (ns.map V.int) us → ReadsAll h us (ns.map PyData.int) []
  | _, [], .nil => .nil
  | _, n :: ns, .cons ⟨t, e⟩ q => by subst e; exact ReadsAll.cons (as := []) (bs := []) (.int n t) (reads_ints q)
theorem alike_ints (ns : List Int) : PySem.W.AlikeAll (ns.map PyData.int) := by
  refine ⟨fun x hx y hy => ?_, fun x hx => ?_⟩
  · obtain ⟨i, _, rfl⟩ := List.mem_map.mp hx
    obtain ⟨j, _, rfl⟩ := List.mem_map.mp hy
    rfl
  · obtain ⟨i, _, rfl⟩ := List.mem_map.mp hx
    intro e; cases e
theorem depth_ints : ∀ ns : List Int, PyData.depthAll (ns.map PyData.int) = 0
  | [] => rfl
  | n :: ns => by
    show max (PyData.depth (.int n)) (PyData.depthAll (ns.map PyData.int)) = 0
    rw [depth_ints ns]; rfl
def rMaxT (K : PySem.W.Frag) : List V → Hp → VK → Prop := fun vs H Q => ∃ (a : Addr) (x : Int) (ns : List Int), vs = [V.ref a] ∧ SqT K H a ((x :: ns).map V.int) ∧ Q (.int (maxI x ns)) H
def rMinT (K : PySem.W.Frag) : List V → Hp → VK → Prop := fun vs H Q => ∃ (a : Addr) (x : Int) (ns : List Int), vs = [V.ref a] ∧ SqT K H a ((x :: ns).map V.int) ∧ Q (.int (minI x ns)) H
theorem cr_maxT (hc : X.calm = true) (hr : Room k X.A) : CallR X (.builtin "max") (rMaxT X.K) := by
  intro pins s σ H vs us Q I r h
  obtain ⟨a, x, ns, rfl, hs, q⟩ := h
  obtain ⟨its, rv, ht, _⟩ := I.tuple hs
  rw [Vals.ref1 r]
  have hu := hr.units
  refine PySem.W.max_tuple_data (x := .int x) (xs := ns.map PyData.int) (I.ok.hd hc) ht (reads_ints (ns := x :: ns) rv) (alike_ints (x :: ns)) ?_ fun i v h' tk bs _ hv hk => ?_
  · show X.A.units + 1 + PyData.depthAll ((x :: ns).map PyData.int) < cLine
    rw [depth_ints]; omega
  · rw [maxD_ints] at hv
    cases hv
    exact ⟨.int _, H, I.kept hk, ⟨_, rfl⟩, q⟩
theorem cr_minT (hc : X.calm = true) (hr : Room k X.A) : CallR X (.builtin "min") (rMinT X.K) := by
  intro pins s σ H vs us Q I r h
  obtain ⟨a, x, ns, rfl, hs, q⟩ := h
  obtain ⟨its, rv, ht, _⟩ := I.tuple hs
  rw [Vals.ref1 r]
  have hu := hr.units
  refine PySem.W.min_tuple_data (x := .int x) (xs := ns.map PyData.int) (I.ok.hd hc) ht (reads_ints (ns := x :: ns) rv) (alike_ints (x :: ns)) ?_ fun i v h' tk bs _ hv hk => ?_
  · show X.A.units + 1 + PyData.depthAll ((x :: ns).map PyData.int) < cLine
    rw [depth_ints]; omega
  · rw [minD_ints] at hv
    cases hv
    exact ⟨.int _, H, I.kept hk, ⟨_, rfl⟩, q⟩

/-! by values, over lists and tuples -/
def numsD (d : D) (S : Store) : Option (List Int) := match seqOf d S with | some xs => intsOf xs | none => none
theorem numsD_sq {d : D} {S : Store} {ns : List Int} {v : V} {μ : List Addr} {H : Hp} (hr : Rep T μ H S) (hv : DV T μ H v d) (h : numsD d S = some ns) : ∃ a, v = .ref a ∧ (SqL T.K H a (ns.map V.int) ∨ SqT T.K H a (ns.map V.int)) := by
  unfold numsD at h
  split at h
  · rename_i xs hs
    obtain ⟨a, ys, rfl, s, q⟩ := seqOf_sq hr hv hs
    rw [intsOf_eq h] at q
    rw [q.ints] at s
    exact ⟨a, rfl, s⟩
  · cases h
def gSum : GL := fun ds S => match ds with | [d] => (match numsD d S with | some ns => .ok (.int ns.sum) S | none => .bad) | _ => .bad
def gMax : GL := fun ds S => match ds with
  | [d] => (match numsD d S with | some (x :: ns) => .ok (.int (maxI x ns)) S | _ => .bad)
  | [.int i, .int j] => .ok (.int (if j > i then j else i)) S
  | _ => .bad
def gMin : GL := fun ds S => match ds with
  | [d] => (match numsD d S with | some (x :: ns) => .ok (.int (minI x ns)) S | _ => .bad)
  | [.int i, .int j] => .ok (.int (if j < i then j else i)) S
  | _ => .bad
def rSumD (K : PySem.W.Frag) : List V → Hp → VK → Prop := fun xs H Q => rSum K xs H Q ∨ rSumT K xs H Q
def rMaxD' (K : PySem.W.Frag) : List V → Hp → VK → Prop := fun xs H Q => rMax K xs H Q ∨ (rMaxT K xs H Q ∨ ∃ i j, xs = [.int i, .int j] ∧ Q (.int (if j > i then j else i)) H)
def rMinD' (K : PySem.W.Frag) : List V → Hp → VK → Prop := fun xs H Q => rMin K xs H Q ∨ (rMinT K xs H Q ∨ ∃ i j, xs = [.int i, .int j] ∧ Q (.int (if j < i then j else i)) H)
theorem cr_sumD (hc : X.calm = true) : CallR X (.builtin "sum") (rSumD X.K) := (cr_sum hc).or (cr_sumT hc)
theorem cr_maxD' (hc : X.calm = true) (hr : Room k X.A) : CallR X (.builtin "max") (rMaxD' X.K) := (cr_max hc).or ((cr_maxT hc hr).or (call_max2 hc))
theorem cr_minD' (hc : X.calm = true) (hr : Room k X.A) : CallR X (.builtin "min") (rMinD' X.K) := (cr_min hc).or ((cr_minT hc hr).or (call_min2 hc))
theorem ok_sum : OkL T E (rSumD T.K) gSum := fun ds vs S μ H Q hvs hr h => by
  unfold gSum at h
  split at h
  · split at h
    · rename_i ns hn
      cases hvs with
      | cons r q =>
        cases q
        obtain ⟨a, rfl, s⟩ := numsD_sq hr r hn
        rcases s with s | s
        · exact .inl ⟨a, ns, rfl, s, h.ok hr _ (.int _)⟩
        · exact .inr ⟨a, ns, rfl, s, h.ok hr _ (.int _)⟩
    · exact h.elim
  · exact h.elim
theorem ok_max : OkL T E (rMaxD' T.K) gMax := fun ds vs S μ H Q hvs hr h => by
  unfold gMax at h
  split at h
  · split at h
    · rename_i x ns hn
      cases hvs with
      | cons r q =>
        cases q
        obtain ⟨a, rfl, s⟩ := numsD_sq hr r hn
        rcases s with s | s
        · exact .inl ⟨a, x :: ns, rfl, s, Nat.succ_pos _, fun m h1 h2 => by rw [maxI_uniq h1 h2]; exact h.ok hr _ (.int _)⟩
        · exact .inr (.inl ⟨a, x, ns, rfl, s, h.ok hr _ (.int _)⟩)
    · exact h.elim
  · cases hvs with
    | cons r q => cases q with
      | cons r' q => cases q; cases r; cases r'; exact .inr (.inr ⟨_, _, rfl, h.ok hr _ (.int _)⟩)
  · exact h.elim
theorem ok_min : OkL T E (rMinD' T.K) gMin := fun ds vs S μ H Q hvs hr h => by
  unfold gMin at h
  split at h
  · split at h
    · rename_i x ns hn
      cases hvs with
      | cons r q =>
        cases q
        obtain ⟨a, rfl, s⟩ := numsD_sq hr r hn
        rcases s with s | s
        · exact .inl ⟨a, x :: ns, rfl, s, Nat.succ_pos _, fun m h1 h2 => by rw [minI_uniq h1 h2]; exact h.ok hr _ (.int _)⟩
        · exact .inr (.inl ⟨a, x, ns, rfl, s, h.ok hr _ (.int _)⟩)
    · exact h.elim
  · cases hvs with
    | cons r q => cases q with
      | cons r' q => cases q; cases r; cases r'; exact .inr (.inr ⟨_, _, rfl, h.ok hr _ (.int _)⟩)
  · exact h.elim

/-! tuple(..), list(..) -/
def rTupX (K : PySem.W.Frag) : List V → Hp → VK → Prop := fun xs H Q => ∃ p ys, xs = [.ref p] ∧ ((SqL K H p ys ∧ ∀ (l : Addr) (o : Obj), H l = none → o.dict = none → Q (.ref l) (upd H l (.frz o (.tup ys)))) ∨ (SqT K H p ys ∧ Q (.ref p) H))
theorem cr_tupX : CallR X (.type "tuple") (rTupX X.K) := by
  intro pins s σ H xs us Q I r h
  obtain ⟨p, ys, rfl, h⟩ := h
  obtain ⟨u, rfl, rx⟩ := vals1 r
  cases rx
  rcases h with ⟨hq, q⟩ | ⟨hq, q⟩
  · obtain ⟨its, r', pl, hz⟩ := I.list hq
    have hlen := r'.length
    refine call_tuple_list pl.isList (fun h' kp => ?_) (by simp only [List.size_toArray] <;> omega)
    exact laid_tup (s := { s with heap := h' }) (I.kept (t' := s.toks) kp) r' hz q
  · obtain ⟨its, r', pl, hz⟩ := I.tuple hq
    exact call_tuple_same pl ⟨.ref p, H, I, rfl, q⟩
def gTup : GL := fun ds S => match ds with
  | [.tup xs] => .ok (.tup xs) S
  | [d] => (match items d S with | some xs => .ok (.tup xs) S | none => .bad)
  | _ => .bad
theorem ok_tup : OkL T E (rTupX T.K) gTup := fun ds vs S μ H Q hvs hr h => by
  unfold gTup at h
  split at h
  · cases hvs with
    | cons r q => cases q; cases r with
      | tup s q => exact ⟨_, _, rfl, .inr ⟨s.sq, h.ok hr _ (.tup s q)⟩⟩
  · split at h
    · rename_i xs hs
      cases hvs with
      | cons r q =>
        cases q
        obtain ⟨a, ys, rfl, s, q⟩ := items_sq hr r hs
        exact ⟨a, ys, rfl, .inl ⟨s, fin_tup hr q h⟩⟩
    · exact h.elim
  · exact h.elim
def gList : GL := fun ds S => match ds with
  | [d] => (match seqOf d S with | some xs => .ok (.lst xs) S | none => .bad)
  | _ => .bad
theorem ok_list : OkL T E (fun xs H Q => ∃ p ys, xs = [.ref p] ∧ (SqL T.K H p ys ∨ SqT T.K H p ys) ∧ ∀ l, H l = none → Q (.ref l) (upd H l (.lst ys))) gList := fun ds vs S μ H Q hvs hr h => by
  unfold gList at h
  split at h
  · split at h
    · rename_i xs hs
      cases hvs with
      | cons r q =>
        cases q
        obtain ⟨a, ys, rfl, s, q⟩ := seqOf_sq hr r hs
        exact ⟨a, ys, rfl, s, fin_lst hr q h⟩
    · exact h.elim
  · exact h.elim
/-- the same as a list that is to be written -/
def gListN : GL := fun ds S => match ds with
  | [d] => (match seqOf d S with | some xs => if purL xs = true then .ok (.obj S.length) (S ++ [.lst xs]) else .bad | none => .bad)
  | _ => .bad
theorem ok_listN : OkL T E (fun xs H Q => ∃ p ys, xs = [.ref p] ∧ (SqL T.K H p ys ∨ SqT T.K H p ys) ∧ ∀ l, H l = none → Q (.ref l) (upd H l (.lst ys))) gListN := fun ds vs S μ H Q hvs hr h => by
  unfold gListN at h
  split at h
  · split at h
    · rename_i xs hs
      split at h
      · rename_i hp
        cases hvs with
        | cons r q =>
          cases q
          obtain ⟨a, ys, rfl, s, q⟩ := seqOf_sq hr r hs
          exact ⟨a, ys, rfl, s, fin_new hr hp q h⟩
      · exact h.elim
    · exact h.elim
  · exact h.elim
end
end DL

set_option Elab.async false
set_option linter.all false
set_option maxRecDepth 100000
set_option maxHeartbeats 4000000
/-! DL5: isinstance, fields, methods of lists and tuples. -/
namespace DL
open PySem PySem.Spec PyProof.Rows L2
section
variable {X : Cx} {T : Tb} {E : XK} {k : Nat}
theorem de_ty {x : Str} {n : String} {pos : Pos} (hg : Gl X x) (hm : X.mg x = none) (hv : bootBuiltins x = some (.type n)) (hn : x ≠ "__name__" := by decide) (hd : (x == ("__debug__" : Str)) = false := by decide) : PE X (.Name x pos) (tE T E (fC (.ty n))) :=
  de_c (pe_bltn (v := .ty n) hg hm hv rfl hn hd) fun _ _ => .ty n
theorem de_cl {x : Str} {c : Nat} {pos : Pos} (hg : Gl X x) (hm : X.mg x = some (.ref (T.cA c))) (hc : c < T.nC) (hd : (x == ("__debug__" : Str)) = false := by decide) : PE X (.Name x pos) (tE T E (fC (.cl c))) :=
  de_c (pe_glob (v := .ref (T.cA c)) hg hm rfl hd) fun _ _ => .cl hc
theorem de_fn {x : Str} {i : Nat} {pos : Pos} (hg : Gl X x) (hm : X.mg x = some (.ref (T.fA i))) (hd : (x == ("__debug__" : Str)) = false := by decide) : PE X (.Name x pos) (tE T E (fC (.fn i))) :=
  de_c (pe_glob (v := .ref (T.fA i)) hg hm rfl hd) fun _ _ => .fn i
/-- a module's constant -/
theorem de_gc {x : Str} {d : D} {v : V} {u : Value} {pos : Pos} (hg : Gl X x) (hm : X.mg x = some u) (r : RelV v u) (hv : ∀ μ H, DV T μ H v d) (hd : (x == ("__debug__" : Str)) = false := by decide) : PE X (.Name x pos) (tE T E (fC d)) :=
  de_c (pe_glob hg hm r hd) hv

abbrev tyA : List String := ["NoneType", "bool", "int", "str", "tuple", "list"]
abbrev tyB : List String := ["int", "bool", "str", "tuple", "list"]
/-- isinstance of the types a, b -/
def isB (a b : String) : Bool := a == b || (a == "bool" && b == "int")
theorem kit_tab : ∀ a ∈ tyA, ∀ b ∈ tyB, kitB a b = some (isB a b) := by decide +kernel
/-- the type of a value: a built-in one, or the class of a number -/
def tyD : D → Store → Option (String ⊕ Nat)
  | .non, _ => some (.inl "NoneType")
  | .bl _, _ => some (.inl "bool")
  | .int _, _ => some (.inl "int")
  | .str _, _ => some (.inl "str")
  | .tup _, _ => some (.inl "tuple")
  | .lst _, _ => some (.inl "list")
  | .scr _, _ => some (.inl "list")
  | .obj l, S => match S[l]? with | some (.lst _) => some (.inl "list") | _ => none
  | .ins c _, _ => some (.inr c)
  | _, _ => none
theorem tyX_tup {K : PySem.W.Frag} {H : Hp} {a : Addr} {xs : List V} (h : TupX K H a xs) : TyX K H (.ref a) (.type "tuple") := by
  rcases h with ⟨o, h, _⟩ | ⟨o, its, n, h1, h2, _⟩
  · exact .fTuple h
  · exact .kTuple h1 h2
theorem tyX_sql {K : PySem.W.Frag} {H : Hp} {a : Addr} {xs : List V} (h : SqL K H a xs) : TyX K H (.ref a) (.type "list") := by
  rcases h with (h | ⟨o, h⟩) | ⟨o, its, n, h1, h2, _⟩
  · exact .base (.lst h)
  · exact .base (.frz h)
  · exact .kList h1 h2
def tyVal (T : Tb) : String ⊕ Nat → Value
  | .inl a => .type a
  | .inr c => .ref (T.cA c)
def TyP (T : Tb) : String ⊕ Nat → Prop
  | .inl a => a ∈ tyA
  | .inr c => c < T.nC
theorem inA {a : String} (h : a ∈ tyA) : TyP T (.inl a) := h
theorem tyD_ok (F : CF T) {d : D} {S : Store} {t : String ⊕ Nat} {v : V} {μ : List Addr} {H : Hp} (hr : Rep T μ H S) (hv : DV T μ H v d) (h : tyD d S = some t) :
    TyX T.K H v (tyVal T t) ∧ TyP T t := by
  cases hv with
  | non => cases h; exact ⟨.base .non, inA (by decide)⟩
  | bl b => cases h; exact ⟨.base (.bl b), inA (by decide)⟩
  | int i => cases h; exact ⟨.base (.int i), inA (by decide)⟩
  | str x => cases h; exact ⟨.base (.str x), inA (by decide)⟩
  | tup s q => cases h; exact ⟨tyX_tup s, inA (by decide)⟩
  | lst e n q => cases h; exact ⟨.base (.lst e), inA (by decide)⟩
  | scr e => cases h; exact ⟨tyX_sql e.sq, inA (by decide)⟩
  | @obj a l e =>
    cases hs : S[l]? with
    | none => simp [tyD, hs] at h
    | some o =>
      cases o with
      | lst ds =>
        simp [tyD, hs] at h
        subst h
        obtain ⟨_, xs, e1, _⟩ := hr.ob l a _ e hs
        exact ⟨.base (.lst e1), inA (by decide)⟩
      | ins c fs => simp [tyD, hs] at h
  | ins hc hk e n q => cases h; exact ⟨.base (.ins e (F.cls _ hc) (F.ha _ hc) F.hn F.ht (F.hm _ hc)), hc⟩
  | _ => simp [tyD] at h
/-- the answer to one class -/
def isT : String ⊕ Nat → D → Option Bool
  | .inl a, .ty b => if b ∈ tyB then some (isB a b) else none
  | .inr _, .ty b => if b ∈ tyB then some false else none
  | .inl _, .cl _ => some false
  | .inr c', .cl c => some (c' == c)
  | _, _ => none
theorem isT_ok (F : CF T) {t : String ⊕ Nat} {d : D} {v : V} {b : Bool} {μ : List Addr} {H : Hp} (ht : TyP T t) (hv : DV T μ H v d) (h : isT t d = some b) :
    ∃ u, ClsV v u ∧ PySem.W.kitOne T.K (tyVal T t) u = some b := by
  cases hv with
  | ty n =>
    refine ⟨.type n, .ty n, ?_⟩
    cases t with
    | inl a =>
      simp only [isT] at h
      split at h
      · rename_i hn
        cases h; exact kit_ty (kit_tab a ht n hn)
      · cases h
    | inr c =>
      simp only [isT] at h
      split at h
      · rename_i hn
        cases h; exact F.kb c ht n hn
      · cases h
  | @cl c hc =>
    refine ⟨.ref (T.cA c), .own _, ?_⟩
    cases t with
    | inl a =>
      simp only [isT] at h
      cases h; exact F.kt c hc a ht
    | inr c' =>
      simp only [isT] at h
      cases h; exact F.kc c' ht c hc
  | _ => cases t <;> simp [isT] at h
def gIsi : GL := fun ds S => match ds with
  | [d, .tup [a, b]] => (match tyD d S with
    | some t => (match isT t a, isT t b with | some x, some y => .ok (.bl (x || y)) S | _, _ => .bad)
    | none => .bad)
  | [d, c] => (match tyD d S with
    | some t => (match isT t c with | some b => .ok (.bl b) S | none => .bad)
    | none => .bad)
  | _ => .bad
/-- isinstance(x, (a, b)), the tuple known -/
def rIsiX (K : PySem.W.Frag) : List V → Hp → VK → Prop := fun xs H Q => ∃ (x : V) (tp : Addr) (cs : List V) (t : Value) (us : List Value) (b : Bool), xs = [x, .ref tp] ∧ SqT K H tp cs ∧ Paired ClsV cs us ∧ TyX K H x t ∧ PySem.W.kitAny K t us = some b ∧ Q (.bl b) H
theorem call_isiX : CallR X (.builtin "isinstance") (rIsiX X.K) := by
  intro pins s σ H xs us Q I r h
  obtain ⟨x, tp, cs, t, ws, b, rfl, hT, k, ty, e, q⟩ := h
  obtain ⟨u1, u2, rfl, r1, r2⟩ := vals2 r
  cases (show u2 = Value.ref tp from r2)
  obtain ⟨P, Z, p, hx⟩ := kit_of I r1 ty
  obtain ⟨its, rv, ⟨⟨oc, od, dt, sl⟩, h1, h2, n, h3⟩, _⟩ := I.tuple hT
  have e3 := ClsV.all k rv
  subst e3
  simp only at h2 h3
  subst h2 h3
  exact PySem.W.kia_tup Z I.kIn p h1 e hx fun tk => ⟨.bl b, H, I.tok tk, rfl, q⟩
def rIsiD (K : PySem.W.Frag) : List V → Hp → VK → Prop := fun xs H Q => rIsi K xs H Q ∨ rIsiX K xs H Q
theorem cr_isiD : CallR X (.builtin "isinstance") (rIsiD X.K) := call_isi.or call_isiX
theorem ok_isi (F : CF T) : OkL T E (rIsiD T.K) gIsi := fun ds vs S μ H Q hvs hr h => by
  unfold gIsi at h
  split at h
  · rename_i d a b
    split at h
    · rename_i t ht
      split at h
      · rename_i x y hx hy
        cases hvs with
        | cons r q => cases q with
          | cons r' q =>
            cases q
            obtain ⟨ty, tb⟩ := tyD_ok F hr r ht
            cases r' with
            | tup s qs => cases qs with
              | cons ra qs => cases qs with
                | cons rb qs =>
                  cases qs
                  obtain ⟨u, k1, e1⟩ := isT_ok F tb ra hx
                  obtain ⟨w, k2, e2⟩ := isT_ok F tb rb hy
                  refine .inr ⟨_, _, _, _, [u, w], _, rfl, s.sq, .cons k1 (.cons k2 .nil), ty, ?_, h.ok hr _ (.bl _)⟩
                  refine kitAny_cons e1 (fun hf => ?_) (fun hf => by rw [hf, Bool.true_or])
                  rw [hf, Bool.false_or]
                  exact kitAny_cons e2 (fun hf => by rw [hf]; exact kitAny_nil) (fun hf => hf)
      · exact h.elim
    · exact h.elim
  · split at h
    · rename_i t ht
      split at h
      · rename_i b hb
        cases hvs with
        | cons r q => cases q with
          | cons r' q =>
            cases q
            obtain ⟨ty, tb⟩ := tyD_ok F hr r ht
            obtain ⟨u, k1, e1⟩ := isT_ok F tb r' hb
            exact .inl ⟨_, _, _, u, b, rfl, k1, ty, e1, h.ok hr _ (.bl _)⟩
      · exact h.elim
    · exact h.elim
  · exact h.elim

/-! ### fields -/
def fieldsD : D → Store → Option (Nat × List (Nat × D))
  | .ins c fs, _ => some (c, fs)
  | .obj l, S => match S[l]? with | some (.ins c fs) => some (c, fs) | _ => none
  | _, _ => none
theorem fieldsD_ok {d : D} {S : Store} {c : Nat} {fs : List (Nat × D)} {v : V} {μ : List Addr} {H : Hp} (hr : Rep T μ H S) (hv : DV T μ H v d) (h : fieldsD d S = some (c, fs)) :
    c < T.nC ∧ (∀ p ∈ fs, p.1 ∈ T.fl c) ∧ ∃ a dx vs, v = .ref a ∧ H a = some (.ins (T.cA c) dx vs) ∧ DFs T μ H vs fs := by
  cases hv with
  | ins hc hk e n q => cases h; exact ⟨hc, hk, _, _, _, rfl, e, q⟩
  | @obj a l e =>
    cases hs : S[l]? with
    | none => simp [fieldsD, hs] at h
    | some o =>
      cases o with
      | lst ds => simp [fieldsD, hs] at h
      | ins c' gs =>
        simp [fieldsD, hs] at h
        obtain ⟨rfl, rfl⟩ := h
        obtain ⟨⟨_, hc, hk⟩, dx, vs, e1, q⟩ := hr.ob l a _ e hs
        exact ⟨hc, hk, _, _, _, rfl, e1, q⟩
  | _ => simp [fieldsD] at h
theorem lookup_mem {α : Type} : ∀ {l : List (Nat × α)} {f : Nat} {x : α}, l.lookup f = some x → (f, x) ∈ l
  | [], _, _, h => by simp at h
  | (g, y) :: l, f, x, h => by
    rw [List.lookup_cons] at h
    cases hb : f == g with
    | true => rw [hb] at h; cases h; rw [beq_iff_eq.mp hb]; exact List.mem_cons_self
    | false => rw [hb] at h; exact List.mem_cons_of_mem _ (lookup_mem h)
def gFld (f : Nat) (d : D) (S : Store) : Res D := match fieldsD d S with
  | some p => (match p.2.lookup f with | some x => .ok x S | none => .bad)
  | none => .bad
def fFld (f : Nat) (e : FE) : FE := fun ρ S => (e ρ S).bind fun d S1 => gFld f d S1
theorem de_fld (F : CF T) {e : Expr} {fe : FE} {f : Nat} {x : Str} {pos : Pos} (hK : T.K = X.K) (hx : x = T.nm f) (he : PE X e (tE T E fe)) (hb : attributeBase e x X.env (eval e X.env) = eval e X.env := by rfl) : PE X (.Attribute e x pos) (tE T E (fFld f fe)) :=
  peW (pe_fld he hb) fun σ H Q ⟨ρ, S, μ, hee, hr, hf⟩ => ⟨ρ, S, μ, hee, hr, (Fin.bind hf).mono fun d S1 μ1 H1 st1 r1 h1 v hv => by
    unfold gFld at h1
    split at h1
    · rename_i p hp
      obtain ⟨c, fs⟩ := p
      split at h1
      · rename_i y hy
        obtain ⟨hc, hk, a, dx, vs, rfl, e1, q⟩ := fieldsD_ok r1 hv hp
        have hm : f ∈ T.fl c := hk _ (lookup_mem hy)
        obtain ⟨w, hw, rw'⟩ := q.look (F.low c hc f hm) hy
        subst hx
        exact ⟨a, T.cA c, dx, vs, w, rfl, e1, hK ▸ F.cls c hc, hK ▸ F.noA c hc f hm, hw, h1.ok r1 _ rw'⟩
      · exact h1.elim
    · exact h1.elim⟩

/-! ### methods of lists and tuples -/
abbrev GM := D → List D → Store → Res D
def isL (d : D) (S : Store) : Bool := (items d S).isSome
/-- o.m(..), o a list -/
def fMthL (g : GM) (fo : FE) (fs : FL) : FE := fun ρ S => (fo ρ S).bind fun d S1 => if isL d S1 = true then (fs ρ S1).bind fun ds S2 => g d ds S2 else .bad
/-- o.m(..), o a tuple -/
def fMthT (g : GM) (fo : FE) (fs : FL) : FE := fun ρ S => (fo ρ S).bind fun d S1 => match d with | .tup _ => (fs ρ S1).bind fun ds S2 => g d ds S2 | _ => .bad
def OkM (T : Tb) (E : XK) (r : V → List V → Hp → VK → Prop) (g : GM) : Prop := ∀ (d : D) (ds : List D) (v : V) (vs : List V) (S : Store) (μ : List Addr) (H : Hp) (Q : VK), DV T μ H v d → DVs T μ H vs ds → Rep T μ H S → Fin T E (kD T Q) μ H (g d ds S) → r v vs H Q
theorem de_mthL {name : Str} {id : String} {r : V → List V → Hp → VK → Prop} {g : GM} {o e : Expr} {es : List Expr} {fo : FE} {fs : FL} {apos cpos : Pos} (hK : T.K = X.K) (slot : Slot "list" name id) (hty : typeOf (.builtin id) = pure (.type "method_descriptor")) (hm : MtR X id r) (hg : OkM T E r g) (ho : PE X o (tE T E fo)) (ha : PA X (e :: es) (tA T E fs))
    (hbase : attributeBase o name X.env (eval o X.env) = eval o X.env := by rfl)
    (hfew : ((backTo cpos (starEach (e :: es) X.env)).all (fun x => !x.1) && (backToKw cpos (keywordEach [] X.env)).all (fun x => x.1.isSome)
      && decide ((e :: es).length + ([] : List Keyword).length + (if ([] : List Keyword).isEmpty then 0 else 1) < 30)) = true := by rfl)
    (hline : (apos.endLine == cpos.line) = true := by rfl) (hs : starEach (e :: es) X.env = (false, eval e X.env) :: starEach es X.env := by rfl) (hplain : (backTo cpos (starEach es X.env)).any (·.1) = false := by rfl) :
    PE X (.Call (.Attribute o name apos) (e :: es) [] cpos) (tE T E (fMthL g fo fs)) :=
  peW (pe_bm PySem.F.plainAttrs_list slot hty hm ho ha hbase hfew hline hs hplain) fun σ H Q ⟨ρ, S, μ, hee, hr, hf⟩ =>
    ⟨ρ, S, μ, hee, hr, (Fin.bind hf).mono fun d S1 μ1 H1 st1 r1 h1 v hv => by
      split at h1
      · rename_i hl
        obtain ⟨ds, hds⟩ := Option.isSome_iff_exists.mp hl
        obtain ⟨a, xs, rfl, s, q⟩ := items_sq r1 hv hds
        refine ⟨.inl ⟨rfl, xs, hK ▸ s⟩, ρ, S1, μ1, hee.step st1 hr.r0, r1, (Fin.bind h1).mono fun es S2 μ2 H2 st2 r2 h2 vs hvs => ?_⟩
        exact hg d es _ vs S2 μ2 H2 Q (hv.step st2 r1.r0) hvs r2 h2
      · exact h1.elim⟩
theorem Inv.tupX {pins : List (Addr × Obj)} {σ : L2.St} {H : Hp} {s : Shared} {a : Addr} {xs : List V} (I : Inv X pins σ H s) (h : TupX X.K H a xs) : ∃ o, s.heap.get? a = some o ∧ o.cls = .type "tuple" ∧ o.dict = none := by
  rcases h with ⟨o, h, d⟩ | ⟨o, its, n, h1, h2, h3, _⟩
  · obtain ⟨e, z, us, r, ⟨o', e', c, _⟩⟩ := I.hok a _ h
    rw [e] at e'; cases e'
    exact ⟨o, e, c, d⟩
  · exact ⟨o, I.kIn a o h1, h2, h3⟩
theorem de_mthT {name : Str} {id : String} {r : V → List V → Hp → VK → Prop} {g : GM} {o e : Expr} {es : List Expr} {fo : FE} {fs : FL} {apos cpos : Pos} (hK : T.K = X.K) (slot : Slot "tuple" name id) (hty : typeOf (.builtin id) = pure (.type "method_descriptor")) (hm : MtR X id r) (hg : OkM T E r g) (ho : PE X o (tE T E fo)) (ha : PA X (e :: es) (tA T E fs))
    (hbase : attributeBase o name X.env (eval o X.env) = eval o X.env := by rfl)
    (hfew : ((backTo cpos (starEach (e :: es) X.env)).all (fun x => !x.1) && (backToKw cpos (keywordEach [] X.env)).all (fun x => x.1.isSome)
      && decide ((e :: es).length + ([] : List Keyword).length + (if ([] : List Keyword).isEmpty then 0 else 1) < 30)) = true := by rfl)
    (hline : (apos.endLine == cpos.line) = true := by rfl) (hs : starEach (e :: es) X.env = (false, eval e X.env) :: starEach es X.env := by rfl) (hplain : (backTo cpos (starEach es X.env)).any (·.1) = false := by rfl) :
    PE X (.Call (.Attribute o name apos) (e :: es) [] cpos) (tE T E (fMthT g fo fs)) :=
  ⟨fun pins s σ H Q I ⟨ρ, S, μ, hee, hr, hf⟩ => by
    have hq : tE T E fo σ H fun x H1 => (∃ a xs, x = .ref a ∧ TupX X.K H1 a xs) ∧ tA T E fs σ H1 fun vs H2 => r x vs H2 Q :=
      ⟨ρ, S, μ, hee, hr, (Fin.bind hf).mono fun d S1 μ1 H1 st1 r1 h1 v hv => by
        cases hv with
        | tup s q =>
          refine ⟨⟨_, _, rfl, hK ▸ s⟩, ρ, S1, μ1, hee.step st1 hr.r0, r1, (Fin.bind h1).mono fun es S2 μ2 H2 st2 r2 h2 vs hvs => ?_⟩
          exact hg _ es _ vs S2 μ2 H2 Q ((DV.tup s q).step st2 r1.r0) hvs r2 h2
        | _ => exact h1.elim⟩
    refine wpAny_Call_method_late hbase hfew hline rfl (thn (ho.run pins s σ H _ I hq) fun v s1 ⟨x, H1, I1, r1, ⟨a, xs, ex, tx⟩, q1⟩ => ?_)
    subst ex
    obtain rfl : v = Value.ref a := r1
    obtain ⟨o, e1, e2, e3⟩ := Inv.tupX I1 tx
    refine ⟨"tuple", id, PySem.F.plainAttrs_tuple, slot, hty, ⟨o, e1, e2⟩, fun b hb => ?_, ?_⟩
    · cases hb; exact ⟨o, e1, e3⟩
    · have hA := ha.run cpos pins s1 σ H1 _ I1 q1
      rw [hs] at hA ⊢
      refine Calls.callWith_builtin (by show (false || (backTo cpos (starEach es X.env)).any (·.1)) = false; rw [hplain] <;> rfl) (Calls.evalArgs_plain ?_)
      exact thn hA fun us s2 ⟨vs, H2, I2, r2, q2⟩ => hm pins s2 σ H2 (.ref a) vs _ us Q I2 rfl r2 q2⟩
def gAppend : GM := fun d ds S => match d, ds with
  | .obj l, [x] => (match S[l]? with
    | some (.lst xs) => if pur x = true ∧ xs.length < lineN then .ok .non (S.set l (.lst (xs ++ [x]))) else .bad
    | _ => .bad)
  | _, _ => .bad
theorem pureL_append : ∀ {xs ys : List D}, purL (xs ++ ys) = (purL xs && purL ys)
  | [], ys => by simp [purL]
  | x :: xs, ys => by simp [purL, pureL_append, Bool.and_assoc]
theorem pureL_set : ∀ {xs : List D} {i : Nat} {x : D}, purL xs = true → pur x = true → purL (xs.set i x) = true
  | [], _, _, _, _ => rfl
  | y :: ys, 0, x, h, hx => by
    have := Bool.and_eq_true_iff.mp h
    exact Bool.and_eq_true_iff.mpr ⟨hx, this.2⟩
  | y :: ys, i + 1, x, h, hx => by
    have := Bool.and_eq_true_iff.mp h
    exact Bool.and_eq_true_iff.mpr ⟨this.1, pureL_set this.2 hx⟩
theorem ok_append : OkM T E rAppend gAppend := fun d ds v vs S μ H Q hv hvs hr h => by
  unfold gAppend at h
  split at h
  · rename_i l x
    split at h
    · rename_i xs hs
      split at h
      · rename_i hp
        cases hv with
        | obj e =>
          cases hvs with
          | cons r q =>
            cases q
            obtain ⟨pp, ys, e1, q1⟩ := hr.ob l _ _ e hs
            refine ⟨_, ys, _, rfl, rfl, e1, by rw [q1.length]; exact lineN_lt hp.2, ?_⟩
            exact h.at (Step.put e1 (List.mem_of_getElem? e) (.inl ⟨_, rfl⟩)) (hr.putL e (by rw [pureL_append, pp]; simp [purL, hp.1]) (q1.append (.cons r .nil))) _ .non
      · exact h.elim
    · exact h.elim
  · exact h.elim
def strsOf : List D → Option (List Str)
  | [] => some []
  | .str x :: ds => (strsOf ds).map (x :: ·)
  | _ :: _ => none
theorem strsOf_eq : ∀ {ds : List D} {ys : List Str}, strsOf ds = some ys → ds = ys.map D.str
  | [], _, h => by cases h; rfl
  | .str i :: ds, ns, h => by
    simp only [strsOf, Option.map_eq_some_iff] at h
    obtain ⟨ms, h1, rfl⟩ := h
    rw [strsOf_eq h1]; rfl
@[simp] theorem strsOf_map (ns : List Str) : strsOf (ns.map D.str) = some ns := by
  induction ns with
  | nil => rfl
  | cons n ns ih => simp [strsOf, ih]
theorem DVs.strs {μ : List Addr} {H : Hp} : ∀ {vs : List V} {ns : List Str}, DVs T μ H vs (ns.map D.str) → vs = ns.map V.str
  | _, [], .nil => rfl
  | _, _ :: _, .cons (.str i) t => by rw [List.map_cons, DVs.strs t]
theorem vals_strs : ∀ {ys : List Str} {us : List Value}, Vals (ys.map V.str) us → StrsAre us ys
  | [], _, .nil => .nil
  | y :: ys, _, .cons ⟨t, e⟩ q => by subst e; exact .cons y t (vals_strs q)
def gIndex (d : D) (xs : List D) (ds : List D) (S : Store) : Res D := match ds with
  | [.int i] => (match intsOf xs with | some ns => if i ∈ ns then .ok (.int (ns.idxOf i : Nat)) S else .bad | none => .bad)
  | [.str z] => (match strsOf xs with | some ys => if z ∈ ys then .ok (.int (ys.idxOf z : Nat)) S else .bad | none => .bad)
  | _ => .bad
def gIndexL : GM := fun d ds S => match items d S with | some xs => gIndex d xs ds S | none => .bad
def gIndexT : GM := fun d ds S => match d with | .tup xs => gIndex d xs ds S | _ => .bad
def rIdxL (K : PySem.W.Frag) : V → List V → Hp → VK → Prop := fun x xs H Q => ∃ a : Addr, x = .ref a ∧ ((∃ (ns : List Int) (i : Int), xs = [.int i] ∧ SqL K H a (ns.map V.int) ∧ i ∈ ns ∧ Q (.int (ns.idxOf i : Nat)) H) ∨ ∃ (ys : List Str) (z : Str), xs = [.str z] ∧ SqL K H a (ys.map V.str) ∧ z ∈ ys ∧ Q (.int (ys.idxOf z : Nat)) H)
def rIdxT (K : PySem.W.Frag) : V → List V → Hp → VK → Prop := fun x xs H Q => ∃ a : Addr, x = .ref a ∧ ((∃ (ns : List Int) (i : Int), xs = [.int i] ∧ SqT K H a (ns.map V.int) ∧ i ∈ ns ∧ Q (.int (ns.idxOf i : Nat)) H) ∨ ∃ (ys : List Str) (z : Str), xs = [.str z] ∧ SqT K H a (ys.map V.str) ∧ z ∈ ys ∧ Q (.int (ys.idxOf z : Nat)) H)
theorem mt_idxL : MtR X "list.index" (rIdxL X.K) := by
  intro pins s σ H x xs v us Q I rx rs h
  obtain ⟨a, rfl, ⟨ns, i, rfl, hq, hi, q⟩ | ⟨ys, z, rfl, hq, hi, q⟩⟩ := h
  · cases rx
    obtain ⟨u, rfl, t, rfl⟩ := vals1 rs
    obtain ⟨its, r, pl, hz⟩ := I.list hq
    exact PySem.SeqAt.list_index_ints pl.isList r.ints (by simpa using hz) hi ⟨.int _, H, I.tok _, ⟨_, rfl⟩, q⟩
  · cases rx
    obtain ⟨u, rfl, t, rfl⟩ := vals1 rs
    obtain ⟨its, r, pl, hz⟩ := I.list hq
    exact PySem.SeqAt.list_index_strs pl.isList (vals_strs r) (by simpa using hz) hi ⟨.int _, H, I.tok _, ⟨_, rfl⟩, q⟩
theorem mt_idxT : MtR X "tuple.index" (rIdxT X.K) := by
  intro pins s σ H x xs v us Q I rx rs h
  obtain ⟨a, rfl, ⟨ns, i, rfl, hq, hi, q⟩ | ⟨ys, z, rfl, hq, hi, q⟩⟩ := h
  · cases rx
    obtain ⟨u, rfl, t, rfl⟩ := vals1 rs
    obtain ⟨its, r, pl, hz⟩ := I.tuple hq
    exact PySem.SeqAt.tuple_index_ints pl r.ints hi ⟨.int _, H, I.tok _, ⟨_, rfl⟩, q⟩
  · cases rx
    obtain ⟨u, rfl, t, rfl⟩ := vals1 rs
    obtain ⟨its, r, pl, hz⟩ := I.tuple hq
    exact PySem.SeqAt.tuple_index_strs pl (vals_strs r) hi ⟨.int _, H, I.tok _, ⟨_, rfl⟩, q⟩
theorem ok_idxL : OkM T E (rIdxL T.K) gIndexL := fun d ds v vs S μ H Q hv hvs hr h => by
  unfold gIndexL at h
  split at h
  · rename_i xs hx
    obtain ⟨a, ws, rfl, s, q⟩ := items_sq hr hv hx
    refine ⟨a, rfl, ?_⟩
    unfold gIndex at h
    split at h
    · split at h
      · rename_i ns hn
        split at h
        · rename_i hi
          cases hvs with
          | cons r q' => cases q'; cases r; rw [intsOf_eq hn] at q; rw [q.ints] at s; exact .inl ⟨ns, _, rfl, s, hi, h.ok hr _ (.int _)⟩
        · exact h.elim
      · exact h.elim
    · split at h
      · rename_i ns hn
        split at h
        · rename_i hi
          cases hvs with
          | cons r q' => cases q'; cases r; rw [strsOf_eq hn] at q; rw [q.strs] at s; exact .inr ⟨ns, _, rfl, s, hi, h.ok hr _ (.int _)⟩
        · exact h.elim
      · exact h.elim
    · exact h.elim
  · exact h.elim
theorem ok_idxT : OkM T E (rIdxT T.K) gIndexT := fun d ds v vs S μ H Q hv hvs hr h => by
  unfold gIndexT at h
  split at h
  · rename_i xs
    cases hv with
    | tup s q =>
      have s := s.sq
      refine ⟨_, rfl, ?_⟩
      unfold gIndex at h
      split at h
      · split at h
        · rename_i ns hn
          split at h
          · rename_i hi
            cases hvs with
            | cons r q' => cases q'; cases r; rw [intsOf_eq hn] at q; rw [q.ints] at s; exact .inl ⟨ns, _, rfl, s, hi, h.ok hr _ (.int _)⟩
          · exact h.elim
        · exact h.elim
      · split at h
        · rename_i ns hn
          split at h
          · rename_i hi
            cases hvs with
            | cons r q' => cases q'; cases r; rw [strsOf_eq hn] at q; rw [q.strs] at s; exact .inr ⟨ns, _, rfl, s, hi, h.ok hr _ (.int _)⟩
          · exact h.elim
        · exact h.elim
      · exact h.elim
  · exact h.elim
end
end DL

set_option Elab.async false
set_option linter.all false
set_option maxRecDepth 100000
set_option maxHeartbeats 4000000
/-! DL6: statements without loops; targets. -/
namespace DL
open PySem PySem.Spec PyProof.Rows L2

inductive Out where
  | nx (ρ : Ev) (S : Store)
  | rt (d : D) (S : Store)
  | exc (c : Nat) (fs : List (Nat × D)) (S : Store)
  | bad
def Res.out {α : Type} (r : Res α) (f : α → Store → Out) : Out := match r with
  | .ok a S => f a S
  | .exc c fs S => .exc c fs S
  | .bad => .bad
@[simp] theorem Res.out_ok {α : Type} (a : α) (S : Store) (f : α → Store → Out) : (Res.ok a S).out f = f a S := rfl
@[simp] theorem Res.out_exc {α : Type} (c : Nat) (fs : List (Nat × D)) (S : Store) (f : α → Store → Out) : (Res.exc c fs S : Res α).out f = .exc c fs S := rfl
@[simp] theorem Res.out_bad {α : Type} (f : α → Store → Out) : (Res.bad : Res α).out f = .bad := rfl
def Out.next (o : Out) (f : Ev → Store → Out) : Out := match o with | .nx ρ S => f ρ S | o => o
@[simp] theorem Out.next_nx (ρ : Ev) (S : Store) (f : Ev → Store → Out) : (Out.nx ρ S).next f = f ρ S := rfl
@[simp] theorem Out.next_rt (d : D) (S : Store) (f : Ev → Store → Out) : (Out.rt d S).next f = .rt d S := rfl
@[simp] theorem Out.next_exc (c : Nat) (fs : List (Nat × D)) (S : Store) (f : Ev → Store → Out) : (Out.exc c fs S).next f = .exc c fs S := rfl
@[simp] theorem Out.next_bad (f : Ev → Store → Out) : Out.bad.next f = .bad := rfl
abbrev FS := Ev → Store → Out
def FinS (T : Tb) (E : XK) (D : Ends) (μ : List Addr) (H : Hp) : Out → Prop
  | .nx ρ S => ∀ σ' μ' H', Step μ H μ' H' → Rep T μ' H' S → EnvR T μ' H' σ' ρ → D.nx σ' H'
  | .rt d S => ∀ v μ' H', Step μ H μ' H' → Rep T μ' H' S → DV T μ' H' v d → D.rt v H'
  | .exc c fs S => ∀ dx μ' H', Step μ H μ' H' → Rep T μ' H' S → XR T μ' H' dx fs → E (.ref (T.eA c)) (some dx) H'
  | .bad => False
def tS (T : Tb) (E : XK) (f : FS) : TS := fun D σ H => ∃ ρ S μ, EnvR T μ H σ ρ ∧ Rep T μ H S ∧ FinS T E D μ H (f ρ S)
section
variable {T : Tb} {E : XK} {D : Ends} {α : Type} {μ μ1 : List Addr} {H H1 : Hp}
theorem FinS.step {o : Out} (s : Step μ H μ1 H1) (h : FinS T E D μ H o) : FinS T E D μ1 H1 o := by
  cases o with
  | nx ρ S => exact fun σ' μ' H' st rp e => h σ' μ' H' (s.trans st) rp e
  | rt d S => exact fun v μ' H' st rp e => h v μ' H' (s.trans st) rp e
  | exc c fs S => exact fun dx μ' H' st rp x => h dx μ' H' (s.trans st) rp x
  | bad => exact h
theorem FinS.bind {r : Res α} {f : α → Store → Out} (h : FinS T E D μ H (r.out f)) : Fin T E (fun a S1 μ1 H1 => FinS T E D μ1 H1 (f a S1)) μ H r := by
  cases r with
  | ok a S => exact fun μ' H' st _ => FinS.step st h
  | exc c fs S => exact h
  | bad => exact h
theorem FinS.nx {ρ : Ev} {S : Store} {σ : L2.St} (h : FinS T E D μ H (.nx ρ S)) (hr : Rep T μ H S) (he : EnvR T μ H σ ρ) : D.nx σ H := h σ μ H (Step.refl _ _) hr he
theorem FinS.rt {d : DL.D} {S : Store} {v : V} (h : FinS T E D μ H (.rt d S)) (hr : Rep T μ H S) (he : DV T μ H v d) : D.rt v H := h v μ H (Step.refl _ _) hr he
/-- what follows the next statement -/
theorem FinS.seq {o : Out} {g : FS} {D' : Ends} (h : FinS T E D μ H (o.next g)) (hn : D'.nx = tS T E g D) (hrt : D'.rt = D.rt) : FinS T E D' μ H o := by
  cases o with
  | nx ρ S => exact fun σ' μ' H' st rp e => by rw [hn]; exact ⟨ρ, S, μ', e, rp, FinS.step st h⟩
  | rt d S => exact fun v μ' H' st rp e => by rw [hrt]; exact h v μ' H' st rp e
  | exc c fs S => exact h
  | bad => exact h
end
theorem psW {X : Cx} {st : Stmt} {t t' : TS} (h : PS X st t) (w : ∀ D σ H, t' D σ H → t D σ H) : PS X st t' := ⟨fun pins s σ H D I q => h.run pins s σ H D I (w D σ H q)⟩
theorem pssW {X : Cx} {st : List Stmt} {t t' : TS} (h : PSs X st t) (w : ∀ D σ H, t' D σ H → t D σ H) : PSs X st t' := ⟨fun pins s σ H D I q => h.run pins s σ H D I (w D σ H q)⟩
theorem pgW {X : Cx} {e : Expr} {t t' : TG} (h : PG X e t) (w : ∀ v σ H Q, t' v σ H Q → t v σ H Q) : PG X e t' := ⟨fun pins s σ H v u Q I r q => h.run pins s σ H v u Q I r (w v σ H Q q)⟩
theorem pgsW {X : Cx} {e : List Expr} {t t' : TGs} (h : PGs X e t) (w : ∀ v σ H Q, t' v σ H Q → t v σ H Q) : PGs X e t' := ⟨fun pins s σ H v u Q I r q => h.run pins s σ H v u Q I r (w v σ H Q q)⟩

section
variable {X : Cx} {T : Tb} {E : XK} {k : Nat}
def sNil : FS := fun ρ S => .nx ρ S
def sCons (f g : FS) : FS := fun ρ S => (f ρ S).next g
theorem dss_nil : PSs X [] (tS T E sNil) := pssW pss_nil fun D σ H ⟨ρ, S, μ, he, hr, hf⟩ => hf.nx hr he
theorem dss_cons {st : Stmt} {rest : List Stmt} {f g : FS} (h1 : PS X st (tS T E f)) (h2 : PSs X rest (tS T E g)) : PSs X (st :: rest) (tS T E (sCons f g)) :=
  pssW (pss_cons h1 h2) fun D σ H ⟨ρ, S, μ, he, hr, hf⟩ => ⟨ρ, S, μ, he, hr, hf.seq rfl rfl⟩
theorem dss_one {st : Stmt} {f : FS} (h1 : PS X st (tS T E f)) : PSs X [st] (tS T E f) := pss_one h1
def sExpr (f : FE) : FS := fun ρ S => (f ρ S).out fun _ S1 => .nx ρ S1
theorem ds_expr {e : Expr} {f : FE} {pos : Pos} (he : PE X e (tE T E f)) (hs : swapsWith e none pos.line X.env = Pure.pure false := by rfl) : PS X (.Expr e pos) (tS T E (sExpr f)) :=
  psW (ps_expr he hs) fun D σ H ⟨ρ, S, μ, hee, hr, hf⟩ => ⟨ρ, S, μ, hee, hr, hf.bind.mono fun d S1 μ1 H1 st1 r1 h1 v hv => h1.nx r1 (hee.step st1 hr.r0)⟩
def sRet (f : FE) : FS := fun ρ S => (f ρ S).out fun d S1 => .rt d S1
theorem ds_ret {e : Expr} {f : FE} {pos : Pos} (he : PE X e (tE T E f)) : PS X (.Return (some e) pos) (tS T E (sRet f)) :=
  psW (ps_ret he) fun D σ H ⟨ρ, S, μ, hee, hr, hf⟩ => ⟨ρ, S, μ, hee, hr, hf.bind.mono fun d S1 μ1 H1 st1 r1 h1 v hv => h1.rt r1 hv⟩
def sIf (c : FT) (f g : FS) : FS := fun ρ S => (c ρ S).out fun b S1 => if b = true then f ρ S1 else g ρ S1
theorem ds_if {c : Expr} {a b : List Stmt} {fc : FT} {f g : FS} {pos : Pos} (hc : PT X c (tT T E fc)) (ha : PSs X a (tS T E f)) (hb : PSs X b (tS T E g)) : PS X (.If c a b pos) (tS T E (sIf fc f g)) :=
  psW (ps_if hc ha hb) fun D σ H ⟨ρ, S, μ, hee, hr, hf⟩ => ⟨ρ, S, μ, hee, hr, hf.bind.mono fun d S1 μ1 H1 st1 r1 h1 => by
    cases d with
    | true => exact iteT ⟨ρ, S1, μ1, hee.step st1 hr.r0, r1, h1⟩
    | false => exact iteF ⟨ρ, S1, μ1, hee.step st1 hr.r0, r1, h1⟩⟩
def sPass : FS := fun ρ S => .nx ρ S
theorem ds_pass {pos : Pos} : PS X (.Pass pos) (tS T E sPass) := psW ps_pass fun D σ H ⟨ρ, S, μ, he, hr, hf⟩ => hf.nx hr he

/-! ### targets -/
abbrev FG := D → Ev → Store → Res Ev
abbrev FGs := List D → Ev → Store → Res Ev
abbrev kG (T : Tb) (Q : L2.St → Hp → Prop) : Ev → Store → List Addr → Hp → Prop := fun ρ _ μ H => ∀ σ, EnvR T μ H σ ρ → Q σ H
def tG (T : Tb) (E : XK) (p : FG) : TG := fun v σ H Q => ∃ ρ S μ d, EnvR T μ H σ ρ ∧ Rep T μ H S ∧ DV T μ H v d ∧ Fin T E (kG T Q) μ H (p d ρ S)
def tGs (T : Tb) (E : XK) (p : FGs) : TGs := fun vs σ H Q => ∃ ρ S μ ds, EnvR T μ H σ ρ ∧ Rep T μ H S ∧ DVs T μ H vs ds ∧ Fin T E (kG T Q) μ H (p ds ρ S)
def pName (i : Nat) : FG := fun d ρ S => match d with | .row _ => .bad | d => .ok (ρ.set i (some d)) S
def pNil : FGs := fun ds ρ S => match ds with | [] => .ok ρ S | _ => .bad
def pCons (p : FG) (q : FGs) : FGs := fun ds ρ S => match ds with | d :: r => (p d ρ S).bind fun ρ1 S1 => q r ρ1 S1 | [] => .bad
def pTup (n : Nat) (q : FGs) : FG := fun d ρ S => match d with
  | .tup ds => if ds.length = n then q ds ρ S else .bad
  | .row ds => if ds.length = n then q ds ρ S else .bad
  | _ => .bad
theorem dg_name {i : Nat} {x : Str} {pos : Pos} (h : PG X (.Name x pos) (gName i)) : PG X (.Name x pos) (tG T E (pName i)) :=
  pgW h fun v σ H Q ⟨ρ, S, μ, d, he, hr, hv, hf⟩ => by
    unfold pName at hf
    split at hf
    · exact hf.elim
    · exact hf.ok hr _ (he.set hv)
theorem dgs_nil : PGs X [] (tGs T E pNil) := pgsW pgs_nil fun vs σ H Q ⟨ρ, S, μ, ds, he, hr, hv, hf⟩ => by
  unfold pNil at hf
  split at hf
  · cases hv; exact ⟨rfl, hf.ok hr _ he⟩
  · exact hf.elim
theorem dgs_cons {e : Expr} {es : List Expr} {p : FG} {q : FGs} (h1 : PG X e (tG T E p)) (h2 : PGs X es (tGs T E q)) (hs : (assignEach (e :: es) X.env).map (·.2) = assign e X.env :: (assignEach es X.env).map (·.2) := by rfl) : PGs X (e :: es) (tGs T E (pCons p q)) :=
  pgsW (pgs_cons h1 h2 hs) fun vs σ H Q ⟨ρ, S, μ, ds, he, hr, hv, hf⟩ => by
    unfold pCons at hf
    split at hf
    · cases hv with
      | cons r q' =>
        exact ⟨_, _, rfl, ρ, S, μ, _, he, hr, r, (Fin.bind hf).mono fun ρ1 S1 μ1 H1 st1 r1 h1 σ1 he1 => ⟨ρ1, S1, μ1, _, he1, r1, q'.step st1 hr.r0, h1⟩⟩
    · exact hf.elim
theorem dg_tup {es : List Expr} {n k : Nat} {q : FGs} {pos : Pos} (hK : T.K = X.K) (hc : X.calm = true) (h : PGs X es (tGs T E q)) (hn : (assignEach es X.env).length = n := by rfl) (hst : (assignEach es X.env).findIdx? (·.1) = none := by rfl) : PG X (.Tuple es k pos) (tG T E (pTup n q)) :=
  pgW (pg_tup hc h hn hst) fun v σ H Q ⟨ρ, S, μ, d, he, hr, hv, hf⟩ => by
    unfold pTup at hf
    split at hf
    · split at hf
      · rename_i hl
        cases hv with
        | tup s q => exact ⟨_, _, rfl, hK ▸ s.sq, q.length.trans hl, ρ, S, μ, _, he, hr, q, hf⟩
      · exact hf.elim
    · split at hf
      · rename_i hl
        cases hv with
        | row s q => exact ⟨_, _, rfl, hK ▸ s, q.length.trans hl, ρ, S, μ, _, he, hr, q, hf⟩
      · exact hf.elim
    · exact hf.elim
/-- target = value -/
def sAsg (f : FE) (p : FG) : FS := fun ρ S => (f ρ S).out fun d S1 => (p d ρ S1).out fun ρ1 S2 => .nx ρ1 S2
theorem ts_asg {f : FE} {p : FG} : ∀ D σ H, tS T E (sAsg f p) D σ H → tAsg (tE T E f) (tG T E p) D σ H := fun D σ H ⟨ρ, S, μ, hee, hr, hf⟩ =>
  ⟨ρ, S, μ, hee, hr, hf.bind.mono fun d S1 μ1 H1 st1 r1 h1 v hv => ⟨ρ, S1, μ1, d, hee.step st1 hr.r0, r1, hv, h1.bind.mono fun ρ1 S2 μ2 H2 st2 r2 h2 σ2 he2 => h2.nx r2 he2⟩⟩
theorem ds_asg {tg e : Expr} {f : FE} {p : FG} {pos : Pos} (he : PE X e (tE T E f)) (hg : PG X tg (tG T E p)) (hs : swapsWithSole [tg] e pos.line X.env = Pure.pure false := by rfl) (hw : swappedStores [tg] e X.env = Pure.pure none := by rfl)
    (h1 : (assignEach [tg] X.env).map (·.2) = [assign tg X.env] := by rfl) : PS X (.Assign [tg] e pos) (tS T E (sAsg f p)) := psW (ps_asg he hg hs hw h1) ts_asg
theorem gName_of {i : Nat} {v : V} {σ : L2.St} {H : Hp} {Q : L2.St → Hp → Prop} (h : tG T E (pName i) v σ H Q) : gName i v σ H Q := by
  obtain ⟨ρ, S, μ, d, he, hr, hv, hf⟩ := h
  unfold pName at hf
  split at hf
  · exact hf.elim
  · exact hf.ok hr _ (he.set hv)
theorem tAsg_name {i : Nat} {te : TE} (hm : ∀ σ H (Q Q' : VK), (∀ v H', Q v H' → Q' v H') → te σ H Q → te σ H Q') : ∀ D σ H, tAsg te (tG T E (pName i)) D σ H → tAsg te (gName i) D σ H := fun D σ H h =>
  hm σ H _ _ (fun v H' q => gName_of q) h
theorem tE_mono {f : FE} : ∀ σ H (Q Q' : VK), (∀ v H', Q v H' → Q' v H') → tE T E f σ H Q → tE T E f σ H Q' := fun σ H Q Q' w ⟨ρ, S, μ, he, hr, hf⟩ =>
  ⟨ρ, S, μ, he, hr, hf.mono fun d S1 μ1 H1 st1 r1 h1 v hv => w v H1 (h1 v hv)⟩
/-- name = value -/
theorem ds_set {i : Nat} {x : Str} {e : Expr} {f : FE} {pos pos' : Pos} (h : PS X (.Assign [.Name x pos'] e pos) (tAsg (tE T E f) (gName i))) : PS X (.Assign [.Name x pos'] e pos) (tS T E (sAsg f (pName i))) :=
  psW h fun D σ H q => tAsg_name tE_mono D σ H (ts_asg D σ H q)
/-- a, b = x, y with plain local names -/
def sPar (i j : Nat) (g : FL) : FS := fun ρ S => (g ρ S).out fun ds S1 => match ds with | [x, y] => .nx ((ρ.set i (some x)).set j (some y)) S1 | _ => .bad
theorem ds_par {i j : Nat} {st : Stmt} {g : FL} (h : PS X st (tPar i j (tA T E g))) : PS X st (tS T E (sPar i j g)) :=
  psW h fun D σ H ⟨ρ, S, μ, hee, hr, hf⟩ => ⟨ρ, S, μ, hee, hr, hf.bind.mono fun ds S1 μ1 H1 st1 r1 h1 vs hvs => by
    split at h1
    · cases hvs with
      | cons a q => cases q with
        | cons b q => cases q; exact ⟨_, _, rfl, h1.nx r1 (((hee.step st1 hr.r0).set a).set b)⟩
    · exact h1.elim⟩
def sPar3 (i j l : Nat) (g : FL) : FS := fun ρ S => (g ρ S).out fun ds S1 => match ds with | [x, y, z] => .nx (((ρ.set i (some x)).set j (some y)).set l (some z)) S1 | _ => .bad
theorem ds_par3 {i j l : Nat} {st : Stmt} {g : FL} (h : PS X st (tPar3 i j l (tA T E g))) : PS X st (tS T E (sPar3 i j l g)) :=
  psW h fun D σ H ⟨ρ, S, μ, hee, hr, hf⟩ => ⟨ρ, S, μ, hee, hr, hf.bind.mono fun ds S1 μ1 H1 st1 r1 h1 vs hvs => by
    split at h1
    · cases hvs with
      | cons a q => cases q with
        | cons b q => cases q with
          | cons c q => cases q; exact ⟨_, _, _, rfl, h1.nx r1 ((((hee.step st1 hr.r0).set a).set b).set c)⟩
    · exact h1.elim⟩
/-- name += int -/
def sAugI (i : Nat) (f : FE) : FS := fun ρ S => match ρ[i]? with
  | some (some (.int a)) => (f ρ S).out fun d S1 => match d with | .int b => .nx (ρ.set i (some (.int (a + b)))) S1 | _ => .bad
  | _ => .bad
theorem ds_augI {i : Nat} {x : Str} {e : Expr} {f : FE} {pos pos' : Pos} (h : PS X (.AugAssign (.Name x pos') .Add e pos) (tAug i (tE T E f) (ipI fun i j => i + j))) : PS X (.AugAssign (.Name x pos') .Add e pos) (tS T E (sAugI i f)) :=
  psW h fun D σ H ⟨ρ, S, μ, hee, hr, hf⟩ => by
    unfold sAugI at hf
    split at hf
    · rename_i a ha
      obtain ⟨v, e1, e2⟩ := hee.at_ i _ ha
      cases e2
      exact ⟨_, e1, ρ, S, μ, hee, hr, hf.bind.mono fun d S1 μ1 H1 st1 r1 h1 w hw => by
        split at h1
        · cases hw
          exact ⟨_, _, rfl, rfl, h1.nx r1 ((hee.step st1 hr.r0).set (.int _))⟩
        · exact h1.elim⟩
    · exact hf.elim
/-- xs[i] = v, a list of the store -/
def gSet (o i d : D) (S : Store) : Option Store := match o, i with
  | .obj l, .int j => (match S[l]? with
    | some (.lst xs) => if pur d = true then (match ixN xs.length j with | some n => some (S.set l (.lst (xs.set n d))) | none => none) else none
    | _ => none)
  | _, _ => none
def pSub (fo fi : FE) : FG := fun d ρ S => (fo ρ S).bind fun o S1 => (fi ρ S1).bind fun i S2 => match gSet o i d S2 with | some S3 => .ok ρ S3 | none => .bad
theorem dg_sub {o i : Expr} {fo fi : FE} {pos : Pos} (ho : PE X o (tE T E fo)) (hi : PE X i (tE T E fi))
    (ha : ∀ v, assign (.Subscript o i pos) X.env v = (do
      let ov ← holding [v] (eval o X.env)
      let iv ← holding [v, ov] (eval i X.env)
      standAt pos
      holding [v, ov, iv] (setItem ov iv v)
      release [v, ov, iv] []) := by intro _; rfl) : PG X (.Subscript o i pos) (tG T E (pSub fo fi)) :=
  pgW (pg_sub ho hi set_list ha) fun v σ H Q ⟨ρ, S, μ, d, he, hr, hv, hf⟩ =>
    ⟨ρ, S, μ, he, hr, (Fin.bind hf).mono fun x S1 μ1 H1 st1 r1 h1 a hx => ⟨ρ, S1, μ1, he.step st1 hr.r0, r1, (Fin.bind h1).mono fun y S2 μ2 H2 st2 r2 h2 b hy => by
      have he2 := (he.step st1 hr.r0).step st2 r1.r0
      have hv2 := (hv.step st1 hr.r0).step st2 r1.r0
      have hx2 := hx.step st2 r1.r0
      split at h2
      · rename_i S3 hs
        unfold gSet at hs
        split at hs
        · split at hs
          · rename_i xs hl
            split at hs
            · rename_i hp
              split at hs
              · rename_i n hn
                cases hs
                cases hy
                cases hx2 with
                | obj el =>
                  obtain ⟨pp, ys, e1, q1⟩ := r2.ob _ _ _ el hl
                  have st3 : Step μ2 H2 μ2 (upd H2 _ (.lst (ys.set n v))) := Step.put e1 (List.mem_of_getElem? el) (.inl ⟨_, rfl⟩)
                  exact ⟨_, ys, _, n, rfl, rfl, e1, by rw [q1.length]; exact hn, h2.at st3 (r2.putL el (pureL_set pp hp) (q1.set hv2 n)) σ (he2.step st3 r2.r0)⟩
              · cases hs
            · cases hs
          · cases hs
        · cases hs
      · exact h2.elim⟩⟩
/-- o.f = v, an instance that is being made -/
def gPut (c f : Nat) (o d : D) (S : Store) : Option Store := match o with
  | .obj l => (match S[l]? with
    | some (.ins c' fs) => if c' = c ∧ pur d = true ∧ fs.length < 100 then some (S.set l (.ins c (putD f d fs))) else none
    | _ => none)
  | _ => none
def pFld (c f : Nat) (fo : FE) : FG := fun d ρ S => (fo ρ S).bind fun o S1 => match gPut c f o d S1 with | some S3 => .ok ρ S3 | none => .bad
def gFldT (K : PySem.W.Frag) (f : Str) (to : TE) : TG := fun v σ H Q => to σ H fun x H2 => ∃ a C dx fs, x = .ref a ∧ H2 a = some (.ins C dx fs) ∧ Cls K C ∧ NoAttr K C f ∧ fs.length < 1000 ∧ Q σ (upd H2 a (.ins C dx (putF f v fs)))
theorem pg_fldT {o : Expr} {to : TE} {f : Str} {pos : Pos} (ho : PE X o to) : PG X (.Attribute o f pos) (gFldT X.K f to) := by
  refine ⟨fun pins s σ H v u Q I r h => ?_⟩
  rw [assign_Attribute]
  refine wpAny_bind (wpAny_holding (thn (ho.run pins s σ H _ I h) fun ov s1 ⟨x, H1, I1, rx, a, C, dx, fs, ex, ea, c, n, l, q⟩ => ?_))
  subst ex
  obtain rfl : ov = Value.ref a := rx
  refine wpAny_bind (wpAny_standAt (wpAny_bind (wpAny_holding (setattr_ok I1 ea c n l r fun s3 I3 => wpAny_release ⟨σ, _, I3, q⟩))))
theorem putD_mem {f : Nat} {d : D} : ∀ {fs : List (Nat × D)} {p : Nat × D}, p ∈ putD f d fs → p.1 = f ∨ p ∈ fs
  | [], p, h => by
    rw [List.mem_singleton.mp h]; exact .inl rfl
  | q :: fs, p, h => by
    unfold putD at h
    split at h
    · rcases List.mem_cons.mp h with e | e
      · rw [e]; exact .inl rfl
      · exact .inr (List.mem_cons_of_mem _ e)
    · rcases List.mem_cons.mp h with e | e
      · rw [e]; exact .inr List.mem_cons_self
      · exact (putD_mem e).imp id (List.mem_cons_of_mem _)
theorem putD_pur {f : Nat} {d : D} (hd : pur d = true) : ∀ {fs : List (Nat × D)}, purF fs = true → purF (putD f d fs) = true
  | [], _ => by simp [putD, purF, hd]
  | q :: fs, h => by
    have h' := Bool.and_eq_true_iff.mp h
    unfold putD
    split
    · exact Bool.and_eq_true_iff.mpr ⟨hd, h'.2⟩
    · exact Bool.and_eq_true_iff.mpr ⟨h'.1, putD_pur hd h'.2⟩
theorem dg_fld (F : CF T) {o : Expr} {fo : FE} {c f : Nat} {x : Str} {pos : Pos} (hK : T.K = X.K) (hf : f ∈ T.fl c) (hx : x = T.nm f) (ho : PE X o (tE T E fo)) : PG X (.Attribute o x pos) (tG T E (pFld c f fo)) :=
  pgW (pg_fldT ho) fun v σ H Q ⟨ρ, S, μ, d, he, hr, hv, hfn⟩ =>
    ⟨ρ, S, μ, he, hr, (Fin.bind hfn).mono fun y S1 μ1 H1 st1 r1 h1 a hy => by
      split at h1
      · rename_i S3 hs
        unfold gPut at hs
        split at hs
        · split at hs
          · rename_i c' fs hl
            split at hs
            · rename_i hp
              obtain ⟨rfl, hp, hlen⟩ := hp
              cases hs
              cases hy with
              | obj el =>
                obtain ⟨⟨pp, hc, hk⟩, dx, vs, e1, q1⟩ := r1.ob _ _ _ el hl
                have hv1 := hv.step st1 hr.r0
                subst hx
                have hfN := F.low _ hc f hf
                have st3 : Step μ1 H1 μ1 (upd H1 _ (.ins (T.cA c') dx (putF (T.nm f) v vs))) := Step.put e1 (List.mem_of_getElem? el) (.inr ⟨_, _, _, rfl⟩)
                refine ⟨_, _, dx, vs, rfl, e1, hK ▸ F.cls _ hc, hK ▸ F.noA _ hc f hf, by rw [q1.length]; omega, ?_⟩
                refine h1.at st3 (r1.put el ⟨⟨putD_pur hp pp, hc, fun p hp' => ?_⟩, dx, _, upd_same, (DFs.put hfN hv1 q1).step st3 r1.r0⟩) σ ((he.step st1 hr.r0).step st3 r1.r0)
                rcases putD_mem hp' with e | e
                · rw [e]; exact hf
                · exact hk p e
            · cases hs
          · cases hs
        · cases hs
      · exact h1.elim⟩
end
end DL

set_option Elab.async false
set_option linter.all false
set_option maxRecDepth 100000
set_option maxHeartbeats 4000000
/-! DL7: defs, calls, methods, making, raising. -/
namespace DL
open PySem PySem.Spec PyProof.Rows L2

def start0 (m : Nat) (ds : List D) : Ev := ds.map some ++ List.replicate (m - ds.length) none
/-- what a def hands back: nothing of its own store; a list of its own is told as a whole -/
def retD (n : Nat) (d : D) (S : Store) : Res D :=
  match d with
  | .obj l => if l < n then .ok d (S.take n) else (match S[l]? with | some (.lst ds) => .ok (.lst ds) (S.take n) | _ => .bad)
  | d => if pur d = true then .ok d (S.take n) else .bad
def runF (n m : Nat) (body : FS) (ds : List D) (S : Store) : Res D :=
  if ds.length = n then
    match body (start0 m ds) S with
    | .nx _ S' => .ok .non (S'.take S.length)
    | .rt d S' => retD S.length d S'
    | .exc c fs S' => if purF fs = true then .exc c fs (S'.take S.length) else .bad
    | .bad => .bad
  else .bad
abbrev GF := List D → Store → Res D
def spD (T : Tb) (F : GF) : Sp := fun vs H Q E => ∃ ds S μ, DVs T μ H vs ds ∧ Rep T μ H S ∧ Fin T E (kD T Q) μ H (F ds S)
/-- a def of n parameters -/
def Ar (n : Nat) (F : GF) : Prop := ∀ ds S, ds.length ≠ n → F ds S = .bad
theorem ar_runF {n m : Nat} {body : FS} : Ar n (runF n m body) := fun ds S h => by unfold runF; rw [if_neg h]
theorem spD_len {T : Tb} {n : Nat} {F : GF} (a : Ar n F) {vs : List V} {H : Hp} {Q : VK} {E : XK} (h : spD T F vs H Q E) : vs.length = n := by
  obtain ⟨ds, S, μ, hv, hr, hf⟩ := h
  rw [hv.length]
  by_cases e : ds.length = n
  · exact e
  · rw [a ds S e] at hf; exact hf.elim

theorem Step.cut {μ μ' : List Addr} {H H' : Hp} (s : Step μ H μ' H') : Step μ H μ H' := ⟨⟨[], by simp, fun b hb => by cases hb⟩, s.there, s.keep⟩
theorem Rep.cutS {T : Tb} {μ μ' : List Addr} {H H' : Hp} {S S' : Store} (r0 : Rep T μ H S) (s : Step μ H μ' H') (r : Rep T μ' H' S') : Rep T μ H' (S'.take S.length) := by
  obtain ⟨m, e, _⟩ := s.more
  rw [← r0.len]
  exact r.cut e
theorem Step.sub {μ μ' : List Addr} {H H' : Hp} (s : Step μ H μ' H') : ∀ a, a ∈ μ → a ∈ μ' := fun a ha => by
  obtain ⟨m, e, _⟩ := s.more
  rw [e]; exact List.mem_append_left _ ha

section
variable {P : Program} {w : World} {K : PySem.W.Frag} {mg : Str → Option Value} {base : Heap} {T : Tb}
theorem env_start {μ : List Addr} {H : Hp} {N : List Str} {vs : List V} {ds : List D} (h : DVs T μ H vs ds) : EnvR T μ H (L2.start N vs) (start0 N.length ds) := by
  refine ⟨by simp [L2.start, start0, h.length], fun i d e => ?_⟩
  unfold start0 at e
  by_cases hi : i < ds.length
  · rw [List.getElem?_append_left (by simpa using hi), List.getElem?_map] at e
    cases q : ds[i]? with
    | none => rw [q] at e; cases e
    | some d' =>
      rw [q] at e; cases e
      obtain ⟨v, e1, e2⟩ := h.get q
      refine ⟨v, ?_, e2⟩
      unfold L2.start
      rw [List.getElem?_append_left (by rw [List.length_map, h.length]; exact hi), List.getElem?_map, e1]
      rfl
  · rw [List.getElem?_append_right (by simpa using hi), List.getElem?_replicate] at e
    split at e <;> cases e
/-- a def's end -/
theorem fin_run {E : XK} {n m : Nat} {body : FS} {ds : List D} {S : Store} {μ : List Addr} {H : Hp} {Q : VK} (hr : Rep T μ H S) (hf : Fin T E (kD T Q) μ H (runF n m body ds S)) :
    FinS T E { nx := fun _ H' => Q .non H', rt := Q } μ H (body (start0 m ds) S) := by
  unfold runF at hf
  split at hf
  · cases hb : body (start0 m ds) S with
    | nx ρ S' =>
      have hf : Fin T E (kD T Q) μ H (.ok .non (S'.take S.length)) := by rw [hb] at hf; exact hf
      exact fun σ' μ' H' st rp e => hf.at st.cut (hr.cutS st rp) .non .non
    | rt d S' =>
      have hf : Fin T E (kD T Q) μ H (retD S.length d S') := by rw [hb] at hf; exact hf
      intro v μ' H' st rp hv
      unfold retD at hf
      split at hf
      · rename_i l
        split at hf
        · rename_i hl
          cases hv with
          | obj e =>
            refine hf.at st.cut (hr.cutS st rp) _ (.obj ?_)
            obtain ⟨mm, em, _⟩ := st.more
            rw [em, List.getElem?_append_left (by rw [hr.len]; exact hl)] at e
            exact e
        · rename_i hl
          split at hf
          · rename_i es hs
            cases hv with
            | @obj a _ e =>
              obtain ⟨pp, xs, e1, q1⟩ := rp.ob l a _ e hs
              refine hf.at st.cut (hr.cutS st rp) _ (.lst e1 (fun hm => ?_) (q1.less st.sub pp))
              obtain ⟨mm, em, _⟩ := st.more
              obtain ⟨j, hj, ej⟩ := List.mem_iff_getElem.mp hm
              have hne : j ≠ l := fun e => hl (by rw [← e, ← hr.len]; exact hj)
              have e2 : μ'[j]? = some a := by rw [em, List.getElem?_append_left hj, List.getElem?_eq_getElem hj, ej]
              obtain ⟨b1, c1⟩ := List.getElem?_eq_some_iff.mp e2
              obtain ⟨b2, c2⟩ := List.getElem?_eq_some_iff.mp e
              exact hne ((List.getElem_inj rp.nd).mp (c1.trans c2.symm))
          · exact hf.elim
      · split at hf
        · rename_i hp
          exact hf.at st.cut (hr.cutS st rp) v (hv.less st.sub hp)
        · exact hf.elim
    | exc c fs S' =>
      rw [hb] at hf
      simp only at hf
      split at hf
      · rename_i hp
        exact fun dx μ' H' st rp ⟨vs, e1, e2⟩ => hf dx μ H' st.cut (hr.cutS st rp) ⟨vs, e1, e2.less st.sub hp⟩
      · exact hf.elim
    | bad => rw [hb] at hf; exact hf.elim
  · exact hf.elim
/-- THE RULE for a def -/
theorem fn_D {x qual : Str} {st : Stmt} {f : Addr} {fd : FuncData} {N ps : List Str} {k : Nat} {body : FS} (F : Fun K x qual st f fd) (S : FnScope N ps (defScope st))
    (hb : ∀ (cdv : Value) (A : Around) (outer : List Env) (s : Shared) (H : Hp) (E : XK), Room k (A.deeper (envOfC qual (defScope st) s.heap.objs.size f cdv)) →
      PSs (cxOf (L2.CX P w) P w K mg base N qual (defScope st) f cdv A outer s H E) (defBody st) (tS T E body)) : FnOk P w K mg base (L2.CX P w) (k + 1) f fd ps (spD T (runF ps.length N.length body)) :=
  F.okX S (fun vs H Q E h => spD_len ar_runF h) (fun cdv A outer s H vs Q E hr h => ⟨tS T E body, hb cdv A outer s H E hr, by
    obtain ⟨ds, S0, μ, hv, hrr, hf⟩ := h
    exact ⟨_, S0, μ, env_start hv, hrr, fin_run hrr hf⟩⟩)
end
/-- a def of the module: its name, its level, what it computes -/
def DefD (T : Tb) (P : Program) (w : World) (K : PySem.W.Frag) (mg : Str → Option Value) (base : Heap) (x : Str) (lv : Nat) (F : GF) : Prop :=
  ∃ f fd ps, mg x = some (.ref f) ∧ PySem.W.keepIn K (.ref f) = true ∧ Binds K fd ps [] ∧ FnOk P w K mg base (L2.CX P w) lv f fd ps (spD T F)
def MethD (T : Tb) (P : Program) (w : World) (K : PySem.W.Frag) (mg : Str → Option Value) (base : Heap) (c : Nat) (m : Str) (lv : Nat) (F : GF) : Prop :=
  c < T.nC ∧ (∀ j, j < T.nN → T.nm j ≠ m) ∧ ∃ f fd ps, Meth K (T.cA c) m f ∧ Binds K fd ps [] ∧ FnOk P w K mg base (L2.CX P w) lv f fd ps (spD T F)
def MakeD (T : Tb) (P : Program) (w : World) (K : PySem.W.Frag) (mg : Str → Option Value) (base : Heap) (x : Str) (c : Nat) (lv : Nat) (F : GF) : Prop :=
  c < T.nC ∧ mg x = some (.ref (T.cA c)) ∧ ∃ f fd ps, Mk K (T.cA c) f ∧ Binds K fd ps [] ∧ FnOk P w K mg base (L2.CX P w) lv f fd ps (spD T F)

section
variable {X : Cx} {T : Tb} {E : XK} {k lv : Nat}
def fCallF (F : GF) (fs : FL) : FE := fun ρ S => (fs ρ S).bind F
theorem de_call {x : Str} {F : GF} {p pos : Pos} {e : Expr} {es : List Expr} {fs : FL} (G : DefD T X.prog X.w X.K X.mg X.base x lv F) (hr : Room lv X.A) (hx : Passes (L2.CX X.prog X.w) X E) (hg : Gl X x) (ha : PA X (e :: es) (tA T E fs))
    (hdb : (x == ("__debug__" : Str)) = false := by decide) (he : starEach (e :: es) X.env = (false, eval e X.env) :: starEach es X.env := by rfl) (hpl : (backTo pos (starEach es X.env)).any (·.1) = false := by rfl) :
    PE X (.Call (.Name x p) (e :: es) [] pos) (tE T E (fCallF F fs)) := by
  obtain ⟨f, fd, ps, hm, hk, hb, FO⟩ := G
  exact peW (pe_call (dvs := []) FO hr hg hm hk hb .nil hx ha hdb he hpl) fun σ H Q ⟨ρ, S, μ, hee, hr, hf⟩ => ⟨ρ, S, μ, hee, hr, (Fin.bind hf).mono fun ds S1 μ1 H1 st1 r1 h1 vs hvs => by
    show spD T F (vs ++ []) H1 Q E
    rw [List.append_nil]
    exact ⟨ds, S1, μ1, hvs, r1, h1⟩⟩
theorem de_call0 {x : Str} {F : GF} {p pos : Pos} (G : DefD T X.prog X.w X.K X.mg X.base x lv F) (hr : Room lv X.A) (hx : Passes (L2.CX X.prog X.w) X E) (hg : Gl X x) (hdb : (x == ("__debug__" : Str)) = false := by decide) :
    PE X (.Call (.Name x p) [] [] pos) (tE T E (fCallF F fNil)) := by
  obtain ⟨f, fd, ps, hm, hk, hb, FO⟩ := G
  exact peW (pe_call0 (dvs := []) FO hr hg hm hk hb .nil hx hdb) fun σ H Q ⟨ρ, S, μ, hee, hr, hf⟩ => ⟨[], S, μ, .nil, hr, hf⟩
/-- o.m(..) of an own class -/
def fMeth (c : Nat) (F : GF) (fo : FE) (fs : FL) : FE := fun ρ S => (fo ρ S).bind fun d S1 => match d with
  | .ins c' _ => if c' = c then (fs ρ S1).bind fun ds S2 => F (d :: ds) S2 else .bad
  | _ => .bad
theorem de_meth {c : Nat} {m : Str} {F : GF} {o e : Expr} {es : List Expr} {fo : FE} {fs : FL} {pl : Sem Bool} {apos pos : Pos} (CFx : CF T) (hK : T.K = X.K) (G : MethD T X.prog X.w X.K X.mg X.base c m lv F) (hr : Room lv X.A) (hx : Passes (L2.CX X.prog X.w) X E)
    (ho : PE X o (tE T E fo)) (ha : PA X (e :: es) (tA T E fs))
    (hst : starEach (e :: es) X.env = (false, eval e X.env) :: starEach es X.env := by rfl) (hpl : (backTo pos (starEach es X.env)).any (·.1) = false := by rfl)
    (ht : eval (.Call (.Attribute o m apos) (e :: es) [] pos) X.env = (do
      let ov ← eval o X.env
      standAt apos.atName
      let (f, first) ← holding [ov] (getMethod ov m pl)
      callWith pos f first (backTo pos (starEach (e :: es) X.env)) (backToKw pos (keywordEach [] X.env))) := by rfl) :
    PE X (.Call (.Attribute o m apos) (e :: es) [] pos) (tE T E (fMeth c F fo fs)) := by
  obtain ⟨hc, hn, f, fd, ps, hm, hb, FO⟩ := G
  exact peW (pe_meth (dvs := []) ho (hK ▸ CFx.cls c hc) hm FO hr hb .nil hx ha hst hpl ht) fun σ H Q ⟨ρ, S, μ, hee, hr, hf⟩ => ⟨ρ, S, μ, hee, hr, (Fin.bind hf).mono fun d S1 μ1 H1 st1 r1 h1 v hv => by
    split at h1
    · split at h1
      · rename_i hcc
        subst hcc
        cases hv with
        | ins hc' hk' ei n q =>
          refine ⟨_, _, _, rfl, ei, q.look_none hn, ρ, S1, μ1, hee.step st1 hr.r0, r1, (Fin.bind h1).mono fun ds S2 μ2 H2 st2 r2 h2 vs hvs => ?_⟩
          show spD T F (_ :: (vs ++ [])) H2 Q E
          rw [List.append_nil]
          exact ⟨_, S2, μ2, .cons ((DV.ins hc' hk' ei n q).step st2 r1.r0) hvs, r2, h2⟩
      · exact h1.elim
    · exact h1.elim⟩
theorem de_meth0 {c : Nat} {m : Str} {F : GF} {o : Expr} {fo : FE} {pl : Sem Bool} {apos pos : Pos} (CFx : CF T) (hK : T.K = X.K) (G : MethD T X.prog X.w X.K X.mg X.base c m lv F) (hr : Room lv X.A) (hx : Passes (L2.CX X.prog X.w) X E)
    (ho : PE X o (tE T E fo))
    (ht : eval (.Call (.Attribute o m apos) [] [] pos) X.env = (do
      let ov ← eval o X.env
      standAt apos.atName
      let (f, first) ← holding [ov] (getMethod ov m pl)
      callWith pos f first (backTo pos (starEach [] X.env)) (backToKw pos (keywordEach [] X.env))) := by rfl) :
    PE X (.Call (.Attribute o m apos) [] [] pos) (tE T E (fMeth c F fo fNil)) := by
  obtain ⟨hc, hn, f, fd, ps, hm, hb, FO⟩ := G
  exact peW (pe_meth0 (dvs := []) ho (hK ▸ CFx.cls c hc) hm FO hr hb .nil hx ht) fun σ H Q ⟨ρ, S, μ, hee, hr, hf⟩ => ⟨ρ, S, μ, hee, hr, (Fin.bind hf).mono fun d S1 μ1 H1 st1 r1 h1 v hv => by
    split at h1
    · split at h1
      · rename_i hcc
        subst hcc
        cases hv with
        | ins hc' hk' ei n q =>
          exact ⟨_, _, _, rfl, ei, q.look_none hn, _, S1, μ1, .cons (.ins hc' hk' ei n q) .nil, r1, h1⟩
      · exact h1.elim
    · exact h1.elim⟩
/-- C(..) -/
def makeD (c : Nat) (F : GF) (ds : List D) (S : Store) : Res D := match F (.obj S.length :: ds) (S ++ [.ins c []]) with
  | .ok .non S2 => (match S2[S.length]? with | some (.ins c' fs) => .ok (.ins c' fs) (S2.take S.length) | _ => .bad)
  | .exc e fs S2 => if purF fs = true then .exc e fs (S2.take S.length) else .bad
  | _ => .bad
def fMake (c : Nat) (F : GF) (fs : FL) : FE := fun ρ S => (fs ρ S).bind (makeD c F)
theorem sp_make {c : Nat} {F : GF} {ds : List D} {vs : List V} {S : Store} {μ : List Addr} {H : Hp} {Q : VK} (hc : c < T.nC) (hvs : DVs T μ H vs ds) (hr : Rep T μ H S) (hf : Fin T E (kD T Q) μ H (makeD c F ds S)) :
    ∀ x dx, H x = none → H dx = none → dx ≠ x → spD T F (.ref x :: (vs ++ [])) (upd (upd H dx (.own x)) x (.ins (T.cA c) dx [])) (fun v H2 => v = .non ∧ Q (.ref x) H2) E := by
  intro x dx nx ndx ne
  rw [List.append_nil]
  have st1 : Step μ H μ (upd H dx (.own x)) := Step.new ndx
  have nx1 : upd H dx (.own x) x = none := by rw [upd_ne (Ne.symm ne)]; exact nx
  have st2 : Step μ (upd H dx (.own x)) (μ ++ [x]) (upd (upd H dx (.own x)) x (.ins (T.cA c) dx [])) := Step.add nx1
  have st := st1.trans st2
  have nμ : x ∉ μ := fun hm => by obtain ⟨u, e, _⟩ := hr.r0.mu x hm; rw [nx] at e; cases e
  have rp : Rep T (μ ++ [x]) (upd (upd H dx (.own x)) x (.ins (T.cA c) dx [])) (S ++ [.ins c []]) := by
    refine hr.add nx st (fun a ha => ?_) (fun t => tabs_new nx1 (tabs_new ndx t)) ⟨⟨rfl, hc, fun p hp => by cases hp⟩, dx, [], upd_same, .nil⟩
    obtain ⟨u, e, _⟩ := hr.r0.mu a ha
    rw [upd_ne (fun q => nμ (by rw [← q]; exact ha)), upd_ne (ne_of_none e ndx)]
  have hx : (μ ++ [x])[S.length]? = some x := by rw [← hr.len, List.getElem?_append_right (Nat.le_refl _), Nat.sub_self]; rfl
  refine ⟨.obj S.length :: ds, _, _, .cons (.obj hx) (hvs.step st hr.r0), rp, ?_⟩
  unfold makeD at hf
  cases hF : F (.obj S.length :: ds) (S ++ [.ins c []]) with
  | ok d S2 =>
    rw [hF] at hf
    intro μ2 H3 st3 r3 v hv
    cases hv with
    | non =>
      refine ⟨rfl, ?_⟩
      simp only at hf
      split at hf
      · rename_i c' fs hs
        have st13 := st.trans st3
        obtain ⟨m3, e3, _⟩ := st3.more
        have hx2 : μ2[S.length]? = some x := by rw [e3, List.getElem?_append_left (by rw [List.length_append, hr.len, List.length_singleton]; omega)]; exact hx
        obtain ⟨⟨pp, hc', hk'⟩, dx', vs', e1, q1⟩ := r3.ob _ _ _ hx2 hs
        exact hf.at st13.cut (hr.cutS st13 r3) _ (.ins hc' hk' e1 nμ (q1.less st13.sub pp))
      · exact hf.elim
    | _ => exact hf.elim
  | exc e fs S2 =>
    rw [hF] at hf
    simp only at hf
    split at hf
    · rename_i hp
      exact fun dy μ2 H3 st3 r3 ⟨vs', e1, q1⟩ => by
        have st13 := st.trans st3
        exact hf dy μ H3 st13.cut (hr.cutS st13 r3) ⟨vs', e1, q1.less st13.sub hp⟩
    · exact hf.elim
  | bad => rw [hF] at hf; exact hf.elim
theorem de_make {x : Str} {c : Nat} {F : GF} {p pos : Pos} {e : Expr} {es : List Expr} {fs : FL} (G : MakeD T X.prog X.w X.K X.mg X.base x c lv F) (hr : Room (lv + 1) X.A) (hx : Passes (L2.CX X.prog X.w) X E) (hg : Gl X x) (ha : PA X (e :: es) (tA T E fs))
    (hdb : (x == ("__debug__" : Str)) = false := by decide) (he : starEach (e :: es) X.env = (false, eval e X.env) :: starEach es X.env := by rfl) (hpl : (backTo pos (starEach es X.env)).any (·.1) = false := by rfl) :
    PE X (.Call (.Name x p) (e :: es) [] pos) (tE T E (fMake c F fs)) := by
  obtain ⟨hc, hm, f, fd, ps, M, hb, FO⟩ := G
  exact peW (pe_make (dvs := []) M FO hr hg hm hb .nil hx ha hdb he hpl) fun σ H Q ⟨ρ, S, μ, hee, hr, hf⟩ => ⟨ρ, S, μ, hee, hr, (Fin.bind hf).mono fun ds S1 μ1 H1 st1 r1 h1 vs hvs => sp_make hc hvs r1 h1⟩

/-! ### raise -/
/-- an exception of the class at C is made of its fields' values -/
def tMkX (C : Addr) (names : List Str) (ta : TA) : L2.St → Hp → XK → Prop := fun σ H Q => ta σ H fun vs H1 => vs.length = names.length ∧ ∀ dx, H1 dx = none → Q (.ref C) (some dx) (upd H1 dx (.xd (names.zip vs).reverse))
def sRaise (c : Nat) (fids : List Nat) (g : FL) : FS := fun ρ S => (g ρ S).out fun ds S1 => if ds.length = fids.length then .exc c (fids.zip ds).reverse S1 else .bad
theorem dfs_zip {μ : List Addr} {H : Hp} : ∀ {fids : List Nat} {vs : List V} {ds : List D}, (∀ f ∈ fids, f < T.nN) → DVs T μ H vs ds → DFs T μ H ((fids.map T.nm).zip vs) (fids.zip ds)
  | [], _, _, _, _ => .nil
  | _ :: _, _, _, _, .nil => .nil
  | f :: fids, _, _, hf, .cons h q => .cons (hf f List.mem_cons_self) h (dfs_zip (fun g hg => hf g (List.mem_cons_of_mem _ hg)) q)
theorem DFs.append {μ : List Addr} {H : Hp} : ∀ {vs ws : List (Str × V)} {ds es : List (Nat × D)}, DFs T μ H vs ds → DFs T μ H ws es → DFs T μ H (vs ++ ws) (ds ++ es)
  | _, _, _, _, .nil, q => q
  | _, _, _, _, .cons z h t, q => .cons z h (DFs.append t q)
theorem DFs.reverse {μ : List Addr} {H : Hp} : ∀ {vs : List (Str × V)} {ds : List (Nat × D)}, DFs T μ H vs ds → DFs T μ H vs.reverse ds.reverse
  | _, _, .nil => by simpa using DFs.nil
  | _, _, .cons z h t => by
    rw [List.reverse_cons, List.reverse_cons]
    exact DFs.append (DFs.reverse t) (.cons z h .nil)
theorem ds_raise {c : Nat} {fids : List Nat} {e : Expr} {g : FL} {pos : Pos} (hc : X.calm = true) (tk : Takes X (fun cls d _ H => E cls d H)) (hf : ∀ f ∈ fids, f < T.nN) 
    (hm : PMk X e (tMkX (T.eA c) (fids.map T.nm) (tA T E g))) : PS X (.Raise (some e) none pos) (tS T E (sRaise c fids g)) :=
  psW (ps_raise hc tk hm) fun D σ H ⟨ρ, S, μ, hee, hr, hff⟩ => ⟨ρ, S, μ, hee, hr, hff.bind.mono fun ds S1 μ1 H1 st1 r1 h1 vs hvs => by
    split at h1
    · rename_i hl
      refine ⟨by rw [hvs.length, List.length_map]; exact hl, fun dx hd => ?_⟩
      have st : Step μ1 H1 μ1 (upd H1 dx (.xd ((fids.map T.nm).zip vs).reverse)) := Step.new hd
      exact h1 dx μ1 _ st (r1.new hd) ⟨_, upd_same, ((dfs_zip hf hvs).reverse).step st r1.r0⟩
    · exact h1.elim⟩
end
end DL

set_option Elab.async false
set_option linter.all false
set_option maxRecDepth 100000
set_option maxHeartbeats 4000000
/-! DL8: enumerate and zip over lists and tuples, mixed. -/
namespace DL
open PySem PySem.Spec PyProof.Rows L2

inductive Kd | l | t
def Kd.it : Kd → Heap → Addr → Addr → Nat → Prop
  | .l, h, it, a, i => h.IsListIter it a i
  | .t, h, it, a, i => h.IsTupleIter it a i
def Kd.sq : Kd → Heap → Addr → Array Value → Prop
  | .l, h, a, xs => h.IsList a xs
  | .t, h, a, xs => h.IsTuple a xs
def Kd.has : Kd → PySem.W.Frag → Hp → Addr → List V → Prop
  | .l, K, H, a, xs => SqL K H a xs
  | .t, K, H, a, xs => SqT K H a xs
def Kd.ob : Kd → Addr → Obj
  | .l, a => { cls := .type "list_iterator", data := .fields #[.ref a, .int 0 0] }
  | .t, a => { cls := .type "tuple_iterator", data := .fields #[.ref a, .int 0 0] }
theorem Kd.begins (k : Kd) (a : Addr) (xs : Array Value) : Begins (.ref a) (k.ob a) (fun h => k.sq h a xs) := by
  cases k with
  | l => exact begins_list a xs
  | t => exact begins_tuple a xs
theorem Kd.at0 (k : Kd) {h : Heap} {it a : Addr} (e : h.get? it = some (k.ob a)) : k.it h it a 0 := by
  cases k with
  | l => exact ⟨_, e, rfl, rfl⟩
  | t => exact ⟨_, e, rfl, rfl⟩
theorem Kd.draws (k : Kd) {P : Program} {w : World} {A : Around} (hh : A.handled = none) (it a : Addr) (hne : a ≠ it) (xs : Array Value) :
    Draws P w A it [it, a] xs.size (fun i v => xs[i]? = some v) (fun i h => k.it h it a i ∧ k.sq h a xs) := by
  cases k with
  | l => exact Draws.list hh it a hne xs
  | t => exact Draws.tuple hh it a hne xs
theorem Kd.it_at (k : Kd) {h h' : Heap} {it a : Addr} {i : Nat} (e : k.it h it a i) (q : ∀ o, h.get? it = some o → h'.get? it = some o) : k.it h' it a i := by
  cases k with
  | l => exact Heap.IsListIter.at e q
  | t => exact Heap.IsTupleIter.at e q
theorem Kd.it_obj (k : Kd) {h : Heap} {it a : Addr} {i : Nat} (e : k.it h it a i) : ∃ o, h.get? it = some o ∧ ∀ v, o.data ≠ .cell v := by
  cases k with
  | l => obtain ⟨o, h1, _, h3⟩ := e; exact ⟨o, h1, fun v q => by rw [h3] at q; cases q⟩
  | t => obtain ⟨o, h1, _, h3⟩ := e; exact ⟨o, h1, fun v q => by rw [h3] at q; cases q⟩
section
variable {X : Cx} {pins : List (Addr × Obj)} {σ : L2.St} {H : Hp} {s : Shared}
theorem Kd.read (k : Kd) {a : Addr} {xs : List V} (I : Inv X pins σ H s) (h : k.has X.K H a xs) : ∃ its : List Value, Vals xs its ∧ k.sq s.heap a its.toArray := by
  cases k with
  | l => obtain ⟨its, r, p, _⟩ := I.list h; exact ⟨its, r, p.isList⟩
  | t => obtain ⟨its, r, p, _⟩ := I.tuple h; exact ⟨its, r, p⟩
theorem Kd.lt (k : Kd) {a : Addr} {xs : List V} (I : Inv X pins σ H s) (h : k.has X.K H a xs) : a < s.heap.objs.size := by
  obtain ⟨its, _, p⟩ := k.read I h
  cases k with
  | l => obtain ⟨o, e, _⟩ := p; exact Heap.lt_size e
  | t => obtain ⟨o, e, _⟩ := p; exact Heap.lt_size e
end
/-- a tuple just made, tracked -/
theorem new_tup {P : Program} {w : World} {H : Hp} {h : Heap} {p : Addr} {xs : List V} {us : List Value} (hz : xs.length ≤ sizeLine) (r : Vals xs us) (t : h.IsTuple p us.toArray) (hd : ∀ o, h.get? p = some o → o.cls = .type "tuple" ∧ ∃ n, o.data = .seq us.toArray n) : ObjOk P w (upd H p (.tup xs)) h p (.tup xs) := by
  refine ⟨hz, us, r, ?_⟩
  obtain ⟨o, e, _⟩ := t
  obtain ⟨c, d⟩ := hd o e
  exact ⟨o, e, c, d⟩

/-- a walk of fixed items -/
def ItG (n : Nat) (Rd : Hp → Prop) (Y : Nat → List V → Prop) : It :=
  ⟨fun i H => i < n ∧ Rd H, fun i H v H' => ∃ p xs, v = .ref p ∧ H p = none ∧ H' = upd H p (.tup xs) ∧ Y i xs, fun i H => i = n ∧ Rd H⟩
section
variable {P : Program} {w : World} {K : PySem.W.Frag} {elts : List Expr} {kk : Nat} {tpos : Pos}
theorem isTuple_ok {h : Heap} {p : Addr} {vs : Array Value} (t : h.IsTuple p vs) : IsTup h p vs := t
theorem turn_enumG (k : Kd) {a e it : Addr} {xs : List V} (hne : e ≠ it) (hea : e ≠ a) (hia : a ≠ it) :
    Turn P w K (.Tuple elts kk tpos) (ItG xs.length (fun H => k.has K H a xs) fun i ys => ∃ x, xs[i]? = some x ∧ ys = [.int (i : Nat), x]) [e, it] e (fun i h => (∃ old, IsEnum h e it ((i : Nat) : Int) old) ∧ k.it h it a i) where
  mem := List.mem_cons_self
  obj := fun i h st b hb => by
    obtain ⟨⟨old, he⟩, hi⟩ := st
    rcases List.mem_cons.mp hb with z | z
    · rw [z]; exact ⟨_, he, fun v q => nomatch q⟩
    · rw [List.mem_singleton.mp z]; exact k.it_obj hi
  keep := fun i h h' st q => ⟨⟨st.1.choose, q e List.mem_cons_self _ st.1.choose_spec⟩, k.it_at st.2 fun o z => q it (List.mem_cons_of_mem _ List.mem_cons_self) o z⟩
  item := by
    intro X hP hw hK hc i pins s σ H E I hf st hg
    subst hP hw hK
    obtain ⟨hi, hq⟩ := hg
    obtain ⟨its, rv, p⟩ := k.read I hq
    have hl := rv.length
    have G := GoesN.enumFrom (elts := elts) (x1 := kk) (pos := tpos) 0 (k.draws (P := X.prog) (w := X.w) (A := X.A.in1) (I.ok.hd hc) it a hia its.toArray) e hne (by simp [hne, hea]) List.mem_cons_self
    have hx : xs[i]? = some xs[i] := List.getElem?_eq_getElem hi
    obtain ⟨u, hu, ru⟩ := rv.get hx
    have st' : (∃ old, IsEnum s.heap e it (0 + (i : Int)) old) ∧ k.it s.heap it a i ∧ k.sq s.heap a its.toArray := by rw [Int.zero_add]; exact ⟨st.1, st.2, p⟩
    refine wpAny_mono (G.goes i s (fun v s2 => ∃ x H', Inv X pins σ H' s2 ∧ RelV x v ∧ (∃ p xs', x = .ref p ∧ H p = none ∧ H' = upd H p (.tup xs') ∧ ∃ y, xs[i]? = some y ∧ xs' = [.int (i : Nat), y]) ∧ ((∃ old, IsEnum s2.heap e it ((i + 1 : Nat) : Int) old) ∧ k.it s2.heap it a (i + 1)) ∧ ∀ b ∈ [e, it], H' b = none) _ (by rw [List.size_toArray]; omega) st' fun v h' tk y st2 hk _ => ?_) (fun r s1 q => q) fun _ _ q => q
    obtain ⟨p', tk', x, rfl, hn, hx', ht⟩ := y
    have ex : x = u := by
      have q : its[i]? = some x := by simpa using hx'
      rw [hu] at q; cases q; rfl
    subst ex
    have new : ObjOk X.prog X.w (upd H p' (.tup [.int (i : Nat), xs[i]])) h' p' (.tup [.int (i : Nat), xs[i]]) :=
      ⟨show 2 ≤ sizeLine by decide, [.int (0 + (i : Int)) tk', x], .cons ⟨_, by rw [Int.zero_add]⟩ (.cons ru .nil), ht⟩
    have I1 : Inv X pins σ (upd H p' (.tup [.int (i : Nat), xs[i]])) { s with heap := h', toks := tk } := I.turnedNew (ch := [e, it]) hk hf hn new
    refine ⟨.ref p', _, I1, rfl, ⟨p', _, rfl, I.hok.fresh hn, rfl, _, hx, rfl⟩, ⟨?_, st2.2.1⟩, fun b hb => ?_⟩
    · obtain ⟨old, z⟩ := st2.1
      refine ⟨old, ?_⟩
      rw [Int.zero_add] at z
      exact z
    · have hb' : b < s.heap.objs.size := by
        rcases List.mem_cons.mp hb with z | z
        · rw [z]; obtain ⟨old, q⟩ := st.1; exact Heap.lt_size q
        · rw [List.mem_singleton.mp z]; obtain ⟨o, q, _⟩ := k.it_obj st.2; exact Heap.lt_size q
      rw [upd_ne (Nat.ne_of_lt (Nat.lt_of_lt_of_le hb' hn))]
      exact (hf b hb).1
  done := by
    intro X hP hw hK hc i pins s σ H E I hf st hg
    subst hP hw hK
    obtain ⟨rfl, hq⟩ := hg
    obtain ⟨its, rv, p⟩ := k.read I hq
    have hl := rv.length
    have G := GoesN.enumFrom (elts := elts) (x1 := kk) (pos := tpos) 0 (k.draws (P := X.prog) (w := X.w) (A := X.A.in1) (I.ok.hd hc) it a hia its.toArray) e hne (by simp [hne, hea]) List.mem_cons_self
    have st' : (∃ old, IsEnum s.heap e it (0 + ((its.toArray.size : Nat) : Int)) old) ∧ k.it s.heap it a its.toArray.size ∧ k.sq s.heap a its.toArray := by rw [Int.zero_add, List.size_toArray, ← hl]; exact ⟨st.1, st.2, p⟩
    exact G.stops s _ E st' fun h' tk hk _ => I.turnedL (ch := [e, it]) hk hf
  self := fun A i s Q E st h => wpAny_pyIter_enum st.1.choose_spec h
end
end DL

set_option Elab.async false
set_option linter.all false
set_option maxRecDepth 100000
set_option maxHeartbeats 4000000
/-! DL9: zip of two, of three; enumerate, zip as what a loop walks. -/
namespace DL
open PySem PySem.Spec PyProof.Rows L2
section
variable {P : Program} {w : World} {K : PySem.W.Frag} {elts : List Expr} {kk : Nat} {tpos : Pos}
theorem lt_min2 {i a b : Nat} (h : i < min a b) : i < a ∧ i < b := ⟨Nat.lt_of_lt_of_le h (Nat.min_le_left _ _), Nat.lt_of_lt_of_le h (Nat.min_le_right _ _)⟩
theorem turn_zip2G (k1 k2 : Kd) {a b z TI TO i1 i2 : Addr} {xs ys : List V} (S : ZipSep2 z TI TO i1 i2 [i1, a] [i2, b]) (ha : a ≠ i1) (hb : b ≠ i2) :
    Turn P w K (.Tuple elts kk tpos) (ItG (min xs.length ys.length) (fun H => k1.has K H a xs ∧ k2.has K H b ys) fun i vs => ∃ x y, xs[i]? = some x ∧ ys[i]? = some y ∧ vs = [x, y]) [z, TI, TO, i1, i2] z
      (fun i h => IsZip h z TI TO .none ∧ IsTupOf2 h TI (.ref i1) (.ref i2) ∧ (∃ u v, IsTupOf2 h TO u v) ∧ k1.it h i1 a i ∧ k2.it h i2 b i) where
  mem := List.mem_cons_self
  obj := fun i h st c hc => by
    obtain ⟨hz, hTI, ⟨u, v, hTO⟩, h1, h2⟩ := st
    have e' : c = z ∨ c = TI ∨ c = TO ∨ c = i1 ∨ c = i2 := by simpa using hc
    rcases e' with q | q | q | q | q <;> rw [q]
    · exact ⟨_, hz, fun v q => nomatch q⟩
    · exact ⟨_, hTI, fun v q => nomatch q⟩
    · exact ⟨_, hTO, fun v q => nomatch q⟩
    · exact k1.it_obj h1
    · exact k2.it_obj h2
  keep := fun i h h' st q => by
    obtain ⟨hz, hTI, ⟨u, v, hTO⟩, h1, h2⟩ := st
    exact ⟨q z (by simp) _ hz, q TI (by simp) _ hTI, ⟨u, v, q TO (by simp) _ hTO⟩, k1.it_at h1 fun o e => q i1 (by simp) o e, k2.it_at h2 fun o e => q i2 (by simp) o e⟩
  item := by
    intro X hP hw hK hc i pins s σ H E I hf st hg
    subst hP hw hK
    obtain ⟨hi, hq1, hq2⟩ := hg
    obtain ⟨hi1, hi2⟩ := lt_min2 hi
    obtain ⟨its, rv, p⟩ := k1.read I hq1
    obtain ⟨jts, rw', p'⟩ := k2.read I hq2
    have hl := rv.length
    have hl' := rw'.length
    have G := GoesN.zip2 (elts := elts) (x1 := kk) (pos := tpos) S (k1.draws (P := X.prog) (w := X.w) (A := X.A.in1) (I.ok.hd hc) i1 a ha its.toArray) (k2.draws (P := X.prog) (w := X.w) (A := X.A.in1) (I.ok.hd hc) i2 b hb jts.toArray)
    have hx : xs[i]? = some xs[i] := List.getElem?_eq_getElem hi1
    have hy : ys[i]? = some ys[i] := List.getElem?_eq_getElem hi2
    obtain ⟨u, hu, ru⟩ := rv.get hx
    obtain ⟨u2, hu2, ru2⟩ := rw'.get hy
    have lt0 : ∀ c ∈ [z, TI, TO, i1, i2], c < s.heap.objs.size := fun c hcm => by
      obtain ⟨hz, hTI, ⟨_, _, hTO⟩, h1, h2⟩ := st
      have e' : c = z ∨ c = TI ∨ c = TO ∨ c = i1 ∨ c = i2 := by simpa using hcm
      rcases e' with q | q | q | q | q <;> rw [q]
      · exact Heap.lt_size hz
      · exact Heap.lt_size hTI
      · exact Heap.lt_size hTO
      · obtain ⟨o, q, _⟩ := k1.it_obj h1; exact Heap.lt_size q
      · obtain ⟨o, q, _⟩ := k2.it_obj h2; exact Heap.lt_size q
    refine wpAny_mono (G.goes i s (fun v s2 => ∃ x H', Inv X pins σ H' s2 ∧ RelV x v ∧ (∃ p xs', x = .ref p ∧ H p = none ∧ H' = upd H p (.tup xs') ∧ ∃ x y, xs[i]? = some x ∧ ys[i]? = some y ∧ xs' = [x, y]) ∧
      (IsZip s2.heap z TI TO .none ∧ IsTupOf2 s2.heap TI (.ref i1) (.ref i2) ∧ (∃ u v, IsTupOf2 s2.heap TO u v) ∧ k1.it s2.heap i1 a (i + 1) ∧ k2.it s2.heap i2 b (i + 1)) ∧ ∀ c ∈ [z, TI, TO, i1, i2], H' c = none) _
      (by rw [List.size_toArray, List.size_toArray, ← hl, ← hl']; exact hi) ⟨st.1, st.2.1, st.2.2.1, ⟨st.2.2.2.1, p⟩, st.2.2.2.2, p'⟩ fun v h' tk y st2 hk _ => ?_) (fun r s1 q => q) fun _ _ q => q
    obtain ⟨t', x, y, rfl, hn, hx', hy', ht⟩ := y
    have ex : x = u := by
      have q : its[i]? = some x := by simpa using hx'
      rw [hu] at q; cases q; rfl
    have ey : y = u2 := by
      have q : jts[i]? = some y := by simpa using hy'
      rw [hu2] at q; cases q; rfl
    subst ex ey
    have new : ObjOk X.prog X.w (upd H t' (.tup [xs[i], ys[i]])) h' t' (.tup [xs[i], ys[i]]) := ⟨show 2 ≤ sizeLine by decide, [x, y], .cons ru (.cons ru2 .nil), ht⟩
    have I1 : Inv X pins σ (upd H t' (.tup [xs[i], ys[i]])) { s with heap := h', toks := tk } :=
      I.turnedNew (ch := [z, TO, i1, i2]) hk (fun c hcm => hf c (by simp at hcm ⊢; rcases hcm with q | q | q | q <;> simp [q])) hn new
    refine ⟨.ref t', _, I1, rfl, ⟨t', _, rfl, I.hok.fresh hn, rfl, _, _, hx, hy, rfl⟩, ⟨st2.1, st2.2.1, st2.2.2.1, st2.2.2.2.1.1, st2.2.2.2.2.1⟩, fun c hcm => ?_⟩
    rw [upd_ne (Nat.ne_of_lt (Nat.lt_of_lt_of_le (lt0 c hcm) hn))]
    exact (hf c hcm).1
  done := by
    intro X hP hw hK hc i pins s σ H E I hf st hg
    subst hP hw hK
    obtain ⟨hi, hq1, hq2⟩ := hg
    obtain ⟨its, rv, p⟩ := k1.read I hq1
    obtain ⟨jts, rw', p'⟩ := k2.read I hq2
    have hl := rv.length
    have hl' := rw'.length
    have G := GoesN.zip2 (elts := elts) (x1 := kk) (pos := tpos) S (k1.draws (P := X.prog) (w := X.w) (A := X.A.in1) (I.ok.hd hc) i1 a ha its.toArray) (k2.draws (P := X.prog) (w := X.w) (A := X.A.in1) (I.ok.hd hc) i2 b hb jts.toArray)
    have ei : i = min its.toArray.size jts.toArray.size := by rw [List.size_toArray, List.size_toArray, ← hl, ← hl']; exact hi
    subst ei
    exact G.stops s _ E ⟨st.1, st.2.1, st.2.2.1, ⟨st.2.2.2.1, p⟩, st.2.2.2.2, p'⟩ fun h' tk hk _ => I.turnedL (ch := [z, TO, i1, i2]) hk (fun c hcm => hf c (by simp at hcm ⊢; rcases hcm with q | q | q | q <;> simp [q]))
  self := fun A i s Q E st h => wpAny_pyIter_zip st.1 h
theorem turn_zip3G (k1 k2 k3 : Kd) {a b c0 z TI TO i1 i2 i3 : Addr} {xs ys zs : List V} (S : ZipSep3 z TI TO i1 i2 i3 [i1, a] [i2, b] [i3, c0]) (ha : a ≠ i1) (hb : b ≠ i2) (hc0 : c0 ≠ i3) :
    Turn P w K (.Tuple elts kk tpos) (ItG (min (min xs.length ys.length) zs.length) (fun H => k1.has K H a xs ∧ k2.has K H b ys ∧ k3.has K H c0 zs) fun i vs => ∃ x y u, xs[i]? = some x ∧ ys[i]? = some y ∧ zs[i]? = some u ∧ vs = [x, y, u]) [z, TI, TO, i1, i2, i3] z
      (fun i h => IsZip h z TI TO .none ∧ IsTupOf3 h TI (.ref i1) (.ref i2) (.ref i3) ∧ (∃ u v w, IsTupOf3 h TO u v w) ∧ k1.it h i1 a i ∧ k2.it h i2 b i ∧ k3.it h i3 c0 i) where
  mem := List.mem_cons_self
  obj := fun i h st c hc => by
    obtain ⟨hz, hTI, ⟨u, v, w', hTO⟩, h1, h2, h3⟩ := st
    have e' : c = z ∨ c = TI ∨ c = TO ∨ c = i1 ∨ c = i2 ∨ c = i3 := by simpa using hc
    rcases e' with q | q | q | q | q | q <;> rw [q]
    · exact ⟨_, hz, fun v q => nomatch q⟩
    · exact ⟨_, hTI, fun v q => nomatch q⟩
    · exact ⟨_, hTO, fun v q => nomatch q⟩
    · exact k1.it_obj h1
    · exact k2.it_obj h2
    · exact k3.it_obj h3
  keep := fun i h h' st q => by
    obtain ⟨hz, hTI, ⟨u, v, w', hTO⟩, h1, h2, h3⟩ := st
    exact ⟨q z (by simp) _ hz, q TI (by simp) _ hTI, ⟨u, v, w', q TO (by simp) _ hTO⟩, k1.it_at h1 fun o e => q i1 (by simp) o e, k2.it_at h2 fun o e => q i2 (by simp) o e, k3.it_at h3 fun o e => q i3 (by simp) o e⟩
  item := by
    intro X hP hw hK hc i pins s σ H E I hf st hg
    subst hP hw hK
    obtain ⟨hi, hq1, hq2, hq3⟩ := hg
    obtain ⟨hi12, hi3⟩ := lt_min2 hi
    obtain ⟨hi1, hi2⟩ := lt_min2 hi12
    obtain ⟨its, rv, p⟩ := k1.read I hq1
    obtain ⟨jts, rw', p'⟩ := k2.read I hq2
    obtain ⟨kts, rz, p''⟩ := k3.read I hq3
    have hl := rv.length
    have hl' := rw'.length
    have hl'' := rz.length
    have G := GoesN.zip3 (elts := elts) (x1 := kk) (pos := tpos) S (k1.draws (P := X.prog) (w := X.w) (A := X.A.in1) (I.ok.hd hc) i1 a ha its.toArray) (k2.draws (P := X.prog) (w := X.w) (A := X.A.in1) (I.ok.hd hc) i2 b hb jts.toArray) (k3.draws (P := X.prog) (w := X.w) (A := X.A.in1) (I.ok.hd hc) i3 c0 hc0 kts.toArray)
    have hx : xs[i]? = some xs[i] := List.getElem?_eq_getElem hi1
    have hy : ys[i]? = some ys[i] := List.getElem?_eq_getElem hi2
    have hz : zs[i]? = some zs[i] := List.getElem?_eq_getElem hi3
    obtain ⟨u, hu, ru⟩ := rv.get hx
    obtain ⟨u2, hu2, ru2⟩ := rw'.get hy
    obtain ⟨u3, hu3, ru3⟩ := rz.get hz
    have lt0 : ∀ c ∈ [z, TI, TO, i1, i2, i3], c < s.heap.objs.size := fun c hcm => by
      obtain ⟨hz, hTI, ⟨_, _, _, hTO⟩, h1, h2, h3⟩ := st
      have e' : c = z ∨ c = TI ∨ c = TO ∨ c = i1 ∨ c = i2 ∨ c = i3 := by simpa using hcm
      rcases e' with q | q | q | q | q | q <;> rw [q]
      · exact Heap.lt_size hz
      · exact Heap.lt_size hTI
      · exact Heap.lt_size hTO
      · obtain ⟨o, q, _⟩ := k1.it_obj h1; exact Heap.lt_size q
      · obtain ⟨o, q, _⟩ := k2.it_obj h2; exact Heap.lt_size q
      · obtain ⟨o, q, _⟩ := k3.it_obj h3; exact Heap.lt_size q
    refine wpAny_mono (G.goes i s (fun v s2 => ∃ x H', Inv X pins σ H' s2 ∧ RelV x v ∧ (∃ p xs', x = .ref p ∧ H p = none ∧ H' = upd H p (.tup xs') ∧ ∃ x y u, xs[i]? = some x ∧ ys[i]? = some y ∧ zs[i]? = some u ∧ xs' = [x, y, u]) ∧
      (IsZip s2.heap z TI TO .none ∧ IsTupOf3 s2.heap TI (.ref i1) (.ref i2) (.ref i3) ∧ (∃ u v w, IsTupOf3 s2.heap TO u v w) ∧ k1.it s2.heap i1 a (i + 1) ∧ k2.it s2.heap i2 b (i + 1) ∧ k3.it s2.heap i3 c0 (i + 1)) ∧ ∀ c ∈ [z, TI, TO, i1, i2, i3], H' c = none) _
      (by rw [List.size_toArray, List.size_toArray, List.size_toArray, ← hl, ← hl', ← hl'']; exact hi) ⟨st.1, st.2.1, st.2.2.1, ⟨st.2.2.2.1, p⟩, ⟨st.2.2.2.2.1, p'⟩, st.2.2.2.2.2, p''⟩ fun v h' tk y st2 hk _ => ?_) (fun r s1 q => q) fun _ _ q => q
    obtain ⟨t', x, y, w', rfl, hn, hx', hy', hz', ht⟩ := y
    have ex : x = u := by
      have q : its[i]? = some x := by simpa using hx'
      rw [hu] at q; cases q; rfl
    have ey : y = u2 := by
      have q : jts[i]? = some y := by simpa using hy'
      rw [hu2] at q; cases q; rfl
    have ew : w' = u3 := by
      have q : kts[i]? = some w' := by simpa using hz'
      rw [hu3] at q; cases q; rfl
    subst ex ey ew
    have new : ObjOk X.prog X.w (upd H t' (.tup [xs[i], ys[i], zs[i]])) h' t' (.tup [xs[i], ys[i], zs[i]]) := ⟨show 3 ≤ sizeLine by decide, [x, y, w'], .cons ru (.cons ru2 (.cons ru3 .nil)), ht⟩
    have I1 : Inv X pins σ (upd H t' (.tup [xs[i], ys[i], zs[i]])) { s with heap := h', toks := tk } :=
      I.turnedNew (ch := [z, TO, i1, i2, i3]) hk (fun c hcm => hf c (by simp at hcm ⊢; rcases hcm with q | q | q | q | q <;> simp [q])) hn new
    refine ⟨.ref t', _, I1, rfl, ⟨t', _, rfl, I.hok.fresh hn, rfl, _, _, _, hx, hy, hz, rfl⟩, ⟨st2.1, st2.2.1, st2.2.2.1, st2.2.2.2.1.1, st2.2.2.2.2.1.1, st2.2.2.2.2.2.1⟩, fun c hcm => ?_⟩
    rw [upd_ne (Nat.ne_of_lt (Nat.lt_of_lt_of_le (lt0 c hcm) hn))]
    exact (hf c hcm).1
  done := by
    intro X hP hw hK hc i pins s σ H E I hf st hg
    subst hP hw hK
    obtain ⟨hi, hq1, hq2, hq3⟩ := hg
    obtain ⟨its, rv, p⟩ := k1.read I hq1
    obtain ⟨jts, rw', p'⟩ := k2.read I hq2
    obtain ⟨kts, rz, p''⟩ := k3.read I hq3
    have hl := rv.length
    have hl' := rw'.length
    have hl'' := rz.length
    have G := GoesN.zip3 (elts := elts) (x1 := kk) (pos := tpos) S (k1.draws (P := X.prog) (w := X.w) (A := X.A.in1) (I.ok.hd hc) i1 a ha its.toArray) (k2.draws (P := X.prog) (w := X.w) (A := X.A.in1) (I.ok.hd hc) i2 b hb jts.toArray) (k3.draws (P := X.prog) (w := X.w) (A := X.A.in1) (I.ok.hd hc) i3 c0 hc0 kts.toArray)
    have ei : i = min (min its.toArray.size jts.toArray.size) kts.toArray.size := by rw [List.size_toArray, List.size_toArray, List.size_toArray, ← hl, ← hl', ← hl'']; exact hi
    subst ei
    exact G.stops s _ E ⟨st.1, st.2.1, st.2.2.1, ⟨st.2.2.2.1, p⟩, ⟨st.2.2.2.2.1, p'⟩, st.2.2.2.2.2, p''⟩ fun h' tk hk _ => I.turnedL (ch := [z, TO, i1, i2, i3]) hk (fun c hcm => hf c (by simp at hcm ⊢; rcases hcm with q | q | q | q | q <;> simp [q]))
  self := fun A i s Q E st h => wpAny_pyIter_zip st.1 h
end
end DL

set_option Elab.async false
set_option linter.all false
set_option maxRecDepth 100000
set_option maxHeartbeats 4000000
/-! DL10: what a loop walks; for, while, list comprehensions. -/
namespace DL
open PySem PySem.Spec PyProof.Rows L2

/-- the walk J gives the items ds -/
structure WalkD (T : Tb) (μ : List Addr) (H : Hp) (ds : List D) (J : It) : Prop where
  goes : ∀ i μ' H' S', i < ds.length → Step μ H μ' H' → Rep T μ' H' S' → J.go i H'
  stops : ∀ μ' H' S', Step μ H μ' H' → Rep T μ' H' S' → J.stop ds.length H'
  yields : ∀ i μ' H' S' x H'', i < ds.length → Step μ H μ' H' → Rep T μ' H' S' → J.yld i H' x H'' → Step μ' H' μ' H'' ∧ Rep T μ' H'' S' ∧ ∃ d, ds[i]? = some d ∧ DV T μ' H'' x d
abbrev FI := Ev → Store → Res (List D)
abbrev kI (T : Tb) (R : It → Hp → Prop) : List D → Store → List Addr → Hp → Prop := fun ds _ μ H => ∀ J, WalkD T μ H ds J → R J H
def tI (T : Tb) (E : XK) (f : FI) : TI := fun σ H R => ∃ ρ S μ, EnvR T μ H σ ρ ∧ Rep T μ H S ∧ Fin T E (kI T R) μ H (f ρ S)
section
variable {T : Tb} {μ : List Addr} {H : Hp}
theorem walkD_of {J : It} {n : Nat} {G : Hp → Prop} {Y : Nat → Hp → V → Hp → Prop} {ds : List D} (w : Walk J n G Y) (hn : n = ds.length) (hG : ∀ μ' H' S', Step μ H μ' H' → Rep T μ' H' S' → G H')
    (hY : ∀ i μ' H' S' x H'', i < ds.length → Step μ H μ' H' → Rep T μ' H' S' → Y i H' x H'' → H'' = H' ∧ ∃ d, ds[i]? = some d ∧ DV T μ' H' x d) : WalkD T μ H ds J := by
  subst hn
  refine ⟨fun i μ' H' S' hi st rp => w.goes i H' hi (hG μ' H' S' st rp), fun μ' H' S' st rp => w.stops H' (hG μ' H' S' st rp), fun i μ' H' S' x H'' hi st rp y => ?_⟩
  obtain ⟨rfl, q⟩ := hY i μ' H' S' x H'' hi st rp (w.yields i H' x H'' hi (hG μ' H' S' st rp) y)
  exact ⟨Step.refl _ _, rp, q⟩
theorem walkD_vs {J : It} {G : Hp → Prop} {xs : List V} {ds : List D} {S : Store} (r0 : Rep T μ H S) (w : Walk J xs.length G (YAt xs)) (h : DVs T μ H xs ds) (hG : ∀ μ' H' S', Step μ H μ' H' → Rep T μ' H' S' → G H') : WalkD T μ H ds J :=
  walkD_of w h.length hG fun i μ' H' S' x H'' hi st rp ⟨e, y⟩ => ⟨e, by
    obtain ⟨d, e1, e2⟩ := h.get' y
    exact ⟨d, e1, e2.step st r0.r0⟩⟩
/-- a walk of new tuples -/
theorem walkD_G {n : Nat} {Rd : Hp → Prop} {Y : Nat → List V → Prop} {ds : List (List D)} {S : Store} (r0 : Rep T μ H S) (hn : n = ds.length) (hG : ∀ μ' H' S', Step μ H μ' H' → Rep T μ' H' S' → Rd H')
    (hY : ∀ i vs es, ds[i]? = some es → Y i vs → DVs T μ H vs es) : WalkD T μ H (ds.map D.row) (ItG n Rd Y) := by
  subst hn
  refine ⟨fun i μ' H' S' hi st rp => ⟨by simpa using hi, hG μ' H' S' st rp⟩, fun μ' H' S' st rp => ⟨by simp, hG μ' H' S' st rp⟩, fun i μ' H' S' x H'' hi st rp y => ?_⟩
  obtain ⟨p, vs, rfl, hp, rfl, y⟩ := y
  have hi' : i < ds.length := by simpa using hi
  have e : ds[i]? = some ds[i] := List.getElem?_eq_getElem hi'
  have st2 : Step μ' H' μ' (upd H' p (.tup vs)) := Step.new hp
  exact ⟨st2, rp.new hp, .row ds[i], by rw [List.getElem?_map, e]; rfl, .row (.inl (.inl upd_same)) (((hY i vs _ e y).step st r0.r0).step st2 rp.r0)⟩
end
/-- the items of a list, a tuple -/
def itemsI : D → Option (List D)
  | .tup ds => some ds
  | .lst ds => some ds
  | .scr ns => some (ns.map D.int)
  | _ => none
/-- where they stand -/
theorem items_kd {T : Tb} {μ : List Addr} {H : Hp} {S : Store} {v : V} {d : D} {ds : List D} (r : Rep T μ H S) (h : DV T μ H v d) (e : itemsI d = some ds) :
    ∃ (k : Kd) (a : Addr) (xs : List V), v = .ref a ∧ DVs T μ H xs ds ∧ k.has T.K H a xs ∧ ∀ μ' H' S', Step μ H μ' H' → Rep T μ' H' S' → k.has T.K H' a xs := by
  cases h with
  | tup s q => cases e; exact ⟨.t, _, _, rfl, q, s.sq, fun μ' H' S' st _ => (s.step st r.r0).sq⟩
  | lst s n q => cases e; exact ⟨.l, _, _, rfl, q, .inl (.inl s), fun μ' H' S' st _ => .inl (.inl (st.keep _ _ s n fun ps z => nomatch z))⟩
  | scr s => cases e; exact ⟨.l, _, _, rfl, DVs.of_ints _, s.sq, fun μ' H' S' st _ => (s.step st).sq⟩
  | _ => cases e
section
variable {X : Cx} {T : Tb} {E : XK} {k : Nat}
def iSeq (fe : FE) : FI := fun ρ S => (fe ρ S).bind fun d S1 => match itemsI d with | some ds => .ok ds S1 | none => .bad
theorem fin_items {μ : List Addr} {H : Hp} {r : Res D} {R : It → Hp → Prop} (h : Fin T E (kI T R) μ H (r.bind fun d S1 => match itemsI d with | some ds => .ok ds S1 | none => .bad)) :
    Fin T E (fun d S1 μ1 H1 => ∃ ds, itemsI d = some ds ∧ ∀ J, WalkD T μ1 H1 ds J → R J H1) μ H r :=
  (Fin.bind h).mono fun d S1 μ1 H1 st1 r1 h1 => by
    split at h1
    · rename_i ds hd
      exact ⟨ds, hd, h1.ok r1⟩
    · exact h1.elim
theorem di_seq {tg e : Expr} {fe : FE} (hK : T.K = X.K) (he : PE X e (tE T E fe)) : PI X tg e (tI T E (iSeq fe)) := by
  refine ⟨fun pins s σ H R I h => ?_⟩
  obtain ⟨ρ, S, μ, hee, hr, hf⟩ := h
  refine thn (he.run pins s σ H (fun v H1 => ∃ d ds μ1 S1, Rep T μ1 H1 S1 ∧ DV T μ1 H1 v d ∧ itemsI d = some ds ∧ ∀ J, WalkD T μ1 H1 ds J → R J H1) I ⟨ρ, S, μ, hee, hr, (fin_items hf).mono fun d S1 μ1 H1 st1 r1 ⟨ds, hd, hR⟩ v hv => ⟨d, ds, μ1, S1, r1, hv, hd, hR⟩⟩) fun v s1 ⟨x, H1, I1, rx, d, ds, μ1, S1, rp, hv, hd, hR⟩ => ?_
  obtain ⟨kd, a, xs, rfl, q, hh, stay⟩ := items_kd rp hv hd
  cases rx
  rw [hK] at hh stay
  cases kd with
  | l =>
    obtain ⟨its, rv, p, hz⟩ := I1.list hh
    exact wpAny_pyIter_list p.isList (pi_one (tk := s1.toks) I1 _ (turn_list a _) ⟨_, Heap.get?_push_size _ rfl, rfl, rfl⟩ (hR _ (walkD_vs rp walk_list q stay)))
  | t =>
    obtain ⟨its, rv, p, hz⟩ := I1.tuple hh
    exact wpAny_pyIter_tuple (show s1.heap.IsTuple a its.toArray from p) (pi_one (tk := s1.toks) I1 _ (turn_tuple a _) ⟨_, Heap.get?_push_size _ rfl, rfl, rfl⟩ (hR _ (walkD_vs rp walk_tup q stay)))
/-- the signs of a text -/
def signsOf (x : Str) : List D := x.cps.toList.map fun c => D.str ⟨#[c]⟩
def iSgn (fe : FE) : FI := fun ρ S => (fe ρ S).bind fun d S1 => match d with | .str x => .ok (signsOf x) S1 | _ => .bad
theorem di_str {tg e : Expr} {fe : FE} (he : PE X e (tE T E fe)) : PI X tg e (tI T E (iSgn fe)) := by
  refine ⟨fun pins s σ H R I ⟨ρ, S, μ, hee, hr, hf⟩ => ?_⟩
  refine (pi_str (tg := tg) he).run pins s σ H R I ⟨ρ, S, μ, hee, hr, (Fin.bind hf).mono fun d S1 μ1 H1 st1 r1 h1 v hv => ?_⟩
  split at h1
  · rename_i x
    cases hv
    refine ⟨x, rfl, h1.ok r1 _ (walkD_of walk_str (by simp [signsOf]) (fun _ _ _ _ _ => trivial) fun i μ' H' S' y H'' hi st rp ⟨e, c, hc, ey⟩ => ⟨e, .str ⟨#[c]⟩, ?_, ey ▸ .str _⟩)⟩
    rw [signsOf, List.getElem?_map, Array.getElem?_toList, hc]; rfl
  · exact h1.elim
/-! ### range -/
def bigN : Int := 4611686018427387904
theorem bigN_eq : bigN = 2 ^ 62 := by decide
def upto (lo : Int) (n : Nat) : List D := (List.range n).map fun (i : Nat) => D.int (lo + i)
theorem walkD_rng {μ : List Addr} {H : Hp} {lo : Int} {n : Nat} : WalkD T μ H (upto lo n) (Itr lo n) :=
  walkD_of walk_range (by simp [upto]) (fun _ _ _ _ _ => trivial) fun i μ' H' S' x H'' hi st rp ⟨e, ex⟩ => ⟨e, .int (lo + i), by
    have hi' : i < n := by simpa [upto] using hi
    simp [upto, hi'], ex ▸ .int _⟩
def iR1 (fs : FL) : FI := fun ρ S => (fs ρ S).bind fun ds S1 => match ds with
  | [.int j] => if -bigN ≤ j ∧ j < bigN then .ok (upto 0 j.toNat) S1 else .bad
  | _ => .bad
theorem di_r1 {tg a : Expr} {fs : FL} {p pos : Pos} (hg : Gl X "range") (hm : X.mg "range" = none) (ha : PA X [a] (tA T E fs)) (hs : starEach [a] X.env = [(false, eval a X.env)] := by rfl) : PI X tg (.Call (.Name "range" p) [a] [] pos) (tI T E (iR1 fs)) := by
  refine ⟨fun pins s σ H R I ⟨ρ, S, μ, hee, hr, hf⟩ => ?_⟩
  refine (pi_range1 (tg := tg) hg hm ha hs).run pins s σ H R I ⟨ρ, S, μ, hee, hr, (Fin.bind hf).mono fun ds S1 μ1 H1 st1 r1 h1 vs hvs => ?_⟩
  split at h1
  · rename_i j
    split at h1
    · rename_i hb
      rw [bigN_eq] at hb
      obtain rfl := DVs.ints (ns := [j]) hvs
      exact ⟨j, rfl, hb.1, hb.2, h1.ok r1 _ walkD_rng⟩
    · exact h1.elim
  · exact h1.elim
def iR2 (fs : FL) : FI := fun ρ S => (fs ρ S).bind fun ds S1 => match ds with
  | [.int i, .int j] => if (-bigN ≤ i ∧ i < bigN) ∧ -bigN ≤ j ∧ j < bigN then .ok (upto i (j - i).toNat) S1 else .bad
  | _ => .bad
theorem di_r2 {tg a b : Expr} {fs : FL} {p pos : Pos} (hg : Gl X "range") (hm : X.mg "range" = none) (ha : PA X [a, b] (tA T E fs)) (hs : starEach [a, b] X.env = [(false, eval a X.env), (false, eval b X.env)] := by rfl) (hs2 : starEach [b] X.env = [(false, eval b X.env)] := by rfl) :
    PI X tg (.Call (.Name "range" p) [a, b] [] pos) (tI T E (iR2 fs)) := by
  refine ⟨fun pins s σ H R I ⟨ρ, S, μ, hee, hr, hf⟩ => ?_⟩
  refine (pi_range2 (tg := tg) hg hm ha hs hs2).run pins s σ H R I ⟨ρ, S, μ, hee, hr, (Fin.bind hf).mono fun ds S1 μ1 H1 st1 r1 h1 vs hvs => ?_⟩
  split at h1
  · rename_i i j
    split at h1
    · rename_i hb
      rw [bigN_eq] at hb
      obtain rfl := DVs.ints (ns := [i, j]) hvs
      exact ⟨i, j, rfl, ⟨hb.1.1, hb.1.2, hb.2.1, hb.2.2⟩, h1.ok r1 _ walkD_rng⟩
    · exact h1.elim
  · exact h1.elim

/-! ### for -/
def loopS (p : FG) (body : FS) : List D → FS
  | [] => fun ρ S => .nx ρ S
  | d :: ds => fun ρ S => ((p d ρ S).out fun ρ1 S1 => body ρ1 S1).next (loopS p body ds)
def sFor (fi : FI) (p : FG) (body : FS) : FS := fun ρ S => (fi ρ S).out fun ds S1 => loopS p body ds ρ S1
theorem ds_for {tg iter : Expr} {body : List Stmt} {fi : FI} {p : FG} {fb : FS} {pos : Pos} (hp : PassesOwn (model X.prog X.w) X.A X.env X.xe) (hc : X.calm = true) (hi : PI X tg iter (tI T E fi)) (hg : PG X tg (tG T E p)) (hb : PSs X body (tS T E fb))
    (hs : ∀ x, foldedSetIterable iter X.env x = Pure.pure x := by intro _; rfl) : PS X (.For tg iter body [] pos) (tS T E (sFor fi p fb)) :=
  psW (ps_for hp hc hi hg hb hs) fun D σ H ⟨ρ, S, μ, hee, hr, hf⟩ => ⟨ρ, S, μ, hee, hr, hf.bind.mono fun ds S1 μ1 H1 st1 r1 h1 J W => by
    have hr0 := hr
    refine ⟨fun i m σ' H' => m = ds.length - i ∧ i ≤ ds.length ∧ ∃ ρ' S' μ', Step μ1 H1 μ' H' ∧ EnvR T μ' H' σ' ρ' ∧ Rep T μ' H' S' ∧ FinS T E D μ' H' (loopS p fb (ds.drop i) ρ' S'), ⟨ds.length, rfl, Nat.zero_le _, ρ, S1, μ1, Step.refl _ _, hee.step st1 hr.r0, r1, h1⟩, ?_⟩
    rintro i m σ' H' ⟨rfl, hi, ρ', S', μ', st, he', rp, hl⟩
    by_cases hlt : i < ds.length
    · refine .inr ⟨W.goes i μ' H' S' hlt st rp, fun σ'' H'' => ∃ ρ' S' μ'', Step μ1 H1 μ'' H'' ∧ EnvR T μ'' H'' σ'' ρ' ∧ Rep T μ'' H'' S' ∧ FinS T E D μ'' H'' (loopS p fb (ds.drop (i + 1)) ρ' S'), fun σ'' H'' q => ⟨ds.length - (i + 1), by omega, rfl, hlt, q⟩, fun x H'' y => ?_⟩
      obtain ⟨st2, rp2, d, hd, hv⟩ := W.yields i μ' H' S' x H'' hlt st rp y
      have ed : ds.drop i = d :: ds.drop (i + 1) := by
        rw [List.drop_eq_getElem_cons hlt]
        rw [List.getElem?_eq_getElem hlt] at hd
        rw [Option.some.inj hd]
      rw [ed] at hl
      have hl := FinS.step st2 hl
      refine ⟨ρ', S', μ', d, he'.step st2 rp.r0, rp2, hv, ?_⟩
      have hl : FinS T E D μ' H'' (((p d ρ' S').out fun ρ1 S1 => fb ρ1 S1).next (loopS p fb (ds.drop (i + 1)))) := hl
      cases hpd : p d ρ' S' with
      | ok ρ2 S2 =>
        rw [hpd] at hl
        intro μ3 H3 st3 rp3 σ3 he3
        have hl : FinS T E D μ' H'' ((fb ρ2 S2).next (loopS p fb (ds.drop (i + 1)))) := hl
        have hl := FinS.step st3 hl
        refine ⟨ρ2, S2, μ3, he3, rp3, ?_⟩
        cases hb2 : fb ρ2 S2 with
        | nx ρ4 S4 =>
          rw [hb2] at hl
          exact fun σ4 μ4 H4 st4 rp4 he4 => ⟨ρ4, S4, μ4, ((st.trans st2).trans st3).trans st4, he4, rp4, FinS.step st4 hl⟩
        | rt d4 S4 => rw [hb2] at hl; exact hl
        | exc c fs S4 => rw [hb2] at hl; exact hl
        | bad => rw [hb2] at hl; exact hl
      | exc c fs S2 => rw [hpd] at hl; exact hl
      | bad => rw [hpd] at hl; exact hl
    · have e : i = ds.length := by omega
      subst e
      rw [List.drop_length] at hl
      exact .inl ⟨W.stops μ' H' S' st rp, hl.nx rp he'⟩⟩

/-! ### while -/
def whileS (c : FT) (body : FS) : Nat → FS
  | 0 => fun _ _ => .bad
  | n + 1 => fun ρ S => (c ρ S).out fun b S1 => if b = true then (body ρ S1).next (whileS c body n) else .nx ρ S1
def sWhile (fuel : Ev → Nat) (c : FT) (body : FS) : FS := fun ρ S => whileS c body (fuel ρ) ρ S
theorem ds_while {c : Expr} {body : List Stmt} {fc : FT} {fb : FS} {pos : Pos} (fuel : Ev → Nat) (hp : PassesOwn (model X.prog X.w) X.A X.env X.xe) (hc : PT X c (tT T E fc)) (hb : PSs X body (tS T E fb)) : PS X (.While c body [] pos) (tS T E (sWhile fuel fc fb)) :=
  psW (ps_while hp hc hb) fun D σ H ⟨ρ, S, μ, hee, hr, hf⟩ => by
    refine ⟨fun m σ' H' => ∃ ρ' S' μ', EnvR T μ' H' σ' ρ' ∧ Rep T μ' H' S' ∧ FinS T E D μ' H' (whileS fc fb m ρ' S'), ⟨fuel ρ, ρ, S, μ, hee, hr, hf⟩, ?_⟩
    rintro m σ' H' ⟨ρ', S', μ', he, rp, hl⟩
    cases m with
    | zero => exact hl.elim
    | succ n =>
      have hl : FinS T E D μ' H' ((fc ρ' S').out fun b S1 => if b = true then (fb ρ' S1).next (whileS fc fb n) else .nx ρ' S1) := hl
      refine ⟨ρ', S', μ', he, rp, hl.bind.mono fun b S1 μ1 H1 st1 r1 h1 => ?_⟩
      cases b with
      | true =>
        rw [if_pos rfl] at h1
        refine iteT ⟨fun σ' H' => ∃ ρ' S' μ', EnvR T μ' H' σ' ρ' ∧ Rep T μ' H' S' ∧ FinS T E D μ' H' (whileS fc fb n ρ' S'), fun σ' H' q => ⟨n, Nat.lt_succ_self n, q⟩, ρ', S1, μ1, he.step st1 rp.r0, r1, ?_⟩
        cases hb2 : fb ρ' S1 with
        | nx ρ4 S4 => rw [hb2] at h1; exact fun σ4 μ4 H4 st4 rp4 he4 => ⟨ρ4, S4, μ4, he4, rp4, FinS.step st4 h1⟩
        | rt d4 S4 => rw [hb2] at h1; exact h1
        | exc c fs S4 => rw [hb2] at h1; exact h1
        | bad => rw [hb2] at h1; exact h1
      | false =>
        rw [if_neg Bool.false_ne_true] at h1
        exact iteF (h1.nx r1 (he.step st1 rp.r0))
end
end DL

set_option Elab.async false
set_option linter.all false
set_option maxRecDepth 100000
set_option maxHeartbeats 4000000
/-! DL11: enumerate, zip as walks; list comprehensions. -/
namespace DL
open PySem PySem.Spec PyProof.Rows L2

theorem enum_new1 {v : Value} {o : Obj} {G : Heap → Prop} (B : Begins v o G) :
    Meets (Builtin.«enumerate.__new__» ⟨[.type "enumerate", v], []⟩) fun _ R s =>
      G s.heap ∧ R (.ok (.ret (.ref (s.heap.push o).objs.size))) { s with heap := (s.heap.push o).push ({ cls := .type "enumerate", data := .fields #[.none, .bool false, .ref s.heap.objs.size, rawInt 0, .none, .none] } : Obj) } := by
  refine .of_wp fun P w A R s hs => ?_
  obtain ⟨hp, g, d, tk, os⟩ := s
  obtain ⟨hg, hs⟩ := hs
  have hsub := sub_enumerate
  have step : ∀ {A' : Around} {F : Value → Shared → Prop} {Q : Value → Shared → Prop}, Q (.ref hp.objs.size) ⟨hp.push o, g, d, tk, os⟩ → wpAny (model P w) A' (pyIter v) Q F ⟨hp, g, d, tk, os⟩ := fun q => B.iter P w _ _ ⟨hp, g, d, tk, os⟩ _ hg q
  wp_walk using step
  refine wpAny_stack_any fun st => wpAny_pure ?_
  split
  · rename_i c _ _ _ _ _
    cases c == Value.type "enumerate" <;> (wp_walk using step; exact ⟨_, rfl, hs⟩)
  · wp_walk using step
    exact ⟨_, rfl, hs⟩
theorem enum_call1 {P : Program} {w : World} {A : Around} {W : Value → Shared → Prop} {s : Shared} {v : Value} {o : Obj} {G : Heap → Prop} {Q : Value → Shared → Prop} (B : Begins v o G) (hg : G s.heap)
    (h : ∀ h', IsEnum h' (s.heap.objs.size + 1) s.heap.objs.size 0 .none → h'.get? s.heap.objs.size = some o → (∀ b u, s.heap.get? b = some u → h'.get? b = some u) → Q (.ref (s.heap.objs.size + 1)) { s with heap := h' }) :
    wpAny (model P w) A (call (.type "enumerate") [v]) Q W s := by
  refine callType_new F.called_enumerate (by decide) (F.typeCall_enumerate_1 _) (F.newCall_enumerate_1 _) (fun obj => F.args_object_init_2 obj _) F.entry_enumerate_new (enum_new1 B) ⟨hg, ?_⟩
  have hz : (s.heap.push o).objs.size = s.heap.objs.size + 1 := Heap.size_push ..
  have he : IsEnum ((s.heap.push o).push ({ cls := .type "enumerate", data := .fields #[.none, .bool false, .ref s.heap.objs.size, rawInt 0, .none, .none] } : Obj)) (s.heap.objs.size + 1) s.heap.objs.size 0 .none := by
    have q := Heap.get?_push_size (s.heap.push o) (o := ({ cls := .type "enumerate", data := .fields #[.none, .bool false, .ref s.heap.objs.size, rawInt 0, .none, .none] } : Obj)) rfl
    rw [hz] at q; exact q
  show _ ∧ _
  rw [hz]
  exact ⟨⟨_, he, rfl⟩, h _ he (Heap.get?_push_of_some _ (Heap.get?_push_size _ B.free)) fun b u q => Heap.get?_push_of_some _ (Heap.get?_push_of_some _ q)⟩
section
variable {X : Cx} {T : Tb} {E : XK}
theorem fresh_fp {pins : List (Addr × Obj)} {σ : L2.St} {H : Hp} {s : Shared} (I : Inv X pins σ H s) : ∀ b, s.heap.objs.size ≤ b → FpOk X pins H b := fun b hb => I.fpOk hb (I.hok.fresh hb)
/-! ### enumerate -/
def enumL : Nat → List D → List (List D)
  | _, [] => []
  | i, d :: ds => [.int (i : Nat), d] :: enumL (i + 1) ds
theorem enumL_get : ∀ {ds : List D} {k i : Nat}, (enumL k ds)[i]? = (ds[i]?).map fun d => [D.int ((k + i : Nat) : Int), d]
  | [], _, _ => by simp [enumL]
  | d :: ds, k, 0 => by simp [enumL]
  | d :: ds, k, i + 1 => by
    rw [enumL, List.getElem?_cons_succ, List.getElem?_cons_succ, enumL_get, show k + 1 + i = k + (i + 1) by omega]
theorem enumL_len : ∀ {ds : List D} {k : Nat}, (enumL k ds).length = ds.length
  | [], _ => rfl
  | d :: ds, k => by simp [enumL, enumL_len]
def iEn (fe : FE) : FI := fun ρ S => (fe ρ S).bind fun d S1 => match itemsI d with | some ds => .ok ((enumL 0 ds).map D.row) S1 | none => .bad
theorem di_enum {e : Expr} {fe : FE} {elts : List Expr} {kk : Nat} {p pos tpos : Pos} (hK : T.K = X.K) (hg : Gl X "enumerate") (hm : X.mg "enumerate" = none) (he : PE X e (tE T E fe)) (hs : starEach [e] X.env = [(false, eval e X.env)] := by rfl) :
    PI X (.Tuple elts kk tpos) (.Call (.Name "enumerate" p) [e] [] pos) (tI T E (iEn fe)) := by
  refine ⟨fun pins s σ H R I ⟨ρ, S, μ, hee, hr, hf⟩ => ?_⟩
  have ha : PA X [e] (tA T E (fCons fe fNil)) := da_cons he da_nil hs
  refine Call_ (ld_blt I hg hm boot_enumerate (PyProof.Rows.callWith_type1 (thn (ha.run pos pins s σ H (fun vs H1 => ∃ v d ds μ1 S1, vs = [v] ∧ Rep T μ1 H1 S1 ∧ DV T μ1 H1 v d ∧ itemsI d = some ds ∧ ∀ J, WalkD T μ1 H1 ((enumL 0 ds).map D.row) J → R J H1) I ⟨ρ, S, μ, hee, hr, ?_⟩) fun us s1 ⟨vs, H1, I1, rv, v, d, ds, μ1, S1, ev, rp, hv, hd, hR⟩ => ?_) hs rfl))
  · show Fin T E _ μ H (((fe ρ S).bind fun d S1 => Res.ok (d :: []) S1))
    unfold iEn at hf
    cases hfe : fe ρ S with
    | ok d S1 =>
      rw [hfe] at hf
      simp only [Res.bind_ok] at hf ⊢
      intro μ' H' st rp vs hvs
      cases hd : itemsI d with
      | some ds =>
        rw [hd] at hf
        cases hvs with
        | cons h q => cases q; exact ⟨_, d, ds, μ', S1, rfl, rp, h, hd, hf.at st rp⟩
      | none => rw [hd] at hf; exact hf.elim
    | exc c fs S1 => rw [hfe] at hf; exact hf
    | bad => rw [hfe] at hf; exact hf.elim
  · subst ev
    cases rv with
    | cons r q =>
      cases q
      obtain ⟨kd, a, xs, rfl, q, hh, stay⟩ := items_kd rp hv hd
      cases r
      rw [hK] at hh stay
      obtain ⟨its, rvv, p1⟩ := kd.read I1 hh
      have la := kd.lt I1 hh
      refine enum_call1 (kd.begins a its.toArray) p1 fun h' hen ho hk => wpAny_pyIter_enum hen ?_
      have I2 : Inv X pins σ H1 { s1 with heap := h' } := I1.kept (t' := s1.toks) hk
      refine ⟨s1.heap.objs.size + 1, [s1.heap.objs.size + 1, s1.heap.objs.size], _, _, H1, rfl, I2, turn_enumG (K := X.K) kd (xs := xs) (Nat.succ_ne_self _) (Nat.ne_of_gt (Nat.lt_succ_of_lt la)) (Nat.ne_of_lt la), ⟨⟨.none, hen⟩, kd.at0 ho⟩, fun b hb => fresh_fp I1 b ?_, hR _ (walkD_G rp (by rw [enumL_len]; exact q.length) stay fun i vs es hes ⟨x, hx, ey⟩ => ?_)⟩
      · have e' : b = s1.heap.objs.size + 1 ∨ b = s1.heap.objs.size := by simpa using hb
        rcases e' with z | z
        · rw [z]; exact Nat.le_add_right _ _
        · rw [z]; exact Nat.le_refl _
      · rw [enumL_get] at hes
        obtain ⟨d', e1, e2⟩ := q.get' hx
        rw [e1] at hes
        cases hes
        rw [ey]
        rw [Nat.zero_add]
        exact .cons (.int _) (.cons e2 .nil)
/-! ### zip -/
def zipL : List D → List D → List (List D)
  | x :: xs, y :: ys => [x, y] :: zipL xs ys
  | _, _ => []
theorem zipL_len : ∀ {xs ys : List D}, (zipL xs ys).length = min xs.length ys.length
  | [], _ => by simp [zipL]
  | _ :: _, [] => by simp [zipL]
  | x :: xs, y :: ys => by
    have := zipL_len (xs := xs) (ys := ys)
    simp only [zipL, List.length_cons, this]; omega
theorem zipL_get : ∀ {xs ys : List D} {i : Nat} {es : List D}, (zipL xs ys)[i]? = some es → ∃ x y, xs[i]? = some x ∧ ys[i]? = some y ∧ es = [x, y]
  | [], _, _, _, h => by simp [zipL] at h
  | _ :: _, [], _, _, h => by simp [zipL] at h
  | x :: xs, y :: ys, 0, _, h => by simp [zipL] at h; exact ⟨x, y, rfl, rfl, h.symm⟩
  | x :: xs, y :: ys, i + 1, _, h => by
    rw [zipL, List.getElem?_cons_succ] at h
    obtain ⟨a, b, h1, h2, h3⟩ := zipL_get h
    exact ⟨a, b, by simpa using h1, by simpa using h2, h3⟩
def zipL3 : List D → List D → List D → List (List D)
  | x :: xs, y :: ys, z :: zs => [x, y, z] :: zipL3 xs ys zs
  | _, _, _ => []
theorem zipL3_len : ∀ {xs ys zs : List D}, (zipL3 xs ys zs).length = min (min xs.length ys.length) zs.length
  | [], _, _ => by simp [zipL3]
  | _ :: _, [], _ => by simp [zipL3]
  | _ :: _, _ :: _, [] => by simp [zipL3]
  | x :: xs, y :: ys, z :: zs => by
    have := zipL3_len (xs := xs) (ys := ys) (zs := zs)
    simp only [zipL3, List.length_cons, this]; omega
theorem zipL3_get : ∀ {xs ys zs : List D} {i : Nat} {es : List D}, (zipL3 xs ys zs)[i]? = some es → ∃ x y z, xs[i]? = some x ∧ ys[i]? = some y ∧ zs[i]? = some z ∧ es = [x, y, z]
  | [], _, _, _, _, h => by simp [zipL3] at h
  | _ :: _, [], _, _, _, h => by simp [zipL3] at h
  | _ :: _, _ :: _, [], _, _, h => by simp [zipL3] at h
  | x :: xs, y :: ys, z :: zs, 0, _, h => by simp [zipL3] at h; exact ⟨x, y, z, rfl, rfl, rfl, h.symm⟩
  | x :: xs, y :: ys, z :: zs, i + 1, _, h => by
    rw [zipL3, List.getElem?_cons_succ] at h
    obtain ⟨a, b, c, h1, h2, h3, h4⟩ := zipL3_get h
    exact ⟨a, b, c, by simpa using h1, by simpa using h2, by simpa using h3, h4⟩
def zipI2 : List D → Option (List D)
  | [d, e] => (itemsI d).bind fun xs => (itemsI e).map fun ys => (zipL xs ys).map D.row
  | _ => none
def zipI3 : List D → Option (List D)
  | [d, e, f] => (itemsI d).bind fun xs => (itemsI e).bind fun ys => (itemsI f).map fun zs => (zipL3 xs ys zs).map D.row
  | _ => none
def iZp (z : List D → Option (List D)) (fs : FL) : FI := fun ρ S => (fs ρ S).bind fun ds S1 => match z ds with | some ws => .ok ws S1 | none => .bad
theorem zipI2_eq {ds ws : List D} (h : zipI2 ds = some ws) : ∃ d e xs ys, ds = [d, e] ∧ itemsI d = some xs ∧ itemsI e = some ys ∧ ws = (zipL xs ys).map D.row := by
  unfold zipI2 at h
  split at h
  · rename_i d e
    obtain ⟨xs, h1, h⟩ := Option.bind_eq_some_iff.mp h
    obtain ⟨ys, h2, h⟩ := Option.map_eq_some_iff.mp h
    exact ⟨d, e, xs, ys, rfl, h1, h2, h.symm⟩
  · cases h
theorem zipI3_eq {ds ws : List D} (h : zipI3 ds = some ws) : ∃ d e f xs ys zs, ds = [d, e, f] ∧ itemsI d = some xs ∧ itemsI e = some ys ∧ itemsI f = some zs ∧ ws = (zipL3 xs ys zs).map D.row := by
  unfold zipI3 at h
  split at h
  · rename_i d e f
    obtain ⟨xs, h1, h⟩ := Option.bind_eq_some_iff.mp h
    obtain ⟨ys, h2, h⟩ := Option.bind_eq_some_iff.mp h
    obtain ⟨zs, h3, h⟩ := Option.map_eq_some_iff.mp h
    exact ⟨d, e, f, xs, ys, zs, rfl, h1, h2, h3, h.symm⟩
  · cases h
theorem fin_zip {μ : List Addr} {H : Hp} {r : Res (List D)} {R : It → Hp → Prop} {z : List D → Option (List D)} (h : Fin T E (kI T R) μ H (r.bind fun ds S1 => match z ds with | some ws => .ok ws S1 | none => .bad)) :
    Fin T E (kL T fun vs H1 => ∃ ds ws μ1 S1, Rep T μ1 H1 S1 ∧ DVs T μ1 H1 vs ds ∧ z ds = some ws ∧ ∀ J, WalkD T μ1 H1 ws J → R J H1) μ H r :=
  (Fin.bind h).mono fun ds S1 μ1 H1 st1 r1 h1 vs hvs => by
    split at h1
    · rename_i ws hw
      exact ⟨ds, ws, μ1, S1, r1, hvs, hw, h1.ok r1⟩
    · exact h1.elim
theorem di_zip2 {e e2 : Expr} {fs : FL} {elts : List Expr} {kk : Nat} {p pos tpos : Pos} (hK : T.K = X.K) (hg : Gl X "zip") (hm : X.mg "zip" = none) (ha : PA X [e, e2] (tA T E fs)) (hs : starEach [e, e2] X.env = (false, eval e X.env) :: starEach [e2] X.env := by rfl) (hpl : (backTo pos (starEach [e2] X.env)).any (·.1) = false := by rfl) :
    PI X (.Tuple elts kk tpos) (.Call (.Name "zip" p) [e, e2] [] pos) (tI T E (iZp zipI2 fs)) := by
  refine ⟨fun pins s σ H R I ⟨ρ, S, μ, hee, hr, hf⟩ => ?_⟩
  refine Call_ (ld_blt I hg hm PyProof.Rows.boot_zip (PyProof.Rows.callWith_type1 (thn (ha.run pos pins s σ H _ I ⟨ρ, S, μ, hee, hr, fin_zip hf⟩) fun us s1 ⟨vs, H1, I1, rv, ds, ws, μ1, S1, rp, hvs, hw, hR⟩ => ?_) hs hpl))
  · obtain ⟨d1, d2, ys1, ys2, rfl, hd1, hd2, rfl⟩ := zipI2_eq hw
    cases hvs with
    | cons h1 q => cases q with
      | cons h2 q =>
        cases q
        cases rv with
        | cons r1 rr => cases rr with
          | cons r2 rr =>
            cases rr
            obtain ⟨k1, a1, xs1, rfl, q1, hh1, stay1⟩ := items_kd rp h1 hd1
            obtain ⟨k2, a2, xs2, rfl, q2, hh2, stay2⟩ := items_kd rp h2 hd2
            cases r1
            cases r2
            rw [hK] at hh1 stay1 hh2 stay2
            obtain ⟨its1, rv1, p1⟩ := k1.read I1 hh1
            obtain ⟨its2, rv2, p2⟩ := k2.read I1 hh2
            have l1 := k1.lt I1 hh1
            have l2 := k2.lt I1 hh2
            refine zip_begins2 (k1.begins a1 its1.toArray) (k2.begins a2 its2.toArray) p1 p2 fun h' hz hTI hTO o1 o2 hsz hk => wpAny_pyIter_zip hz ?_
            have I2 : Inv X pins σ H1 { s1 with heap := h' } := I1.kept (t' := s1.toks) hk
            refine ⟨s1.heap.objs.size + 4, [s1.heap.objs.size + 4, s1.heap.objs.size + 2, s1.heap.objs.size + 3, s1.heap.objs.size, s1.heap.objs.size + 1], _, _, H1, rfl, I2,
              turn_zip2G (K := X.K) k1 k2 (xs := xs1) (ys := xs2) (zip_sep2 (fp1 := [a1]) (fp2 := [a2]) (by simpa using l1) (by simpa using l2)) (Nat.ne_of_lt l1) (Nat.ne_of_lt (Nat.lt_succ_of_lt l2)), ⟨hz, hTI, ⟨_, _, hTO⟩, k1.at0 o1, k2.at0 o2⟩, fun b hb => fresh_fp I1 b ?_,
              hR _ (walkD_G rp (by rw [zipL_len, q1.length, q2.length]) (fun μ' H' S' st r => ⟨stay1 μ' H' S' st r, stay2 μ' H' S' st r⟩) fun i vs es hes ⟨x, y, hx, hy, ey⟩ => ?_)⟩
            · have e' : b = s1.heap.objs.size + 4 ∨ b = s1.heap.objs.size + 2 ∨ b = s1.heap.objs.size + 3 ∨ b = s1.heap.objs.size ∨ b = s1.heap.objs.size + 1 := by simpa using hb
              rcases e' with z | z | z | z | z <;> rw [z] <;> first | exact Nat.le_add_right _ _ | exact Nat.le_refl _
            · obtain ⟨x', y', e1, e2, rfl⟩ := zipL_get hes
              obtain ⟨d1', f1, g1⟩ := q1.get' hx
              obtain ⟨d2', f2, g2⟩ := q2.get' hy
              rw [e1] at f1; cases f1
              rw [e2] at f2; cases f2
              rw [ey]
              exact .cons g1 (.cons g2 .nil)
theorem di_zip3 {e e2 e3 : Expr} {fs : FL} {elts : List Expr} {kk : Nat} {p pos tpos : Pos} (hK : T.K = X.K) (hg : Gl X "zip") (hm : X.mg "zip" = none) (ha : PA X [e, e2, e3] (tA T E fs)) (hs : starEach [e, e2, e3] X.env = (false, eval e X.env) :: starEach [e2, e3] X.env := by rfl) (hpl : (backTo pos (starEach [e2, e3] X.env)).any (·.1) = false := by rfl) :
    PI X (.Tuple elts kk tpos) (.Call (.Name "zip" p) [e, e2, e3] [] pos) (tI T E (iZp zipI3 fs)) := by
  refine ⟨fun pins s σ H R I ⟨ρ, S, μ, hee, hr, hf⟩ => ?_⟩
  refine Call_ (ld_blt I hg hm PyProof.Rows.boot_zip (PyProof.Rows.callWith_type1 (thn (ha.run pos pins s σ H _ I ⟨ρ, S, μ, hee, hr, fin_zip hf⟩) fun us s1 ⟨vs, H1, I1, rv, ds, ws, μ1, S1, rp, hvs, hw, hR⟩ => ?_) hs hpl))
  · obtain ⟨d1, d2, d3, ys1, ys2, ys3, rfl, hd1, hd2, hd3, rfl⟩ := zipI3_eq hw
    cases hvs with
    | cons h1 q => cases q with
      | cons h2 q => cases q with
        | cons h3 q =>
          cases q
          cases rv with
          | cons r1 rr => cases rr with
            | cons r2 rr => cases rr with
              | cons r3 rr =>
                cases rr
                obtain ⟨k1, a1, xs1, rfl, q1, hh1, stay1⟩ := items_kd rp h1 hd1
                obtain ⟨k2, a2, xs2, rfl, q2, hh2, stay2⟩ := items_kd rp h2 hd2
                obtain ⟨k3, a3, xs3, rfl, q3, hh3, stay3⟩ := items_kd rp h3 hd3
                cases r1
                cases r2
                cases r3
                rw [hK] at hh1 stay1 hh2 stay2 hh3 stay3
                obtain ⟨its1, rv1, p1⟩ := k1.read I1 hh1
                obtain ⟨its2, rv2, p2⟩ := k2.read I1 hh2
                obtain ⟨its3, rv3, p3⟩ := k3.read I1 hh3
                have l1 := k1.lt I1 hh1
                have l2 := k2.lt I1 hh2
                have l3 := k3.lt I1 hh3
                refine zip_begins3 (k1.begins a1 its1.toArray) (k2.begins a2 its2.toArray) (k3.begins a3 its3.toArray) p1 p2 p3 fun h' hz hTI hTO o1 o2 o3 hsz hk => wpAny_pyIter_zip hz ?_
                have I2 : Inv X pins σ H1 { s1 with heap := h' } := I1.kept (t' := s1.toks) hk
                refine ⟨s1.heap.objs.size + 5, [s1.heap.objs.size + 5, s1.heap.objs.size + 3, s1.heap.objs.size + 4, s1.heap.objs.size, s1.heap.objs.size + 1, s1.heap.objs.size + 2], _, _, H1, rfl, I2,
                  turn_zip3G (K := X.K) k1 k2 k3 (xs := xs1) (ys := xs2) (zs := xs3) (zip_sep3 (fp1 := [a1]) (fp2 := [a2]) (fp3 := [a3]) (by simpa using l1) (by simpa using l2) (by simpa using l3)) (Nat.ne_of_lt l1) (Nat.ne_of_lt (Nat.lt_succ_of_lt l2)) (Nat.ne_of_lt (Nat.lt_succ_of_lt (Nat.lt_succ_of_lt l3))),
                  ⟨hz, hTI, ⟨_, _, _, hTO⟩, k1.at0 o1, k2.at0 o2, k3.at0 o3⟩, fun b hb => fresh_fp I1 b ?_,
                  hR _ (walkD_G rp (by rw [zipL3_len, q1.length, q2.length, q3.length]) (fun μ' H' S' st r => ⟨stay1 μ' H' S' st r, stay2 μ' H' S' st r, stay3 μ' H' S' st r⟩) fun i vs es hes ⟨x, y, z, hx, hy, hz, ey⟩ => ?_)⟩
                · have e' : b = s1.heap.objs.size + 5 ∨ b = s1.heap.objs.size + 3 ∨ b = s1.heap.objs.size + 4 ∨ b = s1.heap.objs.size ∨ b = s1.heap.objs.size + 1 ∨ b = s1.heap.objs.size + 2 := by simpa using hb
                  rcases e' with z | z | z | z | z | z <;> rw [z] <;> first | exact Nat.le_add_right _ _ | exact Nat.le_refl _
                · obtain ⟨x', y', z', e1, e2, e3, rfl⟩ := zipL3_get hes
                  obtain ⟨d1', f1, g1⟩ := q1.get' hx
                  obtain ⟨d2', f2, g2⟩ := q2.get' hy
                  obtain ⟨d3', f3, g3⟩ := q3.get' hz
                  rw [e1] at f1; cases f1
                  rw [e2] at f2; cases f2
                  rw [e3] at f3; cases f3
                  rw [ey]
                  exact .cons g1 (.cons g2 (.cons g3 .nil))
end
end DL

set_option Elab.async false
set_option linter.all false
set_option maxRecDepth 100000
set_option maxHeartbeats 4000000
/-! DL12: list comprehensions. -/
namespace DL
open PySem PySem.Spec PyProof.Rows L2

def NX : XK := fun _ _ _ => False
/-- no exception is let out -/
def Res.noX {α : Type} : Res α → Res α | .exc _ _ _ => .bad | r => r
theorem Fin.noX {T : Tb} {α : Type} {k : α → Store → List Addr → Hp → Prop} {E : XK} {μ : List Addr} {H : Hp} {r : Res α} (h : Fin T E k μ H r.noX) : Fin T NX k μ H r := by
  cases r with
  | ok a S => exact h
  | exc c fs S => exact h.elim
  | bad => exact h.elim
def wipeE (ρ : Ev) : List Nat → Ev
  | [] => ρ
  | v :: vs => (wipeE ρ vs).set v none
theorem EnvR.clear {T : Tb} {μ : List Addr} {H : Hp} {σ : L2.St} {ρ : Ev} {i : Nat} (e : EnvR T μ H σ ρ) : EnvR T μ H (σ.set i none) (ρ.set i none) := by
  refine ⟨by rw [List.length_set, List.length_set, e.len], fun j d' hj => ?_⟩
  by_cases q : i = j
  · subst q
    have hi : i < ρ.length := by
      have := (List.getElem?_eq_some_iff.mp hj).1
      rwa [List.length_set] at this
    rw [List.getElem?_set_self hi] at hj
    cases hj
  · rw [List.getElem?_set_ne q] at hj ⊢
    exact e.at_ j d' hj
theorem EnvR.wipe {T : Tb} {μ : List Addr} {H : Hp} {σ : L2.St} {ρ : Ev} (e : EnvR T μ H σ ρ) : ∀ vs : List Nat, EnvR T μ H (L2.wipe σ vs) (wipeE ρ vs)
  | [] => e
  | v :: vs => (EnvR.wipe e vs).clear
theorem wipe_get {σ : L2.St} {j : Nat} : ∀ {vs : List Nat}, j ∈ vs → (L2.wipe σ vs)[j]? = if j < σ.length then some none else none
  | [], h => by cases h
  | v :: vs, h => by
    show ((L2.wipe σ vs).set v none)[j]? = _
    by_cases e : v = j
    · subst e
      by_cases hl : v < σ.length
      · rw [List.getElem?_set_self (by rw [L2.wipe_length]; exact hl), if_pos hl]
      · rw [List.getElem?_eq_none (by rw [List.length_set, L2.wipe_length]; omega), if_neg hl]
    · rw [List.getElem?_set_ne e]
      rcases List.mem_cons.mp h with q | q
      · exact absurd q.symm e
      · exact wipe_get q
theorem wipe_out' {σ : L2.St} {j : Nat} : ∀ {vs : List Nat}, j ∉ vs → (L2.wipe σ vs)[j]? = σ[j]?
  | [], _ => rfl
  | v :: vs, h => by
    show ((L2.wipe σ vs).set v none)[j]? = _
    rw [List.getElem?_set_ne fun e => h (by rw [e]; exact List.mem_cons_self)]
    exact wipe_out' fun q => h (List.mem_cons_of_mem _ q)
theorem wipe_eq {σ σ' : L2.St} {vs : List Nat} (hl : σ.length = σ'.length) (h : ∀ j, j ∉ vs → σ[j]? = σ'[j]?) : L2.wipe σ vs = L2.wipe σ' vs := by
  refine List.ext_getElem? fun j => ?_
  by_cases hj : j ∈ vs
  · rw [wipe_get hj, wipe_get hj, hl]
  · rw [wipe_out' hj, wipe_out' hj, h j hj]
theorem wipe_wipe {σ : L2.St} {vs : List Nat} : L2.wipe (L2.wipe σ vs) vs = L2.wipe σ vs := wipe_eq (L2.wipe_length _ _) fun j hj => wipe_out' hj
theorem wipe_set' {σ : L2.St} {vs : List Nat} {i : Nat} {x : Option V} (hi : i ∈ vs) : L2.wipe (σ.set i x) vs = L2.wipe σ vs :=
  wipe_eq (List.length_set ..) fun j hj => List.getElem?_set_ne fun e => hj (by rw [← e]; exact hi)

/-! ### a comprehension's target -/
abbrev FC := D → Ev → Option Ev
abbrev FCs := List D → Ev → Option Ev
def GOk (T : Tb) (g : TG) (p : FC) (vs : List Nat) : Prop := ∀ (v : V) (d : D) (σ : L2.St) (ρ ρ1 : Ev) (μ : List Addr) (H : Hp) (Q : L2.St → Hp → Prop), EnvR T μ H σ ρ → DV T μ H v d → p d ρ = some ρ1 →
  (∀ σ1, EnvR T μ H σ1 ρ1 → L2.wipe σ1 vs = L2.wipe σ vs → Q σ1 H) → g v σ H Q
def GsOk (T : Tb) (g : TGs) (p : FCs) (vs : List Nat) : Prop := ∀ (xs : List V) (ds : List D) (σ : L2.St) (ρ ρ1 : Ev) (μ : List Addr) (H : Hp) (Q : L2.St → Hp → Prop), EnvR T μ H σ ρ → DVs T μ H xs ds → p ds ρ = some ρ1 →
  (∀ σ1, EnvR T μ H σ1 ρ1 → L2.wipe σ1 vs = L2.wipe σ vs → Q σ1 H) → g xs σ H Q
def cName (i : Nat) : FC := fun d ρ => match d with | .row _ => none | d => some (ρ.set i (some d))
def cNil : FCs := fun ds ρ => match ds with | [] => some ρ | _ => none
def cCons (p : FC) (q : FCs) : FCs := fun ds ρ => match ds with | d :: r => (p d ρ).bind (q r) | [] => none
def cTup (n : Nat) (q : FCs) : FC := fun d ρ => match d with
  | .tup ds => if ds.length = n then q ds ρ else none
  | .row ds => if ds.length = n then q ds ρ else none
  | _ => none
theorem gok_name {T : Tb} {i : Nat} {vs : List Nat} (hi : i ∈ vs) : GOk T (gName i) (cName i) vs := fun v d σ ρ ρ1 μ H Q he hv hp hq => by
  unfold cName at hp
  split at hp
  · cases hp
  · cases hp; exact hq _ (he.set hv) (wipe_set' hi)
theorem gok_nil {T : Tb} {vs : List Nat} : GsOk T gNil cNil vs := fun xs ds σ ρ ρ1 μ H Q he hv hp hq => by
  unfold cNil at hp
  split at hp
  · cases hp; cases hv; exact ⟨rfl, hq _ he rfl⟩
  · cases hp
theorem gok_cons {T : Tb} {g : TG} {gs : TGs} {p : FC} {q : FCs} {vs : List Nat} (h1 : GOk T g p vs) (h2 : GsOk T gs q vs) : GsOk T (gCons g gs) (cCons p q) vs := fun xs ds σ ρ ρ1 μ H Q he hv hp hq => by
  unfold cCons at hp
  split at hp
  · cases hv with
    | cons r rr =>
      obtain ⟨ρ2, e1, e2⟩ := Option.bind_eq_some_iff.mp hp
      exact ⟨_, _, rfl, h1 _ _ σ ρ ρ2 μ H _ he r e1 fun σ1 he1 hw1 => h2 _ _ σ1 ρ2 ρ1 μ H Q he1 rr e2 fun σ2 he2 hw2 => hq σ2 he2 (hw2.trans hw1)⟩
  · cases hp
theorem gok_tup {T : Tb} {K : PySem.W.Frag} {n : Nat} {gs : TGs} {q : FCs} {vs : List Nat} (hK : T.K = K) (h : GsOk T gs q vs) : GOk T (L2.gTup K n gs) (cTup n q) vs := fun v d σ ρ ρ1 μ H Q he hv hp hq => by
  unfold cTup at hp
  split at hp
  · split at hp
    · rename_i hl
      cases hv with
      | tup s r => exact ⟨_, _, rfl, hK ▸ s.sq, r.length.trans hl, h _ _ σ ρ ρ1 μ H Q he r hp hq⟩
    · cases hp
  · split at hp
    · rename_i hl
      cases hv with
      | row s r => exact ⟨_, _, rfl, hK ▸ s, r.length.trans hl, h _ _ σ ρ ρ1 μ H Q he r hp hq⟩
    · cases hp
  · cases hp

/-! ### the loop -/
def fYes : FT := fun _ S => .ok true S
def appendTo (n : Nat) (y : D) (S : Store) : Option Store := match S[n]? with
  | some (.lst acc) => if pur y = true ∧ acc.length < lineN then some (S.set n (.lst (acc ++ [y]))) else none
  | _ => none
/-- the turns of a comprehension; the new list stands at n in the store -/
def lcRun (n : Nat) (p : FC) (t : FT) (e : FE) (ρ : Ev) : List D → Store → Res D
  | [], S => match S[n]? with | some (.lst acc) => .ok (.lst acc) (S.take n) | _ => .bad
  | d :: ds, S => match p d ρ with
    | none => .bad
    | some ρ1 => (t ρ1 S).noX.bind fun b S1 => if b = true then (e ρ1 S1).noX.bind fun y S2 => (match appendTo n y S2 with | some S3 => lcRun n p t e ρ ds S3 | none => .bad) else lcRun n p t e ρ ds S1
def fLc (vs : List Nat) (fi : FI) (p : FC) (t : FT) (e : FE) : FE := fun ρ S => (fi ρ S).bind fun ds S1 => lcRun S1.length p t e (wipeE ρ vs) ds (S1 ++ [.lst []])
section
variable {X : Cx} {T : Tb} {E : XK} {k : Nat}
theorem purL_append : ∀ {xs ys : List D}, purL (xs ++ ys) = (purL xs && purL ys)
  | [], ys => rfl
  | x :: xs, ys => by
    show (pur x && purL (xs ++ ys)) = ((pur x && purL xs) && purL ys)
    rw [purL_append, Bool.and_assoc]
theorem fin_noX {α β : Type} {kk : β → Store → List Addr → Hp → Prop} {μ0 μ : List Addr} {H0 H : Hp} {r : Res α} {f : α → Store → Res β} (h : Fin T E kk μ0 H0 (r.noX.bind f)) :
    Fin T NX (fun a S1 _ _ => Fin T E kk μ0 H0 (f a S1)) μ H r := by
  cases r with
  | ok a S => exact fun _ _ _ _ => h
  | exc c fs S => exact h.elim
  | bad => exact h.elim
theorem fin_noXE {α β : Type} {E' : XK} {kk : β → Store → List Addr → Hp → Prop} {μ0 μ : List Addr} {H0 H : Hp} {r : Res α} {f : α → Store → Res β} (h : Fin T E kk μ0 H0 (r.noX.bind f)) :
    Fin T E' (fun a S1 _ _ => Fin T E kk μ0 H0 (f a S1)) μ H r := by
  cases r with
  | ok a S => exact fun _ _ _ _ => h
  | exc c fs S => exact h.elim
  | bad => exact h.elim
theorem lc_weak {vs : List Nat} {fi : FI} {g : TG} {p : FC} {tt : TT} {ft : FT} {fe : FE} {E' : XK} (hg : GOk T g p vs) (hT : ∀ σ H Q, tT T E' ft σ H Q → tt σ H Q) : ∀ σ H Q, tE T E (fLc vs fi p ft fe) σ H Q → tLc (tI T E fi) g tt (tE T E' fe) vs σ H Q :=
  fun σ H Q ⟨ρ, S, μ, he, hr, hf⟩ => ⟨ρ, S, μ, he, hr, (Fin.bind hf).mono fun ds S1 μ1 H1 st1 r1 h1 J W => fun D hD => by
    have he1 := he.step st1 hr.r0
    have stA : Step μ1 H1 (μ1 ++ [D]) (upd H1 D (.lst [])) := Step.add hD
    refine ⟨fun i m H' => m = ds.length - i ∧ i ≤ ds.length ∧ ∃ S' μ', Step (μ1 ++ [D]) (upd H1 D (.lst [])) μ' H' ∧ Rep T μ' H' S' ∧ Fin T E (kD T Q) μ1 H1 (lcRun S1.length p ft fe (wipeE ρ vs) (ds.drop i) S'), ⟨ds.length, rfl, Nat.zero_le _, _, _, Step.refl _ _, r1.addL hD rfl .nil, h1⟩, ?_⟩
    have atD : ∀ {μ' H'}, Step (μ1 ++ [D]) (upd H1 D (.lst [])) μ' H' → μ'[S1.length]? = some D := fun {μ' H'} st => by
      obtain ⟨m, e, _⟩ := st.more
      rw [e, ← r1.len, List.getElem?_append_left (by simp), List.getElem?_append_right (Nat.le_refl _), Nat.sub_self]
      rfl
    have nD : D ∉ μ1 := fun hm => by
      obtain ⟨u, e, _⟩ := r1.r0.mu D hm
      rw [hD] at e; cases e
    rintro i m H' ⟨rfl, hi, S', μ', st, rp, hl⟩
    have stT := stA.trans st
    by_cases hlt : i < ds.length
    · refine .inr ⟨W.goes i μ' H' S' hlt stT rp, fun H'' => ∃ S' μ'', Step (μ1 ++ [D]) (upd H1 D (.lst [])) μ'' H'' ∧ Rep T μ'' H'' S' ∧ Fin T E (kD T Q) μ1 H1 (lcRun S1.length p ft fe (wipeE ρ vs) (ds.drop (i + 1)) S'), fun H'' q => ⟨ds.length - (i + 1), by omega, rfl, hlt, q⟩, fun x H'' y => ?_⟩
      obtain ⟨st2, rp2, d, hd, hv⟩ := W.yields i μ' H' S' x H'' hlt stT rp y
      have ed : ds.drop i = d :: ds.drop (i + 1) := by
        rw [List.drop_eq_getElem_cons hlt]
        rw [List.getElem?_eq_getElem hlt] at hd
        rw [Option.some.inj hd]
      rw [ed] at hl
      unfold lcRun at hl
      split at hl
      · exact hl.elim
      · rename_i ρ1 hp
        refine hg x d _ _ ρ1 μ' H'' _ (((he1.step stT r1.r0).step st2 rp.r0).wipe vs) hv hp fun σ1 he2 hw => ⟨hw.trans wipe_wipe, hT _ _ _ ⟨ρ1, S', μ', he2, rp2, (fin_noXE hl).mono fun b S2 μ2 H2 st3 rp3 h3 => ?_⟩⟩
        have stB := (st.trans st2).trans st3
        cases b with
        | false =>
          rw [if_neg Bool.false_ne_true] at h3
          exact iteF ⟨S2, μ2, stB, rp3, h3⟩
        | true =>
          rw [if_pos rfl] at h3
          refine iteT ⟨ρ1, S2, μ2, he2.step st3 rp2.r0, rp3, (fin_noXE h3).mono fun yd S3 μ3 H3 st4 rp4 h4 yv hyv => ?_⟩
          have stC := stB.trans st4
          split at h4
          · rename_i S4 ha
            unfold appendTo at ha
            split at ha
            · rename_i acc hacc
              split at ha
              · rename_i hc
                cases ha
                have eD := atD stC
                obtain ⟨pp, xs, e1, q1⟩ := rp4.ob _ _ _ eD hacc
                have hm : D ∈ μ3 := List.mem_of_getElem? eD
                have st5 : Step μ3 H3 μ3 (upd H3 D (.lst (xs ++ [yv]))) := Step.put e1 hm (.inl ⟨_, rfl⟩)
                refine ⟨xs, e1, by rw [q1.length]; exact lineN_lt hc.2, _, μ3, stC.trans st5, rp4.putL eD ?_ (q1.append (.cons hyv .nil)), h4⟩
                rw [purL_append, pp]
                show (true && (pur yd && true)) = true
                rw [hc.1]; rfl
              · cases ha
            · cases ha
          · exact h4.elim
    · have e : i = ds.length := by omega
      subst e
      rw [List.drop_length] at hl
      unfold lcRun at hl
      split at hl
      · rename_i acc hacc
        obtain ⟨pp, xs, e1, q1⟩ := rp.ob _ _ _ (atD st) hacc
        exact .inl ⟨W.stops μ' H' S' stT rp, hl.at stT.cut (r1.cutS stT rp) (.ref D) (.lst e1 nD (q1.less stT.sub pp))⟩
      · exact hl.elim⟩
theorem tt_yes {E' : XK} : ∀ σ H Q, tT T E' fYes σ H Q → tYes σ H Q := fun σ H Q ⟨ρ, S, μ, he, hr, hf⟩ => hf.ok hr
theorem tt_of {E' : XK} {ft : FT} : ∀ σ H Q, tT T E' ft σ H Q → tT T E' ft σ H Q := fun _ _ _ h => h
theorem de_lc {elt tg iter : Expr} {ifs : List Expr} {scope : Scope} {own : List (Str × Nat)} {pos : Pos} {fi : FI} {g : TG} {p : FC} {tt : TT} {ft : FT} {fe : FE} (hc : X.calm = true) (hN : X.N.Nodup) (hi : PI X tg iter (tI T E fi)) (ok : BlkOk X.N X.env.scope scope own)
    (hgo : GOk T g p (own.map (·.2))) (hT : ∀ σ H Q, tT T NX ft σ H Q → tt σ H Q)
    (hg : ∀ (s : Shared) (H : Hp) (C : Addr) (cl : List (Str × Addr)) (fp : List Addr), PG (X.blk s H scope (compEnvC scope cl C X.env) fp) tg g) (ht : ∀ (s : Shared) (H : Hp) (C : Addr) (cl : List (Str × Addr)) (fp : List Addr), PTs (X.blk s H scope (compEnvC scope cl C X.env) fp) ifs tt)
    (he : ∀ (s : Shared) (H : Hp) (C : Addr) (cl : List (Str × Addr)) (fp : List Addr), PE (X.blk s H scope (compEnvC scope cl C X.env) fp) elt (tE T NX fe)) (hs : ∀ x, foldedSetIterable iter X.env x = Pure.pure x := by intro _; rfl) :
    PE X (.ListComp elt [⟨tg, iter, ifs, 0⟩] scope pos) (tE T E (fLc (own.map (·.2)) fi p ft fe)) := peW (pe_lc hc hN hi ok hg ht he hs) (lc_weak hgo hT)
theorem ds_setLc {i : Nat} {y : Str} {py : Pos} {elt tg iter : Expr} {ifs : List Expr} {scope : Scope} {own : List (Str × Nat)} {pos spos : Pos} {fi : FI} {g : TG} {p : FC} {tt : TT} {ft : FT} {fe : FE} (hc : X.calm = true) (hN : X.N.Nodup) (hy : X.N[i]? = some y) (hyl : X.env.scope.names.lookup y = some .local)
    (hsw : swapsWith (.ListComp elt [⟨tg, iter, ifs, 0⟩] scope pos) (some (.Name y py)) spos.line X.env = Pure.pure true) (hi : PI X tg iter (tI T E fi)) (ok : BlkOk X.N X.env.scope scope own)
    (hgo : GOk T g p (own.map (·.2))) (hT : ∀ σ H Q, tT T NX ft σ H Q → tt σ H Q)
    (hg : ∀ (s : Shared) (H : Hp) (C : Addr) (cl : List (Str × Addr)) (fp : List Addr), PG (X.blk s H scope (compEnvC scope cl C X.env) fp) tg g) (ht : ∀ (s : Shared) (H : Hp) (C : Addr) (cl : List (Str × Addr)) (fp : List Addr), PTs (X.blk s H scope (compEnvC scope cl C X.env) fp) ifs tt)
    (he : ∀ (s : Shared) (H : Hp) (C : Addr) (cl : List (Str × Addr)) (fp : List Addr), PE (X.blk s H scope (compEnvC scope cl C X.env) fp) elt (tE T NX fe)) (hs : ∀ x, foldedSetIterable iter X.env x = Pure.pure x := by intro _; rfl) :
    PS X (.Assign [.Name y py] (.ListComp elt [⟨tg, iter, ifs, 0⟩] scope pos) spos) (tS T E (sAsg (fLc (own.map (·.2)) fi p ft fe) (pName i))) :=
  ds_set (psW (ps_setLc hc hN hy hyl hsw hi ok hg ht he hs) fun D σ H q => lc_weak hgo hT σ H _ q)
end
end DL

set_option Elab.async false
set_option linter.all false
set_option maxRecDepth 100000
set_option maxHeartbeats 4000000
/-! DL13: an own error over ValueError whose own init says super().__init__(a text) first. -/
namespace DL
open PySem PySem.Spec PyProof.Rows L2

/-! ### the bound init at the machine's level -/
section
open PySem.W
variable {prog : Program} {w : World} {A : Around} {E : Value → Shared → Prop} {h : Heap} {g : Array GenState} {d : Drawn} {t : Nat} {os : OsState}
theorem call_bound_ve {nm q : Str} {C N : Addr} {bs bm : List Value} {hdct : Bool} {sn : List Str} {sub : List Value} {ab : Bool} {col : Option Bool} {dd : Option Addr} {k0 k1 k2 k3 k5 : Option Value} {u e t0 : Addr} {rest : List Value} {Q : Value → Shared → Prop}
    (hC : h.get? C = some (excClassObj nm q C N bs bm hdct sn sub ab col dd k0 k1 k2 k3 k5 "ValueError.__new__")) (he : h.get? e = some (excRec (.ref C) t0 none .none .none (.bool false))) (hu : h.get? u = some (kxs_mw "ValueError.__init__" e)) (hrest : rest.length ≤ sizeLine)
    (hq : ∀ h' t1, (∀ b o, b ≠ e → h.get? b = some o → h'.get? b = some o) → h'.get? e = some (excRec (.ref C) t1 none .none .none (.bool false)) → Q .none ⟨h', g, d, t, os⟩) :
    wpAny (model prog w) A (call (.ref u) rest) Q E ⟨h, g, d, t, os⟩ := by
  refine wpAny_call (codeAny_of_tree ?_)
  show wpAny _ A.in1 (callAny (.ref u) ⟨rest, []⟩) _ _ _
  unfold callAny
  simp only []
  refine wpAny_bind (wpAny_load hu ?_)
  simp only [kxs_mw]
  refine KFB.if_so (by decide) (wpAny_bind (check_bound_init F.excBase_ValueError.toExcCallFacts hC he rfl (wpAny_bind (wpAny_pure (wpAny_pure ⟨plainId_quiet F.excBase_ValueError.init.plain _, codeAny_builtin F.excBase_ValueError.initEntry ?_⟩)))))
  exact exc_init_tree he hrest fun h' k e' _ => hq h' _ k e'
end

/-! ### the def's context -/
/-- the context of an init that says super() -/
def cxI (P : Program) (w : World) (K : PySem.W.Frag) (mg : Str → Option Value) (base : Heap) (N : List Str) (qual : Str) (scope : Scope) (f : Addr) (cd : Value) (cc : Addr) (A : Around) (outer : List Env) (s : Shared) (H : Hp) (E : XK) : Cx where
  prog := P
  w := w
  K := K
  mg := mg
  base := base
  A := A.deeper (PySem.W.ksEnv qual scope s.heap.objs.size f cd cc)
  N := N
  s_0 := s
  H_0 := H
  env := PySem.W.ksEnv qual scope s.heap.objs.size f cd cc
  outer := outer
  stack := PySem.W.ksEnv qual scope s.heap.objs.size f cd cc :: outer
  ex := []
  calm := true
  fn := fun _ => false
  pn := []
  xe := fun e s' => wpAny (model P w) (A.deeper (PySem.W.ksEnv qual scope s.heap.objs.size f cd cc)) (leaving (PySem.W.ksEnv qual scope s.heap.objs.size f cd cc) e) (fun _ s'' => L2.CX P w outer H s E e s'') (fun e' s'' => L2.CX P w outer H s E e' s'') s'
/-- what a look at its scope tells -/
structure InitScope (N ps : List Str) (sc : Scope) : Prop where
  kind : sc.kind = .function
  co : sc.isCoroutine = false
  gen : sc.isGenerator = false
  nd : N.Nodup
  pre : N = ps
  par : ∀ x ∈ ps, sc.names.lookup x = some .local
  nocell : ∀ y ∈ sc.names, y.2 ≠ .cell
  free : ∀ y ∈ sc.names, y.2 = .free → y.1 = ("__class__" : Str)
  sup : sc.names.lookup ("super" : Str) = some .globalImplicit
  cls : sc.names.lookup ("__class__" : Str) = some .free
theorem look_rev {α : Type} {x : Str} {u : α} : ∀ {l : List (Str × α)}, (l.map (·.1)).Nodup → (x, u) ∈ l → l.reverse.lookup x = some u
  | [], _, h => by cases h
  | p :: l, nd, h => by
    rw [List.reverse_cons, List.lookup_append]
    have nd' := List.nodup_cons.mp (show (p.1 :: l.map (·.1)).Nodup from nd)
    rcases List.mem_cons.mp h with e | h
    · subst e
      have hn : l.reverse.lookup x = none := by
        rw [List.lookup_eq_none_iff]
        intro q hq
        have hq' : q ∈ l := List.mem_reverse.mp hq
        have hne : x ≠ q.1 := fun e => by
          have hm : q.1 ∈ l.map (·.1) := List.mem_map_of_mem hq'
          rw [← e] at hm
          exact nd'.1 hm
        simpa using hne
      rw [hn]
      simp
    · rw [look_rev nd'.2 h]
      rfl
theorem zip_keys {α : Type} : ∀ {ps : List Str} {us : List α}, ps.length = us.length → (ps.zip us).map (·.1) = ps
  | [], _, _ => by simp
  | p :: ps, u :: us, h => by simp [zip_keys (ps := ps) (us := us) (by simpa using h)]
  | _ :: _, [], h => by simp at h
theorem inv_startI {P : Program} {w : World} {K : PySem.W.Frag} {mg : Str → Option Value} {base : Heap} {N ps : List Str} {qual : Str} {scope : Scope} {f cc : Addr} {cd : Value} {A : Around} {outer : List Env} {s : Shared} {h1 : Heap} {tk : Nat} {H : Hp} {E : XK} {us : List Value} {vs : List V} {oc : Obj} {cv : Option Value}
    (S : InitScope N ps scope) (hd : A.handled = none) (e0 : Env0 P w K mg base A outer s H) (r : Vals vs us) (hl : vs.length = ps.length) (hcc : K.lookup cc = some oc) (hcd : oc.data = .cell cv)
    (hns : h1.Ns s.heap.objs.size (fun x => (ps.zip us).reverse.lookup x)) (hk : ∀ b o, s.heap.get? b = some o → h1.get? b = some o) :
    Inv (cxI P w K mg base N qual scope f cd cc A outer s H E) [] (vs.map some) H { s with heap := h1, toks := tk } := by
  have noA : ∀ b : Addr, b ∉ (cxI P w K mg base N qual scope f cd cc A outer s H E).ex := fun b z => absurd (show b ∈ ([] : List Addr) from z) (by simp)
  have cls : ∀ x c, (cxI P w K mg base N qual scope f cd cc A outer s H E).env.cells.lookup x = some c → x = ("__class__" : Str) ∧ c = cc := fun x c h => by
    have h : ([(("__class__" : Str), cc)] : List (Str × Addr)).lookup x = some c := h
    have q := PySem.mem_of_lookup h
    have q := List.mem_singleton.mp q
    cases q
    exact ⟨rfl, rfl⟩
  have bcc := e0.mod.kin _ _ hcc
  have ndP : ps.Nodup := by rw [← S.pre]; exact S.nd
  refine ⟨⟨e0.mod, S.kind, rfl, rfl, Nat.le_refl _, fun y z c h1 h2 => ?_, fun y hy => ?_, fun y c h _ => ?_, fun _ => hd, Around.frames_deeper e0.frames, .inr ⟨rfl, rfl⟩, fun b z => absurd z (noA b), e0.bs, e0.bsz, fun b _ _ => noA b, fun b z => absurd z (noA b), e0.funs, e0.frf⟩,
    rfl, e0.bare, Un.kept hk, ⟨_, hns, fun i y v h1 h2 h3 => ?_⟩, fun y c h => ?_, e0.hok.fresh (Nat.le_refl _), fun y c h => ?_, fun p hp => absurd (show p ∈ ([] : List (Addr × Obj)) from hp) (by simp), e0.hok.kept hk, ?_⟩
  · rw [(cls y c h1).1, (cls z c h2).1]
  · have hy : scope.names.lookup y = some .cell ∨ scope.names.lookup y = some .free := hy
    rcases hy with hy | hy
    · exact absurd rfl (S.nocell _ (PySem.mem_of_lookup hy))
    · refine ⟨cc, ?_⟩
      have := S.free _ (PySem.mem_of_lookup hy) rfl
      subst this
      show ([(("__class__" : Str), cc)] : List (Str × Addr)).lookup _ = _
      simp
  · cases h
  · rw [List.getElem?_map] at h2
    cases e : vs[i]? with
    | none => rw [e] at h2; cases h2
    | some a =>
      rw [e] at h2
      cases h2
      obtain ⟨u, hu, rv⟩ := r.get e
      have hp : ps[i]? = some y := by rw [← S.pre]; exact h1
      refine ⟨u, rv, .inl ⟨S.par y (List.mem_of_getElem? hp), ?_⟩⟩
      refine look_rev ?_ ?_
      · rw [zip_keys (by rw [← hl]; exact r.length)]; exact ndP
      · refine List.mem_of_getElem? (i := i) ?_
        rw [List.getElem?_zip_eq_some]
        exact ⟨hp, hu⟩
  · have ec := (cls y c h).2
    subst ec
    exact ⟨cv, oc, hk _ _ (e0.bs _ _ bcc).1, hcd⟩
  · rw [(cls y c h).2]
    exact (e0.bs _ _ bcc).2
  · show (vs.map some).length = N.length
    rw [List.length_map, hl, S.pre]
end DL

set_option Elab.async false
set_option linter.all false
set_option maxRecDepth 100000
set_option maxHeartbeats 4000000
/-! DL14: super().__init__(a text) as the first statement; the rule for such an init. -/
namespace DL
open PySem PySem.Spec PyProof.Rows L2

/-- what the written part says of the class at C and of its init at f, whose cell of the class is cc -/
structure SupF (P : Program) (K : PySem.W.Frag) (mg : Str → Option Value) (C f cc cda : Addr) (fd : FuncData) (me : Str) : Prop where
  ox : OexC K C
  lkf : ∃ oc od osl, K.lookup f = some ⟨oc, od, .func fd, osl⟩
  par : ∃ ar : Arg, (fd.params.posonlyargs ++ fd.params.args).head? = some ar ∧ ar.arg = me
  code : ∃ (ccl : Value) (cdd : Option Addr) (vs : Array Value) (ccs : Array (Option Value)) (file : Str) (tf : Tok), K.lookup cda = some ⟨ccl, cdd, .fields vs, ccs⟩ ∧ vs[2]? = some (.str file tf) ∧ ((P.main.file : Str) == file) = true
  cell : ∃ cl cld csl, K.lookup cc = some ⟨cl, cld, .cell (some (.ref C)), csl⟩
  sub : PySem.W.mroIn K C (.ref C) = some true
  sup : PySem.W.ks_superIn K C C "__init__" = some (some (.builtin "ValueError.__init__"))
  ve : PySem.W.subIn K (.ref C) (.type "ValueError") = some true
  any : PySem.W.nsIn K cStatics "thirdparty.any" = some none
  ms : mg "super" = none
  top : (P.main.scope.names.lookup ("super" : Str)).isSome = false

section
open PySem.W
variable {P : Program} {w : World} {K : PySem.W.Frag} {mg : Str → Option Value} {base : Heap} {N ps : List Str} {qual self : Str} {scope : Scope} {f cc cda C a : Addr} {A : Around} {outer : List Env} {s0 s : Shared} {H0 H : Hp} {E : XK} {fd : FuncData} {σ : L2.St}
theorem super_init {body : List Stmt} {p0 p1 p2 p3 p4 : Pos} {txt : Str} {j : Nat} {X : Cx} (eX : X = cxI P w K mg base N qual scope f (.ref cda) cc A outer s0 H0 E) (S : InitScope N ps scope) (F : SupF P K mg C f cc cda fd self) (h0 : N[0]? = some self)
    (I : Inv X [] σ H s) (hσ : σ[0]? = some (some (.ref a))) (ea : H a = some (exo a C none)) {Q : Value → Shared → Prop} {pl : Sem Bool} (hq : ∀ u s', Inv X [] σ H s' → Q u s')
    (he : ∀ env : Env, eval (.Call (.Attribute (.Call (.Name "super" p0) [] [] p1) "__init__" p2) [.Constant (.str txt) j p3] [] p4) env = (do
      let ov ← attributeBase (.Call (.Name "super" p0) [] [] p1) "__init__" env (eval (.Call (.Name "super" p0) [] [] p1) env)
      standAt p2.atName
      let (f, first) ← holding [ov] (getMethod ov "__init__" pl)
      callWith p4 f first (backTo p4 (starEach [.Constant (.str txt) j p3] env)) [])) :
    PySem.wpAt (model P w) X.A (.func body X.env) (eval (.Call (.Attribute (.Call (.Name "super" p0) [] [] p1) "__init__" p2) [.Constant (.str txt) j p3] [] p4) X.env) Q X.xe s := by
  subst eX
  obtain ⟨nm, q, NN, bs, bm, sn, sub, ab, col, dd, k0, k1, k2, k3, k5, hC, hbm⟩ := F.ox.cls
  obtain ⟨oc, od, osl, hf⟩ := F.lkf
  obtain ⟨ar, hp, har⟩ := F.par
  obtain ⟨ccl, cdd, vs, ccs, file, tf, hcode, hvs, hfile⟩ := F.code
  obtain ⟨cl, cld, csl, hcell⟩ := F.cell
  have KX : K.In s.heap := I.kIn
  obtain ⟨mb, b1, b2⟩ := I.mod.blt
  obtain ⟨t1, ho⟩ := exo_at I.hok ea
  have hC' := KX _ _ hC
  have hcd : clsIn K C = some { name := nm, bases := bs, mro := .ref C :: bm, ns := NN, qualname := q, hasDict := true, slotNames := sn, subclasses := sub, abstract := ab, collection := col, hasDel := false } := by unfold clsIn; rw [hC] <;> rfl
  obtain ⟨m, hn, hl⟩ := I.loc
  have hpar : scope.names.lookup self = some .local := S.par self (List.mem_of_getElem? (by rw [← S.pre]; exact h0))
  obtain ⟨u0, ru, lk0⟩ := hl 0 self (.ref a) h0 hσ (.inl hpar)
  have eu : u0 = Value.ref a := ru
  subst eu
  have hm : m self = some (.ref a) := by
    rcases lk0 with ⟨_, z⟩ | ⟨z, _⟩
    · exact z
    · have z : scope.names.lookup self = some .cell ∨ scope.names.lookup self = some .free := z
      rcases z with z | z <;> rw [hpar] at z <;> cases z
  refine ks_wpAt_MethodCall ?_ (he _)
  · refine ks_wpAt_super_base (env := ksEnv qual scope s0.heap.objs.size f (.ref cda) cc) S.sup S.cls (by decide) rfl (KX _ _ hf) rfl hp rfl (KX _ _ hcode) rfl hvs hfile F.top ?_
    refine ks_loadName_global S.kind S.sup (PySem.Calls.loadGlobal_builtin (env := ksEnv qual scope s0.heap.objs.size f (.ref cda) cc) (I.mod.glob.keeps I.bk) F.ms (b1.keeps I.bk) ((b2 _ (by decide)).trans (by first | rfl | kernel_rfl)) ⟨rfl, ?_⟩)
    refine wpAny_loadName_free S.kind S.cls (c := cc) (by simp) ⟨_, KX _ _ hcell, rfl⟩ ?_
    rw [har]
    refine wpAny_loadName_local S.kind hpar hn hm ?_
    refine ks_wpAny_isType_cls hC' rfl ⟨rfl, ?_⟩
    obtain ⟨hp', g', d', tk', os'⟩ := s
    refine ks_wpAny_call_super hC' rfl ho rfl (fun c e => by cases e) (looks_mroIn KX F.sub) fun h1 e1 k1 => ?_
    have I1 := I.kept (h' := h1) (t' := tk') k1
    have X1 : K.In h1 := I1.kIn
    have hx : a ≠ C := fun e => by
      rw [e] at ho
      have z := KX _ _ hC
      rw [ho] at z
      cases z
    have hI : Looks (model P w) h1 (isInstance (.ref a) (.type "ValueError")) true :=
      (show InstAt h1 a _ C none from ⟨k1 _ _ ho, rfl, rfl, trivial⟩).type.andThen (looks_subIn X1 F.ve)
    have hsup := F.sup
    unfold ks_superIn at hsup
    rw [hcd] at hsup
    refine kxs_getMethod kxs_ValueError e1 (looks_opaque X1 F.any) (l₀ := .ref C :: bm) (fun A Q E s k q => wpAny_bind ((looks_clsIn X1 hcd) A _ E s k (wpAny_pure q))) rfl X1 hsup hI hx (by decide) ?_
    have I2 := I1.kept (h' := h1.push (kxs_mw "ValueError.__init__" a)) (t' := tk' + 1) fun b o e => Heap.get?_push_of_some _ e
    refine kxs_callWith (i := "ValueError.__init__") (x := a) rfl (PySem.Calls.evalArgs_plain ?_)
    refine PySem.Calls.spliced_cons (PySem.Calls.Constant_str (pos := p3) (k := j) (PySem.Calls.spliced_nil ⟨Heap.get?_push_size _ rfl, ?_⟩))
    refine call_bound_ve (t0 := t1) (Heap.get?_push_of_some _ (k1 _ _ hC')) (Heap.get?_push_of_some _ (k1 _ _ ho)) (Heap.get?_push_size _ rfl) (by show 1 ≤ sizeLine; rw [sizeLine_eq]; omega) fun h3 t3 k3 e3 => ?_
    refine hq _ _ ?_
    have J := (I2.tok (tk' + 1 + 1)).write (t' := tk' + 1 + 1) (x := a) (e := a) (o := exo a C none) (by rw [ea]; exact True.intro) (.inl rfl) k3 ⟨_, e3⟩ (exo_ok e3)
    have eu : upd H a (exo a C none) = H := by
      funext b
      by_cases hb : b = a
      · rw [hb, upd_same, ea]
      · rw [upd_ne hb]
    rw [eu] at J
    exact J
/-- THE RULE for an init whose first statement is super().__init__(a text) -/
theorem fn_super {k : Nat} {name : Str} {params : Arguments} {rest : List Stmt} {dV kV doc pm ct : Value} {an : Option Addr} {p0 p1 p2 p3 p4 p5 : Pos} {txt : Str} {j : Nat} {pl : Sem Bool} {sp : Sp}
    (S : InitScope N ps scope) (h0 : ps[0]? = some self)
    (F : SupF P K mg C f cc cda (PySem.W.ksFn name qual params (.Expr (.Call (.Attribute (.Call (.Name "super" p0) [] [] p1) "__init__" p2) [.Constant (.str txt) j p3] [] p4) p5 :: rest) scope dV kV doc pm an (.ref cda) ct cc) self)
    (hcd : PySem.W.codeIn K (.ref cda) qual = true) (len : ∀ vs H Q E, sp vs H Q E → vs.length = ps.length)
    (he : ∀ env : Env, eval (.Call (.Attribute (.Call (.Name "super" p0) [] [] p1) "__init__" p2) [.Constant (.str txt) j p3] [] p4) env = (do
      let ov ← attributeBase (.Call (.Name "super" p0) [] [] p1) "__init__" env (eval (.Call (.Name "super" p0) [] [] p1) env)
      standAt p2.atName
      let (f, first) ← holding [ov] (getMethod ov "__init__" pl)
      callWith p4 f first (backTo p4 (starEach [.Constant (.str txt) j p3] env)) []))
    (hrest : ∀ (A : Around) (outer : List Env) (s : Shared) (H : Hp) (vs : List V) (Q : VK) (E : XK), sp vs H Q E →
      ∃ a ws t, vs = .ref a :: ws ∧ H a = some (exo a C none) ∧ PSs (cxI P w K mg base N qual scope f (.ref cda) cc A outer s H E) rest t ∧ t { nx := fun _ H' => Q .non H', rt := Q } (vs.map some) H) :
    FnOk P w K mg base (L2.CX P w) (k + 1) f (PySem.W.ksFn name qual params (.Expr (.Call (.Attribute (.Call (.Name "super" p0) [] [] p1) "__init__" p2) [.Constant (.str txt) j p3] [] p4) p5 :: rest) scope dV kV doc pm an (.ref cda) ct cc) ps sp := by
  refine ⟨len, fun A outer s H args us vs Q E hr e0 hb r hsp => ?_⟩
  have hl := len _ _ _ _ hsp
  have KX : K.In s.heap := e0.mod.kin.keeps fun b o e => (e0.bs b o e).1
  have lim : s.heap.NoLimit := e0.mod.nolimit.keeps fun b o e => (e0.bs b o e).1
  obtain ⟨oc, od, osl, lk⟩ := F.lkf
  obtain ⟨cl, cld, csl, hcell⟩ := F.cell
  have hloc : ∀ x ∈ ps.zip us, scope.names.lookup x.1 = some .local := fun ⟨n, v⟩ hy => S.par n (List.of_mem_zip hy).1
  refine ks_codeAny_call_defAt (binds := ps.zip us) hr.depth (KX _ _ lk) rfl lim (PySem.W.codeRec_of KX hcd) rfl hb S.nocell hloc (fun h₁ hns hk₁ => ?_) S.co S.gen S.kind
  obtain ⟨a, ws, t, ev, ea, ht, hq⟩ := hrest A outer s H vs Q E hsp
  have I : Inv (cxI P w K mg base N qual scope f (.ref cda) cc A outer s H E) [] (vs.map some) H { s with heap := h₁, toks := s.toks + (ps.zip us).length } := inv_startI S hr.hd e0 r hl hcell rfl hns hk₁
  refine ks_wpAt_execs_cons (ks_wpAt_Expr_any (super_init rfl S F (by rw [S.pre]; exact h0) I (by rw [ev]; rfl) ea (fun u s' J => ?_) he) (hi := I.quiet))
  refine wpAt_of_wpAny (wpAny_mono (ht.run [] s' (vs.map some) H _ J hq) (fun fl s2 hs => ?_) fun e s2 hs => hs)
  have fin : ∀ {σ' : L2.St} {H' : Hp} {v : V} {u : Value}, Inv (cxI P w K mg base N qual scope f (.ref cda) cc A outer s H E) [] σ' H' s2 → RelV v u → Q v H' → CE outer P w H s Q u s2 :=
    fun {σ' H' v u} J rv q => ⟨v, H', J.os, J.bare, J.base, J.hok, rv, q⟩
  cases fl with
  | ret u =>
    obtain ⟨v, σ', H', J, rv, q⟩ := hs
    exact fin J rv q
  | next =>
    obtain ⟨σ', H', J, q⟩ := hs
    exact fin (v := V.non) (u := Value.none) J rfl q
  | brk =>
    obtain ⟨_, _, _, q⟩ := hs
    exact False.elim q
  | cont =>
    obtain ⟨_, _, _, q⟩ := hs
    exact False.elim q
end
end DL

set_option Elab.async false
set_option linter.all false
set_option maxRecDepth 100000
set_option maxHeartbeats 4000000
/-! DL15: own errors made. -/
namespace DL
open PySem PySem.Spec PyProof.Rows L2

/-- what such an init does: the fields stored in turn -/
def spE (C : Addr) (names : List Str) : Sp := fun vs H Q E => ∃ a ws, vs = V.ref a :: ws ∧ ws.length = names.length ∧ H a = some (exo a C none) ∧
  ∀ d, H d = none → d ≠ a → Q .non (upd (upd H d (exd d (names.zip ws).reverse)) a (exo a C (some d)))
theorem spE_len {C : Addr} {names : List Str} {ps : List Str} (hp : ps.length = names.length + 1) : ∀ vs H Q E, spE C names vs H Q E → vs.length = ps.length := fun vs H Q E ⟨a, ws, e, hl, _⟩ => by
  rw [e, hp, List.length_cons, hl]
def ErrD (P : Program) (w : World) (K : PySem.W.Frag) (mg : Str → Option Value) (base : Heap) (x : Str) (C : Addr) (names : List Str) (lv : Nat) : Prop :=
  OexC K C ∧ mg x = some (.ref C) ∧ ∃ fI fd ps, PySem.W.findIn K (.ref C) "__init__" = some (some (.ref fI)) ∧ PySem.W.typeIn K (.ref fI) = some (.type "function") ∧ Binds K fd ps [] ∧ FnOk P w K mg base (L2.CX P w) lv fI fd ps (spE C names)
theorem upd_del {H : Hp} {a d : Addr} {o u v w : HO} (n : H a = none) (ne : d ≠ a) : upd (del (upd (upd (upd H a o) d u) a v) a) d w = upd H d w := by
  funext b
  by_cases e : b = d
  · rw [e, upd_same, upd_same]
  · rw [upd_ne e, upd_ne e]
    by_cases f : b = a
    · rw [f, del_same, n]
    · rw [del_ne f, upd_ne f, upd_ne e, upd_ne f]
section
variable {X : Cx}
theorem mk_err {T : Tb} {E : XK} {g : FL} {x : Str} {C : Addr} {names : List Str} {lv : Nat} {e : Expr} {es : List Expr} {p pos : Pos} (G : ErrD X.prog X.w X.K X.mg X.base x C names lv) (hn : names.length ≤ 900) (hr : Room (lv + 1) X.A) (hg : Gl X x) (ha : PA X (e :: es) (tA T E g))
    (hdb : (x == ("__debug__" : Str)) = false := by decide) (he : starEach (e :: es) X.env = (false, eval e X.env) :: starEach es X.env := by rfl) (hpl : (backTo pos (starEach es X.env)).any (·.1) = false := by rfl) :
    PMk X (.Call (.Name x p) (e :: es) [] pos) (tMkX C names (tA T E g)) := by
  obtain ⟨ox, hm, fI, fd, ps, iC, tI, hb, FO⟩ := G
  have G0 := pmk_oex (p := p) (pos := pos) ox iC tI FO hr hb (dvs := []) .nil passL hg hm ha hdb he hpl
  refine fun pins s σ H Q I ⟨ρ, S, μ, hee, hr, hf⟩ => G0 pins s σ H Q I ⟨ρ, S, μ, hee, hr, hf.mono fun ds S1 μ1 H1 st r1 h1 vs hvs => ?_⟩
  obtain ⟨hl, hq⟩ := h1 vs hvs
  refine ⟨by omega, fun a na => ⟨a, vs, by rw [List.append_nil], hl, upd_same, fun d nd ne => ⟨rfl, d, (names.zip vs).reverse, upd_same, by rw [upd_ne ne, upd_same], ?_, ?_⟩⟩⟩
  · rw [upd_ne ne] at nd; exact nd
  · rw [upd_ne ne] at nd
    rw [upd_del na ne]
    exact hq d nd
end
end DL

set_option Elab.async false
set_option linter.all false
set_option maxRecDepth 100000
set_option maxHeartbeats 4000000
/-! DL16: a caught error: isinstance, its fields; count, index of truth values. -/
namespace DL
open PySem PySem.Spec PyProof.Rows L2

/-- the caught errors that T tells stand pinned in X -/
def HotX (X : Cx) (T : Tb) : Prop := ∀ a c dd, T.hot a = some (c, dd) → ∃ oe : Obj, (a, oe) ∈ X.pn ∧ oe.cls = .ref (T.eA c) ∧ oe.dict = some dd ∧ ∃ vs, oe.data = .fields vs
/-- what the written part says of an error's class -/
structure ErC (K : PySem.W.Frag) (C : Addr) : Prop where
  cls : (PySem.W.clsIn K C).isSome = true
  ga : PySem.W.findIn K (.ref C) "__getattribute__" = some (some (.builtin "BaseException.__getattribute__"))
  gg : PySem.W.findIn K (.ref C) "__getattr__" = some none
  sub : PySem.W.subIn K (.ref C) (.type "BaseException") = some true
  hd : PySem.W.hasDictIn K C = true
  ha : PySem.W.findIn K (.ref C) "__class__" = some (some (.builtin "object.__class__"))
  hn : PySem.W.specialIn K (.builtin "object.__class__") "__get__" = some (some (.builtin "getset_descriptor.__get__"))
  ht : PySem.W.takesIn K (.builtin "object.__class__") = some true
  hm : PySem.W.mroIn K C (.type "object") = some true
section
variable {X : Cx} {T : Tb} {E : XK} {k : Nat}
/-- the error's record, with its dict -/
theorem hot_at {pins : List (Addr × Obj)} {σ : L2.St} {H : Hp} {s : Shared} {a dd : Addr} {c : Nat} {vs : List (Str × V)} (hX : HotX X T) (I : Inv X pins σ H s) (h : T.hot a = some (c, dd)) (hd : H dd = some (.xd vs)) :
    ∃ (oe od : Obj), PySem.W.InstAt s.heap a oe (T.eA c) (some od) ∧ ∀ f, ∃ u, PySem.W.lookIn f od = some u ∧ RelO (vs.lookup f) u := by
  obtain ⟨oe, hp, h1, h2, fv, h3⟩ := hX a c dd h
  obtain ⟨hget, _⟩ := I.pin (a, oe) (List.mem_append_left _ hp)
  have hx : ObjOk X.prog X.w H s.heap dd (.xd vs) := I.hok dd _ hd
  obtain ⟨mA, hns, hr⟩ := hx
  obtain ⟨od, ho, hl⟩ := lookIn_ns hns
  exact ⟨oe, od, ⟨hget, h1, by unfold PySem.W.notCls; rw [h3] <;> rfl, by rw [h2]; exact ho⟩, fun f => ⟨mA f, hl f, hr f⟩⟩
/-! ### isinstance(e, C) -/
def rIsX (T : Tb) (K : PySem.W.Frag) : List V → Hp → VK → Prop := fun xs H Q => ∃ (a dd : Addr) (c : Nat) (vs : List (Str × V)) (w : V) (cv : Value) (b : Bool), xs = [.ref a, w] ∧ T.hot a = some (c, dd) ∧ H dd = some (.xd vs) ∧ ErC K (T.eA c) ∧ (∀ u, RelV w u → u = cv) ∧ PySem.W.kitOne K (.ref (T.eA c)) cv = some b ∧ Q (.bl b) H
theorem cr_isX (hX : HotX X T) : CallR X (.builtin "isinstance") (rIsX T X.K) := by
  intro pins s σ H xs us Q I r h
  obtain ⟨a, dd, c, vs, w, cv, b, rfl, hh, hd, EC, hcv, e, q⟩ := h
  cases r with
  | cons rx rr =>
    cases rr with
    | cons rt rr =>
      cases rr
      cases rx
      have ec := hcv _ rt
      subst ec
      obtain ⟨oe, od, J, _⟩ := hot_at hX I hh hd
      exact PySem.W.kia_one (PySem.W.kitx_exc EC.cls EC.ga EC.gg EC.sub EC.ha EC.hn EC.ht EC.hm) I.kIn J e (fun z => nomatch z) fun tk => ⟨.bl b, H, I.kept (t' := tk) fun _ _ z => z, rfl, q⟩
/-- the answers: of the class c, for the class number k, for a built-in class -/
structure IsA (T : Tb) (K : PySem.W.Frag) (ans : Nat → Nat → Option Bool) (bas : Nat → String → Option Bool) : Prop where
  own : ∀ c k b, ans c k = some b → ErC K (T.eA c) ∧ PySem.W.kitOne K (.ref (T.eA c)) (.ref (T.fA k)) = some b
  blt : ∀ c n b, bas c n = some b → ErC K (T.eA c) ∧ PySem.W.kitOne K (.ref (T.eA c)) (.type n) = some b
def gIsX (ans : Nat → Nat → Option Bool) (bas : Nat → String → Option Bool) : GL := fun ds S => match ds with
  | [.xcp c _, .fn k] => (match ans c k with | some b => .ok (.bl b) S | none => .bad)
  | [.xcp c _, .ty n] => (match bas c n with | some b => .ok (.bl b) S | none => .bad)
  | _ => .bad
theorem ok_isX {ans : Nat → Nat → Option Bool} {bas : Nat → String → Option Bool} (G : IsA T T.K ans bas) : OkL T E (rIsX T T.K) (gIsX ans bas) := fun ds vs S μ H Q hvs hr h => by
  unfold gIsX at h
  split at h
  · split at h
    · rename_i b hb
      obtain ⟨g1, g2⟩ := G.own _ _ _ hb
      cases hvs with
      | cons r q => cases q with
        | cons r2 q =>
          cases q
          cases r with
          | xcp hh hd n fs =>
            cases r2
            exact ⟨_, _, _, _, _, _, b, rfl, hh, hd, g1, fun u hu => hu, g2, h.ok hr _ (.bl b)⟩
    · exact h.elim
  · split at h
    · rename_i b hb
      obtain ⟨g1, g2⟩ := G.blt _ _ _ hb
      cases hvs with
      | cons r q => cases q with
        | cons r2 q =>
          cases q
          cases r with
          | xcp hh hd n fs =>
            cases r2
            exact ⟨_, _, _, _, _, _, b, rfl, hh, hd, g1, fun u hu => hu, g2, h.ok hr _ (.bl b)⟩
    · exact h.elim
  · exact h.elim
/-! ### e.f -/
def fXf (f : Nat) (fe : FE) : FE := fun ρ S => (fe ρ S).bind fun d S1 => match d with
  | .xcp _ fs => (match fs.lookup f with | some v => .ok v S1 | none => .bad)
  | _ => .bad
theorem de_xf {e : Expr} {fe : FE} {f : Nat} {n : Str} {pos : Pos} (hK : T.K = X.K) (hX : HotX X T) (hf : f < T.nN) (hn : T.nm f = n) (EC : ∀ a c dd, T.hot a = some (c, dd) → ErC X.K (T.eA c) ∧ PySem.W.findIn X.K (.ref (T.eA c)) n = some none) (he : PE X e (tE T E fe))
    (hb : attributeBase e n X.env (eval e X.env) = eval e X.env := by rfl) : PE X (.Attribute e n pos) (tE T E (fXf f fe)) := by
  refine ⟨fun pins s σ H Q I ⟨ρ, S, μ, hee, hr, hff⟩ => ?_⟩
  refine attr_of hb (thn (he.run pins s σ H (fun x H1 => ∃ (a dd : Addr) (c : Nat) (vs : List (Str × V)) (v : V), x = .ref a ∧ T.hot a = some (c, dd) ∧ H1 dd = some (.xd vs) ∧ vs.lookup n = some v ∧ Q v H1) I
    ⟨ρ, S, μ, hee, hr, (Fin.bind hff).mono fun d S1 μ1 H1 st1 r1 h1 v hv => ?_⟩) fun u s1 hh => ?_)
  · split at h1
    · split at h1
      · rename_i dv hl
        cases hv with
        | xcp hh hd nn fs =>
          obtain ⟨w, e1, e2⟩ := fs.look hf hl
          exact ⟨_, _, _, _, w, rfl, hh, hd, by rw [← hn]; exact e1, h1.ok r1 _ e2⟩
      · exact h1.elim
    · exact h1.elim
  · obtain ⟨x, H1, I1, rx, a, dd, c, vs, v, ex, hh, hd, l, q⟩ := hh
    subst ex
    obtain rfl : u = Value.ref a := rx
    obtain ⟨oe, od, J, look⟩ := hot_at hX I1 hh hd
    obtain ⟨o, lo, ro⟩ := look n
    rw [l] at ro
    obtain ⟨u, hu, ru⟩ := RelO.some_of (v := v) (o := o) ro
    obtain ⟨ec, hno⟩ := EC a c dd hh
    exact HandSPX.exc_get I1.kIn J ec.ga ec.gg ec.sub (PySem.W.findObj_own ec.hd hno rfl (by rw [lo, hu])) (handed_of ru) ⟨v, H1, I1.tok _, ru, q⟩
/-! ### xs.count(b), xs.index(b) over truth values -/
theorem bools_hold {h : Heap} : ∀ {bs : List Bool} {us : List Value}, Vals (bs.map V.bl) us → PySem.W.HoldAll h us bs
  | [], _, .nil => ⟨_, .nil⟩
  | b :: bs, _, .cons r t => by
    obtain ⟨as, q⟩ := bools_hold (h := h) t
    have r : _ = Value.bool b := r
    subst r
    exact ⟨_, .cons (.bool b) q⟩
def rCntB (K : PySem.W.Frag) : V → List V → Hp → VK → Prop := fun x xs H Q => ∃ (a : Addr) (bs : List Bool) (b : Bool), x = .ref a ∧ xs = [.bl b] ∧ SqL K H a (bs.map V.bl) ∧ Q (.int (bs.countP (· == b) : Nat)) H
def rIdxB (K : PySem.W.Frag) : V → List V → Hp → VK → Prop := fun x xs H Q => ∃ (a : Addr) (bs : List Bool) (b : Bool), x = .ref a ∧ xs = [.bl b] ∧ SqL K H a (bs.map V.bl) ∧ b ∈ bs ∧ Q (.int (bs.idxOf b : Nat)) H
theorem countP_toD (b : Bool) : ∀ bs : List Bool, (bs.map PySem.W.Datum.toD).countP (fun y => PyData.eqv y (.bool b)) = bs.countP (· == b)
  | [] => rfl
  | x :: bs => by
    rw [List.map_cons, List.countP_cons, List.countP_cons, countP_toD b bs]
    have e : PyData.eqv (PySem.W.Datum.toD x) (.bool b) = (x == b) := by
      show PyData.eqv (.bool x) (.bool b) = _
      simp only [PyData.eqv]
    rw [e]
theorem plain_bools : ∀ bs : List Bool, PyData.plainAll (bs.map PySem.W.Datum.toD) = true
  | [] => rfl
  | b :: bs => by
    rw [List.map_cons]
    simp only [PyData.plainAll, plain_bools bs, Bool.and_true]
    rfl
theorem depth_bools : ∀ bs : List Bool, PyData.depthAll (bs.map PySem.W.Datum.toD) = 0
  | [] => rfl
  | b :: bs => by
    rw [List.map_cons]
    simp only [PyData.depthAll, depth_bools bs]
    rfl
theorem mt_cntB (hu : X.A.units + 64 < cLine) : MtR X "list.count" (rCntB X.K) := by
  intro pins s σ H x xs v us Q I rx rs h
  obtain ⟨a, bs, b, rfl, rfl, hq, q⟩ := h
  cases rx
  obtain ⟨u, rfl, rb⟩ := vals1 rs
  have rb : u = Value.bool b := rb
  subst rb
  obtain ⟨its, r, pl, hz⟩ := I.list hq
  obtain ⟨as, rd⟩ := bools_hold (h := s.heap) r
  refine PySem.SeqAt.count_list_data (d := .bool b) pl.isList (by simpa using rd) (.bool b) (plain_bools bs) rfl ?_ ⟨.int _, H, I.tok _, ⟨_, rfl⟩, by rw [countP_toD]; exact q⟩
  rw [depth_bools]; omega
theorem mt_idxB (hu : X.A.units + 64 < cLine) : MtR X "list.index" (rIdxB X.K) := by
  intro pins s σ H x xs v us Q I rx rs h
  obtain ⟨a, bs, b, rfl, rfl, hq, hm, q⟩ := h
  cases rx
  obtain ⟨u, rfl, rb⟩ := vals1 rs
  have rb : u = Value.bool b := rb
  subst rb
  obtain ⟨its, r, pl, hz⟩ := I.list hq
  refine PySem.W.index_list_datum pl.isList (bools_hold r) ⟨_, .bool b⟩ ?_ (by rw [List.length_map] at hz; exact hz) hm ⟨.int _, H, I.tok _, ⟨_, rfl⟩, q⟩
  show X.A.units + 1 + 0 < cLine
  omega
def gCntB : GM := fun d ds S => match items d S, ds with
  | some xs, [.bl b] => (match boolsOf xs with | some bs => .ok (.int (bs.countP (· == b) : Nat)) S | none => .bad)
  | _, _ => .bad
def gIdxB : GM := fun d ds S => match items d S, ds with
  | some xs, [.bl b] => (match boolsOf xs with | some bs => if b ∈ bs then .ok (.int (bs.idxOf b : Nat)) S else .bad | none => .bad)
  | _, _ => .bad
theorem dvs_bools {μ : List Addr} {H : Hp} : ∀ {vs : List V} {bs : List Bool}, DVs T μ H vs (bs.map D.bl) → vs = bs.map V.bl
  | _, [], .nil => rfl
  | _, _ :: _, .cons (.bl b) t => by rw [List.map_cons, dvs_bools t]
theorem ok_cntB : OkM T E (rCntB T.K) gCntB := fun d ds v vs S μ H Q hv hvs hr h => by
  unfold gCntB at h
  split at h
  · rename_i xs b hx
    split at h
    · rename_i bs hb
      obtain ⟨a, ys, rfl, hq, q⟩ := items_sq hr hv hx
      have e := boolsOf_eq hb
      subst e
      obtain rfl := dvs_bools q
      cases hvs with
      | cons r rr => cases rr; cases r; exact ⟨a, bs, b, rfl, rfl, hq, h.ok hr _ (.int _)⟩
    · exact h.elim
  · exact h.elim
theorem ok_idxB : OkM T E (rIdxB T.K) gIdxB := fun d ds v vs S μ H Q hv hvs hr h => by
  unfold gIdxB at h
  split at h
  · rename_i xs b hx
    split at h
    · rename_i bs hb
      split at h
      · rename_i hm
        obtain ⟨a, ys, rfl, hq, q⟩ := items_sq hr hv hx
        have e := boolsOf_eq hb
        subst e
        obtain rfl := dvs_bools q
        cases hvs with
        | cons r rr => cases rr; cases r; exact ⟨a, bs, b, rfl, rfl, hq, hm, h.ok hr _ (.int _)⟩
      · exact h.elim
    · exact h.elim
  · exact h.elim
end
end DL

set_option Elab.async false
set_option linter.all false
set_option maxRecDepth 100000
set_option maxHeartbeats 4000000
/-! DL17: a caught error told by a def that is called in the except suite. -/
namespace DL
open PySem PySem.Spec PyProof.Rows L2

/-- the tables with a caught error, a lambda at hand -/
def Tb.ext (T : Tb) (h : Addr → Option (Nat × Addr)) (l : Option (Addr × List (Option V) × Addr × Str)) : Tb := { T with hot := h, lm := l }
abbrev hot1 (a : Addr) (c : Nat) (dd : Addr) : Addr → Option (Nat × Addr) := fun b => if b = a then some (c, dd) else none
abbrev Tb.heat (T : Tb) (a : Addr) (c : Nat) (dd : Addr) : Tb := T.ext (hot1 a c dd) none
/-- no caught error, no lambda -/
structure Cold (T : Tb) : Prop where
  hot : ∀ b, T.hot b = none
  lm : T.lm = none
mutual
def cold : D → Bool
  | .tup ds => coldL ds
  | .row ds => coldL ds
  | .lst ds => coldL ds
  | .ins _ fs => coldF fs
  | .xcp _ _ => false
  | .lam _ => false
  | _ => true
def coldL : List D → Bool
  | [] => true
  | d :: ds => cold d && coldL ds
def coldF : List (Nat × D) → Bool
  | [] => true
  | p :: ps => cold p.2 && coldF ps
end
mutual
theorem cold_of : ∀ {d : D}, pur d = true → cold d = true
  | .non, _ => rfl
  | .bl _, _ => rfl
  | .int _, _ => rfl
  | .str _, _ => rfl
  | .tup ds, p => coldL_of (ds := ds) p
  | .row ds, p => coldL_of (ds := ds) p
  | .lst ds, p => coldL_of (ds := ds) p
  | .scr _, _ => rfl
  | .obj _, _ => rfl
  | .ins _ fs, p => coldF_of (fs := fs) p
  | .fn _, _ => rfl
  | .cl _, _ => rfl
  | .ty _, _ => rfl
  | .xcp _ _, p => p
  | .lam _, p => p
  | .junk, _ => rfl
theorem coldL_of : ∀ {ds : List D}, purL ds = true → coldL ds = true
  | [], _ => rfl
  | d :: ds, p => by
    have p' := Bool.and_eq_true_iff.mp p
    exact Bool.and_eq_true_iff.mpr ⟨cold_of p'.1, coldL_of p'.2⟩
theorem coldF_of : ∀ {fs : List (Nat × D)}, purF fs = true → coldF fs = true
  | [], _ => rfl
  | d :: ds, p => by
    have p' := Bool.and_eq_true_iff.mp p
    exact Bool.and_eq_true_iff.mpr ⟨cold_of p'.1, coldF_of p'.2⟩
end
section
variable {T : Tb} {μ : List Addr} {H : Hp} {h : Addr → Option (Nat × Addr)} {l : Option (Addr × List (Option V) × Addr × Str)}
mutual
theorem DV.hotter (n : Cold T) : ∀ {v : V} {d : D}, DV T μ H v d → DV (T.ext h l) μ H v d
  | _, _, .non => .non
  | _, _, .bl b => .bl b
  | _, _, .int i => .int i
  | _, _, .str x => .str x
  | _, _, .tup h q => .tup h (DVs.hotter n q)
  | _, _, .row h q => .row h (DVs.hotter n q)
  | _, _, .lst h z q => .lst h z (DVs.hotter n q)
  | _, _, .scr h => .scr h
  | _, _, .obj h => .obj h
  | _, _, .ins hc hk h z q => .ins hc hk h z (DFs.hotter n q)
  | _, _, .fn i => .fn i
  | _, _, .cl hc => .cl hc
  | _, _, .ty n => .ty n
  | _, _, .xcp hh _ _ _ => by rw [n.hot] at hh; cases hh
  | _, _, .lam hh _ _ _ _ => by rw [n.lm] at hh; cases hh
  | _, _, .junk v => .junk v
theorem DVs.hotter (n : Cold T) : ∀ {vs : List V} {ds : List D}, DVs T μ H vs ds → DVs (T.ext h l) μ H vs ds
  | _, _, .nil => .nil
  | _, _, .cons h q => .cons (DV.hotter n h) (DVs.hotter n q)
theorem DFs.hotter (n : Cold T) : ∀ {vs : List (Str × V)} {ds : List (Nat × D)}, DFs T μ H vs ds → DFs (T.ext h l) μ H vs ds
  | _, _, .nil => .nil
  | _, _, .cons z h q => .cons z (DV.hotter n h) (DFs.hotter n q)
end
mutual
theorem DV.cooler : ∀ {v : V} {d : D}, cold d = true → DV (T.ext h l) μ H v d → DV T μ H v d
  | _, _, _, .non => .non
  | _, _, _, .bl b => .bl b
  | _, _, _, .int i => .int i
  | _, _, _, .str x => .str x
  | _, _, p, .tup h q => .tup h (DVs.cooler p q)
  | _, _, p, .row h q => .row h (DVs.cooler p q)
  | _, _, p, .lst h z q => .lst h z (DVs.cooler p q)
  | _, _, p, .scr h => .scr h
  | _, _, p, .obj h => .obj h
  | _, _, p, .ins hc hk h z q => .ins hc hk h z (DFs.cooler p q)
  | _, _, _, .fn i => .fn i
  | _, _, _, .cl hc => .cl hc
  | _, _, _, .ty n => .ty n
  | _, _, p, .xcp _ _ _ _ => by cases p
  | _, _, p, .lam _ _ _ _ _ => by cases p
  | _, _, _, .junk v => .junk v
theorem DVs.cooler : ∀ {vs : List V} {ds : List D}, coldL ds = true → DVs (T.ext h l) μ H vs ds → DVs T μ H vs ds
  | _, _, _, .nil => .nil
  | _, _, p, .cons h q => by
    have p' := Bool.and_eq_true_iff.mp p
    exact .cons (DV.cooler p'.1 h) (DVs.cooler p'.2 q)
theorem DFs.cooler : ∀ {vs : List (Str × V)} {ds : List (Nat × D)}, coldF ds = true → DFs (T.ext h l) μ H vs ds → DFs T μ H vs ds
  | _, _, _, .nil => .nil
  | _, _, p, .cons z h q => by
    have p' := Bool.and_eq_true_iff.mp p
    exact .cons z (DV.cooler p'.1 h) (DFs.cooler p'.2 q)
end
theorem Rep.hotter {S : Store} (n : Cold T) (r : Rep T μ H S) : Rep (T.ext h l) μ H S := by
  refine ⟨r.len, r.nd, fun l b o h1 h2 => ?_, r.tabs⟩
  have q := r.ob l b o h1 h2
  cases o with
  | lst ds => obtain ⟨p, xs, e, q⟩ := q; exact ⟨p, xs, e, q.hotter n⟩
  | ins c fs => obtain ⟨p, dx, vs, e, q⟩ := q; exact ⟨p, dx, vs, e, q.hotter n⟩
theorem Rep.cooler {S : Store} (r : Rep (T.ext h l) μ H S) : Rep T μ H S := by
  refine ⟨r.len, r.nd, fun l b o h1 h2 => ?_, r.tabs⟩
  have q := r.ob l b o h1 h2
  cases o with
  | lst ds => obtain ⟨p, xs, e, q⟩ := q; exact ⟨p, xs, e, q.cooler (coldL_of p)⟩
  | ins c fs => obtain ⟨p, dx, vs, e, q⟩ := q; exact ⟨p, dx, vs, e, q.cooler (coldF_of p.1)⟩
end

/-! ### such a def -/
/-- what it promises: p the handled error -/
structure FnR (T : Tb) (P : Program) (w : World) (K : PySem.W.Frag) (mg : Str → Option Value) (base : Heap) (k : Nat) (f : Addr) (fd : FuncData) (ps : List Str) (inE : Nat → Bool) (F : GF) : Prop where
  len : Ar ps.length F
  run : ∀ (A : Around) (outer : List Env) (s : Shared) (H : Hp) (args : Args) (us : List Value) (vs : List V) (Q : VK) (E : XK) (p : Addr × Obj) (c : Nat) (dd : Addr), inE c = true → L2H.RoomH k A → L2H.PinOk outer H s p → p.2.cls = .ref (T.eA c) → p.2.dict = some dd → (∃ vs, p.2.data = .fields vs) → Env0 P w K mg base A outer s H → BindsTo s fd args (ps.zip us) → Vals vs us → spD (T.heat p.1 c dd) F vs H Q E →
    codeAny (model P w) A (.call (.ref f) args) (CR (L2.CX P w) outer P w H s Q E) s
section
variable {P : Program} {w : World} {K : PySem.W.Frag} {mg : Str → Option Value} {base : Heap} {T : Tb}
abbrev cxR (P : Program) (w : World) (K : PySem.W.Frag) (mg : Str → Option Value) (base : Heap) (N : List Str) (qual : Str) (scope : Scope) (f : Addr) (cd : Value) (A : Around) (outer : List Env) (s : Shared) (H : Hp) (E : XK) (p : Addr × Obj) : Cx := L2H.cxH (L2.CX P w) P w K mg base N qual scope f cd A outer s H E p
theorem fn_R {x qual : Str} {st : Stmt} {f : Addr} {fd : FuncData} {N ps : List Str} {k : Nat} {body : FS} {inE : Nat → Bool} (F : Fun K x qual st f fd) (S : FnScope N ps (defScope st))
    (hb : ∀ (cdv : Value) (A : Around) (outer : List Env) (s : Shared) (H : Hp) (E : XK) (p : Addr × Obj) (c : Nat) (dd : Addr), inE c = true → p.2.cls = .ref (T.eA c) → p.2.dict = some dd → (∃ vs, p.2.data = .fields vs) → L2H.RoomH k (A.deeper (envOfC qual (defScope st) s.heap.objs.size f cdv)) →
      PSs (cxR P w K mg base N qual (defScope st) f cdv A outer s H E p) (defBody st) (tS (T.heat p.1 c dd) E body)) : FnR T P w K mg base (k + 1) f fd ps inE (runF ps.length N.length body) := by
  obtain ⟨oc, od, kV, doc, pm, an, cdv, ct, osl, rfl, lk, hcd⟩ := F.ex
  refine ⟨ar_runF, fun A outer s H args us vs Q E p c dd hin hr hpin hc hd hfv e0 hbn r hsp => ?_⟩
  have hl := spD_len ar_runF hsp
  have KX : K.In s.heap := e0.mod.kin.keeps fun b o e => (e0.bs b o e).1
  have lim : s.heap.NoLimit := e0.mod.nolimit.keeps fun b o e => (e0.bs b o e).1
  have hkind : ∀ y ∈ ps.zip us, (defScope st).names.lookup y.1 = some .local ∨ ((defScope st).names.lookup y.1 = some .cell ∧ ((cellsFrom (s.heap.objs.size + 1) (defScope st).names []).lookup y.1).isSome = true) := fun ⟨n, v⟩ hy =>
    (S.par n (List.of_mem_zip hy).1).elim .inl fun q => .inr ⟨q, PySem.W.cellsFrom_some _ _ _ (.inl q)⟩
  refine codeAny_call_function hr.depth (KX _ _ lk) rfl S.co S.gen rfl (PySem.W.codeRec_of KX hcd) (hbn _ _ _ _ ?_)
  refine wpAny_newFunctionEnv_cells S.kind hkind fun env he s1 x => ?_
  subst he
  refine ⟨lim.keeps x.toInCall.keep, codeAny_func ?_⟩
  have I : Inv (cxR P w K mg base N qual (defScope st) f cdv A outer s H E p) [] (L2.start N vs) H s1 := L2H.inv_startH S hpin e0 hl r x
  obtain ⟨ds, S0, μ, hv, hrr, hf⟩ := hsp
  refine wpAny_mono ((hb cdv A outer s H E p c dd hin hc hd hfv (hr.deeper _)).run [] s1 (L2.start N vs) H { nx := fun _ H' => Q .non H', rt := Q } I ⟨_, S0, μ, env_start hv, hrr, fin_run hrr hf⟩) (fun fl s' hs => ?_) fun e s' hs => hs
  have fin : ∀ {σ' : L2.St} {H' : Hp} {v : V} {u : Value}, Inv (cxR P w K mg base N qual (defScope st) f cdv A outer s H E p) [] σ' H' s' → RelV v u → Q v H' → CE outer P w H s Q u s' :=
    fun {σ' H' v u} J rv q => ⟨v, H', J.os, J.bare, J.base, J.hok, rv, q⟩
  cases fl with
  | ret u => obtain ⟨v, σ', H', J, rv, q⟩ := hs; exact fin J rv q
  | next => obtain ⟨σ', H', J, q⟩ := hs; exact fin (v := V.non) (u := Value.none) J rfl q
  | brk => obtain ⟨_, _, _, q⟩ := hs; exact q.elim
  | cont => obtain ⟨_, _, _, q⟩ := hs; exact q.elim
end
def DefR (T : Tb) (P : Program) (w : World) (K : PySem.W.Frag) (mg : Str → Option Value) (base : Heap) (x : Str) (lv : Nat) (inE : Nat → Bool) (F : GF) : Prop :=
  ∃ f fd ps, mg x = some (.ref f) ∧ PySem.W.keepIn K (.ref f) = true ∧ Binds K fd ps [] ∧ FnR T P w K mg base lv f fd ps inE F
section
variable {X : Cx} {T : Tb} {E : XK} {k lv : Nat}
theorem de_callR {x : Str} {F : GF} {inE : Nat → Bool} {p : Addr × Obj} {c : Nat} {dd : Addr} {q pos : Pos} {e : Expr} {es : List Expr} {fs : FL} (G : DefR T X.prog X.w X.K X.mg X.base x lv inE F) (hin : inE c = true) (hp : p ∈ X.pn) (hc : p.2.cls = .ref (T.eA c)) (hd : p.2.dict = some dd) (hfv : ∃ vs, p.2.data = .fields vs) (hr : L2H.RoomH lv X.A) (hx : Passes (L2.CX X.prog X.w) X E) (hg : Gl X x)
    (ha : PA X (e :: es) (tA (T.heat p.1 c dd) E fs)) (hdb : (x == ("__debug__" : Str)) = false := by decide) (he : starEach (e :: es) X.env = (false, eval e X.env) :: starEach es X.env := by rfl) (hpl : (backTo pos (starEach es X.env)).any (·.1) = false := by rfl) :
    PE X (.Call (.Name x q) (e :: es) [] pos) (tE (T.heat p.1 c dd) E (fCallF F fs)) := by
  obtain ⟨f, fd, ps, hm, hk, hb, FO⟩ := G
  refine ⟨fun pins s σ H Q I ⟨ρ, S, μ, hee, hrr, hf⟩ => ?_⟩
  refine wpAny_Call_Name_kw (ld_glob I hg hm ?_ hdb)
  refine PySem.W.callWith_K (h₀ := X.base) I.ok.mod.kin hk (thn (ha.run pos pins s σ H (fun vs H1 => spD (T.heat p.1 c dd) F vs H1 Q E) I ⟨ρ, S, μ, hee, hrr, (Fin.bind hf).mono fun ds S1 μ1 H1 st1 r1 h1 vs hvs => ⟨ds, S1, μ1, hvs, r1, h1⟩⟩) fun us s1 ⟨vs, H1, I1, r, q1⟩ => ⟨I1.kIn, ?_⟩) he hpl
  have hl := spD_len FO.len q1
  have b := hb s1 us I1.kIn (by rw [List.append_nil, ← r.length]; exact hl)
  rw [List.append_nil] at b
  have P1 := I1.pin p (List.mem_append_left _ hp)
  have hpin : L2H.PinOk X.stack H1 s1 p := ⟨P1.1, P1.2.1, fun hm => (List.mem_cons.mp (I1.stkSub p.1 hm)).elim P1.2.2.1 P1.2.2.2.1, P1.2.2.2.2⟩
  refine wpAny_call (codeAny_mono (FO.run X.A X.stack s1 H1 ⟨us, []⟩ us vs Q E p c dd hin hr hpin hc hd hfv I1.env0 b r q1) fun r s' hq => ?_)
  cases r with
  | error e => exact hx pins σ H1 s1 e s' I1 hq
  | ok fl =>
    cases fl with
    | ret u => exact I1.after hq
    | next => exact hq.elim
    | brk => exact hq.elim
    | cont => exact hq.elim
/-! ### try: return e / except x as n: return r(n) -/
theorem pssWI {X : Cx} {st : List Stmt} {t t' : TS} (h : PSs X st t) (w : ∀ D σ H, σ.length = X.N.length → t' D σ H → t D σ H) : PSs X st t' := ⟨fun pins s σ H D I q => h.run pins s σ H D I (w D σ H I.len q)⟩
def sTold (inE : Nat → Bool) (R : GF) (f0 : FE) : FS := fun ρ S => match f0 ρ S with
  | .ok d S' => .rt d S'
  | .exc c fs S' => if inE c = true ∧ coldF fs = true then (match R [.xcp c fs] S' with | .ok d S2 => if cold d = true then .rt d S2 else .bad | _ => .bad) else .bad
  | .bad => .bad
/-- what the suite wishes -/
def tSu (T : Tb) (inE : Nat → Bool) (n i : Nat) (R : GF) (a : Addr) (cls : Value) (d : Option Addr) : TS := fun D σ H => σ.length = n → ∃ c dd, inE c = true ∧ cls = .ref (T.eA c) ∧ d = some dd ∧ tS (T.heat a c dd) NX (sRet (fCallF R (fCons (fVar i) fNil))) D σ H
theorem ds_told {h : Addr → Option (Nat × Addr)} {l : Option (Addr × List (Option V) × Addr × Str)} {x n r : Str} {CS : Addr} {i : Nat} {e0 : Expr} {f0 : FE} {R : GF} {inE : Nat → Bool} {np p3 p6 p7 p8 q1 q2 q3 : Pos} (hs : X.stack = X.env :: X.outer) (hf : X.env.frame = some X.env.locals) (hN : X.N.Nodup) (hi : X.N[i]? = some n) (hln : X.env.kindOf n = some .local) (hc : Names X x (.ref CS))
    (hot : Cold T) (hcatch : ∀ c, inE c = true → PySem.W.exmOne X.K (.ref (T.eA c)) (.ref CS) = some true) (hr : Room lv X.A) (G : DefR T X.prog X.w X.K X.mg X.base r lv inE R) (hg : Gl X r)
    (tk : Takes X (fun _ _ _ _ => False))
    (he : ∀ (W : WX) (pn : List (Addr × Obj)) (xe : Value → Shared → Prop), Takes (X.tr pn xe) W → PE (X.tr pn xe) e0 (tE (T.ext h l) (fun cls d H => ∀ σ, W cls d σ H) f0))
    (hdn : (n == ("__debug__" : Str)) = false := by decide) (hcd : (n == ("__classdict__" : Str)) = false := by decide) (hdb : (r == ("__debug__" : Str)) = false := by decide)
    (hst : ∀ env : Env, starEach [.Name n q2] env = (false, eval (.Name n q2) env) :: starEach [] env := by intro _; rfl) (hpl : ∀ env : Env, (backTo q3 (starEach [] env)).any (·.1) = false := by intro _; rfl) :
    PS X (.Try [.Return (some e0) p3] [.ExceptHandler (some (.Name x np)) (some n) [.Return (some (.Call (.Name r q1) [.Name n q2] [] q3)) p6] p7] [] [] p8) (tS (T.ext h l) E (sTold inE R f0)) := by
  refine psW (ps_try_as hs hf hN hi hln hc tk (tb := fun W D σ H => tS (T.ext h l) (fun cls d H => ∀ σ, W cls d σ H) (sRet f0) D σ H) (ts := tSu T inE X.N.length i R) (fun W pn xe tk' _ => dss_one (ds_ret (he W pn xe tk'))) (fun a oe cls d pn hz hv => ?_)) fun D σ H ⟨ρ, S, μ, hee, hrr, hff⟩ => ⟨ρ, S, μ, hee, hrr, ?_⟩
  · refine ⟨fun pins s σ H D I h => ?_⟩
    obtain ⟨c, dd, hin, ec, ed, ht⟩ := h I.len
    have hp : PE (X.suite a ((a, oe) :: pn)) (.Call (.Name r q1) [.Name n q2] [] q3) (tE (T.heat a c dd) NX (fCallF R (fCons (fVar i) fNil))) :=
      de_callR (X := X.suite a ((a, oe) :: pn)) (p := (a, oe)) G hin List.mem_cons_self (by rw [hz.1]; exact ec) (by rw [hz.2]; exact ed) hv ⟨hr.dp, hr.un⟩ passL hg
        (da_cons (de_var (pe_var (X := X.suite a ((a, oe) :: pn)) hi (.inl hln) hdn hcd)) da_nil (hst _)) hdb (hst _) (hpl _)
    exact (dss_one (ds_ret hp)).run pins s σ H D I ht
  · show FinS (T.ext h l) _ D μ H ((f0 ρ S).out fun d S1 => .rt d S1)
    unfold sTold at hff
    cases h0 : f0 ρ S with
    | ok d S' => rw [h0] at hff; exact hff
    | bad => rw [h0] at hff; exact hff.elim
    | exc c fs S' =>
      rw [h0] at hff
      simp only at hff
      split at hff
      · rename_i hin
        intro dx μ' H' st rp hx σ'
        refine ⟨true, hcatch c hin.1, fun _ a na hl => ⟨c, dx, hin.1, rfl, rfl, ?_⟩, fun z => nomatch z⟩
        obtain ⟨vs, hd, hfs⟩ := hx
        have hlen : σ'.length = X.N.length := by rw [List.length_set] at hl; exact hl
        have hiN : i < X.N.length := (List.getElem?_eq_some_iff.mp hi).1
        have nd : dx ∉ μ' := fun hm => by
          obtain ⟨u, e, mu⟩ := rp.r0.mu dx hm
          rw [hd] at e
          cases e
          rcases mu with ⟨_, z⟩ | ⟨_, _, _, z⟩ <;> cases z
        have dv : DV (T.heat a c dx) μ' H' (.ref a) (.xcp c fs) := .xcp (if_pos rfl) hd nd ((hfs.cooler hin.2).hotter hot)
        refine ⟨(List.replicate X.N.length none).set i (some (.xcp c fs)), S', μ', ?_, rp.cooler.hotter hot, ?_⟩
        · have base : EnvR (T.heat a c dx) μ' H' σ' (List.replicate X.N.length none) := by
            refine ⟨by rw [List.length_replicate]; exact hlen, fun j d hj => ?_⟩
            rw [List.getElem?_replicate] at hj
            split at hj <;> cases hj
          exact base.set dv
        · have ev : ((List.replicate X.N.length (none : Option DL.D)).set i (some (.xcp c fs)))[i]? = some (some (.xcp c fs)) := List.getElem?_set_self (by rw [List.length_replicate]; exact hiN)
          have er : fCallF R (fCons (fVar i) fNil) ((List.replicate X.N.length none).set i (some (.xcp c fs))) S' = R [.xcp c fs] S' := by
            unfold fCallF fCons fVar fNil
            rw [ev]
            rfl
          show FinS (T.heat a c dx) NX _ μ' H' ((fCallF R (fCons (fVar i) fNil) ((List.replicate X.N.length none).set i (some (.xcp c fs))) S').out fun d S1 => .rt d S1)
          rw [er]
          split at hff
          · rename_i d S2 hR
            split at hff
            · rename_i hp
              rw [hR]
              intro v μ2 H2 st2 rp2 hv
              exact hff v μ2 H2 (st.trans st2) (rp2.cooler.hotter hot) ((hv.cooler hp).hotter hot)
            · exact hff.elim
          · exact hff.elim
      · exact hff.elim
end
end DL

set_option Elab.async false
set_option linter.all false
set_option maxRecDepth 100000
set_option maxHeartbeats 4000000
/-! DL18: a lambda is made: no parameter, or parameters with defaults. -/
namespace DL
open PySem PySem.Spec PyProof.Rows L2

abbrev lamFd (qual : Str) (params : Arguments) (body : Expr) (scope : Scope) (cl : List (Str × Addr)) (dV pm cdv ct : Value) : FuncData :=
  { name := "<lambda>", qualname := qual, params := params, body := .expr body, scope := scope, globals := mainGlobals, closure := cl, defaults := dV, kwdefaults := .none, doc := .none, pyModule := pm, annotations := none, code := cdv, closureTuple := ct, builtins := builtinsNs }
abbrev lamOb (qual : Str) (params : Arguments) (body : Expr) (scope : Scope) (cl : List (Str × Addr)) (dV pm : Value) (c' : Addr) (ct : Value) : Obj := { cls := .type "function", data := .func (lamFd qual params body scope cl dV pm (.ref c') ct) }
section
variable {M : Model} {A : Around} {E : Value → Shared → Prop} {s : Shared} {qual : Str} {params : Arguments} {body : Expr} {scope : Scope} {env : Env} {c P : Addr} {ps : Array Value} {pos : Pos} {firstLine : Nat} {mg : Str → Option Value} {clos : List (Str × Addr)} {Q : Value → Shared → Prop} {dV : Value}
theorem lam_tail (hcl : closureFor scope env = Pure.pure clos) (hge0 : env.globals = mainGlobals) (hg : s.heap.Ns mainGlobals mg) (hcode : env.code = .ref c) (C : PySem.W.CodeHd s.heap c P) (hP : s.heap.get? P = some (PySem.W.tabObj ps)) (ht : TriplesOk ps.toList)
    (hgP : mainGlobals ≠ P) (hb : s.heap.BuiltinsAt mg P)
    (hmiss : codeAmong pos ps.toList = none → ∀ (c' : Addr) (ctv : Value) (h' : Heap) (tk : Tok), (∀ b o, b ≠ P → s.heap.get? b = some o → h'.get? b = some o) → s.heap.objs.size ≤ c' → c' < h'.objs.size → h'.CodeRec (.ref c') qual → h'.get? P = some (PySem.W.tabObj (ps ++ #[rawInt pos.line, rawInt pos.col, .ref c'])) →
      Q (.ref h'.objs.size) { s with heap := h'.push (lamOb qual params body scope clos dV ((mg "__name__").getD .none) c' ctv), toks := tk })
    (hhit : ∀ cv, codeAmong pos ps.toList = some cv → ∀ (ctv : Value) (h' : Heap) (tk : Tok), (∀ b o, s.heap.get? b = some o → h'.get? b = some o) → s.heap.objs.size ≤ h'.objs.size →
      Q (.ref h'.objs.size) { s with heap := h'.push ({ cls := .type "function", data := .func (lamFd qual params body scope clos dV ((mg "__name__").getD .none) cv ctv) } : Obj), toks := tk }) :
    wpAny M A (makeTail "<lambda>" qual params (.expr body) scope env dV .none none pos firstLine) Q E s := by
  obtain ⟨bm, ob, hbm, hne0, _, hneP, hbo, hcls, hdict, hdata⟩ := hb
  unfold makeTail
  rw [hcl, hge0]
  refine wpAny_bind (wpAny_pure ?_)
  cases clos with
  | nil =>
    simp only [List.isEmpty_nil, if_true]
    refine wpAny_bind (wpAny_pure ?_)
    have k0 : ∀ b o, s.heap.get? b = some o → s.heap.get? b = some o := fun _ _ e => e
    have z0 : s.heap.objs.size ≤ s.heap.objs.size := Nat.le_refl _
    have C0 : PySem.W.CodeHd s.heap c P := C.keeps k0
    have P0 := k0 _ _ hP
    cases hf : codeAmong pos ps.toList with
    | none =>
      refine wpAny_bind (wpAny_functionCodeX (s := s) hcode (C0.code P0 ht) (C0.tab P0) hf fun c' h' tk hx hge hlt _ hrec htb _ => ?_)
      have hg' := (hg.keeps k0).extBut hx hgP
      refine wpAny_bind (wpAny_builtinsFor hg' hbm hne0 (hx _ _ hneP (k0 _ _ hbo)) hcls hdict hdata (wpAny_bind (wpAny_nsGet hg' ?_)))
      exact wpAny_bind (wpAny_pure (wpAny_newObj_type (hmiss hf c' _ h' tk (fun b o hb e => hx b o hb (k0 b o e)) (Nat.le_trans z0 hge) hlt hrec htb.2) (by size_fits)))
    | some cv =>
      refine wpAny_bind (wpAny_functionCode_hit (s := s) hcode (C0.code P0 ht) hf ?_)
      refine wpAny_bind (wpAny_builtinsFor (hg.keeps k0) hbm hne0 (k0 _ _ hbo) hcls hdict hdata (wpAny_bind (wpAny_nsGet (hg.keeps k0) ?_)))
      exact wpAny_bind (wpAny_pure (wpAny_newObj_type (hhit cv hf _ s.heap s.toks k0 z0) (by size_fits)))
  | cons q r =>
    simp only [List.isEmpty_cons, Bool.false_eq_true, if_false]
    refine wpAny_bind (wpAny_newTextTuple ?_)
    generalize hT : s.heap.push ({ cls := .type "tuple", data := .seq (List.map (fun x : Str × Addr => Value.ref x.2) ((q :: r).mergeSort fun a b => decide (a.1.cps.toList ≤ b.1.cps.toList))).toArray } : Obj) = h0
    have k0 : ∀ b o, s.heap.get? b = some o → h0.get? b = some o := fun b o e => by rw [← hT]; exact Heap.get?_push_of_some _ e
    have z0 : s.heap.objs.size ≤ h0.objs.size := by rw [← hT, Heap.size_push]; exact Nat.le_succ _
    have C0 : PySem.W.CodeHd h0 c P := C.keeps k0
    have P0 := k0 _ _ hP
    cases hf : codeAmong pos ps.toList with
    | none =>
      refine wpAny_bind (wpAny_functionCodeX (s := { s with heap := h0 }) hcode (C0.code P0 ht) (C0.tab P0) hf fun c' h' tk hx hge hlt _ hrec htb _ => ?_)
      have hg' := (hg.keeps k0).extBut hx hgP
      refine wpAny_bind (wpAny_builtinsFor hg' hbm hne0 (hx _ _ hneP (k0 _ _ hbo)) hcls hdict hdata (wpAny_bind (wpAny_nsGet hg' ?_)))
      exact wpAny_bind (wpAny_pure (wpAny_newObj_type (hmiss hf c' _ h' tk (fun b o hb e => hx b o hb (k0 b o e)) (Nat.le_trans z0 hge) hlt hrec htb.2) (by size_fits)))
    | some cv =>
      refine wpAny_bind (wpAny_functionCode_hit (s := { s with heap := h0 }) hcode (C0.code P0 ht) hf ?_)
      refine wpAny_bind (wpAny_builtinsFor (hg.keeps k0) hbm hne0 (k0 _ _ hbo) hcls hdict hdata (wpAny_bind (wpAny_nsGet (hg.keeps k0) ?_)))
      exact wpAny_bind (wpAny_pure (wpAny_newObj_type (hhit cv hf _ h0 s.toks k0 z0) (by size_fits)))
end
end DL

set_option Elab.async false
set_option linter.all false
set_option maxRecDepth 100000
set_option maxHeartbeats 4000000
/-! DL19: a lambda made, in a def's context. -/
namespace DL
open PySem PySem.Spec PyProof.Rows L2

/-- what the making of a lambda does to what is tracked -/
structure LamH (H H1 : Hp) : Prop where
  there : ∀ a, H1 a = none → H a = none
  keep : ∀ b o, H b = some o → (∀ ps, o ≠ .tbl ps) → H1 b = some o
theorem LamH.refl (H : Hp) : LamH H H := ⟨fun _ h => h, fun _ _ h _ => h⟩
theorem LamH.step {μ : List Addr} {H H1 : Hp} (l : LamH H H1) : Step μ H μ H1 := ⟨⟨[], by simp, fun b hb => by cases hb⟩, l.there, fun a o h _ n => l.keep a o h n⟩
/-- where its defaults stand -/
def DflOk (fr : List Addr) (dvs : List Value) (dV : Value) (h : Heap) (H1 : Hp) : Prop :=
  (dvs = [] ∧ dV = .none) ∨ ∃ td : Addr, dV = .ref td ∧ h.get? td = some ({ cls := .type "tuple", data := .seq dvs.toArray } : Obj) ∧ H1 td = none ∧ td ∉ fr
section
variable {X : Cx} {pins : List (Addr × Obj)} {σ : L2.St} {H : Hp} {s : Shared}
theorem nofr_of (I : Inv X pins σ H s) : ∀ f, s.heap.objs.size ≤ f → f ∉ frs X.stack := fun f hf z => by
  rcases List.mem_cons.mp (I.stkSub _ z) with e | e
  · have h1 := I.lt
    rw [← e] at h1
    exact Nat.lt_irrefl _ (Nat.lt_of_lt_of_le h1 hf)
  · exact I.nofs hf e
/-- with the defaults' value at hand -/
theorem lam_at {Tt : List (Addr × Str)} {c P : Addr} {params : Arguments} {body : Expr} {scope : Scope} {pos : Pos} {E : Value → Shared → Prop} {Q : Value → Shared → Prop} {dV : Value} (I : Inv X pins σ H s) (TB : LamX.TabB X.base X.mg c P) (hcode : X.env.code = .ref c)
    (hm : (P, X.env.qual ++ "<lambda>") ∈ Tt) (hu : ∀ p ∈ Tt, p.1 = P → p.2 = X.env.qual ++ "<lambda>") (hT : LamX.Tabs Tt H) (hfree : ∀ y ∈ scope.names, y.2 = .free → ∃ c, X.env.cells.lookup y.1 = some c)
    (h : ∀ (f c' : Addr) (pm ctv : Value) (H1 : Hp) (s' : Shared), Inv X pins σ H1 s' → LamH H H1 → LamX.Tabs Tt H1 → (∀ b o, b ≠ P → s.heap.get? b = some o → s'.heap.get? b = some o) → (∀ b o, s.heap.get? b = some o → b ≠ P → H b = none → H1 b = none) →
      s'.heap.get? f = some (lamOb (X.env.qual ++ "<lambda>") params body scope (cloFrom X.env.cells scope.names []) dV pm c' ctv) → H1 f = none → f ∉ frs X.stack → H1 c' = some (LamX.CodeO c' (X.env.qual ++ "<lambda>")) → Q (.ref f) s') :
    wpAny (model X.prog X.w) X.A (makeTail "<lambda>" (X.env.qual ++ "<lambda>") params (.expr body) scope X.env dV .none none pos pos.line) Q E s := by
  obtain ⟨ps, hP, ht, ha⟩ := hT _ hm
  have bP : s.heap.BuiltinsAt X.mg P := TB.bm.keeps I.bk
  have hP' : s.heap.get? P = some { cls := .none, data := .fields ps } := I.hok P _ hP
  refine lam_tail (mg := X.mg) (c := c) (P := P) (ps := ps) (closure_ok hfree) I.ok.glob (I.mod.glob.keeps I.bk) hcode (TB.code.keeps I.bk) hP' ht TB.gP bP (fun hc c' ctv h' tk hx hge hlt hrec htb => ?_) fun cv hc ctv h' tk hx hsz => ?_
  · obtain ⟨c2, oc, vs, t, e2, hoc, hd, hv⟩ := hrec
    cases e2
    have hsz : s.heap.objs.size ≤ h'.objs.size := Nat.le_trans hge (Nat.le_of_lt hlt)
    have nC : H c' = none := I.hok.fresh hge
    have nPc : P ≠ c' := ne_of_none hP nC
    generalize hob : lamOb (X.env.qual ++ "<lambda>") params body scope (cloFrom X.env.cells scope.names []) dV ((X.mg "__name__").getD .none) c' ctv = ob
    have fre : ob.isFreed = false := by rw [← hob]; rfl
    have I1 := LamX.inv_table (t' := tk) (more := #[rawInt pos.line, rawInt pos.col, .ref c']) (h' := h'.push ob) I hP (fun b o hb e => Heap.get?_push_of_some _ (hx b o hb e)) (Heap.get?_push_of_some _ htb) hge ⟨oc, vs, t, Heap.get?_push_of_some _ hoc, hd, hv⟩
    have at_ : ∀ b, b ≠ P → b ≠ c' → upd (upd H P (.tbl (ps ++ #[rawInt pos.line, rawInt pos.col, .ref c']))) c' (LamX.CodeO c' (X.env.qual ++ "<lambda>")) b = H b := fun b h1 h2 => by rw [upd_ne h2, upd_ne h1]
    have hE : ∀ b o, H b = some o → (∀ qs, o ≠ .tbl qs) → upd (upd H P (.tbl (ps ++ #[rawInt pos.line, rawInt pos.col, .ref c']))) c' (LamX.CodeO c' (X.env.qual ++ "<lambda>")) b = some o := fun b o e n => by
      rw [at_ b (fun z => n ps (Option.some.inj (e.symm.trans (by rw [z]; exact hP)))) (ne_of_none e nC)]
      exact e
    have eL : (ps ++ #[rawInt pos.line, rawInt pos.col, .ref c']).toList = ps.toList ++ [rawInt pos.line, rawInt pos.col, .ref c'] := by simp
    refine h h'.objs.size c' ((X.mg "__name__").getD .none) ctv _ _ I1 ⟨fun a na => ?_, hE⟩ (fun p hp => ?_) (fun b o hb e => Heap.get?_push_of_some _ (hx b o hb e)) (fun b o e hb nb => ?_) (by rw [hob]; exact Heap.get?_push_size _ fre) ?_ (nofr_of I _ hsz) upd_same
    · by_cases h1 : a = c'
      · rw [h1]; exact nC
      · by_cases h2 : a = P
        · rw [h2, upd_ne nPc, upd_same] at na; cases na
        · rw [at_ a h2 h1] at na; exact na
    · by_cases hb : p.1 = P
      · rw [hu p hp hb, hb]
        refine ⟨_, by rw [upd_ne nPc, upd_same], by rw [eL]; exact PySem.TriplesOk_snoc _ _ _ _ ht, fun p' cv hcv => ?_⟩
        rw [eL] at hcv
        rcases LamX.among_app _ ht hcv with z | z
        · obtain ⟨c0, e1, e2⟩ := ha p' cv z
          exact ⟨c0, e1, hE _ _ e2 LamX.codeO_ne⟩
        · exact ⟨c', z, upd_same⟩
      · obtain ⟨ps', a1, a2, a3⟩ := hT p hp
        refine ⟨ps', by rw [at_ p.1 hb (ne_of_none a1 nC)]; exact a1, a2, fun p' cv hcv => ?_⟩
        obtain ⟨c0, e1, e2⟩ := a3 p' cv hcv
        exact ⟨c0, e1, hE _ _ e2 LamX.codeO_ne⟩
    · rw [at_ b hb (fun z => by rw [z] at e; exact Nat.lt_irrefl _ (Nat.lt_of_lt_of_le (Heap.lt_size e) hge))]
      exact nb
    · have n1 : h'.objs.size ≠ c' := Nat.ne_of_gt hlt
      have n2 : h'.objs.size ≠ P := Nat.ne_of_gt (Nat.lt_of_lt_of_le (Heap.lt_size hP') hsz)
      rw [at_ _ n2 n1]
      exact I.hok.fresh hsz
  · obtain ⟨c', e, hco⟩ := ha pos cv hc
    subst e
    have I1 : Inv X pins σ H { s with heap := h'.push (lamOb (X.env.qual ++ "<lambda>") params body scope (cloFrom X.env.cells scope.names []) dV ((X.mg "__name__").getD .none) c' ctv), toks := tk } := I.kept fun b o e => Heap.get?_push_of_some _ (hx b o e)
    exact h h'.objs.size c' ((X.mg "__name__").getD .none) ctv H _ I1 (LamH.refl H) hT (fun b o _ e => Heap.get?_push_of_some _ (hx b o e)) (fun _ _ _ _ n => n) (Heap.get?_push_size _ rfl) (I.hok.fresh hsz) (nofr_of I _ hsz) hco
/-- lambda .., its defaults' values at hand -/
theorem lam_make3 {Tt : List (Addr × Str)} {c P : Addr} {params : Arguments} {body : Expr} {scope : Scope} {pos : Pos} {E : Value → Shared → Prop} {Q : Value → Shared → Prop} {dvs : List Value} (I : Inv X pins σ H s) (TB : LamX.TabB X.base X.mg c P) (hcode : X.env.code = .ref c)
    (hm : (P, X.env.qual ++ "<lambda>") ∈ Tt) (hu : ∀ p ∈ Tt, p.1 = P → p.2 = X.env.qual ++ "<lambda>") (hT : LamX.Tabs Tt H) (hfree : ∀ y ∈ scope.names, y.2 = .free → ∃ c, X.env.cells.lookup y.1 = some c)
    (h : ∀ (f c' : Addr) (dV pm ctv : Value) (H1 : Hp) (s' : Shared), Inv X pins σ H1 s' → LamH H H1 → LamX.Tabs Tt H1 → DflOk (frs X.stack) dvs dV s'.heap H1 →
      s'.heap.get? f = some (lamOb (X.env.qual ++ "<lambda>") params body scope (cloFrom X.env.cells scope.names []) dV pm c' ctv) → H1 f = none → f ∉ frs X.stack → H1 c' = some (LamX.CodeO c' (X.env.qual ++ "<lambda>")) → Q (.ref f) s') :
    wpAny (model X.prog X.w) X.A (makeFunction "<lambda>" (X.env.qual ++ "<lambda>") params (.expr body) scope X.env dvs [] [] pos pos.line) Q E s := by
  rw [makeFunction_eq]
  simp only [List.zip_nil_right, List.filterMap_nil, List.isEmpty_nil, if_true, pure_bind]
  cases dvs with
  | nil =>
    simp only [List.isEmpty_nil, if_true, pure_bind]
    exact lam_at I TB hcode hm hu hT hfree fun f c' pm ctv H1 s' J l t _ _ a b d e => h f c' _ pm ctv H1 s' J l t (.inl ⟨rfl, rfl⟩) a b d e
  | cons v r =>
    simp only [List.isEmpty_cons, Bool.false_eq_true, if_false]
    refine wpAny_bind (wpAny_newTextTuple ?_)
    have I1 : Inv X pins σ H { s with heap := s.heap.push ({ cls := .type "tuple", data := .seq (v :: r).toArray } : Obj) } := I.kept (t' := s.toks) fun b o e => Heap.get?_push_of_some _ e
    have ho : (s.heap.push ({ cls := .type "tuple", data := .seq (v :: r).toArray } : Obj)).get? s.heap.objs.size = some ({ cls := .type "tuple", data := .seq (v :: r).toArray } : Obj) := Heap.get?_push_size _ rfl
    obtain ⟨ps, hP, _, _⟩ := hT _ hm
    have hne : s.heap.objs.size ≠ P := Nat.ne_of_gt (Heap.lt_size (show s.heap.get? P = some { cls := .none, data := .fields ps } from I.hok P _ hP))
    exact lam_at I1 TB hcode hm hu hT hfree fun f c' pm ctv H1 s' J l t k1 k2 a b d e => h f c' _ pm ctv H1 s' J l t (.inr ⟨s.heap.objs.size, rfl, k1 _ _ hne ho, k2 _ _ ho hne (I.hok.fresh (Nat.le_refl _)), nofr_of I _ (Nat.le_refl _)⟩) a b d e
end
end DL

set_option Elab.async false
set_option linter.all false
set_option maxRecDepth 100000
set_option maxHeartbeats 4000000
/-! DL20: the body of a lambda, entered. -/
namespace DL
open PySem PySem.Spec PyProof.Rows L2

/-- a lambda's names: its own are parameters with defaults (their slots, if the def around has such names, are own), captured ones, globals -/
structure LamS2 (N : List Str) (sc scope : Scope) (own : List Nat) : Prop where
  kind : scope.kind = .function
  co : scope.isCoroutine = false
  gen : scope.isGenerator = false
  nocell : ∀ y ∈ scope.names, y.2 ≠ .cell
  own : ∀ i y, N[i]? = some y → scope.names.lookup y = some .local → i ∈ own
  free : ∀ y ∈ scope.names, y.2 = .free → sc.names.lookup y.1 = some .cell ∨ sc.names.lookup y.1 = some .free
theorem LamS2.has {X : Cx} {scope : Scope} {own : List Nat} (L : LamS2 X.N X.env.scope scope own) (ok : X.Ok) : ∀ y ∈ scope.names, y.2 = .free → ∃ c, X.env.cells.lookup y.1 = some c := fun y hy e =>
  (L.free y hy e).elim (fun k => ok.has _ (.inl k)) fun k => ok.has _ (.inr k)
section
variable {X : Cx} {pins : List (Addr × Obj)} {σ : L2.St} {H HZ : Hp} {s s1 : Shared}
theorem lam_start3 {A : Around} {outer : List Env} {E : XK} {scope : Scope} {own : List Nat} {f c' : Addr} {h₁ : Heap} {tk : Nat} {bnd : List (Str × Value)} (I : Inv X pins σ H s) (L : LamS2 X.N X.env.scope scope own) (e0 : Env0 X.prog X.w X.K X.mg X.base A outer s1 HZ) (hd : A.handled = none)
    (un : Un (frs X.stack) [] H HZ s.heap s1.heap) (hns : h₁.Ns s1.heap.objs.size fun y => bnd.reverse.lookup y) (kp : ∀ b o, s1.heap.get? b = some o → h₁.get? b = some o) :
    Inv (LamX.lamCx X A outer s1 HZ E scope f c') [] (L2.wipe σ own) HZ { s1 with heap := h₁, toks := tk } := by
  have hfree := L.has I.ok
  have cm : ∀ {y c}, (cloFrom X.env.cells scope.names []).lookup y = some c → X.env.cells.lookup y = some c := fun {y c} e => by
    rcases cloFrom_mem (PySem.mem_of_lookup e) with hm | ⟨h1, h2⟩
    · cases hm
    · obtain ⟨c1, hc⟩ := hfree _ h1 rfl
      have hc : X.env.cells.lookup y = some c1 := hc
      rw [h2, hc]; rfl
  have look : ∀ {y}, scope.names.lookup y = some .free → ∃ c, (cloFrom X.env.cells scope.names []).lookup y = some c := fun {y} hl => mem_lookup (cloFrom_has (cells := X.env.cells) (acc := []) (show (y, NameKind.free) ∈ scope.names from PySem.mem_of_lookup hl))
  have cellK : ∀ {c : Addr} {v : Option Value}, H c = none → s.heap.IsCell c v → h₁.IsCell c v := fun {c v} n ⟨o, ho, hd⟩ => by
    obtain ⟨sl, q⟩ := un.any ho n (by simp)
    exact ⟨_, kp _ _ q, hd⟩
  have noA : ∀ b : Addr, b ∉ (LamX.lamCx X A outer s1 HZ E scope f c').ex := fun b z => absurd (show b ∈ ([] : List Addr) from z) (by simp)
  refine ⟨⟨e0.mod, L.kind, rfl, rfl, Nat.le_refl _, fun y z c e1 e2 => I.ok.inj y z c (cm e1) (cm e2), fun y hy => ?_, fun y c z _ => (nomatch (show false = true from z)), fun _ => hd, Around.frames_deeper e0.frames, .inr ⟨rfl, rfl⟩, fun b z => absurd z (noA b), e0.bs, e0.bsz, fun b _ _ => noA b, fun b z => absurd z (noA b), e0.funs, e0.frf⟩,
    rfl, e0.bare, Un.kept kp, ⟨_, hns, fun i y v e1 e2 e3 => ?_⟩, fun y c e => ?_, e0.hok.fresh (Nat.le_refl _), fun y c e => ?_, fun q hq => absurd (show q ∈ ([] : List (Addr × Obj)) ++ [] from hq) (by simp), e0.hok.kept kp, (L2.wipe_length _ _).trans I.len⟩
  · have hy : scope.names.lookup y = some .cell ∨ scope.names.lookup y = some .free := hy
    exact hy.elim (fun hy => absurd rfl (L.nocell _ (PySem.mem_of_lookup hy))) look
  · have e3 : Vis scope y := e3
    obtain ⟨e2, no⟩ := wipe_some e2
    rcases e3 with k | k | k
    · exact absurd (L.own i y e1 k) no
    · exact absurd rfl (L.nocell _ (PySem.mem_of_lookup k))
    · obtain ⟨m, hn, hl⟩ := I.loc
      have hvis : Vis X.env.scope y := (L.free _ (PySem.mem_of_lookup k) rfl).elim (fun k => .inr (.inl k)) (fun k => .inr (.inr k))
      obtain ⟨w', r, q⟩ := hl i y v e1 e2 hvis
      obtain ⟨c2, h2⟩ := look k
      refine ⟨w', r, .inr ⟨.inr k, c2, h2, ?_⟩⟩
      have c1 := cm h2
      rcases q with ⟨k', _⟩ | ⟨_, c3, e', z⟩
      · have k' : X.env.scope.names.lookup y = some .local := k'
        rcases L.free _ (PySem.mem_of_lookup k) rfl with k2 | k2 <;> rw [show X.env.scope.names.lookup y = _ from k2] at k' <;> cases k'
      · rw [c1] at e'
        cases e'
        exact cellK (I.freeC y _ c1) z
  · obtain ⟨w', z⟩ := I.cell y c (cm e)
    exact ⟨w', cellK (I.freeC y c (cm e)) z⟩
  · obtain ⟨v, o, ho, hd⟩ := I.cell y c (cm e)
    exact un.free c o ho (I.freeC y c (cm e)) (by simp)
end

/-! ### what a lambda has captured -/
def capsOf (ρ : Ev) : List D := ρ.map fun o => o.getD .junk
def uncap (caps : List D) : Ev := caps.map fun d => match d with | .junk => none | d => some d
section
variable {T : Tb} {μ : List Addr} {H : Hp} {σ : L2.St}
theorem dvs_ext : ∀ {vs : List V} {ds : List D}, vs.length = ds.length → (∀ (i : Nat) (v : V) (d : D), vs[i]? = some v → ds[i]? = some d → DV T μ H v d) → DVs T μ H vs ds
  | [], [], _, _ => .nil
  | v :: vs, d :: ds, hl, h => .cons (h 0 v d rfl rfl) (dvs_ext (by simpa using hl) fun i v' d' e1 e2 => h (i + 1) v' d' (by simpa using e1) (by simpa using e2))
  | [], _ :: _, hl, _ => by simp at hl
  | _ :: _, [], hl, _ => by simp at hl
theorem caps_dvs {ρ : Ev} (he : EnvR T μ H σ ρ) : DVs T μ H (σ.map fun o => o.getD .non) (capsOf ρ) := by
  refine dvs_ext (by simp [capsOf, he.len]) fun i v d e1 e2 => ?_
  rw [capsOf, List.getElem?_map] at e2
  cases hr : ρ[i]? with
  | none => rw [hr] at e2; cases e2
  | some o =>
    rw [hr] at e2
    cases o with
    | none => cases e2; exact .junk v
    | some d' =>
      simp only [Option.map_some, Option.getD_some, Option.some.injEq] at e2
      subst e2
      obtain ⟨w, s1, s2⟩ := he.at_ i d' hr
      rw [List.getElem?_map, s1] at e1
      cases e1
      exact s2
theorem caps_junk {ρ : Ev} (he : EnvR T μ H σ ρ) (i : Nat) (h : σ[i]? = some none) : (capsOf ρ)[i]? = some .junk := by
  have hi : i < ρ.length := by rw [← he.len]; exact (List.getElem?_eq_some_iff.mp h).1
  obtain ⟨o, ho⟩ : ∃ o, ρ[i]? = some o := ⟨_, List.getElem?_eq_getElem hi⟩
  rw [capsOf, List.getElem?_map, ho]
  cases o with
  | none => rfl
  | some d =>
    obtain ⟨w, s1, _⟩ := he.at_ i d ho
    rw [h] at s1; cases s1
theorem uncap_env {caps : List D} (h : DVs T μ H (σ.map fun o => o.getD .non) caps) (hj : ∀ i : Nat, σ[i]? = some none → caps[i]? = some .junk) : EnvR T μ H σ (uncap caps) := by
  refine ⟨by simpa [uncap] using h.length, fun i d e => ?_⟩
  rw [uncap, List.getElem?_map] at e
  cases hc : caps[i]? with
  | none => rw [hc] at e; cases e
  | some d' =>
    rw [hc] at e
    obtain ⟨v, e1, e2⟩ := h.get hc
    rw [List.getElem?_map] at e1
    cases hs : σ[i]? with
    | none => rw [hs] at e1; cases e1
    | some o =>
      cases o with
      | none =>
        rw [hj i hs] at hc
        cases hc
        cases e
      | some w =>
        rw [hs] at e1
        cases e1
        have ed : d = d' := by
          cases d' <;> simp at e <;> first | exact e.symm | cases e
        subst ed
        exact ⟨_, rfl, e2⟩
end
end DL

set_option Elab.async false
set_option linter.all false
set_option maxRecDepth 100000
set_option maxHeartbeats 4000000
/-! DL21: told(lambda: ..): the def that calls what it got, within a try. -/
namespace DL
open PySem PySem.Spec PyProof.Rows L2

theorem Fin.hotter {T : Tb} {h : Addr → Option (Nat × Addr)} {l : Option (Addr × List (Option V) × Addr × Str)} {E : XK} {μ : List Addr} {H : Hp} {r : Res D} {Q : VK} (n : Cold T) (f : Fin (T.ext h l) E (kD (T.ext h l) Q) μ H r) : Fin T E (kD T Q) μ H r := by
  cases r with
  | ok d S => exact fun μ' H' st rp v hv => f μ' H' st (rp.hotter n) v (hv.hotter n)
  | exc c fs S => exact fun dx μ' H' st rp ⟨vs, e, q⟩ => f dx μ' H' st (rp.hotter n) ⟨vs, e, q.hotter n⟩
  | bad => exact f
/-- what calling slot 0's lambda computes -/
def fAct (own : List Nat) (fl : FE) : FE := fun ρ S => match ρ[(0 : Nat)]? with
  | some (some (.lam caps)) => if coldL caps = true then fl (wipeE (uncap caps) own) S else .bad
  | _ => .bad
/-- told(lambda: fl) -/
def fTold (wr : FE → FE) (n : Nat) (inE : Nat → Bool) (R : GF) (own : List Nat) (fl : FE) : FE := fun ρ S => match sTold inE R (wr (fAct own fl)) (start0 n [.lam (capsOf ρ)]) S with
  | .rt d S' => if cold d = true then .ok d S' else .bad
  | _ => .bad
section
variable {X : Cx} {T : Tb} {E : XK} {k lv : Nat}
/-- its arguments bind -/
def LamBind (X : Cx) (params : Arguments) (body : Expr) (scope : Scope) : Prop :=
  ∀ (dvs : List Value), dvs.length = params.defaults.length → ∃ bnd : List (Str × Value), (∀ y ∈ bnd, scope.names.lookup y.1 = some .local) ∧
    ∀ (q : Str) (cl : List (Str × Addr)) (dV pm cv ct : Value) (s1 : Shared), ((dvs = [] ∧ dV = .none) ∨ ∃ td : Addr, dV = .ref td ∧ s1.heap.get? td = some ({ cls := .type "tuple", data := .seq dvs.toArray } : Obj)) → BindsTo s1 (lamFd q params body scope cl dV pm cv ct) ⟨[], []⟩ bnd
/-- its defaults are evaluated -/
def LamDfl (X : Cx) (params : Arguments) : Prop := (defaultsOf params X.env).2 = [] ∧ ∀ (M : Model) (A : Around) (E : Value → Shared → Prop) (s : Shared) (K : List Value → Shared → Prop),
  (∀ dvs tk, dvs.length = params.defaults.length → K dvs { s with toks := tk }) → wpAny M A (evalAll (defaultsOf params X.env).1) K E s
theorem de_lamtold {x a xc n r : Str} {st : Stmt} {g : Addr} {fd : FuncData} {Ng : List Str} {i : Nat} {c P CS : Addr} {params : Arguments} {body : Expr} {scope : Scope} {own : List Nat} {fl : FE} {R : GF} {inE : Nat → Bool} {e0 : Expr} {wr : FE → FE} {p lpos pos p1 p2 p3 np p6 p7 p8 q1 q2 q3 : Pos}
    (hg : Gl X x) (hm : X.mg x = some (.ref g)) (Fg : Fun X.K x x st g fd) (hb : Binds X.K fd [a] []) (Sg : FnScope Ng [a] (defScope st)) (hNg : Ng[0]? = some a) (hva : Vis (defScope st) a) (hNn : Ng[i]? = some n) (hln : (defScope st).names.lookup n = some .local)
    (hbody : defBody st = [.Try [.Return (some e0) p3] [.ExceptHandler (some (.Name xc np)) (some n) [.Return (some (.Call (.Name r q1) [.Name n q2] [] q3)) p6] p7] [] [] p8])
    (hwr : ∀ (X' : Cx) (T' : Tb) (E' : XK) (f : FE), PE X' (.Call (.Name a p1) [] [] p2) (tE T' E' f) → PE X' e0 (tE T' E' (wr f)))
    (hgx : (defScope st).names.lookup xc = some .globalImplicit) (hmx : X.mg xc = some (.ref CS)) (hgr : (defScope st).names.lookup r = some .globalImplicit)
    (cl : Cold T) (hcatch : ∀ c, inE c = true → PySem.W.exmOne X.K (.ref (T.eA c)) (.ref CS) = some true) (G : DefR T X.prog X.w X.K X.mg X.base r k inE R)
    (TB : LamX.TabB X.base X.mg c P) (hcode : X.env.code = .ref c) (hmT : (P, X.env.qual ++ "<lambda>") ∈ T.tabs) (hu : ∀ p ∈ T.tabs, p.1 = P → p.2 = X.env.qual ++ "<lambda>")
    (hr : Room (k + 2) X.A) (L : LamS2 X.N X.env.scope scope own) (hdf : LamDfl X params) (hbn : LamBind X params body scope)
    (hl : ∀ (A : Around) (outer : List Env) (s : Shared) (H : Hp) (E : XK) (f c' : Addr), Room k (A.deeper (LamX.lamEnv X scope s.heap.objs.size f c')) → PE (LamX.lamCx X A outer s H E scope f c') body (tE T E fl))
    (hdb : (x == ("__debug__" : Str)) = false := by decide) (hda : (a == ("__debug__" : Str)) = false := by decide) (hca : (a == ("__classdict__" : Str)) = false := by decide) (hdx : (xc == ("__debug__" : Str)) = false := by decide)
    (hdn : (n == ("__debug__" : Str)) = false := by decide) (hcn : (n == ("__classdict__" : Str)) = false := by decide) (hdr : (r == ("__debug__" : Str)) = false := by decide)
    (hst : ∀ env : Env, starEach [.Name n q2] env = (false, eval (.Name n q2) env) :: starEach [] env := by intro _; rfl) (hpl : ∀ env : Env, (backTo q3 (starEach [] env)).any (·.1) = false := by intro _; rfl)
    (hs1 : starEach [.Lambda params body scope lpos] X.env = (false, eval (.Lambda params body scope lpos) X.env) :: starEach [] X.env := by rfl) (hp1 : (backTo pos (starEach [] X.env)).any (·.1) = false := by rfl) :
    PE X (.Call (.Name x p) [.Lambda params body scope lpos] [] pos) (tE T E (fTold wr Ng.length inE R own fl)) := by
  refine ⟨fun pins s σ H Q I ⟨ρ, S, μ, hee, hrr, hf⟩ => ?_⟩
  obtain ⟨oc, od, kV, doc, pm0, an, cdv, ct, osl, rfl, lk, hcd⟩ := Fg.ex
  refine wpAny_Call_Name_kw (ld_glob I hg hm ?_ hdb)
  refine PySem.W.callWith_K (h₀ := X.base) I.ok.mod.kin Fg.kp ?_ hs1 hp1
  rw [hs1]
  show wpAny _ _ (spliced ((false, eval (.Lambda params body scope lpos) X.env) :: backTo pos (starEach [] X.env))) _ _ s
  refine Calls.spliced_cons ?_
  rw [arm_eval_Lambda]
  obtain ⟨hd2, hd1⟩ := hdf
  cases hdd : defaultsOf params X.env with
  | mk dl kl =>
    rw [hdd] at hd1 hd2
    dsimp only at hd1 hd2
    subst hd2
    dsimp only
    refine wpAny_bind (hd1 _ _ _ _ _ fun dvs tk0 hdl => wpAny_bind (wpAny_holding (wpAny_pure ?_)))
    have I0 : Inv X pins σ H { s with toks := tk0 } := I.tok _
    refine lam_make3 I0 TB hcode hmT hu hrr.tabs (L.has I.ok) fun f c' dV pm ctv H1 s' I1 lh T1 dfl hfo hfn hfr hco => ?_
    refine Calls.spliced_nil ⟨I1.kIn, ?_⟩
    have st1 : Step μ H μ H1 := lh.step
    have keepμ : ∀ b ∈ μ, H1 b = H b := fun b hb => by
      obtain ⟨u, e, mu⟩ := hrr.r0.mu b hb
      rw [e]
      refine lh.keep b u e fun ps z => ?_
      rw [z] at mu
      rcases mu with ⟨_, y⟩ | ⟨_, _, _, y⟩ <;> cases y
    have rp1 : Rep T μ H1 S := hrr.step0 st1 keepμ fun _ => T1
    have he1 : EnvR T μ H1 σ ρ := hee.step st1 hrr.r0
    have ncμ : c' ∉ μ := fun hm => by
      obtain ⟨u, e, mu⟩ := rp1.r0.mu c' hm
      rw [hco] at e
      have z := Option.some.inj e
      unfold LamX.CodeO at z
      subst z
      rcases mu with ⟨_, y⟩ | ⟨_, _, _, y⟩ <;> cases y
    -- the tables with this lambda
    generalize hT1 : T.ext (fun _ => none) (some (f, σ, c', X.env.qual ++ "<lambda>")) = TL
    have dvl : DV TL μ H1 (.ref f) (.lam (capsOf ρ)) := by
      rw [← hT1]
      exact .lam rfl (caps_junk he1) hco ncμ ((caps_dvs he1).hotter cl)
    -- x(), in the def that got it
    have act : ∀ (W : WX) (pn : List (Addr × Obj)) (xe : Value → Shared → Prop), Takes ((cxOf (L2.CX X.prog X.w) X.prog X.w X.K X.mg X.base Ng x (defScope st) g cdv X.A X.stack s' H1 NX).tr pn xe) W → Room (k + 1) (X.A.deeper (envOfC x (defScope st) s'.heap.objs.size g cdv)) →
        PE ((cxOf (L2.CX X.prog X.w) X.prog X.w X.K X.mg X.base Ng x (defScope st) g cdv X.A X.stack s' H1 NX).tr pn xe) (.Call (.Name a p1) [] [] p2) (tE TL (fun cls d H => ∀ σ, W cls d σ H) (fAct own fl)) := by
      intro W pn xe tk hr'
      refine ⟨fun pinsZ sZ σZ HZ QZ IZ ⟨ρZ, SZ, μZ, heZ, hrZ, hfZ⟩ => ?_⟩
      unfold fAct at hfZ
      split at hfZ
      · rename_i caps hcap
        split at hfZ
        · rename_i hcold
          obtain ⟨v0, e0, dv0⟩ := heZ.at_ 0 _ hcap
          rw [← hT1] at dv0 hrZ hfZ
          cases dv0 with
          | lam hlm hj hcZ nZ qZ =>
            have hlm : some (f, σ, c', X.env.qual ++ "<lambda>") = some _ := hlm
            cases hlm
            have envL : EnvR T μZ HZ (L2.wipe σ own) (wipeE (uncap caps) own) := (uncap_env (qZ.cooler hcold) hj).wipe own
            have finL := hfZ.hotter cl
            refine wpAny_Call_Name_kw (thn ((pe_var (pos := p1) (i := 0) hNg hva hda hca).run pinsZ sZ σZ HZ (fun v H1 => v = .ref f ∧ H1 = HZ) IZ ⟨.ref f, e0, rfl, rfl⟩) fun u s1 ⟨v, H2, I2, r1, q1⟩ => ?_)
            obtain ⟨ev, eH⟩ := q1
            subst ev
            rw [eH] at I2
            obtain rfl : u = Value.ref f := r1
            have of1 := I2.base.keep f _ hfo hfn hfr (fun z => nomatch (show f ∈ ([] : List Addr) from z))
            refine PySem.W.callWith_F0 ⟨_, _, _, _, of1⟩ ?_
            have un : Un (frs X.stack) [] H1 HZ s'.heap s1.heap := I2.base
            obtain ⟨⟨oc2, vs2, t2, hoc, hdc, hvc⟩, _, _⟩ := I2.hok c' _ hcZ
            obtain ⟨bnd, hbl, hbb⟩ := hbn dvs hdl
            have hdfl : (dvs = [] ∧ dV = .none) ∨ ∃ td : Addr, dV = .ref td ∧ s1.heap.get? td = some ({ cls := .type "tuple", data := .seq dvs.toArray } : Obj) := by
              rcases dfl with z | ⟨td, z1, z2, z3, z4⟩
              · exact .inl z
              · exact .inr ⟨td, z1, I2.base.keep td _ z2 z3 z4 (fun z => nomatch (show td ∈ ([] : List Addr) from z))⟩
            have rc : codeAny (model X.prog X.w) (X.A.deeper (envOfC x (defScope st) s'.heap.objs.size g cdv)) (.call (.ref f) ⟨[], []⟩) (CR (L2.CX X.prog X.w) (envOfC x (defScope st) s'.heap.objs.size g cdv :: X.stack) X.prog X.w HZ s1 QZ (fun cls d H => ∀ σ, W cls d σ H)) s1 := by
              refine PySem.W.kla_callFunE hr'.depth of1 rfl L.co L.gen rfl ⟨c', oc2, vs2, t2, rfl, hoc, hdc, hvc⟩ ?_
              refine hbb _ _ _ _ _ _ s1 hdfl _ _ _ _ (wpAny_newFunctionEnv L.nocell hbl (fun h₁ hns hsb => ⟨I2.nolimit.fresh _ hsb, ?_⟩) L.kind)
              show codeAny _ _ (.expr body (LamX.lamEnv X scope s1.heap.objs.size f c')) _ _
              have kp : ∀ b o, s1.heap.get? b = some o → h₁.get? b = some o := fun b o e => hsb.extBut b o (Nat.ne_of_lt (Heap.lt_size e)) (Heap.get?_push_of_some _ e)
              have J : Inv (LamX.lamCx X (X.A.deeper (envOfC x (defScope st) s'.heap.objs.size g cdv)) (envOfC x (defScope st) s'.heap.objs.size g cdv :: X.stack) s1 HZ (fun cls d H => ∀ σ, W cls d σ H) scope f c') [] (L2.wipe σ own) HZ { s1 with heap := h₁, toks := s1.toks + bnd.length } :=
                lam_start3 I1 L I2.env0 hr'.hd un hns kp
              refine PySem.W.kla_codeExpr (wpAny_mono ((hl _ _ s1 HZ _ f c' (hr'.deeper _)).run [] _ _ HZ QZ J ⟨_, SZ, μZ, envL, hrZ.cooler, finL⟩) (fun v s' hq => ?_) fun e s' hq => hq)
              obtain ⟨w', H', J', rv, q⟩ := hq
              exact ⟨w', H', J'.os, J'.bare, J'.base, J'.hok, rv, q⟩
            have hx := passes_call (E := fun cls d H => ∀ σ, W cls d σ H) tk (fun cls d σ H h => h σ)
            refine wpAny_call (codeAny_mono rc fun r s' hq => ?_)
            cases r with
            | error e => exact hx pinsZ σZ HZ s1 e s' I2 hq
            | ok fl =>
              cases fl with
              | ret u => exact I2.after hq
              | next => exact hq.elim
              | brk => exact hq.elim
              | cont => exact hq.elim
        · exact hfZ.elim
      · exact hfZ.elim
    have rc : codeAny (model X.prog X.w) X.A (.call (.ref g) ⟨[.ref f], []⟩) (CR (L2.CX X.prog X.w) X.stack X.prog X.w H1 s' Q NX) s' := by
      refine LamX.run_ofS (N := Ng) (ps := [a]) (us := [.ref f]) (vs := [.ref f]) lk hcd Sg hr I1.env0 (hb s' [.ref f] I1.kIn rfl) (.cons rfl .nil) rfl fun hr' => ?_
      have told := ds_told (X := cxOf (L2.CX X.prog X.w) X.prog X.w X.K X.mg X.base Ng x (defScope st) g cdv X.A X.stack s' H1 NX) (T := T) (E := NX) (h := fun _ => none) (l := some (f, σ, c', X.env.qual ++ "<lambda>")) (x := xc) (n := n) (r := r) (CS := CS) (i := i) (e0 := e0) (f0 := wr (fAct own fl)) (R := R) (inE := inE) (lv := k)
        (np := np) (p3 := p3) (p6 := p6) (p7 := p7) (p8 := p8) (q1 := q1) (q2 := q2) (q3 := q3) rfl rfl Sg.nd hNn hln ⟨hgx, hdx, .inl hmx⟩ cl hcatch (hr'.mono (Nat.le_succ k)) G hgr (takes_of (E := fun _ _ _ => False) rfl rfl rfl rfl) (fun W pn xe tk => by rw [hT1]; exact hwr _ _ _ _ (act W pn xe tk hr')) hdn hcn hdr hst hpl
      rw [hT1] at told
      refine ⟨_, by show PSs _ (defBody st) _; rw [hbody]; exact dss_one told, ?_⟩
      have envZ : EnvR TL μ H1 (L2.start Ng [V.ref f]) (start0 Ng.length [.lam (capsOf ρ)]) := env_start (.cons dvl .nil)
      refine ⟨_, S, μ, envZ, by rw [← hT1]; exact rp1.hotter cl, ?_⟩
      unfold fTold at hf
      split at hf
      · rename_i d S' hS
        split at hf
        · rename_i hc'
          rw [hS]
          intro v μ2 H2 st2 rp2 hv
          rw [← hT1] at rp2 hv
          exact hf μ2 H2 (st1.trans st2) rp2.cooler v (hv.cooler hc')
        · exact hf.elim
      · exact hf.elim
    refine wpAny_call (codeAny_mono rc fun r s2 hq => ?_)
    cases r with
    | error e =>
      obtain ⟨_, _, _, _, _, _, _, _, _, _, _, _, z⟩ := hq
      exact z.elim
    | ok fl =>
      cases fl with
      | ret u => exact I1.after hq
      | next => exact hq.elim
      | brk => exact hq.elim
      | cont => exact hq.elim
end
end DL

set_option Elab.async false
set_option linter.all false
set_option maxRecDepth 100000
set_option maxHeartbeats 4000000
/-! DL22: a parameter that is a def, called. -/
namespace DL
open PySem PySem.Spec PyProof.Rows L2
/-- the def of number j -/
def FnAt (T : Tb) (P : Program) (w : World) (K : PySem.W.Frag) (mg : Str → Option Value) (base : Heap) (j : Nat) (lv : Nat) (F : GF) : Prop :=
  PySem.W.keepIn K (.ref (T.fA j)) = true ∧ ∃ fd ps, Binds K fd ps [] ∧ FnOk P w K mg base (L2.CX P w) lv (T.fA j) fd ps (spD T F)
def fCallV (tab : Nat → Option GF) (i : Nat) (fs : FL) : FE := fun ρ S => match ρ[i]? with
  | some (some (.fn j)) => (match tab j with | some F => (fs ρ S).bind F | none => .bad)
  | _ => .bad
section
variable {X : Cx} {T : Tb} {E : XK} {k lv : Nat}
theorem de_callV {x : Str} {i : Nat} {tab : Nat → Option GF} {p pos : Pos} {e : Expr} {es : List Expr} {fs : FL} (hv : ∀ p, PE X (.Name x p) (tVar i)) (G : ∀ j F, tab j = some F → FnAt T X.prog X.w X.K X.mg X.base j lv F) (hr : Room lv X.A) (hx : Passes (L2.CX X.prog X.w) X E) (ha : PA X (e :: es) (tA T E fs))
    (he : starEach (e :: es) X.env = (false, eval e X.env) :: starEach es X.env := by rfl) (hpl : (backTo pos (starEach es X.env)).any (·.1) = false := by rfl) :
    PE X (.Call (.Name x p) (e :: es) [] pos) (tE T E (fCallV tab i fs)) := by
  refine ⟨fun pins s σ H Q I ⟨ρ, S, μ, hee, hrr, hf⟩ => ?_⟩
  unfold fCallV at hf
  split at hf
  · rename_i j hj
    split at hf
    · rename_i F hF
      obtain ⟨hk, fd, ps, hb, FO⟩ := G j F hF
      obtain ⟨v, e1, e2⟩ := hee.at_ i _ hj
      cases e2
      refine wpAny_Call_Name_kw (thn ((hv p).run pins s σ H (fun v H1 => v = .ref (T.fA j) ∧ H1 = H) I ⟨_, e1, rfl, rfl⟩) fun u s1 ⟨v, H1, I1, r1, ev, eH⟩ => ?_)
      subst ev
      rw [eH] at I1
      obtain rfl : u = Value.ref (T.fA j) := r1
      refine PySem.W.callWith_K (h₀ := X.base) I.ok.mod.kin hk (thn (ha.run pos pins s1 σ H (fun vs H1 => spD T F vs H1 Q E) I1 ⟨ρ, S, μ, hee, hrr, (Fin.bind hf).mono fun ds S1 μ1 H1 st1 r1 h1 vs hvs => ⟨ds, S1, μ1, hvs, r1, h1⟩⟩) fun us s2 ⟨vs, H2, I2, r, q⟩ => ⟨I2.kIn, ?_⟩) he hpl
      exact run_fn (dvs := []) FO hr hb .nil hx I2 r (by rw [List.append_nil]; exact q)
    · exact hf.elim
  · exact hf.elim
end
end DL

set_option Elab.async false
set_option linter.all false
set_option maxRecDepth 100000
set_option maxHeartbeats 4000000
/-! DL23: small things: equality where an error is handled; a def that is not covered; a class's methods in the text; told's try. -/
namespace DL
open PySem PySem.Spec PyProof.Rows L2
theorem op_eqH {X : Cx} {T : Tb} (hK : T.K = X.K) (hu : X.A.units + 64 < cLine) : OpR X (compareOp .Eq) (rEqD T.K) := by rw [hK]; exact op_eqD hu
theorem op_neH {X : Cx} {T : Tb} (hK : T.K = X.K) (hu : X.A.units + 64 < cLine) : OpR X (compareOp .NotEq) (rNeD T.K) := by rw [hK]; exact op_neD hu
theorem roomH_units {k : Nat} {A : Around} (r : L2H.RoomH k A) : A.units + 64 < cLine := by have := r.un; omega
section
variable {P : Program} {w : World} {K : PySem.W.Frag} {mg : Str → Option Value} {base : Heap} {T : Tb}
theorem fn_bad {lv : Nat} {f : Addr} {fd : FuncData} {ps : List Str} : FnOk P w K mg base (L2.CX P w) lv f fd ps (spD T fun _ _ => .bad) :=
  ⟨fun vs H Q E ⟨_, _, _, _, _, h⟩ => h.elim, fun _ _ _ _ _ _ _ _ _ _ _ _ _ ⟨_, _, _, _, _, h⟩ => h.elim⟩
theorem hotX_R {N : List Str} {qual : Str} {scope : Scope} {f : Addr} {cd : Value} {A : Around} {outer : List Env} {s : Shared} {H : Hp} {E : XK} {p : Addr × Obj} {c : Nat} {dd : Addr} (hc : p.2.cls = .ref (T.eA c)) (hd : p.2.dict = some dd) (hf : ∃ vs, p.2.data = .fields vs) :
    HotX (cxR P w K mg base N qual scope f cd A outer s H E p) (T.heat p.1 c dd) := fun a c' dd' h => by
  have h : (if a = p.1 then some (c, dd) else none) = some (c', dd') := h
  split at h
  · rename_i e
    cases h
    exact ⟨p.2, by rw [e]; exact List.mem_cons_self, hc, hd, hf⟩
  · cases h
theorem heat_at {T : Tb} {p a : Addr} {c c' : Nat} {dd dd' : Addr} (h : (T.heat p c dd).hot a = some (c', dd')) : c' = c := by
  have h : (if a = p then some (c, dd) else none) = some (c', dd') := h
  split at h <;> cases h
  rfl
end
/-- a class's text -/
def clsB (s : Stmt) : List Stmt := match s with
  | .ClassDef _ _ _ b _ _ _ _ _ _ _ => b
  | _ => []
end DL

set_option Elab.async false
set_option linter.all false
set_option maxRecDepth 100000
set_option maxHeartbeats 4000000
/-! DL24: x == y with the class's own __eq__. -/
namespace DL
open PySem PySem.Spec PyProof.Rows L2
/-- the class's own == -/
def EqD (T : Tb) (P : Program) (w : World) (K : PySem.W.Frag) (mg : Str → Option Value) (base : Heap) (c : Nat) (lv : Nat) (F : GF) : Prop :=
  c < T.nC ∧ PySem.W.subIn K (.type "tuple") (.ref (T.cA c)) = some false ∧ ∃ f fd ps, PySem.W.findIn K (.ref (T.cA c)) "__eq__" = some (some (.ref f)) ∧ PySem.W.isFn K (.ref f) = true ∧ Binds K fd ps [] ∧ FnOk P w K mg base (L2.CX P w) lv f fd ps (spD T F)
/-- what stands on the right: of the same class, or a tuple -/
def eqRhs (c : Nat) : D → Bool
  | .ins c' _ => c' == c
  | .tup _ => true
  | _ => false
def gEqO (c : Nat) (F : GF) : G2 := fun d e S => match d with
  | .ins c' _ => if c' = c ∧ eqRhs c e = true then (match F [d, e] S with | .ok (.bl b) S' => .ok (.bl b) S' | _ => .bad) else .bad
  | _ => .bad
section
variable {X : Cx} {T : Tb} {E : XK} {k lv : Nat}
def rEqO (T : Tb) (c : Nat) (F : GF) : R2 := fun x y H Q => ∃ (d e : D) (S : Store) (μ : List Addr), DV T μ H x d ∧ DV T μ H y e ∧ Rep T μ H S ∧ (∃ fs, d = .ins c fs) ∧ eqRhs c e = true ∧ ∃ b S', F [d, e] S = .ok (.bl b) S' ∧ ∀ μ' H', Step μ H μ' H' → Rep T μ' H' S' → Q (.bl b) H'
theorem op_eqO {c : Nat} {F : GF} (hK : T.K = X.K) (G : EqD T X.prog X.w X.K X.mg X.base c lv F) (hr : Room lv X.A) (hx : Passes (L2.CX X.prog X.w) X E) : OpR X (compareOp .Eq) (rEqO T c F) := by
  intro pins s σ H x y v u Q I rx ry h
  obtain ⟨d, e, S, μ, hd, he, hrr, ⟨fs, rfl⟩, hq, b, S', hF, hQ⟩ := h
  obtain ⟨hc, nt, f, fd, ps, hs, hf, hb, FO⟩ := G
  have hd0 := hd
  cases hd with
  | @ins a dx _ vs _ hc' hk ea n q =>
    cases rx
    obtain ⟨mA, J, _⟩ := ins_get I.hok ea
    obtain ⟨od, J, _⟩ := J.look
    obtain ⟨m, hF2⟩ := I.fr
    have hsp : spD T F [V.ref a, y] H (fun v H' => v = .bl b ∧ Q (.bl b) H') E := by
      refine ⟨[.ins c fs, e], S, μ, .cons hd0 (.cons he .nil), hrr, ?_⟩
      rw [hF]
      intro μ' H' st rp v hv
      cases hv
      exact ⟨rfl, hQ μ' H' st rp⟩
    have call_ : wpAny (model X.prog X.w) X.A (call (.ref f) [.ref a, u]) (PySem.W.CmpBack (EP X pins σ Q)) X.xe s := by
      refine wpAny_mono (run_fn (dvs := []) FO hr hb .nil hx I (.cons (show L2.RelV (V.ref a) (Value.ref a) from rfl) (.cons ry .nil)) (by rw [List.append_nil]; exact hsp)) (fun w s' hw => ?_) fun _ _ z => z
      obtain ⟨z, H', I', rz, ez, q⟩ := hw
      subst ez
      obtain rfl : w = Value.bool b := rz
      exact ⟨.bl b, H', I', rfl, q⟩
    show wpAny (model X.prog X.w) X.A (richCompare .Eq (.ref a) u) (EP X pins σ Q) X.xe s
    cases he with
    | ins hc2 hk2 eb n2 q2 =>
      cases ry
      have e2 := beq_iff_eq.mp (show (_ == c) = true from hq)
      subst e2
      obtain ⟨mB, J', _⟩ := ins_get I.hok eb
      obtain ⟨od', J', _⟩ := J'.look
      exact PySem.W.cmp_K (op := .Eq) hr.units0 hF2 I.ok.mod.kin J J'.type (by simp [PySem.W.notFirst]) hs hf call_
    | @tup b2 _ _ sq q2 =>
      cases ry
      rw [hK] at sq
      obtain ⟨o, eo, co, _⟩ := DL.Inv.tupX I sq
      have LT : PySem.W.Looks (model X.prog X.w) s.heap (typeOf (.ref b2)) (.type "tuple") := fun A Q E s k q => wpAny_typeOf_ref (k _ _ eo) (by rw [co]; exact q)
      exact PySem.W.cmp_K (op := .Eq) hr.units0 hF2 I.ok.mod.kin J LT (by unfold PySem.W.notFirst; rw [nt]; simp) hs hf call_
    | _ => cases hq
theorem ok_eqO {c : Nat} {F : GF} : Ok2 T E (rEqO T c F) (gEqO c F) := fun d e v w S μ H Q hv hw hr h => by
  unfold gEqO at h
  split at h
  · split at h
    · rename_i hc
      obtain ⟨rfl, hq⟩ := hc
      split at h
      · rename_i b S' hF
        exact ⟨_, e, S, μ, hv, hw, hr, ⟨_, rfl⟩, hq, b, S', hF, fun μ' H' st rp => h.at st rp _ (.bl b)⟩
      · exact h.elim
    · exact h.elim
  · exact h.elim
end
end DL

set_option Elab.async false
set_option linter.all false
set_option maxRecDepth 100000
set_option maxHeartbeats 4000000
/-! DL25: t[::-1] of a tuple. -/
namespace DL
open PySem PySem.Spec PyProof.Rows L2 HT
section
variable {prog : Program} {w : World} {A : Around} {E : Value → Shared → Prop} {s : Shared}
theorem adjust_back (n : Nat) : Builtin.Slice.sliceAdjust none none (-1) (n : Int) = ((n : Int) - 1, -1) := rfl
theorem places_back (n : Nat) : Builtin.Slice.slicePlaces ((n : Int) - 1) (-1) (-1) = n := by
  unfold Builtin.Slice.slicePlaces
  have h1 : ¬ ((-1 : Int) > 0) := by omega
  simp only [h1, if_false]
  by_cases h : (n : Int) - 1 > -1
  · rw [if_pos h]
    have : ((n : Int) - 1 - -1 - 1) / - -1 = (n : Int) - 1 := by rw [show (- -1 : Int) = 1 by decide, Int.ediv_one]; omega
    rw [this]
    omega
  · rw [if_neg h]; omega
theorem sliceApplied_back {sl : Addr} {vl vu vs : Value} {n : Nat} {Q : Int × Int × Nat → Shared → Prop} (hs : s.heap.IsSliceOf sl vl vu vs) (pl : IsPart vl none) (pu : IsPart vu none) (ps : IsPart vs (some (-1)))
    (h : Q ((n : Int) - 1, -1, n) s) : wpAny (model prog w) A (Builtin.Slice.sliceApplied (.ref sl) (pure (n : Int))) Q E s := by
  obtain ⟨os, hos, hcs, hds⟩ := id hs
  unfold Builtin.Slice.sliceApplied Builtin.Slice.sliceFields
  refine wpAny_bind (wpAny_bind (wpAny_field hos hds (x := vl) rfl (wpAny_bind (wpAny_field hos hds (x := vu) rfl (wpAny_bind (wpAny_field hos hds (x := vs) rfl (wpAny_pure ?_)))))))
  refine wpAny_bind (slicePart_ ps ?_)
  show wpAny _ _ (if ((-1 : Int) == 0) = true then _ else _) _ _ s
  rw [if_neg (by decide)]
  refine wpAny_bind (slicePart_ pl (wpAny_bind (slicePart_ pu (wpAny_bind (wpAny_pure ?_)))))
  show wpAny _ _ (match Builtin.Slice.sliceAdjust none none (-1) (n : Int) with | (lo, hi) => pure (lo, (-1 : Int), Builtin.Slice.slicePlaces lo hi (-1))) _ _ s
  rw [adjust_back n]
  show wpAny _ _ (pure ((n : Int) - 1, (-1 : Int), Builtin.Slice.slicePlaces ((n : Int) - 1) (-1) (-1))) _ _ s
  rw [places_back]
  exact wpAny_pure h
theorem pick_back (xs : Array Value) : ((List.range xs.size).filterMap fun (m : Nat) => xs[((xs.size : Int) - 1 + (m : Int) * -1).toNat]?).toArray = xs.toList.reverse.toArray := by
  congr 1
  have e : (List.range xs.size).filterMap (fun (m : Nat) => xs[((xs.size : Int) - 1 + (m : Int) * -1).toNat]?) = ((List.range xs.size).map fun k => xs.size - 1 - k).filterMap (xs[·]?) := by
    rw [List.filterMap_map]
    refine congrArg (fun f => List.filterMap f _) (funext fun m => ?_)
    have : ((xs.size : Int) - 1 + (m : Int) * -1).toNat = xs.size - 1 - m := by omega
    rw [this]
    rfl
  rw [e, PySem.W.krv_range, List.filterMap_reverse, PySem.W.krv_all]
theorem getItem_tuple_back {t sl : Addr} {items : Array Value} {vl vu vs : Value} {Q : Value → Shared → Prop} (ht : IsTup s.heap t items) (hs : s.heap.IsSliceOf sl vl vu vs) (pl : IsPart vl none) (pu : IsPart vu none) (ps : IsPart vs (some (-1)))
    (h : Q (.ref s.heap.objs.size) { s with heap := s.heap.push { cls := .type "tuple", data := .seq items.toList.reverse.toArray } })
    (hsz : items.size ≤ sizeLine) : wpAny (model prog w) A (getItem (.ref t) (.ref sl)) Q E s := by
  have htake : sizeOk (.seq items.toList.reverse.toArray) := by
    show items.toList.reverse.toArray.size ≤ sizeLine
    rw [List.size_toArray, List.length_reverse, Array.length_toList]
    exact hsz
  obtain ⟨os, hos, hcs, hds⟩ := id hs
  have hTs : s.TypeIs (.ref sl) "slice" := ⟨os, hos, hcs⟩
  unfold getItem
  try with_reducible refine wpAny_holding ?_
  first | refine wpAny_bind (wpAny_pure ?_) | skip
  refine wpAny_bind (wpAny_sequenceKey ht.typeIs (by decide) ?_)
  refine wpAny_bind (wpAny_callSpecial?_slot (name := Str.ofString "__getitem__") ht.typeIs PyProof.Rows.slot_tuple_getitem
    (wpAny_call_entry PyProof.Rows.slot_tuple_getitem ht.typeIs entry_tuple_getitem ?_ (args_tuple_getitem _ _)))
  show wpAny _ _ (Builtin.Tuple.tupleItemsOf (.ref t) >>= _) _ _ s
  refine wpAny_bind (tupleItemsOf_ ht ?_)
  refine wpAny_bind (wpAny_typeOf hTs ?_)
  rw [if_pos (by decide)]
  refine wpAny_bind (sliceApplied_back hs pl pu ps ?_)
  have hno : ¬ ((((items.size : Int) - 1) == 0 && (-1 : Int) == 1 && items.size == items.size) = true) := by
    intro q
    rw [Bool.and_eq_true, Bool.and_eq_true] at q
    exact absurd q.1.2 (by decide)
  show wpAny _ _ (if (((items.size : Int) - 1) == 0 && (-1 : Int) == 1 && items.size == items.size) = true then _ else _) _ _ s
  rw [if_neg hno, pick_back]
  first
    | exact wpAny_bind (m := Builtin.Tuple.tupleExact _) (wpAny_newObj_type (wpAny_pure ⟨_, rfl, wpAny_pure h⟩) htake)
    | exact wpAny_bind (m := Builtin.Tuple.tupleExact _) (wpAny_newObj_type (wpAny_bind (wpAny_pure (wpAny_pure ⟨_, rfl, wpAny_pure h⟩))) htake)
    | exact wpAny_bind (wpAny_bind (m := Builtin.Tuple.tupleExact _) (wpAny_newObj_type (wpAny_pure (wpAny_pure ⟨_, rfl, wpAny_pure h⟩)) htake))
    | exact wpAny_bind (wpAny_bind (m := Builtin.Tuple.tupleExact _) (wpAny_newObj_type (wpAny_pure ⟨_, rfl, wpAny_pure h⟩) htake))
end
section
variable {X : Cx} {T : Tb} {E : XK}
def tRevT (K : PySem.W.Frag) (te : TE) : TE := fun σ H Q => te σ H fun x H1 => ∃ a xs, x = .ref a ∧ SqT K H1 a xs ∧ ∀ (p : Addr) (o : Obj), H1 p = none → o.dict = none → Q (.ref p) (upd H1 p (.frz o (.tup xs.reverse)))
theorem pe_revT {e : Expr} {te : TE} {k : Nat} {p1 p2 p3 pos : Pos} (he : PE X e te) : PE X (.Subscript e (.Slice none none (some (.UnaryOp .USub (.Constant (.int 1) k p1) p2)) p3) pos) (tRevT X.K te) := by
  refine ⟨fun pins s σ H Q I h => ?_⟩
  refine Subscript_ (thn (he.run pins s σ H _ I h) fun v s1 ⟨x, H1, I1, r1, q1⟩ => ?_)
  obtain ⟨a, xs, ex, hx, q⟩ := q1
  subst ex
  cases r1
  have hst : PO X (some (.UnaryOp .USub (.Constant (.int 1) k p1) p2)) (tPart (tUn (rU fun i => .int (-i)) (tC (.int 1)))) := po_some (pe_un un_neg pe_int)
  refine wpAny_Slice (thn (po_none.run pins s1 σ H1 (fun o H2 => o = none ∧ H2 = H1) I1 ⟨rfl, rfl⟩) fun vl s2 ⟨l, H2, I2, pl, el, e2⟩ => ?_)
  subst el e2
  refine thn (po_none.run pins s2 σ H2 (fun o H3 => o = none ∧ H3 = H2) I2 ⟨rfl, rfl⟩) fun vu s3 ⟨u, H3, I3, pu, eu, e3⟩ => ?_
  subst eu e3
  refine thn (hst.run pins s3 σ H3 (fun o H4 => o = some (-1) ∧ H4 = H3) I3 ⟨1, rfl, -1, rfl, rfl, rfl⟩) fun vs s4 ⟨o, H4, I4, ps, eo, e4⟩ => ?_
  subst eo e4
  have I5 : Inv X pins σ H4 { s4 with heap := s4.heap.push { cls := .type "slice", data := .fields #[vl, vu, vs] } } := I4.kept (t' := s4.toks) fun b ob q => Heap.get?_push_of_some _ q
  obtain ⟨its, r, ht, hz⟩ := I5.tuple hx
  have hlen := r.length
  show wpAny (model X.prog X.w) X.A (subscriptTail e (.Slice none none (some (.UnaryOp .USub (.Constant (.int 1) k p1) p2)) p3) (.ref a) (.ref s4.heap.objs.size)) (EP X pins σ Q) X.xe { s4 with heap := s4.heap.push { cls := .type "slice", data := .fields #[vl, vu, vs] } }
  refine tail_any (ops := [.ref a, .ref s4.heap.objs.size]) ht.typeIs (PyProof.Rows.slot_tuple_getitem.lookup) ?_ (by with_unfolding_all rfl)
  refine getItem_tuple_back ht (Heap.IsSliceOf.new _ vl vu vs) pl pu ps ?_ (by rw [List.size_toArray]; omega)
  exact laid_tup I5 r.reverse (by rw [List.length_reverse]; exact hz) q
def fRevS (f : FE) : FE := fun ρ S => (f ρ S).bind fun d S1 => match d with | .tup ds => .ok (.tup ds.reverse) S1 | _ => .bad
theorem de_revS {e : Expr} {f : FE} {n : Nat} {p1 p2 p3 pos : Pos} (hK : T.K = X.K) (he : PE X e (tE T E f)) : PE X (.Subscript e (.Slice none none (some (.UnaryOp .USub (.Constant (.int 1) n p1) p2)) p3) pos) (tE T E (fRevS f)) :=
  peW (pe_revT he) fun σ H Q ⟨ρ, S, μ, he, hr, hf⟩ => ⟨ρ, S, μ, he, hr, (Fin.bind hf).mono fun d S1 μ1 H1 st1 r1 h1 v hv => by
    split at h1
    · cases hv with
      | tup s q => exact ⟨_, _, rfl, hK ▸ s.sq, fin_tup r1 q.reverse h1⟩
    · exact h1.elim⟩
end
end DL

set_option Elab.async false
set_option linter.all false
set_option maxRecDepth 100000
set_option maxHeartbeats 4000000
/-! DL26: a lambda's arguments: none, or one with a whole number's default. -/
namespace DL
open PySem PySem.Spec PyProof.Rows L2
theorem FnR.mono {T : Tb} {P : Program} {w : World} {K : PySem.W.Frag} {mg : Str → Option Value} {base : Heap} {k j : Nat} {f : Addr} {fd : FuncData} {ps : List Str} {inE : Nat → Bool} {F : GF} (h : FnR T P w K mg base k f fd ps inE F) (hj : k ≤ j) : FnR T P w K mg base j f fd ps inE F :=
  ⟨h.len, fun A outer s H args us vs Q E p c dd hin hr => h.run A outer s H args us vs Q E p c dd hin (hr.mono hj)⟩
section
variable {X : Cx} {body : Expr} {scope : Scope}
abbrev par0 : Arguments := ⟨[], [], none, [], [], none, []⟩
abbrev par1 (a : Str) (pa : Pos) (e : Expr) : Arguments := ⟨[], [⟨a, none, pa⟩], none, [], [], none, [e]⟩
theorem lamBind0 : LamBind X par0 body scope := fun dvs hl => ⟨[], (fun _ h => by cases h), fun q cl dV pm cv ct s1 h => by
  rcases h with ⟨_, e⟩ | ⟨td, e, ho⟩
  · subst e; exact BindsTo.of_eq rfl
  · subst e
    obtain rfl : dvs = [] := List.length_eq_zero_iff.mp hl
    exact BindsTo.of_defaults rfl ho rfl rfl rfl⟩
theorem lamDfl0 : LamDfl X par0 := ⟨rfl, fun M A E s K h => by
  have := h [] s.toks rfl
  show wpAny M A (evalAll []) K E s
  exact wpAny_pure this⟩
theorem lamDfl1 {a : Str} {pa p : Pos} {i : Int} {n : Nat} : LamDfl X (par1 a pa (.Constant (.int i) n p)) := ⟨rfl, fun M A E s K h => by
  show wpAny M A (evalAll [eval (.Constant (.int i) n p) X.env]) K E s
  unfold evalAll
  refine wpAny_bind (wpAny_Constant_int ?_)
  refine wpAny_bind (wpAny_holding ?_)
  unfold evalAll
  exact wpAny_pure (wpAny_pure (h [_] _ rfl))⟩
end
end DL

set_option Elab.async false
set_option linter.all false
set_option maxRecDepth 100000
set_option maxHeartbeats 4000000
/-! DL27: repr of data; defs that are called where no guard is open. -/
namespace DL
open PySem PySem.Spec PyProof.Rows L2
def isSq : D → Bool
  | .tup _ => true
  | .lst _ => true
  | .scr _ => true
  | _ => false
def canShow (p : PyData) : Bool := p.showable && !p.hasDict && decide (p.depth ≤ 100) && decide (p.shown.length ≤ lineN)
def gRepr : GL := fun ds S => match ds with
  | [d] => (match toPy d with | some p => if isSq d = true ∧ canShow p = true then .ok (.str p.shown) S else .bad | none => .bad)
  | _ => .bad
def rRepr (K : PySem.W.Frag) : List V → Hp → VK → Prop := fun xs H Q => ∃ a p, xs = [.ref a] ∧ Dp K H (.ref a) p ∧ canShow p = true ∧ Q (.str p.shown) H
section
variable {X : Cx} {T : Tb} {E : XK}
theorem cr_repr {k : Nat} (hK : T.K = X.K) (hr : Room k X.A) (GA : X.A.guards = some []) : CallR X (.builtin "repr") (rRepr T.K) := by
  intro pins s σ H xs us Q I r h
  rw [hK] at h
  obtain ⟨a, p, rfl, hp, hc, q⟩ := h
  obtain ⟨u, rfl, rx⟩ := vals1 r
  cases rx
  unfold canShow at hc
  simp only [Bool.and_eq_true, Bool.not_eq_true', decide_eq_true_eq] at hc
  obtain ⟨⟨⟨h1, h2⟩, h3⟩, h4⟩ := hc
  obtain ⟨as, rd⟩ := Dp.reads I p _ _ hp rfl
  refine PySem.repr_of_reads' rd h1 (fun z => by rw [h2] at z; cases z) GA (by have := hr.un; omega) (fun b o e => e) (fun h' u tk hk => ?_) (lineN_le h4)
  exact ⟨.str p.shown, H, I.kept (t' := tk) hk, ⟨_, rfl⟩, q⟩
theorem ok_repr : OkL T E (rRepr T.K) gRepr := fun ds vs S μ H Q hvs hr h => by
  unfold gRepr at h
  split at h
  · split at h
    · rename_i p hp
      split at h
      · rename_i hc
        cases hvs with
        | cons r q =>
          cases q
          have hd := dp_of r hp
          rename_i d v
          have : ∃ a, v = V.ref a := by
            cases r with
            | tup _ _ => exact ⟨_, rfl⟩
            | lst _ _ _ => exact ⟨_, rfl⟩
            | scr _ => exact ⟨_, rfl⟩
            | _ => cases hc.1
          obtain ⟨a, rfl⟩ := this
          exact ⟨a, p, rfl, hd, hc.2, h.ok hr _ (.str _)⟩
      · exact h.elim
    · exact h.elim
  · exact h.elim
end
/-- a def that may ask for a repr -/
structure FnG (T : Tb) (P : Program) (w : World) (K : PySem.W.Frag) (mg : Str → Option Value) (base : Heap) (k : Nat) (f : Addr) (fd : FuncData) (ps : List Str) (F : GF) : Prop where
  len : Ar ps.length F
  run : ∀ (A : Around) (outer : List Env) (s : Shared) (H : Hp) (args : Args) (us : List Value) (vs : List V) (Q : VK) (E : XK), A.guards = some [] → Room k A → Env0 P w K mg base A outer s H → BindsTo s fd args (ps.zip us) → Vals vs us → spD T F vs H Q E →
    codeAny (model P w) A (.call (.ref f) args) (CR (L2.CX P w) outer P w H s Q E) s
section
variable {P : Program} {w : World} {K : PySem.W.Frag} {mg : Str → Option Value} {base : Heap} {T : Tb}
theorem fn_G {x qual : Str} {st : Stmt} {f : Addr} {fd : FuncData} {N ps : List Str} {k : Nat} {body : FS} (F : Fun K x qual st f fd) (S : FnScope N ps (defScope st))
    (hb : ∀ (A : Around) (outer : List Env) (s : Shared) (H : Hp) (E : XK), A.guards = some [] → Room k (A.deeper (envOfC qual (defScope st) s.heap.objs.size f fd.code)) →
      PSs (cxOf (L2.CX P w) P w K mg base N qual (defScope st) f fd.code A outer s H E) (defBody st) (tS T E body)) : FnG T P w K mg base (k + 1) f fd ps (runF ps.length N.length body) := by
  obtain ⟨oc, od, kV, doc, pm, an, cdv, ct, osl, rfl, lk, hcd⟩ := F.ex
  refine ⟨ar_runF, fun A outer s H args us vs Q E hg hr e0 hbn r hsp => ?_⟩
  have hl := spD_len ar_runF hsp
  refine LamX.run_ofS lk hcd S hr e0 hbn r hl fun hr' => ?_
  obtain ⟨ds, S0, μ, hv, hrr, hf⟩ := hsp
  exact ⟨_, hb A outer s H E hg hr', _, S0, μ, env_start hv, hrr, fin_run hrr hf⟩
end
def DefG (T : Tb) (P : Program) (w : World) (K : PySem.W.Frag) (mg : Str → Option Value) (base : Heap) (x : Str) (lv : Nat) (F : GF) : Prop :=
  ∃ f fd ps, mg x = some (.ref f) ∧ PySem.W.keepIn K (.ref f) = true ∧ Binds K fd ps [] ∧ FnG T P w K mg base lv f fd ps F
section
variable {X : Cx} {T : Tb} {E : XK} {k lv : Nat}
theorem de_callG {x : Str} {F : GF} {q pos : Pos} {e : Expr} {es : List Expr} {fs : FL} (G : DefG T X.prog X.w X.K X.mg X.base x lv F) (GA : X.A.guards = some []) (hr : Room lv X.A) (hx : Passes (L2.CX X.prog X.w) X E) (hg : Gl X x) (ha : PA X (e :: es) (tA T E fs))
    (hdb : (x == ("__debug__" : Str)) = false := by decide) (he : starEach (e :: es) X.env = (false, eval e X.env) :: starEach es X.env := by rfl) (hpl : (backTo pos (starEach es X.env)).any (·.1) = false := by rfl) :
    PE X (.Call (.Name x q) (e :: es) [] pos) (tE T E (fCallF F fs)) := by
  obtain ⟨f, fd, ps, hm, hk, hb, FO⟩ := G
  refine ⟨fun pins s σ H Q I ⟨ρ, S, μ, hee, hrr, hf⟩ => ?_⟩
  refine wpAny_Call_Name_kw (ld_glob I hg hm ?_ hdb)
  refine PySem.W.callWith_K (h₀ := X.base) I.ok.mod.kin hk (thn (ha.run pos pins s σ H (fun vs H1 => spD T F vs H1 Q E) I ⟨ρ, S, μ, hee, hrr, (Fin.bind hf).mono fun ds S1 μ1 H1 st1 r1 h1 vs hvs => ⟨ds, S1, μ1, hvs, r1, h1⟩⟩) fun us s1 ⟨vs, H1, I1, r, q1⟩ => ⟨I1.kIn, ?_⟩) he hpl
  have hl := spD_len FO.len q1
  have b := hb s1 us I1.kIn (by rw [List.append_nil, ← r.length]; exact hl)
  rw [List.append_nil] at b
  refine wpAny_call (codeAny_mono (FO.run X.A X.stack s1 H1 ⟨us, []⟩ us vs Q E GA hr I1.env0 b r q1) fun r s' hq => ?_)
  cases r with
  | error e => exact hx pins σ H1 s1 e s' I1 hq
  | ok fl =>
    cases fl with
    | ret u => exact I1.after hq
    | next => exact hq.elim
    | brk => exact hq.elim
    | cont => exact hq.elim
end
end DL
namespace DL
open PySem PySem.Spec PyProof.Rows L2
theorem lamOwn_by {N : List Str} {own : List Nat} {scope : Scope} (h : ∀ i, i < N.length → scope.names.lookup (N.getD i "") = some .local → i ∈ own) : ∀ i y, N[i]? = some y → scope.names.lookup y = some .local → i ∈ own := fun i y hi hl => by
  obtain ⟨hlt, e⟩ := List.getElem?_eq_some_iff.mp hi
  refine h i hlt ?_
  rw [List.getD_eq_getElem?_getD, hi]
  exact hl
end DL

set_option Elab.async false
set_option linter.all false
set_option maxRecDepth 100000
set_option maxHeartbeats 4000000
/-! DL28: the end of a law whose def may ask for a repr and makes lambdas. -/
namespace DL
open PySem PySem.Spec PyProof.Rows L2
/-- the law's own table of code objects, empty at the start -/
structure OneTab (K : PySem.W.Frag) (c P : Addr) (h : Heap) : Prop where
  tab : h.get? P = some { cls := .none, data := .fields #[] }
  out : K.lookup P = none
  hd : PySem.W.CodeHd h c P
abbrev scrO (vs : List Value) : Obj := { cls := .type "list", data := .seq vs.toArray }
/-- what is tracked at the start: the table, the script where it's no part of the written text -/
def hp0 (K : PySem.W.Frag) (P a : Addr) (vs : List Value) (ns : List Int) : Hp := fun b =>
  if b = P then some (.tbl #[]) else if b = a ∧ K.lookup a = none then some (.frz (scrO vs) (.lst (ns.map V.int))) else none
section
variable {Pg : Program} {w : World} {K : PySem.W.Frag} {mg mb : Str → Option Value} {fa a c P : Addr} {s : Shared} {vs : List Value} {ns : List Int}
theorem hp0_tab : hp0 K P a vs ns P = some (.tbl #[]) := if_pos rfl
theorem hp0_cases (b : Addr) : hp0 K P a vs ns b = none ∨ (b = P ∧ hp0 K P a vs ns b = some (.tbl #[])) ∨ (b = a ∧ K.lookup a = none ∧ hp0 K P a vs ns b = some (.frz (scrO vs) (.lst (ns.map V.int)))) := by
  unfold hp0
  by_cases h1 : b = P
  · exact .inr (.inl ⟨h1, if_pos h1⟩)
  · by_cases h2 : b = a ∧ K.lookup a = none
    · exact .inr (.inr ⟨h2.1, h2.2, by rw [if_neg h1, if_pos h2]⟩)
    · exact .inl (by rw [if_neg h1, if_neg h2])
/-- what neither is the table nor a sequence is not tracked -/
theorem hp0_free (T : OneTab K c P s.heap) (ha : s.heap.get? a = some (scrO vs)) {b : Addr} {o : Obj} (e : s.heap.get? b = some o) (n1 : o.data ≠ .fields #[]) (n2 : ∀ xs k, o.data ≠ .seq xs k) : hp0 K P a vs ns b = none := by
  rcases hp0_cases (K := K) (P := P) (a := a) (vs := vs) (ns := ns) b with h | ⟨rfl, _⟩ | ⟨rfl, _⟩
  · exact h
  · have := T.tab.symm.trans e
    cases this
    exact (n1 rfl).elim
  · have := ha.symm.trans e
    cases this
    exact (n2 _ _ rfl).elim
theorem end_G (KX : K.In s.heap) (g1 : s.heap.Ns mainGlobals mg) (g2 : s.heap.Ns builtinsNs mb) (g3 : ∀ x : Str, x ≠ "__name__" → mb x = bootBuiltins x) (g4 : s.heap.NoLimit) (g5 : s.gens = #[]) (T : OneTab K c P s.heap)
    (bm : ∃ (m : Addr) (ob : Obj), mg "__builtins__" = some (.ref m) ∧ m ≠ builtinsNs ∧ s.heap.get? m = some ob ∧ ob.cls = .type "module" ∧ ob.dict = some builtinsNs ∧ ob.data = .plain)
    (ha : s.heap.get? a = some (scrO vs)) (hi : IntsAre vs ns) (hl : ns.length ≤ sizeLine)
    (R : ∀ (base : Heap), K.In base → base.Ns mainGlobals mg → LamX.TabB base mg c P → ∀ H : Hp, Env0 Pg w K mg base callerA [] s H → H P = some (.tbl #[]) → SqL K H a (ns.map V.int) →
      codeAny (model Pg w) callerA (.call (.ref fa) ⟨[.ref a], []⟩) (CR (L2.CX Pg w) [] Pg w H s (fun v _ => v = .bl true) NX) s) :
    codeAny (model Pg w) callerA (.call (.ref fa) ⟨[.ref a], []⟩) (fun r s' => r = .ok (.ret (.bool true)) ∧ OldK s.heap s'.heap ∧ s'.os = s.os ∧ AllBare s'.gens) s := by
  have rv : Vals (ns.map V.int) vs := vals_ints hi
  have zl : (ns.map V.int).length ≤ sizeLine := by rw [List.length_map]; exact hl
  have aP : a ≠ P := fun e => by
    have z := T.tab
    rw [← e, ha] at z
    cases z
  generalize hH : hp0 K P a vs ns = H
  have cs := hp0_cases (K := K) (P := P) (a := a) (vs := vs) (ns := ns)
  have fr := fun {b : Addr} {o : Obj} => hp0_free (K := K) (ns := ns) T ha (b := b) (o := o)
  rw [hH] at cs
  simp only [hH] at fr
  have HP : H P = some (.tbl #[]) := by rw [← hH]; exact hp0_tab
  have inB := fun {b : Addr} {o : Obj} (e : s.heap.get? b = some o) (n : H b = none) => hidT_get (H := H) e n
  have inK : K.In (hidT s.heap H) := fun b o e => by
    have e' := KX b o e
    rcases cs b with h | ⟨rfl, _⟩ | ⟨rfl, h, _⟩
    · exact inB e' h
    · rw [T.out] at e; cases e
    · rw [h] at e; cases e
  have nsB : ∀ {b : Addr} {m : Str → Option Value}, s.heap.Ns b m → (hidT s.heap H).Ns b m := fun ⟨o, es, ep, e, d, r⟩ =>
    ⟨o, es, ep, inB e (fr e (fun z => by rw [d] at z; cases z) fun xs k z => by rw [d] at z; cases z), d, r⟩
  have md : L2.Mod K mg (hidT s.heap H) := by
    obtain ⟨mc, l1, l2⟩ := g4
    exact { kin := inK, glob := nsB g1, blt := ⟨mb, nsB g2, g3⟩, nolimit := ⟨mc, nsB l1, l2⟩ }
  have gP : mainGlobals ≠ P := fun e => by
    obtain ⟨o, es, ep, q, d, _⟩ := g1
    rw [e, T.tab] at q
    cases q
    cases d
  have tB : LamX.TabB (hidT s.heap H) mg c P := by
    refine { code := ?_, bm := ?_, gP := gP }
    · obtain ⟨o, us, r⟩ := T.hd
      obtain ⟨f1, f2, f3, f4, f5, f6, f7, q1, q2, q3, q4, r⟩ := r
      refine ⟨o, us, f1, f2, f3, f4, f5, f6, f7, ?_⟩
      refine ⟨inB q1 (fr q1 (fun z => ?_) fun xs k z => ?_), q2, q3, q4, r⟩
      · rw [q3] at z
        have z' := Data.fields.inj z
        rw [z'] at q4
        cases q4
      · rw [q3] at z; cases z
    · obtain ⟨m, ob, b1, b2, b3, b4, b5, b6⟩ := bm
      have hm := fr b3 (fun z => by rw [b6] at z; cases z) fun xs k z => by rw [b6] at z; cases z
      have n1 : m ≠ mainGlobals := fun e => by
        obtain ⟨o, es, ep, q, d, _⟩ := g1
        rw [← e, b3] at q
        cases q
        rw [b6] at d
        cases d
      have n2 : m ≠ P := fun e => by rw [e, HP] at hm; cases hm
      exact ⟨m, ob, b1, b2, n1, n2, inB b3 hm, b4, b5, b6⟩
  have ok : HOk Pg w H s.heap := fun b u e => by
    rcases cs b with h | ⟨rfl, h⟩ | ⟨rfl, _, h⟩
    · rw [h] at e; cases e
    · rw [h] at e; cases e; exact T.tab
    · rw [h] at e; cases e; exact ⟨ha, zl, vs, _, rv, ha⟩
  have e0 : Env0 Pg w K mg (hidT s.heap H) callerA [] s H :=
    { frames := rfl, mod := md, bs := fun _ _ e => of_hidT e, bsz := Nat.le_of_eq (hidT_size _ _), funs := trivial, frf := fun b hb => (nomatch hb), hok := ok, bare := .of_eq g5 }
  have sq : SqL K H a (ns.map V.int) := by
    cases hk : K.lookup a with
    | none =>
      refine .inl (.inr ⟨scrO vs, ?_⟩)
      rw [← hH]
      unfold hp0
      rw [if_neg aP, if_pos ⟨rfl, hk⟩]
    | some o =>
      have z := KX a o hk
      rw [ha] at z
      cases z
      exact .inr ⟨_, vs.toArray, _, hk, rfl, rfl, rfl, by rw [List.size_toArray, hi.length]; exact hl, by simpa using rv⟩
  refine codeAny_mono (R _ inK (nsB g1) tB H e0 HP sq) fun r s' h => ?_
  cases r with
  | error e =>
    obtain ⟨_, _, _, _, _, _, _, _, _, _, _, _, z⟩ := h
    exact z.elim
  | ok fl =>
    cases fl with
    | next => exact h.elim
    | brk => exact h.elim
    | cont => exact h.elim
    | ret u =>
      obtain ⟨v, H', os, br, un, ok', rr, q⟩ := h
      have q : v = .bl true := q
      subst q
      obtain rfl : u = Value.bool true := rr
      obtain ⟨more, hm⟩ := un.tbls P _ HP
      have hm : s'.heap.get? P = some { cls := .none, data := .fields (#[] ++ more) } := ok' P _ hm
      have keep : ∀ b o, b ≠ P → s.heap.get? b = some o → s'.heap.get? b = some o := fun b o nb e => by
        rcases cs b with h | ⟨z, _⟩ | ⟨rfl, _, h⟩
        · exact un.keep b o e h (fun z => by cases z) (fun z => by cases z)
        · exact (nb z).elim
        · have z := (ok' _ _ (un.frzs _ _ _ h)).1
          rw [ha] at e
          cases e
          exact z
      refine ⟨rfl, { old := fun b o e => ?_, there := fun b o e => ?_ }, os, br⟩
      · by_cases nb : b = P
        · subst nb
          rw [T.tab] at e
          cases e
          exact .inr (.inl ⟨(T.hd.tab T.tab).isCodeTable, rfl, #[], more, rfl, hm⟩)
        · exact .inl (keep b o nb e)
      · by_cases nb : b = P
        · exact ⟨_, by rw [nb]; exact hm⟩
        · exact ⟨o, keep b o nb e⟩
end
end DL

set_option Elab.async false
set_option linter.all false
set_option maxRecDepth 100000
set_option maxHeartbeats 4000000
/-! DL29: the walk's end. -/
namespace DL
open PySem PySem.Spec PyProof.Rows L2
/-- the law keeps to true at every script -/
def Keeps (n : Nat) (F : GF) : Prop := ∀ ns : List Int, ns.length ≤ n → (∀ z ∈ ns, Builtin.Int.intBits z ≤ 1048576) → ∃ S', F [.scr ns] [] = .ok (.bl true) S'
/-- what is known of the law's def at the top's end -/
def TopG (l : PySem.W.OpenLaw) (w : World) (K : PySem.W.Frag) (k n : Nat) (x : Str) (mg : Str → Option Value) (fa : Addr) (h : Heap) : Prop :=
  ∃ (fd : FuncData) (c P : Addr) (T : Tb) (q : Str) (F : GF), OneTab K c P h ∧ T.K = K ∧ T.tabs = [(P, q)] ∧ (∀ (s : Shared) (u : Value), BindsTo s fd ⟨[u], []⟩ [(x, u)]) ∧ Keeps n F ∧
    ∀ base : Heap, K.In base → base.Ns mainGlobals mg → LamX.TabB base mg c P → FnG T l.prog w K mg base k fa fd [x] F
theorem tabs_start {H : Hp} {P : Addr} {q : Str} (h : H P = some (.tbl #[])) : LamX.Tabs [(P, q)] H := fun p hp => by
  obtain rfl := List.mem_singleton.mp hp
  exact ⟨#[], h, trivial, fun _ _ z => by cases z⟩
theorem walk_G {l : PySem.W.OpenLaw} {n k : Nat} {q : Program} {loose : List Str} {XP : (Str → Option Value) → Heap → Prop} {YP : World → Heap → Prop} {d : DefRec} {K : Params → PySem.W.Frag} {x : Str}
    (hn : l.most = some n) (hn2 : n ≤ sizeLine) (hdf : d.params.defaults = []) (hr : Room k callerA) (hrec : ((recsOf q).any fun e => e.name == d.name) = true) (hY : ∀ (w : World) (h : Heap), YP w h → (K w.params).In h)
    (F : ∀ (w : World) (mg : Str → Option Value) (fa : Addr) (h : Heap), (K w.params).In h → h.Ns mainGlobals mg → mg d.name = some (.ref fa) → LamX.OwnTab (K w.params) fa h → TopG l w (K w.params) k n x mg fa h) :
    PySem.W.WalkO q loose XP YP l.row.toRowW d [] (fun f vs => PySem.call f vs) := by
  refine Att.attach_callB hn hdf fun w s₀ s₁ mg mb fa o pm cd doc a vs ns G Y ho hd hcd hmg hobj hints hlen hbits hg => ?_
  have KX := hY w _ Y
  have own : LamX.OwnTab (K w.params) fa s₁.heap := fun c P o1 fd1 e dd vs1 sl k1 k2 k3 k4 k5 => by
    obtain ⟨dL, m, hd'⟩ := List.any_eq_true.mp hrec
    obtain ⟨a', o', fd', c', P', h1, h2, h3, h4, h5, ⟨⟨oc, vc, e1, _, e3, e4⟩, hP⟩⟩ := G.T.tab dL m
    rw [beq_iff_eq.mp hd', hmg] at h1
    cases h1
    rw [KX _ _ k1] at h2
    cases h2
    rw [k2] at h3; cases h3
    rw [k3] at h4; cases h4
    rw [KX _ _ k4] at e1; cases e1
    cases e3
    rw [k5] at e4; cases e4
    exact hP
  obtain ⟨fd, c, P, T, qn, FF, tab, hK, hT, hb, keeps, fn⟩ := F w mg fa _ KX G.T.g hmg own
  refine end_G KX G.T.g G.T.b G.T.builtins G.T.nolimit hg tab G.T.bmain hobj hints (Nat.le_trans hlen hn2) fun base b1 b2 b3 H e0 hP hS => ?_
  obtain ⟨S', hF⟩ := keeps ns hlen hbits
  refine (fn base b1 b2 b3).run callerA [] s₁ H ⟨[.ref a], []⟩ [.ref a] [.ref a] _ _ rfl hr e0 (hb s₁ (.ref a)) (.cons rfl .nil) ?_
  refine ⟨[.scr ns], [], [], .cons (.scr ?_) .nil, ⟨rfl, .nil, fun l a o h => (by cases h), by rw [hT]; exact tabs_start hP⟩, ?_⟩
  · rw [hK]
    exact hS.elim (fun h => .inl ⟨h, fun z => by cases z⟩) .inr
  · rw [hF]
    intro μ' H' st rp v hv
    cases hv
    rfl
end DL

set_option Elab.async false
set_option linter.all false
set_option maxRecDepth 100000
set_option maxHeartbeats 4000000
/-! DL30: what an own error's init does behind its first statement: no, one or two fields stored. -/
namespace DL
open PySem PySem.Spec PyProof.Rows L2
section
variable {X : Cx} {K : PySem.W.Frag} {C : Addr} {rest : List Stmt} {vs : List V} {H : Hp} {Q : VK} {E : XK} {n m : Str}
theorem err_rest1 (hK : X.K = K) (ox : OexC K C) (nf : PySem.W.findIn K (.ref C) n = some none) (hp : PSs X rest (tOst X.K n (tVar 0) (tVar 1))) (h : spE C [n] vs H Q E) :
    ∃ a ws t, vs = V.ref a :: ws ∧ H a = some (exo a C none) ∧ PSs X rest t ∧ t { nx := fun _ H' => Q .non H', rt := Q } (vs.map some) H := by
  subst hK
  obtain ⟨a, ws, rfl, hl, ea, q⟩ := h
  match ws, hl with
  | [u], _ =>
    refine ⟨a, [u], _, rfl, ea, hp, ?_⟩
    exact ⟨u, rfl, _, rfl, a, C, rfl, ox, nf, .inl ⟨ea, fun dx nx ne => q dx nx ne⟩⟩
theorem err_rest2 (hK : X.K = K) (ox : OexC K C) (nf : PySem.W.findIn K (.ref C) n = some none) (nm : PySem.W.findIn K (.ref C) m = some none) (hp : PSs X rest (tSeq (tOst X.K n (tVar 0) (tVar 1)) (tOst X.K m (tVar 0) (tVar 2)))) (h : spE C [n, m] vs H Q E) :
    ∃ a ws t, vs = V.ref a :: ws ∧ H a = some (exo a C none) ∧ PSs X rest t ∧ t { nx := fun _ H' => Q .non H', rt := Q } (vs.map some) H := by
  subst hK
  obtain ⟨a, ws, rfl, hl, ea, q⟩ := h
  match ws, hl with
  | [u, v], _ =>
    refine ⟨a, [u, v], _, rfl, ea, hp, ?_⟩
    refine ⟨u, rfl, _, rfl, a, C, rfl, ox, nf, .inl ⟨ea, fun dx nx ne => ?_⟩⟩
    refine ⟨v, rfl, _, rfl, a, C, rfl, ox, nm, .inr ⟨dx, [(n, u)], upd_same, (by rw [upd_ne ne, upd_same]), (by show 1 ≤ 900; decide), ?_⟩⟩
    have e : upd (upd (upd H dx (exd dx [(n, u)])) a (exo a C (some dx))) dx (exd dx [(m, v), (n, u)]) = upd (upd H dx (exd dx [(m, v), (n, u)])) a (exo a C (some dx)) := by
      funext b
      by_cases h1 : b = dx
      · rw [h1, upd_same, upd_ne ne, upd_same]
      · by_cases h2 : b = a
        · rw [h2, upd_ne (Ne.symm ne), upd_same, upd_same]
        · rw [upd_ne h1, upd_ne h2, upd_ne h1, upd_ne h2, upd_ne h1]
    show Q .non (upd (upd (upd H dx (exd dx [(n, u)])) a (exo a C (some dx))) dx (exd dx [(m, v), (n, u)]))
    rw [e]
    exact q dx nx ne
end
end DL

set_option Elab.async false
set_option linter.all false
set_option maxRecDepth 100000
set_option maxHeartbeats 4000000
namespace KA
open PySem PySem.Spec PyProof.Rows L2 DL

abbrev prg : Program := PySem.Challenge.pw_waterhours_k14_whole_calendars
abbrev top (i : Nat) : Stmt := prg.main.body.getD i (.Pass ⟨0, 0, 0, 0⟩)
theorem bo_len : bootBuiltins "len" = some (.builtin "len") := by first | rfl | kernel_rfl
theorem bo_abs : bootBuiltins "abs" = some (.builtin "abs") := by first | rfl | kernel_rfl
theorem bo_isinstance : bootBuiltins "isinstance" = some (.builtin "isinstance") := by first | rfl | kernel_rfl
theorem bo_sum : bootBuiltins "sum" = some (.builtin "sum") := by first | rfl | kernel_rfl
theorem bo_max : bootBuiltins "max" = some (.builtin "max") := by first | rfl | kernel_rfl
theorem bo_min : bootBuiltins "min" = some (.builtin "min") := by first | rfl | kernel_rfl
theorem bo_all : bootBuiltins "all" = some (.builtin "all") := by first | rfl | kernel_rfl
theorem bo_int : bootBuiltins "int" = some (.type "int") := by first | rfl | kernel_rfl
theorem bo_tuple : bootBuiltins "tuple" = some (.type "tuple") := by first | rfl | kernel_rfl
theorem bo_list : bootBuiltins "list" = some (.type "list") := by first | rfl | kernel_rfl
theorem bo_bool : bootBuiltins "bool" = some (.type "bool") := by first | rfl | kernel_rfl
theorem bo_str : bootBuiltins "str" = some (.type "str") := by first | rfl | kernel_rfl
theorem bo_ValueError : bootBuiltins "ValueError" = some (.type "ValueError") := by first | rfl | kernel_rfl
theorem bo_repr : bootBuiltins "repr" = some (.builtin "repr") := by first | rfl | kernel_rfl
def nmL : List Str := ["part", "place", "value", "name", "line", "parts", "years", "uneven"]
def nmF (i : Nat) : Str := nmL.getD i ""
theorem nm_inj0 : ∀ i, i < 8 → ∀ j, j < 8 → nmF i = nmF j → i = j := by decide +kernel
theorem nm_inj : ∀ i j, i < 8 → j < 8 → nmF i = nmF j → i = j := fun i j hi hj => nm_inj0 i hi j hj
def flF : Nat → List Nat := fun c => match c with | 0 => [5, 6, 7] | _ => []
abbrev tb (K : PySem.W.Frag) (cA fA : Nat → Addr) (tP : Addr) (q : Str) : Tb := { K := K, cA := cA, fA := fA, eA := fA, nm := nmF, nN := 8, nC := 1, fl := flF, inj := nm_inj, hot := fun _ => none, lm := none, tabs := [(tP, q)] }
def GcD (T : Tb) (mg : Str → Option Value) (x : Str) (d : D) : Prop := ∃ v u, mg x = some u ∧ RelV v u ∧ ∀ μ H, DV T μ H v d
theorem de_gcx {X : Cx} {T : Tb} {E : XK} {x : Str} {d : D} {pos : Pos} (hg : Gl X x) (h : GcD T X.mg x d) (hd : (x == ("__debug__" : Str)) = false := by decide) : PE X (.Name x pos) (tE T E (fC d)) := by
  obtain ⟨v, u, h1, h2, h3⟩ := h
  exact de_gc hg h1 h2 h3 hd
def inE (c : Nat) : Bool := decide (c < 9)
/-- what the text tells, the defs apart -/
structure Mx (K : PySem.W.Frag) (mg : Str → Option Value) (T : Tb) : Prop where
  bn : BN mg
  cf : CF T
  c_PARTS : GcD T mg "PARTS" (.tup [(.str "years"), (.str "uneven")])
  c_MOST_YEARS : GcD T mg "MOST_YEARS" (.int 40)
  c_MOST_UNEVEN : GcD T mg "MOST_UNEVEN" (.int 1600)
  e_BadPart : mg "BadPart" = some (.ref (T.fA 0))
  e_BadNumber : mg "BadNumber" = some (.ref (T.fA 1))
  e_Unknown : mg "Unknown" = some (.ref (T.fA 2))
  e_BadCourse : mg "BadCourse" = some (.ref (T.fA 3))
  e_BadChange : mg "BadChange" = some (.ref (T.fA 4))
  e_BadText : mg "BadText" = some (.ref (T.fA 5))
  e_BadLine : mg "BadLine" = some (.ref (T.fA 6))
  e_BadClaim : mg "BadClaim" = some (.ref (T.fA 7))
  e_NothingDone : mg "NothingDone" = some (.ref (T.fA 8))
  e_ClockError : mg "ClockError" = some (.ref (T.fA 9))
  v_is_year : mg "is_year" = some (.ref (T.fA 10))
  v_wrong_place : mg "wrong_place" = some (.ref (T.fA 11))
  k_Calendar : mg "Calendar" = some (.ref (T.cA 0))
  nVE : mg "ValueError" = none
  nRp : mg "repr" = none
  xC : ∀ c, inE c = true → PySem.W.exmOne K (.ref (T.fA c)) (.ref (T.fA 9)) = some true
  xE : ∀ c, c < 9 → ErC K (T.fA c)
  xK : ∀ c, c < 9 → ∀ k, k < 9 → PySem.W.kitOne K (.ref (T.fA c)) (.ref (T.fA k)) = some (c == k)
  xV : ∀ c, c < 9 → PySem.W.kitOne K (.ref (T.fA c)) (.type "ValueError") = some true
  xF : ∀ c, c < 9 → ∀ n, n ∈ nmL → PySem.W.findIn K (.ref (T.fA c)) n = some none
def ansE (c k : Nat) : Option Bool := if c < 9 ∧ k < 9 then some (c == k) else none
def basE (c : Nat) (n : String) : Option Bool := if c < 9 ∧ n = "ValueError" then some true else none
theorem sc__law_told : FnScope ["call", "e"] ["call"] (defScope (top 49)) := ⟨rfl, rfl, rfl, by decide +kernel, rfl, by decide +kernel, by decide +kernel⟩
abbrev qlaw : Str := "law.<locals>.<lambda>"
theorem cold_tb {K : PySem.W.Frag} {cA fA : Nat → Addr} {tP : Addr} {qn : Str} : Cold (tb K cA fA tP qn) := ⟨fun _ => rfl, rfl⟩
theorem isE_of {K : PySem.W.Frag} {mg : Str → Option Value} {cA fA : Nat → Addr} {tP : Addr} {qn : Str} (m : Mx K mg (tb K cA fA tP qn)) (a : Addr) (c : Nat) (dd : Addr) : IsA ((tb K cA fA tP qn).heat a c dd) ((tb K cA fA tP qn).heat a c dd).K ansE basE := by
  refine ⟨fun c k b h => ?_, fun c n b h => ?_⟩
  · unfold ansE at h
    split at h
    · rename_i hc; cases h; exact ⟨m.xE c hc.1, m.xK c hc.1 k hc.2⟩
    · cases h
  · unfold basE at h
    split at h
    · rename_i hc; cases h; obtain ⟨h1, rfl⟩ := hc; exact ⟨m.xE c h1, m.xV c h1⟩
    · cases h
theorem ecX_of {K : PySem.W.Frag} {mg : Str → Option Value} {cA fA : Nat → Addr} {tP : Addr} {qn : Str} (m : Mx K mg (tb K cA fA tP qn)) (p : Addr) (c : Nat) (dd : Addr) (hin : inE c = true) (n : Str) (hn : n ∈ nmL) : ∀ a c' dd', ((tb K cA fA tP qn).heat p c dd).hot a = some (c', dd') → ErC K (((tb K cA fA tP qn).heat p c dd).eA c') ∧ PySem.W.findIn K (.ref (((tb K cA fA tP qn).heat p c dd).eA c')) n = some none := fun a c' dd' h => by
  obtain rfl := heat_at h
  have hc := of_decide_eq_true hin
  exact ⟨m.xE _ hc, m.xF _ hc n hn⟩
section
variable {P : Program} {w : World} {K : PySem.W.Frag} {mg : Str → Option Value} {base : Heap} {cA fA : Nat → Addr} {tP : Addr} {qn : Str}
def b_is_whole : FS := (sRet (fAnd (fCall gIsi (fCons (fVar 0) (fCons (fC (.ty "int")) fNil))) (fNot (fCall gIsi (fCons (fVar 0) (fCons (fC (.ty "bool")) fNil))))))
def F_is_whole : GF := runF 1 1 b_is_whole
theorem sc_is_whole : FnScope ["value"] ["value"] (defScope (top 12)) := ⟨rfl, rfl, rfl, by decide +kernel, rfl, by decide +kernel, by decide +kernel⟩
theorem ok_is_whole (m : Mx K mg (tb K cA fA tP qn))  {f : Addr} {fd : FuncData} (F : Fun K "is_whole" "is_whole" (top 12) f fd) : FnOk P w K mg base (L2.CX P w) 2 f fd ["value"] (spD (tb K cA fA tP qn) F_is_whole) :=
  fn_D F sc_is_whole (fun cdv A outer s H E hr => by
    have px : Passes (L2.CX P w) (cxOf (L2.CX P w) P w K mg base ["value"] "is_whole" (defScope (top 12)) f cdv A outer s H E) E := passes_call (takes_of rfl rfl rfl rfl) fun _ _ _ _ h => h
    exact (dss_one (ds_ret (de_and (de_callB cr_isiD (ok_isi m.cf) rfl m.bn.isinstance bo_isinstance (da_cons (de_var (pv 0)) (da_cons (de_ty rfl m.bn.int bo_int) da_nil))) (de_one (de_not (de_callB cr_isiD (ok_isi m.cf) rfl m.bn.isinstance bo_isinstance (da_cons (de_var (pv 0)) (da_cons (de_ty rfl m.bn.bool bo_bool) da_nil)))))))))
def b_is_within : FS := (sRet (fAnd (fCallF F_is_whole (fCons (fVar 0) fNil)) (f3 gLe gLe (fVar 1) (fVar 0) (fVar 2))))
def F_is_within : GF := runF 3 3 b_is_within
theorem sc_is_within : FnScope ["value", "least", "most"] ["value", "least", "most"] (defScope (top 13)) := ⟨rfl, rfl, rfl, by decide +kernel, rfl, by decide +kernel, by decide +kernel⟩
theorem ok_is_within (m : Mx K mg (tb K cA fA tP qn)) (f_is_whole : DefD (tb K cA fA tP qn) P w K mg base "is_whole" 2 F_is_whole) {f : Addr} {fd : FuncData} (F : Fun K "is_within" "is_within" (top 13) f fd) : FnOk P w K mg base (L2.CX P w) 3 f fd ["value", "least", "most"] (spD (tb K cA fA tP qn) F_is_within) :=
  fn_D F sc_is_within (fun cdv A outer s H E hr => by
    have px : Passes (L2.CX P w) (cxOf (L2.CX P w) P w K mg base ["value", "least", "most"] "is_within" (defScope (top 13)) f cdv A outer s H E) E := passes_call (takes_of rfl rfl rfl rfl) fun _ _ _ _ h => h
    exact (dss_one (ds_ret (de_and (de_call f_is_whole (hr.mono (by decide)) px rfl (da_cons (de_var (pv 0)) da_nil)) (de_one (de_chain op_le op_le ok_le ok_le (de_var (pv 1)) (de_var (pv 0)) (de_var (pv 2))))))))
def b_is_row : FS := (sRet (fAnd (fCall gIsi (fCons (fVar 0) (fCons (fC (.ty "tuple")) fNil))) (f2 gEq (fCall gLen (fCons (fVar 0) fNil)) (fVar 1))))
def F_is_row : GF := runF 2 2 b_is_row
theorem sc_is_row : FnScope ["value", "size"] ["value", "size"] (defScope (top 14)) := ⟨rfl, rfl, rfl, by decide +kernel, rfl, by decide +kernel, by decide +kernel⟩
theorem ok_is_row (m : Mx K mg (tb K cA fA tP qn))  {f : Addr} {fd : FuncData} (F : Fun K "is_row" "is_row" (top 14) f fd) : FnOk P w K mg base (L2.CX P w) 2 f fd ["value", "size"] (spD (tb K cA fA tP qn) F_is_row) :=
  fn_D F sc_is_row (fun cdv A outer s H E hr => by
    have px : Passes (L2.CX P w) (cxOf (L2.CX P w) P w K mg base ["value", "size"] "is_row" (defScope (top 14)) f cdv A outer s H E) E := passes_call (takes_of rfl rfl rfl rfl) fun _ _ _ _ h => h
    exact (dss_one (ds_ret (de_and (de_callB cr_isiD (ok_isi m.cf) rfl m.bn.isinstance bo_isinstance (da_cons (de_var (pv 0)) (da_cons (de_ty rfl m.bn.tuple bo_tuple) da_nil))) (de_one (de_cmp (op_eqT rfl hr) ok_eq (de_callB call_len ok_len rfl m.bn.len bo_len (da_cons (de_var (pv 0)) da_nil)) (de_var (pv 1)) (by rfl)))))))
def b_wrong_number : FS := (sRet (fIf (asB (fCallF F_is_within (fCons (fVar 0) (fCons (fVar 1) (fCons (fVar 2) fNil))))) (fC .non) (fNeg (fC (.int 1)))))
def F_wrong_number : GF := runF 3 3 b_wrong_number
theorem sc_wrong_number : FnScope ["value", "least", "most"] ["value", "least", "most"] (defScope (top 17)) := ⟨rfl, rfl, rfl, by decide +kernel, rfl, by decide +kernel, by decide +kernel⟩
theorem ok_wrong_number (m : Mx K mg (tb K cA fA tP qn)) (f_is_within : DefD (tb K cA fA tP qn) P w K mg base "is_within" 3 F_is_within) {f : Addr} {fd : FuncData} (F : Fun K "wrong_number" "wrong_number" (top 17) f fd) : FnOk P w K mg base (L2.CX P w) 4 f fd ["value", "least", "most"] (spD (tb K cA fA tP qn) F_wrong_number) :=
  fn_D F sc_wrong_number (fun cdv A outer s H E hr => by
    have px : Passes (L2.CX P w) (cxOf (L2.CX P w) P w K mg base ["value", "least", "most"] "wrong_number" (defScope (top 17)) f cdv A outer s H E) E := passes_call (takes_of rfl rfl rfl rfl) fun _ _ _ _ h => h
    exact (dss_one (ds_ret (de_if (dt_val (de_call f_is_within (hr.mono (by decide)) px rfl (da_cons (de_var (pv 0)) (da_cons (de_var (pv 1)) (da_cons (de_var (pv 2)) da_nil))))) de_non (de_neg de_int)))))
def b_is_year : FS := (sRet (fCallF F_is_within (fCons (fVar 0) (fCons (fC (.int 0)) (fCons (fC (.int 1)) fNil)))))
def F_is_year : GF := runF 2 2 b_is_year
theorem sc_is_year : FnScope ["row", "ahead"] ["row", "ahead"] (defScope (top 25)) := ⟨rfl, rfl, rfl, by decide +kernel, rfl, by decide +kernel, by decide +kernel⟩
theorem ok_is_year (m : Mx K mg (tb K cA fA tP qn)) (f_is_within : DefD (tb K cA fA tP qn) P w K mg base "is_within" 3 F_is_within) {f : Addr} {fd : FuncData} (F : Fun K "is_year" "is_year" (top 25) f fd) : FnOk P w K mg base (L2.CX P w) 4 f fd ["row", "ahead"] (spD (tb K cA fA tP qn) F_is_year) :=
  fn_D F sc_is_year (fun cdv A outer s H E hr => by
    have px : Passes (L2.CX P w) (cxOf (L2.CX P w) P w K mg base ["row", "ahead"] "is_year" (defScope (top 25)) f cdv A outer s H E) E := passes_call (takes_of rfl rfl rfl rfl) fun _ _ _ _ h => h
    exact (dss_one (ds_ret (de_call f_is_within (hr.mono (by decide)) px rfl (da_cons (de_var (pv 0)) (da_cons de_int (da_cons de_int da_nil)))))))
def b_require_part : FS := (sIf (asB (f2 gNotN (fVar 1) (fC .non))) (sRaise 0 [0, 1] (fCons (fVar 0) (fCons (fIf (asB (f2 gEq (fVar 1) (fNeg (fC (.int 1))))) (fC .non) (fVar 1)) fNil))) sNil)
def F_require_part : GF := runF 2 2 b_require_part
theorem sc_require_part : FnScope ["part", "place"] ["part", "place"] (defScope (top 16)) := ⟨rfl, rfl, rfl, by decide +kernel, rfl, by decide +kernel, by decide +kernel⟩
theorem ok_require_part (m : Mx K mg (tb K cA fA tP qn)) (er_BadPart : ErrD P w K mg base "BadPart" (fA 0) (([0, 1] : List Nat).map nmF) 1) {f : Addr} {fd : FuncData} (F : Fun K "require_part" "require_part" (top 16) f fd) : FnOk P w K mg base (L2.CX P w) 3 f fd ["part", "place"] (spD (tb K cA fA tP qn) F_require_part) :=
  fn_D F sc_require_part (fun cdv A outer s H E hr => by
    have px : Passes (L2.CX P w) (cxOf (L2.CX P w) P w K mg base ["part", "place"] "require_part" (defScope (top 16)) f cdv A outer s H E) E := passes_call (takes_of rfl rfl rfl rfl) fun _ _ _ _ h => h
    exact (dss_one (ds_if (dt_cmp op_notN ok_notN (de_var (pv 1)) de_non (by rfl)) (dss_one (ds_raise (c := 0) (fids := [0, 1]) rfl (takes_of rfl rfl rfl rfl) (show ∀ f ∈ ([0, 1] : List Nat), f < 8 from by decide) (mk_err er_BadPart (by exact Nat.le_of_ble_eq_true rfl) (hr.mono (by decide)) rfl (da_cons (de_var (pv 0)) (da_cons (de_if (dt_cmp (op_eqT rfl hr) ok_eq (de_var (pv 1)) (de_neg de_int) (by rfl)) de_non (de_var (pv 1))) da_nil))))) dss_nil)))
def tab_first_wrong : Nat → Option GF := fun j => if j = 10 then some F_is_year else none
def b_first_wrong : FS := (sCons (sIf (fOrT (fNotT (asB (fCall gIsi (fCons (fVar 0) (fCons (fC (.ty "tuple")) fNil))))) (fNotT (asB (f3 gLe gLe (fVar 1) (fCall gLen (fCons (fVar 0) fNil)) (fVar 2))))) (sRet (fNeg (fC (.int 1)))) sNil)
    (sCons (sFor (iEn (fVar 0)) (pTup 2 (pCons (pName 4) (pCons (pName 5) pNil))) (sIf (fNotT (asB (fCallV tab_first_wrong 3 (fCons (fVar 5) (fCons (fSl (fVar 0) oNone (oSome (fVar 4))) fNil))))) (sRet (fVar 4)) sNil))
    (sRet (fC .non))))
def F_first_wrong : GF := runF 4 6 b_first_wrong
theorem sc_first_wrong : FnScope ["value", "least", "most", "judge", "place", "row"] ["value", "least", "most", "judge"] (defScope (top 15)) := ⟨rfl, rfl, rfl, by decide +kernel, rfl, by decide +kernel, by decide +kernel⟩
theorem ok_first_wrong (m : Mx K mg (tb K cA fA tP qn)) (vt : ∀ j F, tab_first_wrong j = some F → FnAt (tb K cA fA tP qn) P w K mg base j 4 F) {f : Addr} {fd : FuncData} (F : Fun K "first_wrong" "first_wrong" (top 15) f fd) : FnOk P w K mg base (L2.CX P w) 5 f fd ["value", "least", "most", "judge"] (spD (tb K cA fA tP qn) F_first_wrong) :=
  fn_D F sc_first_wrong (fun cdv A outer s H E hr => by
    have px : Passes (L2.CX P w) (cxOf (L2.CX P w) P w K mg base ["value", "least", "most", "judge", "place", "row"] "first_wrong" (defScope (top 15)) f cdv A outer s H E) E := passes_call (takes_of rfl rfl rfl rfl) fun _ _ _ _ h => h
    exact (dss_cons (ds_if (PW.pt (dw_or (dt_not (dt_val (de_callB cr_isiD (ok_isi m.cf) rfl m.bn.isinstance bo_isinstance (da_cons (de_var (pv 0)) (da_cons (de_ty rfl m.bn.tuple bo_tuple) da_nil))))) (dw_or1 (dt_not (dt_chain op_le op_le ok_le ok_le (de_var (pv 1)) (de_callB call_len ok_len rfl m.bn.len bo_len (da_cons (de_var (pv 0)) da_nil)) (de_var (pv 2))))))) (dss_one (ds_ret (de_neg de_int))) dss_nil)
    (dss_cons (ds_for (passes_of rfl) rfl (di_enum rfl rfl m.bn.enumerate (de_var (pv 0))) (dg_tup rfl rfl (dgs_cons (dg_name (pg_name (i := 4) sc_first_wrong.nd rfl (by first | exact Or.inl rfl | exact Or.inr rfl))) (dgs_cons (dg_name (pg_name (i := 5) sc_first_wrong.nd rfl (by first | exact Or.inl rfl | exact Or.inr rfl))) dgs_nil))) (dss_one (ds_if (dt_not (dt_val (de_callV (i := 3) (fun _ => pv 3) vt (hr.mono (by decide)) px (da_cons (de_var (pv 5)) (da_cons (de_sl rfl (de_var (pv 0)) do_none (do_some (de_var (pv 4)))) da_nil))))) (dss_one (ds_ret (de_var (pv 4)))) dss_nil)))
    (dss_one (ds_ret de_non)))))
def b_wrong_place : FS := (sCons (sIf (asB (f2 gEq (fVar 1) (fC (.int 0)))) (sRet (fCallF F_first_wrong (fCons (f2 gIx (fVar 0) (fC (.int 0))) (fCons (fC (.int 1)) (fCons (fC (.int 40)) (fCons (fC (.fn 10)) fNil)))))) sNil)
    (sRet (fCallF F_wrong_number (fCons (f2 gIx (fVar 0) (fC (.int 1))) (fCons (fC (.int 0)) (fCons (fC (.int 1600)) fNil))))))
def F_wrong_place : GF := runF 2 2 b_wrong_place
theorem sc_wrong_place : FnScope ["parts", "place"] ["parts", "place"] (defScope (top 26)) := ⟨rfl, rfl, rfl, by decide +kernel, rfl, by decide +kernel, by decide +kernel⟩
theorem ok_wrong_place (m : Mx K mg (tb K cA fA tP qn)) (f_wrong_number : DefD (tb K cA fA tP qn) P w K mg base "wrong_number" 4 F_wrong_number) (f_first_wrong : DefD (tb K cA fA tP qn) P w K mg base "first_wrong" 5 F_first_wrong) {f : Addr} {fd : FuncData} (F : Fun K "wrong_place" "wrong_place" (top 26) f fd) : FnOk P w K mg base (L2.CX P w) 6 f fd ["parts", "place"] (spD (tb K cA fA tP qn) F_wrong_place) :=
  fn_D F sc_wrong_place (fun cdv A outer s H E hr => by
    have px : Passes (L2.CX P w) (cxOf (L2.CX P w) P w K mg base ["parts", "place"] "wrong_place" (defScope (top 26)) f cdv A outer s H E) E := passes_call (takes_of rfl rfl rfl rfl) fun _ _ _ _ h => h
    exact (dss_cons (ds_if (dt_cmp (op_eqT rfl hr) ok_eq (de_var (pv 1)) de_int (by rfl)) (dss_one (ds_ret (de_call f_first_wrong (hr.mono (by decide)) px rfl (da_cons (de_ix rfl (de_var (pv 0)) de_int (by intro _ _; with_unfolding_all rfl)) (da_cons de_int (da_cons (de_gcx rfl m.c_MOST_YEARS) (da_cons (de_fn (i := 10) rfl m.v_is_year) da_nil))))))) dss_nil)
    (dss_one (ds_ret (de_call f_wrong_number (hr.mono (by decide)) px rfl (da_cons (de_ix rfl (de_var (pv 0)) de_int (by intro _ _; with_unfolding_all rfl)) (da_cons de_int (da_cons (de_gcx rfl m.c_MOST_UNEVEN) da_nil))))))))
def tab_require_parts : Nat → Option GF := fun j => if j = 11 then some F_wrong_place else none
def b_require_parts : FS := (sCons (sIf (fNotT (asB (fCallF F_is_row (fCons (fVar 2) (fCons (fCall gLen (fCons (fVar 1) fNil)) fNil))))) (sExpr (fCallF F_require_part (fCons (fVar 0) (fCons (fNeg (fC (.int 1))) fNil)))) sNil)
    (sFor (iEn (fVar 1)) (pTup 2 (pCons (pName 4) (pCons (pName 5) pNil))) (sExpr (fCallF F_require_part (fCons (fVar 5) (fCons (fCallV tab_require_parts 3 (fCons (fVar 2) (fCons (fVar 4) fNil))) fNil))))))
def F_require_parts : GF := runF 4 6 b_require_parts
theorem sc_require_parts : FnScope ["thing", "words", "parts", "judge", "place", "word"] ["thing", "words", "parts", "judge"] (defScope (top 18)) := ⟨rfl, rfl, rfl, by decide +kernel, rfl, by decide +kernel, by decide +kernel⟩
theorem ok_require_parts (m : Mx K mg (tb K cA fA tP qn)) (f_require_part : DefD (tb K cA fA tP qn) P w K mg base "require_part" 3 F_require_part) (vt : ∀ j F, tab_require_parts j = some F → FnAt (tb K cA fA tP qn) P w K mg base j 6 F) (f_is_row : DefD (tb K cA fA tP qn) P w K mg base "is_row" 2 F_is_row) {f : Addr} {fd : FuncData} (F : Fun K "require_parts" "require_parts" (top 18) f fd) : FnOk P w K mg base (L2.CX P w) 7 f fd ["thing", "words", "parts", "judge"] (spD (tb K cA fA tP qn) F_require_parts) :=
  fn_D F sc_require_parts (fun cdv A outer s H E hr => by
    have px : Passes (L2.CX P w) (cxOf (L2.CX P w) P w K mg base ["thing", "words", "parts", "judge", "place", "word"] "require_parts" (defScope (top 18)) f cdv A outer s H E) E := passes_call (takes_of rfl rfl rfl rfl) fun _ _ _ _ h => h
    exact (dss_cons (ds_if (dt_not (dt_val (de_call f_is_row (hr.mono (by decide)) px rfl (da_cons (de_var (pv 2)) (da_cons (de_callB call_len ok_len rfl m.bn.len bo_len (da_cons (de_var (pv 1)) da_nil)) da_nil))))) (dss_one (ds_expr (de_call f_require_part (hr.mono (by decide)) px rfl (da_cons (de_var (pv 0)) (da_cons (de_neg de_int) da_nil))))) dss_nil)
    (dss_one (ds_for (passes_of rfl) rfl (di_enum rfl rfl m.bn.enumerate (de_var (pv 1))) (dg_tup rfl rfl (dgs_cons (dg_name (pg_name (i := 4) sc_require_parts.nd rfl (by first | exact Or.inl rfl | exact Or.inr rfl))) (dgs_cons (dg_name (pg_name (i := 5) sc_require_parts.nd rfl (by first | exact Or.inl rfl | exact Or.inr rfl))) dgs_nil))) (dss_one (ds_expr (de_call f_require_part (hr.mono (by decide)) px rfl (da_cons (de_var (pv 5)) (da_cons (de_callV (i := 3) (fun _ => pv 3) vt (hr.mono (by decide)) px (da_cons (de_var (pv 2)) (da_cons (de_var (pv 4)) da_nil))) da_nil)))))))))
def b_replaced : FS := (sRet (f2 gAdd (f2 gAdd (fSl (fVar 0) oNone (oSome (fVar 1))) (fTup (fCons (fVar 2) fNil))) (fSl (fVar 0) (oSome (f2 gAdd (fVar 1) (fC (.int 1)))) oNone)))
def F_replaced : GF := runF 3 3 b_replaced
theorem sc_replaced : FnScope ["parts", "place", "value"] ["parts", "place", "value"] (defScope (top 19)) := ⟨rfl, rfl, rfl, by decide +kernel, rfl, by decide +kernel, by decide +kernel⟩
theorem ok_replaced (m : Mx K mg (tb K cA fA tP qn))  {f : Addr} {fd : FuncData} (F : Fun K "replaced" "replaced" (top 19) f fd) : FnOk P w K mg base (L2.CX P w) 2 f fd ["parts", "place", "value"] (spD (tb K cA fA tP qn) F_replaced) :=
  fn_D F sc_replaced (fun cdv A outer s H E hr => by
    have px : Passes (L2.CX P w) (cxOf (L2.CX P w) P w K mg base ["parts", "place", "value"] "replaced" (defScope (top 19)) f cdv A outer s H E) E := passes_call (takes_of rfl rfl rfl rfl) fun _ _ _ _ h => h
    exact (dss_one (ds_ret (de_add rfl (de_add rfl (de_sl rfl (de_var (pv 0)) do_none (do_some (de_var (pv 1)))) (de_tup (da_cons (de_var (pv 2)) da_nil))) (de_sl rfl (de_var (pv 0)) (do_some (de_add rfl (de_var (pv 1)) de_int)) do_none)))))
def b_place_of : FS := (sCons (sIf (fOrT (fNotT (asB (fCall gIsi (fCons (fVar 1) (fCons (fC (.ty "str")) fNil))))) (asB (f2 (gIn true) (fVar 1) (fVar 0)))) (sExpr (fCallF F_require_part (fCons (fVar 2) (fCons (fNeg (fC (.int 1))) fNil)))) sNil)
    (sRet (fMthT gIndexT (fVar 0) (fCons (fVar 1) fNil))))
def F_place_of : GF := runF 3 3 b_place_of
theorem sc_place_of : FnScope ["words", "word", "thing"] ["words", "word", "thing"] (defScope (top 20)) := ⟨rfl, rfl, rfl, by decide +kernel, rfl, by decide +kernel, by decide +kernel⟩
theorem ok_place_of (m : Mx K mg (tb K cA fA tP qn)) (f_require_part : DefD (tb K cA fA tP qn) P w K mg base "require_part" 3 F_require_part) {f : Addr} {fd : FuncData} (F : Fun K "place_of" "place_of" (top 20) f fd) : FnOk P w K mg base (L2.CX P w) 4 f fd ["words", "word", "thing"] (spD (tb K cA fA tP qn) F_place_of) :=
  fn_D F sc_place_of (fun cdv A outer s H E hr => by
    have px : Passes (L2.CX P w) (cxOf (L2.CX P w) P w K mg base ["words", "word", "thing"] "place_of" (defScope (top 20)) f cdv A outer s H E) E := passes_call (takes_of rfl rfl rfl rfl) fun _ _ _ _ h => h
    exact (dss_cons (ds_if (PW.pt (dw_or (dt_not (dt_val (de_callB cr_isiD (ok_isi m.cf) rfl m.bn.isinstance bo_isinstance (da_cons (de_var (pv 1)) (da_cons (de_ty rfl m.bn.str bo_str) da_nil))))) (dw_or1 (dt_cmp (op_ninT rfl) (ok_in (neg := true)) (de_var (pv 1)) (de_var (pv 0)) (by rfl))))) (dss_one (ds_expr (de_call f_require_part (hr.mono (by decide)) px rfl (da_cons (de_var (pv 2)) (da_cons (de_neg de_int) da_nil))))) dss_nil)
    (dss_one (ds_ret (de_mthT rfl PySem.F.slot_tuple_index PySem.F.type_tuple_index mt_idxT ok_idxT (de_var (pv 0)) (da_cons (de_var (pv 1)) da_nil))))))
def b_Calendar___init__ : FS := (sCons (sExpr (fCallF F_require_parts (fCons (fC (.str "calendar")) (fCons (fC (.tup [(.str "years"), (.str "uneven")])) (fCons (fVar 1) (fCons (fC (.fn 11)) fNil))))))
    (sCons (sAsg (fVar 1) (pFld 0 5 (fVar 0)))
    (sAsg (fVar 1) (pTup 2 (pCons (pFld 0 6 (fVar 0)) (pCons (pFld 0 7 (fVar 0)) pNil))))))
def F_Calendar___init__ : GF := runF 2 2 b_Calendar___init__
theorem sc_Calendar___init__ : FnScope ["self", "parts"] ["self", "parts"] (defScope ((clsB (top 27)).getD 0 (.Pass ⟨0, 0, 0, 0⟩))) := ⟨rfl, rfl, rfl, by decide +kernel, rfl, by decide +kernel, by decide +kernel⟩
theorem ok_Calendar___init__ (m : Mx K mg (tb K cA fA tP qn)) (f_require_parts : DefD (tb K cA fA tP qn) P w K mg base "require_parts" 7 F_require_parts) {f : Addr} {fd : FuncData} (F : Fun K "__init__" "Calendar.__init__" ((clsB (top 27)).getD 0 (.Pass ⟨0, 0, 0, 0⟩)) f fd) : FnOk P w K mg base (L2.CX P w) 8 f fd ["self", "parts"] (spD (tb K cA fA tP qn) F_Calendar___init__) :=
  fn_D F sc_Calendar___init__ (fun cdv A outer s H E hr => by
    have px : Passes (L2.CX P w) (cxOf (L2.CX P w) P w K mg base ["self", "parts"] "Calendar.__init__" (defScope ((clsB (top 27)).getD 0 (.Pass ⟨0, 0, 0, 0⟩))) f cdv A outer s H E) E := passes_call (takes_of rfl rfl rfl rfl) fun _ _ _ _ h => h
    exact (dss_cons (ds_expr (de_call f_require_parts (hr.mono (by decide)) px rfl (da_cons de_str (da_cons (de_gcx rfl m.c_PARTS) (da_cons (de_var (pv 1)) (da_cons (de_fn (i := 11) rfl m.v_wrong_place) da_nil))))))
    (dss_cons (ds_asg (de_var (pv 1)) (dg_fld m.cf (c := 0) (f := 5) rfl (by show _ ∈ flF 0; decide) rfl (de_var (pv 0))))
    (dss_one (ds_asg (de_var (pv 1)) (dg_tup rfl rfl (dgs_cons (dg_fld m.cf (c := 0) (f := 6) rfl (by show _ ∈ flF 0; decide) rfl (de_var (pv 0))) (dgs_cons (dg_fld m.cf (c := 0) (f := 7) rfl (by show _ ∈ flF 0; decide) rfl (de_var (pv 0))) dgs_nil))))))))
def b_is_calendar : FS := (sRet (fCall gIsi (fCons (fVar 0) (fCons (fC (.cl 0)) fNil))))
def F_is_calendar : GF := runF 1 1 b_is_calendar
theorem sc_is_calendar : FnScope ["value"] ["value"] (defScope (top 28)) := ⟨rfl, rfl, rfl, by decide +kernel, rfl, by decide +kernel, by decide +kernel⟩
theorem ok_is_calendar (m : Mx K mg (tb K cA fA tP qn))  {f : Addr} {fd : FuncData} (F : Fun K "is_calendar" "is_calendar" (top 28) f fd) : FnOk P w K mg base (L2.CX P w) 2 f fd ["value"] (spD (tb K cA fA tP qn) F_is_calendar) :=
  fn_D F sc_is_calendar (fun cdv A outer s H E hr => by
    have px : Passes (L2.CX P w) (cxOf (L2.CX P w) P w K mg base ["value"] "is_calendar" (defScope (top 28)) f cdv A outer s H E) E := passes_call (takes_of rfl rfl rfl rfl) fun _ _ _ _ h => h
    exact (dss_one (ds_ret (de_callB cr_isiD (ok_isi m.cf) rfl m.bn.isinstance bo_isinstance (da_cons (de_var (pv 0)) (da_cons (de_cl (c := 0) rfl m.k_Calendar (show 0 < 1 from by decide)) da_nil))))))
def b_heights_of : FS := (sCons (sPar 1 2 (fCons (fCall gLen (fCons (fFld 6 (fVar 0)) fNil)) (fCons (fCall gSum (fCons (fFld 6 (fVar 0)) fNil)) fNil)))
    (sCons (sAsg (fNew (fCons (fC (.int 0)) fNil)) (pName 3))
    (sCons (sFor (iSeq (fFld 6 (fVar 0))) (pName 4) (sExpr (fMthL gAppend (fVar 3) (fCons (f2 gSub (f2 gAdd (f2 gIx (fVar 3) (fNeg (fC (.int 1)))) (f2 gMul (fVar 4) (fVar 1))) (fVar 2)) fNil))))
    (sRet (fCall DL.gTup (fCons (fVar 3) fNil))))))
def F_heights_of : GF := runF 1 5 b_heights_of
theorem sc_heights_of : FnScope ["calendar", "many", "leaps", "found", "year"] ["calendar"] (defScope (top 29)) := ⟨rfl, rfl, rfl, by decide +kernel, rfl, by decide +kernel, by decide +kernel⟩
theorem ok_heights_of (m : Mx K mg (tb K cA fA tP qn))  {f : Addr} {fd : FuncData} (F : Fun K "heights_of" "heights_of" (top 29) f fd) : FnOk P w K mg base (L2.CX P w) 2 f fd ["calendar"] (spD (tb K cA fA tP qn) F_heights_of) :=
  fn_D F sc_heights_of (fun cdv A outer s H E hr => by
    have px : Passes (L2.CX P w) (cxOf (L2.CX P w) P w K mg base ["calendar", "many", "leaps", "found", "year"] "heights_of" (defScope (top 29)) f cdv A outer s H E) E := passes_call (takes_of rfl rfl rfl rfl) fun _ _ _ _ h => h
    exact (dss_cons (ds_par (ps_par rfl sc_heights_of.nd rfl rfl (by decide) rfl rfl (da_cons (de_callB call_len ok_len rfl m.bn.len bo_len (da_cons (de_fld m.cf rfl rfl (de_var (pv 0))) da_nil)) (da_cons (de_callB (cr_sumD rfl) ok_sum rfl m.bn.sum bo_sum (da_cons (de_fld m.cf rfl rfl (de_var (pv 0))) da_nil)) da_nil)) (by with_unfolding_all rfl)))
    (dss_cons (ds_set (ps_set (i := 3) sc_heights_of.nd rfl (by first | exact Or.inl rfl | exact Or.inr rfl) (de_new (da_cons de_int da_nil))))
    (dss_cons (ds_for (passes_of rfl) rfl (di_seq rfl (de_fld m.cf rfl rfl (de_var (pv 0)))) (dg_name (pg_name (i := 4) sc_heights_of.nd rfl (by first | exact Or.inl rfl | exact Or.inr rfl))) (dss_one (ds_expr (de_mthL rfl PySem.F.slot_list_append PySem.F.type_list_append mt_append ok_append (de_var (pv 3)) (da_cons (de_sub (de_add rfl (de_ix rfl (de_var (pv 3)) (de_neg de_int) (by intro _ _; with_unfolding_all rfl)) (de_mul rfl (de_var (pv 4)) (de_var (pv 1)))) (de_var (pv 2))) da_nil)))))
    (dss_one (ds_ret (de_callTy cr_tupX ok_tup rfl m.bn.tuple bo_tuple (da_cons (de_var (pv 3)) da_nil))))))))
def b_unevenness : FS := (sCons (sAsg (fCallF F_heights_of (fCons (fVar 0) fNil)) (pName 1))
    (sRet (f2 gSub (fCall gMax (fCons (fVar 1) fNil)) (fCall gMin (fCons (fVar 1) fNil)))))
def F_unevenness : GF := runF 1 2 b_unevenness
theorem sc_unevenness : FnScope ["calendar", "heights"] ["calendar"] (defScope (top 31)) := ⟨rfl, rfl, rfl, by decide +kernel, rfl, by decide +kernel, by decide +kernel⟩
theorem ok_unevenness (m : Mx K mg (tb K cA fA tP qn)) (f_heights_of : DefD (tb K cA fA tP qn) P w K mg base "heights_of" 2 F_heights_of) {f : Addr} {fd : FuncData} (F : Fun K "unevenness" "unevenness" (top 31) f fd) : FnOk P w K mg base (L2.CX P w) 3 f fd ["calendar"] (spD (tb K cA fA tP qn) F_unevenness) :=
  fn_D F sc_unevenness (fun cdv A outer s H E hr => by
    have px : Passes (L2.CX P w) (cxOf (L2.CX P w) P w K mg base ["calendar", "heights"] "unevenness" (defScope (top 31)) f cdv A outer s H E) E := passes_call (takes_of rfl rfl rfl rfl) fun _ _ _ _ h => h
    exact (dss_cons (ds_set (ps_set (i := 1) sc_unevenness.nd rfl (by first | exact Or.inl rfl | exact Or.inr rfl) (de_call f_heights_of (hr.mono (by decide)) px rfl (da_cons (de_var (pv 0)) da_nil))))
    (dss_one (ds_ret (de_sub (de_callB (cr_maxD' rfl hr) ok_max rfl m.bn.max bo_max (da_cons (de_var (pv 1)) da_nil)) (de_callB (cr_minD' rfl hr) ok_min rfl m.bn.min bo_min (da_cons (de_var (pv 1)) da_nil)))))))
def b_is_even : FS := (sRet (f2 gLe (fCallF F_unevenness (fCons (fVar 0) fNil)) (fFld 7 (fVar 0))))
def F_is_even : GF := runF 1 1 b_is_even
theorem sc_is_even : FnScope ["calendar"] ["calendar"] (defScope (top 32)) := ⟨rfl, rfl, rfl, by decide +kernel, rfl, by decide +kernel, by decide +kernel⟩
theorem ok_is_even (m : Mx K mg (tb K cA fA tP qn)) (f_unevenness : DefD (tb K cA fA tP qn) P w K mg base "unevenness" 3 F_unevenness) {f : Addr} {fd : FuncData} (F : Fun K "is_even" "is_even" (top 32) f fd) : FnOk P w K mg base (L2.CX P w) 4 f fd ["calendar"] (spD (tb K cA fA tP qn) F_is_even) :=
  fn_D F sc_is_even (fun cdv A outer s H E hr => by
    have px : Passes (L2.CX P w) (cxOf (L2.CX P w) P w K mg base ["calendar"] "is_even" (defScope (top 32)) f cdv A outer s H E) E := passes_call (takes_of rfl rfl rfl rfl) fun _ _ _ _ h => h
    exact (dss_one (ds_ret (de_cmp op_le ok_le (de_call f_unevenness (hr.mono (by decide)) px rfl (da_cons (de_var (pv 0)) da_nil)) (de_fld m.cf rfl rfl (de_var (pv 0))) (by rfl)))))
def b_excess_of : FS := (sCons (sAsg (fCall gLen (fCons (fFld 6 (fVar 0)) fNil)) (pName 3))
    (sCons (sIf (fNotT (asB (fCallF F_is_within (fCons (fVar 1) (fCons (fC (.int 1)) (fCons (fVar 3) fNil)))))) (sRaise 1 [2] (fCons (fVar 1) fNil)) sNil)
    (sCons (sIf (fNotT (asB (fCallF F_is_within (fCons (fVar 2) (fCons (fC (.int 0)) (fCons (fC (.int 9999)) fNil)))))) (sRaise 1 [2] (fCons (fVar 2) fNil)) sNil)
    (sCons (sAsg (fCallF F_heights_of (fCons (fVar 0) fNil)) (pName 4))
    (sRet (f2 gSub (f2 gIx (fVar 4) (f2 gMod (f2 gAdd (f2 gSub (fVar 1) (fC (.int 1))) (fVar 2)) (fVar 3))) (f2 gIx (fVar 4) (f2 gSub (fVar 1) (fC (.int 1))))))))))
def F_excess_of : GF := runF 3 5 b_excess_of
theorem sc_excess_of : FnScope ["calendar", "first", "years", "many", "heights"] ["calendar", "first", "years"] (defScope (top 30)) := ⟨rfl, rfl, rfl, by decide +kernel, rfl, by decide +kernel, by decide +kernel⟩
theorem ok_excess_of (m : Mx K mg (tb K cA fA tP qn)) (f_heights_of : DefD (tb K cA fA tP qn) P w K mg base "heights_of" 2 F_heights_of) (f_is_within : DefD (tb K cA fA tP qn) P w K mg base "is_within" 3 F_is_within) (er_BadNumber : ErrD P w K mg base "BadNumber" (fA 1) (([2] : List Nat).map nmF) 1) {f : Addr} {fd : FuncData} (F : Fun K "excess_of" "excess_of" (top 30) f fd) : FnOk P w K mg base (L2.CX P w) 4 f fd ["calendar", "first", "years"] (spD (tb K cA fA tP qn) F_excess_of) :=
  fn_D F sc_excess_of (fun cdv A outer s H E hr => by
    have px : Passes (L2.CX P w) (cxOf (L2.CX P w) P w K mg base ["calendar", "first", "years", "many", "heights"] "excess_of" (defScope (top 30)) f cdv A outer s H E) E := passes_call (takes_of rfl rfl rfl rfl) fun _ _ _ _ h => h
    exact (dss_cons (ds_set (ps_set (i := 3) sc_excess_of.nd rfl (by first | exact Or.inl rfl | exact Or.inr rfl) (de_callB call_len ok_len rfl m.bn.len bo_len (da_cons (de_fld m.cf rfl rfl (de_var (pv 0))) da_nil))))
    (dss_cons (ds_if (dt_not (dt_val (de_call f_is_within (hr.mono (by decide)) px rfl (da_cons (de_var (pv 1)) (da_cons de_int (da_cons (de_var (pv 3)) da_nil)))))) (dss_one (ds_raise (c := 1) (fids := [2]) rfl (takes_of rfl rfl rfl rfl) (show ∀ f ∈ ([2] : List Nat), f < 8 from by decide) (mk_err er_BadNumber (by exact Nat.le_of_ble_eq_true rfl) (hr.mono (by decide)) rfl (da_cons (de_var (pv 1)) da_nil)))) dss_nil)
    (dss_cons (ds_if (dt_not (dt_val (de_call f_is_within (hr.mono (by decide)) px rfl (da_cons (de_var (pv 2)) (da_cons de_int (da_cons de_int da_nil)))))) (dss_one (ds_raise (c := 1) (fids := [2]) rfl (takes_of rfl rfl rfl rfl) (show ∀ f ∈ ([2] : List Nat), f < 8 from by decide) (mk_err er_BadNumber (by exact Nat.le_of_ble_eq_true rfl) (hr.mono (by decide)) rfl (da_cons (de_var (pv 2)) da_nil)))) dss_nil)
    (dss_cons (ds_set (ps_set (i := 4) sc_excess_of.nd rfl (by first | exact Or.inl rfl | exact Or.inr rfl) (de_call f_heights_of (hr.mono (by decide)) px rfl (da_cons (de_var (pv 0)) da_nil))))
    (dss_one (ds_ret (de_sub (de_ix rfl (de_var (pv 4)) (de_mod (de_add rfl (de_sub (de_var (pv 1)) de_int) (de_var (pv 2))) (de_var (pv 3))) (by intro _ _; with_unfolding_all rfl)) (de_ix rfl (de_var (pv 4)) (de_sub (de_var (pv 1)) de_int) (by intro _ _; with_unfolding_all rfl))))))))))
def b_worst_years : FS := (sCons (sAsg (fCallF F_heights_of (fCons (fVar 0) fNil)) (pName 1))
    (sRet (fTup (fCons (fMthT gIndexT (fVar 1) (fCons (fCall gMin (fCons (fVar 1) fNil)) fNil)) (fCons (fMthT gIndexT (fVar 1) (fCons (fCall gMax (fCons (fVar 1) fNil)) fNil)) fNil)))))
def F_worst_years : GF := runF 1 2 b_worst_years
theorem sc_worst_years : FnScope ["calendar", "heights"] ["calendar"] (defScope (top 33)) := ⟨rfl, rfl, rfl, by decide +kernel, rfl, by decide +kernel, by decide +kernel⟩
theorem ok_worst_years (m : Mx K mg (tb K cA fA tP qn)) (f_heights_of : DefD (tb K cA fA tP qn) P w K mg base "heights_of" 2 F_heights_of) {f : Addr} {fd : FuncData} (F : Fun K "worst_years" "worst_years" (top 33) f fd) : FnOk P w K mg base (L2.CX P w) 3 f fd ["calendar"] (spD (tb K cA fA tP qn) F_worst_years) :=
  fn_D F sc_worst_years (fun cdv A outer s H E hr => by
    have px : Passes (L2.CX P w) (cxOf (L2.CX P w) P w K mg base ["calendar", "heights"] "worst_years" (defScope (top 33)) f cdv A outer s H E) E := passes_call (takes_of rfl rfl rfl rfl) fun _ _ _ _ h => h
    exact (dss_cons (ds_set (ps_set (i := 1) sc_worst_years.nd rfl (by first | exact Or.inl rfl | exact Or.inr rfl) (de_call f_heights_of (hr.mono (by decide)) px rfl (da_cons (de_var (pv 0)) da_nil))))
    (dss_one (ds_ret (de_tup (da_cons (de_mthT rfl PySem.F.slot_tuple_index PySem.F.type_tuple_index mt_idxT ok_idxT (de_var (pv 1)) (da_cons (de_callB (cr_minD' rfl hr) ok_min rfl m.bn.min bo_min (da_cons (de_var (pv 1)) da_nil)) da_nil)) (da_cons (de_mthT rfl PySem.F.slot_tuple_index PySem.F.type_tuple_index mt_idxT ok_idxT (de_var (pv 1)) (da_cons (de_callB (cr_maxD' rfl hr) ok_max rfl m.bn.max bo_max (da_cons (de_var (pv 1)) da_nil)) da_nil)) da_nil)))))))
def b_are_worst : FS := (sCons (sAsg (fCall gLen (fCons (fFld 6 (fVar 0)) fNil)) (pName 2))
    (sRet (fAnd (fCallF F_is_row (fCons (fVar 1) (fCons (fC (.int 2)) fNil))) (fAnd (fCallF F_is_within (fCons (f2 gIx (fVar 1) (fC (.int 0))) (fCons (fC (.int 0)) (fCons (fVar 2) fNil)))) (fCallF F_is_within (fCons (f2 gIx (fVar 1) (fC (.int 1))) (fCons (fC (.int 0)) (fCons (fVar 2) fNil))))))))
def F_are_worst : GF := runF 2 3 b_are_worst
theorem sc_are_worst : FnScope ["calendar", "value", "many"] ["calendar", "value"] (defScope (top 34)) := ⟨rfl, rfl, rfl, by decide +kernel, rfl, by decide +kernel, by decide +kernel⟩
theorem ok_are_worst (m : Mx K mg (tb K cA fA tP qn)) (f_is_row : DefD (tb K cA fA tP qn) P w K mg base "is_row" 2 F_is_row) (f_is_within : DefD (tb K cA fA tP qn) P w K mg base "is_within" 3 F_is_within) {f : Addr} {fd : FuncData} (F : Fun K "are_worst" "are_worst" (top 34) f fd) : FnOk P w K mg base (L2.CX P w) 4 f fd ["calendar", "value"] (spD (tb K cA fA tP qn) F_are_worst) :=
  fn_D F sc_are_worst (fun cdv A outer s H E hr => by
    have px : Passes (L2.CX P w) (cxOf (L2.CX P w) P w K mg base ["calendar", "value", "many"] "are_worst" (defScope (top 34)) f cdv A outer s H E) E := passes_call (takes_of rfl rfl rfl rfl) fun _ _ _ _ h => h
    exact (dss_cons (ds_set (ps_set (i := 2) sc_are_worst.nd rfl (by first | exact Or.inl rfl | exact Or.inr rfl) (de_callB call_len ok_len rfl m.bn.len bo_len (da_cons (de_fld m.cf rfl rfl (de_var (pv 0))) da_nil))))
    (dss_one (ds_ret (de_and (de_call f_is_row (hr.mono (by decide)) px rfl (da_cons (de_var (pv 1)) (da_cons de_int da_nil))) (de_and (de_call f_is_within (hr.mono (by decide)) px rfl (da_cons (de_ix rfl (de_var (pv 1)) de_int (by intro _ _; with_unfolding_all rfl)) (da_cons de_int (da_cons (de_var (pv 2)) da_nil)))) (de_one (de_call f_is_within (hr.mono (by decide)) px rfl (da_cons (de_ix rfl (de_var (pv 1)) de_int (by intro _ _; with_unfolding_all rfl)) (da_cons de_int (da_cons (de_var (pv 2)) da_nil)))))))))))
def b_apart : FS := (sCons (sAsg (fCallF F_heights_of (fCons (fVar 0) fNil)) (pName 2))
    (sRet (fCall gAbs (fCons (f2 gSub (f2 gIx (fVar 2) (f2 gIx (fVar 1) (fC (.int 1)))) (f2 gIx (fVar 2) (f2 gIx (fVar 1) (fC (.int 0))))) fNil))))
def F_apart : GF := runF 2 3 b_apart
theorem sc_apart : FnScope ["calendar", "value", "heights"] ["calendar", "value"] (defScope (top 35)) := ⟨rfl, rfl, rfl, by decide +kernel, rfl, by decide +kernel, by decide +kernel⟩
theorem ok_apart (m : Mx K mg (tb K cA fA tP qn)) (f_heights_of : DefD (tb K cA fA tP qn) P w K mg base "heights_of" 2 F_heights_of) {f : Addr} {fd : FuncData} (F : Fun K "apart" "apart" (top 35) f fd) : FnOk P w K mg base (L2.CX P w) 3 f fd ["calendar", "value"] (spD (tb K cA fA tP qn) F_apart) :=
  fn_D F sc_apart (fun cdv A outer s H E hr => by
    have px : Passes (L2.CX P w) (cxOf (L2.CX P w) P w K mg base ["calendar", "value", "heights"] "apart" (defScope (top 35)) f cdv A outer s H E) E := passes_call (takes_of rfl rfl rfl rfl) fun _ _ _ _ h => h
    exact (dss_cons (ds_set (ps_set (i := 2) sc_apart.nd rfl (by first | exact Or.inl rfl | exact Or.inr rfl) (de_call f_heights_of (hr.mono (by decide)) px rfl (da_cons (de_var (pv 0)) da_nil))))
    (dss_one (ds_ret (de_callB call_abs ok_abs rfl m.bn.abs bo_abs (da_cons (de_sub (de_ix rfl (de_var (pv 2)) (de_ix rfl (de_var (pv 1)) de_int (by intro _ _; with_unfolding_all rfl)) (by intro _ _; with_unfolding_all rfl)) (de_ix rfl (de_var (pv 2)) (de_ix rfl (de_var (pv 1)) de_int (by intro _ _; with_unfolding_all rfl)) (by intro _ _; with_unfolding_all rfl))) da_nil))))))
def b_are_heights : FS := (sCons (sAsg (fTup (fCons (fCall gLen (fCons (fFld 6 (fVar 0)) fNil)) (fCons (fCall gSum (fCons (fFld 6 (fVar 0)) fNil)) fNil))) (pTup 2 (pCons (pName 2) (pCons (pName 3) pNil))))
    (sCons (sIf (fOrT (fNotT (asB (fCallF F_is_row (fCons (fVar 1) (fCons (f2 gAdd (fVar 2) (fC (.int 1))) fNil))))) (fNotT (asB (fCall gAll (fCons (fLc [4] (iSeq (fVar 1)) (cName 4) fYes (fCallF F_is_within (fCons (fVar 4) (fCons (fC (.int 0)) (fCons (fC (.int 1600)) fNil))))) fNil))))) (sRet (fC (.bl false))) sNil)
    (sRet (fCall gAll (fCons (fLc [5, 6, 7] (iZp zipI3 (fCons (fVar 1) (fCons (fSl (fVar 1) (oSome (fC (.int 1))) oNone) (fCons (fFld 6 (fVar 0)) fNil)))) (cTup 3 (cCons (cName 5) (cCons (cName 6) (cCons (cName 7) cNil)))) fYes (f2 gEq (f2 gSub (fVar 6) (fVar 5)) (f2 gSub (f2 gMul (fVar 7) (fVar 2)) (fVar 3)))) fNil)))))
def F_are_heights : GF := runF 2 8 b_are_heights
theorem sc_are_heights : FnScope ["calendar", "value", "many", "leaps", "one", "start", "end", "year"] ["calendar", "value"] (defScope (top 36)) := ⟨rfl, rfl, rfl, by decide +kernel, rfl, by decide +kernel, by decide +kernel⟩
theorem ok_are_heights (m : Mx K mg (tb K cA fA tP qn)) (f_is_row : DefD (tb K cA fA tP qn) P w K mg base "is_row" 2 F_is_row) (f_is_within : DefD (tb K cA fA tP qn) P w K mg base "is_within" 3 F_is_within) {f : Addr} {fd : FuncData} (F : Fun K "are_heights" "are_heights" (top 36) f fd) : FnOk P w K mg base (L2.CX P w) 4 f fd ["calendar", "value"] (spD (tb K cA fA tP qn) F_are_heights) :=
  fn_D F sc_are_heights (fun cdv A outer s H E hr => by
    have px : Passes (L2.CX P w) (cxOf (L2.CX P w) P w K mg base ["calendar", "value", "many", "leaps", "one", "start", "end", "year"] "are_heights" (defScope (top 36)) f cdv A outer s H E) E := passes_call (takes_of rfl rfl rfl rfl) fun _ _ _ _ h => h
    exact (dss_cons (ds_asg (de_tup (da_cons (de_callB call_len ok_len rfl m.bn.len bo_len (da_cons (de_fld m.cf rfl rfl (de_var (pv 0))) da_nil)) (da_cons (de_callB (cr_sumD rfl) ok_sum rfl m.bn.sum bo_sum (da_cons (de_fld m.cf rfl rfl (de_var (pv 0))) da_nil)) da_nil))) (dg_tup rfl rfl (dgs_cons (dg_name (pg_name (i := 2) sc_are_heights.nd rfl (by first | exact Or.inl rfl | exact Or.inr rfl))) (dgs_cons (dg_name (pg_name (i := 3) sc_are_heights.nd rfl (by first | exact Or.inl rfl | exact Or.inr rfl))) dgs_nil))))
    (dss_cons (ds_if (PW.pt (dw_or (dt_not (dt_val (de_call f_is_row (hr.mono (by decide)) px rfl (da_cons (de_var (pv 1)) (da_cons (de_add rfl (de_var (pv 2)) de_int) da_nil))))) (dw_or1 (dt_not (dt_val (de_callB (cr_all rfl) ok_all rfl m.bn.all bo_all (da_cons (de_lc (own := [("one", 4)]) (g := (gName 4)) rfl sc_are_heights.nd (di_seq rfl (de_var (pv 1))) (blkOk_by (N := ["calendar", "value", "many", "leaps", "one", "start", "end", "year"]) (sc := defScope (top 36)) (by decide +kernel)) (gok_name (by decide)) tt_yes (fun _ _ _ _ _ => (pg_name (i := 4) sc_are_heights.nd rfl (Or.inl rfl))) (fun _ _ _ _ _ => pts_nil) (fun _ _ _ _ _ => (de_call f_is_within (hr.mono (by decide)) passL rfl (da_cons (de_var (pv 4)) (da_cons de_int (da_cons (de_gcx rfl m.c_MOST_UNEVEN) da_nil)))))) da_nil))))))) (dss_one (ds_ret de_bl)) dss_nil)
    (dss_one (ds_ret (de_callB (cr_all rfl) ok_all rfl m.bn.all bo_all (da_cons (de_lc (own := [("start", 5), ("end", 6), ("year", 7)]) (g := (L2.gTup K 3 (gCons (gName 5) (gCons (gName 6) (gCons (gName 7) gNil))))) rfl sc_are_heights.nd (di_zip3 rfl rfl m.bn.zip (da_cons (de_var (pv 1)) (da_cons (de_sl rfl (de_var (pv 1)) (do_some de_int) do_none) (da_cons (de_fld m.cf rfl rfl (de_var (pv 0))) da_nil)))) (blkOk_by (N := ["calendar", "value", "many", "leaps", "one", "start", "end", "year"]) (sc := defScope (top 36)) (by decide +kernel)) (gok_tup (K := K) rfl (gok_cons (gok_name (by decide)) (gok_cons (gok_name (by decide)) (gok_cons (gok_name (by decide)) gok_nil)))) tt_yes (fun _ _ _ _ _ => (pg_tup rfl (pgs_cons (pg_name (i := 5) sc_are_heights.nd rfl (Or.inl rfl)) (pgs_cons (pg_name (i := 6) sc_are_heights.nd rfl (Or.inl rfl)) (pgs_cons (pg_name (i := 7) sc_are_heights.nd rfl (Or.inl rfl)) pgs_nil))))) (fun _ _ _ _ _ => pts_nil) (fun _ _ _ _ _ => (de_cmp (op_eqT rfl hr) ok_eq (de_sub (de_var (pv 6)) (de_var (pv 5))) (de_sub (de_mul rfl (de_var (pv 7)) (de_var (pv 2))) (de_var (pv 3))) (by rfl)))) da_nil)))))))
def b_raised_heights : FS := (sCons (sAsg (fCallF F_heights_of (fCons (fVar 0) fNil)) (pName 1))
    (sRet (fCall DL.gTup (fCons (fLc [2] (iSeq (fVar 1)) (cName 2) fYes (f2 gSub (fVar 2) (fCall gMin (fCons (fVar 1) fNil)))) fNil))))
def F_raised_heights : GF := runF 1 3 b_raised_heights
theorem sc_raised_heights : FnScope ["calendar", "heights", "one"] ["calendar"] (defScope (top 37)) := ⟨rfl, rfl, rfl, by decide +kernel, rfl, by decide +kernel, by decide +kernel⟩
theorem ok_raised_heights (m : Mx K mg (tb K cA fA tP qn)) (f_heights_of : DefD (tb K cA fA tP qn) P w K mg base "heights_of" 2 F_heights_of) {f : Addr} {fd : FuncData} (F : Fun K "raised_heights" "raised_heights" (top 37) f fd) : FnOk P w K mg base (L2.CX P w) 3 f fd ["calendar"] (spD (tb K cA fA tP qn) F_raised_heights) :=
  fn_D F sc_raised_heights (fun cdv A outer s H E hr => by
    have px : Passes (L2.CX P w) (cxOf (L2.CX P w) P w K mg base ["calendar", "heights", "one"] "raised_heights" (defScope (top 37)) f cdv A outer s H E) E := passes_call (takes_of rfl rfl rfl rfl) fun _ _ _ _ h => h
    exact (dss_cons (ds_set (ps_set (i := 1) sc_raised_heights.nd rfl (by first | exact Or.inl rfl | exact Or.inr rfl) (de_call f_heights_of (hr.mono (by decide)) px rfl (da_cons (de_var (pv 0)) da_nil))))
    (dss_one (ds_ret (de_callTy cr_tupX ok_tup rfl m.bn.tuple bo_tuple (da_cons (de_lc (own := [("one", 2)]) (g := (gName 2)) rfl sc_raised_heights.nd (di_seq rfl (de_var (pv 1))) (blkOk_by (N := ["calendar", "heights", "one"]) (sc := defScope (top 37)) (by decide +kernel)) (gok_name (by decide)) tt_yes (fun _ _ _ _ _ => (pg_name (i := 2) sc_raised_heights.nd rfl (Or.inl rfl))) (fun _ _ _ _ _ => pts_nil) (fun _ _ _ _ _ => (de_sub (de_var (pv 2)) (de_callB (cr_minD' rfl hr) ok_min rfl m.bn.min bo_min (da_cons (de_var (pv 1)) da_nil))))) da_nil))))))
def fuel_common : Ev → Nat := fun ρ => match ρ[(1 : Nat)]? with | some (some (.int n)) => n.toNat + 1 | _ => 1
def b_common : FS := (sCons (sWhile fuel_common (asB (f2 gGt (fVar 1) (fC (.int 0)))) (sPar 0 1 (fCons (fVar 1) (fCons (f2 gMod (fVar 0) (fVar 1)) fNil))))
    (sRet (fVar 0)))
def F_common : GF := runF 2 2 b_common
theorem sc_common : FnScope ["one", "other"] ["one", "other"] (defScope (top 38)) := ⟨rfl, rfl, rfl, by decide +kernel, rfl, by decide +kernel, by decide +kernel⟩
theorem ok_common (m : Mx K mg (tb K cA fA tP qn))  {f : Addr} {fd : FuncData} (F : Fun K "common" "common" (top 38) f fd) : FnOk P w K mg base (L2.CX P w) 2 f fd ["one", "other"] (spD (tb K cA fA tP qn) F_common) :=
  fn_D F sc_common (fun cdv A outer s H E hr => by
    have px : Passes (L2.CX P w) (cxOf (L2.CX P w) P w K mg base ["one", "other"] "common" (defScope (top 38)) f cdv A outer s H E) E := passes_call (takes_of rfl rfl rfl rfl) fun _ _ _ _ h => h
    exact (dss_cons (ds_while fuel_common (passes_of rfl) (dt_cmp op_gt ok_gt (de_var (pv 1)) de_int (by rfl)) (dss_one (ds_par (ps_par rfl sc_common.nd rfl rfl (by decide) rfl rfl (da_cons (de_var (pv 1)) (da_cons (de_mod (de_var (pv 0)) (de_var (pv 1))) da_nil)) (by with_unfolding_all rfl)))))
    (dss_one (ds_ret (de_var (pv 0))))))
def b_evenest : FS := (sCons (sIf (fNotT (asB (fCallF F_is_within (fCons (fVar 0) (fCons (fC (.int 1)) (fCons (fC (.int 40)) fNil)))))) (sRaise 1 [2] (fCons (fVar 0) fNil)) sNil)
    (sCons (sIf (fNotT (asB (fCallF F_is_within (fCons (fVar 1) (fCons (fC (.int 0)) (fCons (fVar 0) fNil)))))) (sRaise 1 [2] (fCons (fVar 1) fNil)) sNil)
    (sRet (fCall DL.gTup (fCons (fLc [2] (iR1 (fCons (fVar 0) fNil)) (cName 2) fYes (f2 gSub (f2 gDiv (f2 gMul (f2 gAdd (fVar 2) (fC (.int 1))) (fVar 1)) (fVar 0)) (f2 gDiv (f2 gMul (fVar 2) (fVar 1)) (fVar 0)))) fNil)))))
def F_evenest : GF := runF 2 3 b_evenest
theorem sc_evenest : FnScope ["many", "leaps", "year"] ["many", "leaps"] (defScope (top 39)) := ⟨rfl, rfl, rfl, by decide +kernel, rfl, by decide +kernel, by decide +kernel⟩
theorem ok_evenest (m : Mx K mg (tb K cA fA tP qn)) (f_is_within : DefD (tb K cA fA tP qn) P w K mg base "is_within" 3 F_is_within) (er_BadNumber : ErrD P w K mg base "BadNumber" (fA 1) (([2] : List Nat).map nmF) 1) {f : Addr} {fd : FuncData} (F : Fun K "evenest" "evenest" (top 39) f fd) : FnOk P w K mg base (L2.CX P w) 4 f fd ["many", "leaps"] (spD (tb K cA fA tP qn) F_evenest) :=
  fn_D F sc_evenest (fun cdv A outer s H E hr => by
    have px : Passes (L2.CX P w) (cxOf (L2.CX P w) P w K mg base ["many", "leaps", "year"] "evenest" (defScope (top 39)) f cdv A outer s H E) E := passes_call (takes_of rfl rfl rfl rfl) fun _ _ _ _ h => h
    exact (dss_cons (ds_if (dt_not (dt_val (de_call f_is_within (hr.mono (by decide)) px rfl (da_cons (de_var (pv 0)) (da_cons de_int (da_cons (de_gcx rfl m.c_MOST_YEARS) da_nil)))))) (dss_one (ds_raise (c := 1) (fids := [2]) rfl (takes_of rfl rfl rfl rfl) (show ∀ f ∈ ([2] : List Nat), f < 8 from by decide) (mk_err er_BadNumber (by exact Nat.le_of_ble_eq_true rfl) (hr.mono (by decide)) rfl (da_cons (de_var (pv 0)) da_nil)))) dss_nil)
    (dss_cons (ds_if (dt_not (dt_val (de_call f_is_within (hr.mono (by decide)) px rfl (da_cons (de_var (pv 1)) (da_cons de_int (da_cons (de_var (pv 0)) da_nil)))))) (dss_one (ds_raise (c := 1) (fids := [2]) rfl (takes_of rfl rfl rfl rfl) (show ∀ f ∈ ([2] : List Nat), f < 8 from by decide) (mk_err er_BadNumber (by exact Nat.le_of_ble_eq_true rfl) (hr.mono (by decide)) rfl (da_cons (de_var (pv 1)) da_nil)))) dss_nil)
    (dss_one (ds_ret (de_callTy cr_tupX ok_tup rfl m.bn.tuple bo_tuple (da_cons (de_lc (own := [("year", 2)]) (g := (gName 2)) rfl sc_evenest.nd (di_r1 rfl m.bn.range (da_cons (de_var (pv 0)) da_nil)) (blkOk_by (N := ["many", "leaps", "year"]) (sc := defScope (top 39)) (by decide +kernel)) (gok_name (by decide)) tt_yes (fun _ _ _ _ _ => (pg_name (i := 2) sc_evenest.nd rfl (Or.inl rfl))) (fun _ _ _ _ _ => pts_nil) (fun _ _ _ _ _ => (de_sub (de_div (de_mul rfl (de_add rfl (de_var (pv 2)) de_int) (de_var (pv 1))) (de_var (pv 0))) (de_div (de_mul rfl (de_var (pv 2)) (de_var (pv 1))) (de_var (pv 0)))))) da_nil)))))))
def b_least_uneven : FS := (sCons (sPar 1 2 (fCons (fCall gLen (fCons (fFld 6 (fVar 0)) fNil)) (fCons (fCall gSum (fCons (fFld 6 (fVar 0)) fNil)) fNil)))
    (sRet (f2 gSub (fVar 1) (fCallF F_common (fCons (fVar 1) (fCons (fVar 2) fNil))))))
def F_least_uneven : GF := runF 1 3 b_least_uneven
theorem sc_least_uneven : FnScope ["calendar", "many", "leaps"] ["calendar"] (defScope (top 40)) := ⟨rfl, rfl, rfl, by decide +kernel, rfl, by decide +kernel, by decide +kernel⟩
theorem ok_least_uneven (m : Mx K mg (tb K cA fA tP qn)) (f_common : DefD (tb K cA fA tP qn) P w K mg base "common" 2 F_common) {f : Addr} {fd : FuncData} (F : Fun K "least_uneven" "least_uneven" (top 40) f fd) : FnOk P w K mg base (L2.CX P w) 3 f fd ["calendar"] (spD (tb K cA fA tP qn) F_least_uneven) :=
  fn_D F sc_least_uneven (fun cdv A outer s H E hr => by
    have px : Passes (L2.CX P w) (cxOf (L2.CX P w) P w K mg base ["calendar", "many", "leaps"] "least_uneven" (defScope (top 40)) f cdv A outer s H E) E := passes_call (takes_of rfl rfl rfl rfl) fun _ _ _ _ h => h
    exact (dss_cons (ds_par (ps_par rfl sc_least_uneven.nd rfl rfl (by decide) rfl rfl (da_cons (de_callB call_len ok_len rfl m.bn.len bo_len (da_cons (de_fld m.cf rfl rfl (de_var (pv 0))) da_nil)) (da_cons (de_callB (cr_sumD rfl) ok_sum rfl m.bn.sum bo_sum (da_cons (de_fld m.cf rfl rfl (de_var (pv 0))) da_nil)) da_nil)) (by with_unfolding_all rfl)))
    (dss_one (ds_ret (de_sub (de_var (pv 1)) (de_call f_common (hr.mono (by decide)) px rfl (da_cons (de_var (pv 1)) (da_cons (de_var (pv 2)) da_nil))))))))
def b_calendar_paper : FS := (sRet (fTup (fCons (fCallF F_raised_heights (fCons (fVar 0) fNil)) (fCons (fCallF F_worst_years (fCons (fVar 0) fNil)) fNil))))
def F_calendar_paper : GF := runF 1 1 b_calendar_paper
theorem sc_calendar_paper : FnScope ["calendar"] ["calendar"] (defScope (top 41)) := ⟨rfl, rfl, rfl, by decide +kernel, rfl, by decide +kernel, by decide +kernel⟩
theorem ok_calendar_paper (m : Mx K mg (tb K cA fA tP qn)) (f_worst_years : DefD (tb K cA fA tP qn) P w K mg base "worst_years" 3 F_worst_years) (f_raised_heights : DefD (tb K cA fA tP qn) P w K mg base "raised_heights" 3 F_raised_heights) {f : Addr} {fd : FuncData} (F : Fun K "calendar_paper" "calendar_paper" (top 41) f fd) : FnOk P w K mg base (L2.CX P w) 4 f fd ["calendar"] (spD (tb K cA fA tP qn) F_calendar_paper) :=
  fn_D F sc_calendar_paper (fun cdv A outer s H E hr => by
    have px : Passes (L2.CX P w) (cxOf (L2.CX P w) P w K mg base ["calendar"] "calendar_paper" (defScope (top 41)) f cdv A outer s H E) E := passes_call (takes_of rfl rfl rfl rfl) fun _ _ _ _ h => h
    exact (dss_one (ds_ret (de_tup (da_cons (de_call f_raised_heights (hr.mono (by decide)) px rfl (da_cons (de_var (pv 0)) da_nil)) (da_cons (de_call f_worst_years (hr.mono (by decide)) px rfl (da_cons (de_var (pv 0)) da_nil)) da_nil))))))
def b_is_calendar_paper : FS := (sCons (sIf (fOrT (fNotT (asB (fCallF F_is_row (fCons (fVar 1) (fCons (fC (.int 2)) fNil))))) (fOrT (fNotT (asB (fCallF F_are_heights (fCons (fVar 0) (fCons (f2 gIx (fVar 1) (fC (.int 0))) fNil))))) (fNotT (asB (fCallF F_are_worst (fCons (fVar 0) (fCons (f2 gIx (fVar 1) (fC (.int 1))) fNil))))))) (sRet (fC (.bl false))) sNil)
    (sRet (f2 gEq (fCall gMax (fCons (f2 gIx (fVar 1) (fC (.int 0))) fNil)) (fCallF F_apart (fCons (fVar 0) (fCons (f2 gIx (fVar 1) (fC (.int 1))) fNil))))))
def F_is_calendar_paper : GF := runF 2 2 b_is_calendar_paper
theorem sc_is_calendar_paper : FnScope ["calendar", "value"] ["calendar", "value"] (defScope (top 42)) := ⟨rfl, rfl, rfl, by decide +kernel, rfl, by decide +kernel, by decide +kernel⟩
theorem ok_is_calendar_paper (m : Mx K mg (tb K cA fA tP qn)) (f_apart : DefD (tb K cA fA tP qn) P w K mg base "apart" 3 F_apart) (f_is_row : DefD (tb K cA fA tP qn) P w K mg base "is_row" 2 F_is_row) (f_are_heights : DefD (tb K cA fA tP qn) P w K mg base "are_heights" 4 F_are_heights) (f_are_worst : DefD (tb K cA fA tP qn) P w K mg base "are_worst" 4 F_are_worst) {f : Addr} {fd : FuncData} (F : Fun K "is_calendar_paper" "is_calendar_paper" (top 42) f fd) : FnOk P w K mg base (L2.CX P w) 5 f fd ["calendar", "value"] (spD (tb K cA fA tP qn) F_is_calendar_paper) :=
  fn_D F sc_is_calendar_paper (fun cdv A outer s H E hr => by
    have px : Passes (L2.CX P w) (cxOf (L2.CX P w) P w K mg base ["calendar", "value"] "is_calendar_paper" (defScope (top 42)) f cdv A outer s H E) E := passes_call (takes_of rfl rfl rfl rfl) fun _ _ _ _ h => h
    exact (dss_cons (ds_if (PW.pt (dw_or (dt_not (dt_val (de_call f_is_row (hr.mono (by decide)) px rfl (da_cons (de_var (pv 1)) (da_cons de_int da_nil))))) (dw_or (dt_not (dt_val (de_call f_are_heights (hr.mono (by decide)) px rfl (da_cons (de_var (pv 0)) (da_cons (de_ix rfl (de_var (pv 1)) de_int (by intro _ _; with_unfolding_all rfl)) da_nil))))) (dw_or1 (dt_not (dt_val (de_call f_are_worst (hr.mono (by decide)) px rfl (da_cons (de_var (pv 0)) (da_cons (de_ix rfl (de_var (pv 1)) de_int (by intro _ _; with_unfolding_all rfl)) da_nil))))))))) (dss_one (ds_ret de_bl)) dss_nil)
    (dss_one (ds_ret (de_cmp (op_eqT rfl hr) ok_eq (de_callB (cr_maxD' rfl hr) ok_max rfl m.bn.max bo_max (da_cons (de_ix rfl (de_var (pv 1)) de_int (by intro _ _; with_unfolding_all rfl)) da_nil)) (de_call f_apart (hr.mono (by decide)) px rfl (da_cons (de_var (pv 0)) (da_cons (de_ix rfl (de_var (pv 1)) de_int (by intro _ _; with_unfolding_all rfl)) da_nil))) (by rfl))))))
def b__law_taken : FS := (sCons (sIf (asB (f2 gGt (f2 gIx (fVar 0) (fC (.int 3))) (fC (.int 0)))) (sCons (sAsg (f2 gMod (fCall gInt (fCons (f2 gIx (fVar 0) (fC (.int 3))) fNil)) (fVar 1)) (pName 2))
    (sCons (sAsg (f2 gDiv (f2 gIx (fVar 0) (fC (.int 3))) (fVar 1)) (pSub (fVar 0) (fC (.int 3))))
    (sRet (fVar 2)))) sNil)
    (sCons (sAsg (f2 gAdd (f2 gIx (fVar 0) (fC (.int 1))) (fC (.int 1))) (pSub (fVar 0) (fC (.int 1))))
    (sCons (sIf (asB (f2 gGt (f2 gIx (fVar 0) (fC (.int 1))) (fCall gLen (fCons (f2 gIx (fVar 0) (fC (.int 0))) fNil)))) (sCons (sAsg (f2 gMod (fCall gInt (fCons (f2 gAdd (f2 gMul (f2 gIx (fVar 0) (fC (.int 2))) (fC (.int 48271))) (fC (.int 11))) fNil)) (fC (.int 2147483647))) (pSub (fVar 0) (fC (.int 2))))
    (sRet (f2 gMod (fCall gInt (fCons (f2 gDiv (f2 gIx (fVar 0) (fC (.int 2))) (fC (.int 7))) fNil)) (fVar 1)))) sNil)
    (sCons (sAsg (f2 gIx (f2 gIx (fVar 0) (fC (.int 0))) (f2 gSub (f2 gIx (fVar 0) (fC (.int 1))) (fC (.int 1)))) (pName 3))
    (sCons (sAsg (f2 gMod (fCall gInt (fCons (f2 gAdd (f2 gAdd (f2 gMul (f2 gIx (fVar 0) (fC (.int 2))) (fC (.int 48271))) (fVar 3)) (fC (.int 11))) fNil)) (fC (.int 2147483647))) (pSub (fVar 0) (fC (.int 2))))
    (sCons (sIf (asB (f2 gGe (fVar 3) (f2 gPow (fC (.int 10)) (fC (.int 18))))) (sCons (sAsg (f2 gDiv (fVar 3) (fVar 1)) (pSub (fVar 0) (fC (.int 3))))
    (sRet (f2 gMod (fCall gInt (fCons (fVar 3) fNil)) (fVar 1)))) sNil)
    (sRet (f2 gMod (fCall gInt (fCons (f2 gAdd (f2 gMul (f2 gMod (fCall gInt (fCons (fVar 3) fNil)) (fC (.int 1000003))) (fC (.int 31))) (f2 gDiv (f2 gIx (fVar 0) (fC (.int 2))) (fC (.int 11)))) fNil)) (fVar 1)))))))))
def F__law_taken : GF := runF 2 4 b__law_taken
theorem sc__law_taken : FnScope ["row", "many", "found", "cell"] ["row", "many"] (defScope (top 44)) := ⟨rfl, rfl, rfl, by decide +kernel, rfl, by decide +kernel, by decide +kernel⟩
theorem ok__law_taken (m : Mx K mg (tb K cA fA tP qn))  {f : Addr} {fd : FuncData} (F : Fun K "_law_taken" "_law_taken" (top 44) f fd) : FnOk P w K mg base (L2.CX P w) 2 f fd ["row", "many"] (spD (tb K cA fA tP qn) F__law_taken) :=
  fn_D F sc__law_taken (fun cdv A outer s H E hr => by
    have px : Passes (L2.CX P w) (cxOf (L2.CX P w) P w K mg base ["row", "many", "found", "cell"] "_law_taken" (defScope (top 44)) f cdv A outer s H E) E := passes_call (takes_of rfl rfl rfl rfl) fun _ _ _ _ h => h
    exact (dss_cons (ds_if (dt_cmp op_gt ok_gt (de_ix rfl (de_var (pv 0)) de_int (by intro _ _; with_unfolding_all rfl)) de_int (by rfl)) (dss_cons (ds_set (ps_set (i := 2) sc__law_taken.nd rfl (by first | exact Or.inl rfl | exact Or.inr rfl) (de_mod (de_callTy call_int1 ok_int1 rfl m.bn.int bo_int (da_cons (de_ix rfl (de_var (pv 0)) de_int (by intro _ _; with_unfolding_all rfl)) da_nil)) (de_var (pv 1)))))
    (dss_cons (ds_asg (de_div (de_ix rfl (de_var (pv 0)) de_int (by intro _ _; with_unfolding_all rfl)) (de_var (pv 1))) (dg_sub (de_var (pv 0)) de_int))
    (dss_one (ds_ret (de_var (pv 2)))))) dss_nil)
    (dss_cons (ds_asg (de_add rfl (de_ix rfl (de_var (pv 0)) de_int (by intro _ _; with_unfolding_all rfl)) de_int) (dg_sub (de_var (pv 0)) de_int))
    (dss_cons (ds_if (dt_cmp op_gt ok_gt (de_ix rfl (de_var (pv 0)) de_int (by intro _ _; with_unfolding_all rfl)) (de_callB call_len ok_len rfl m.bn.len bo_len (da_cons (de_ix rfl (de_var (pv 0)) de_int (by intro _ _; with_unfolding_all rfl)) da_nil)) (by rfl)) (dss_cons (ds_asg (de_mod (de_callTy call_int1 ok_int1 rfl m.bn.int bo_int (da_cons (de_add rfl (de_mul rfl (de_ix rfl (de_var (pv 0)) de_int (by intro _ _; with_unfolding_all rfl)) de_int) de_int) da_nil)) de_int) (dg_sub (de_var (pv 0)) de_int))
    (dss_one (ds_ret (de_mod (de_callTy call_int1 ok_int1 rfl m.bn.int bo_int (da_cons (de_div (de_ix rfl (de_var (pv 0)) de_int (by intro _ _; with_unfolding_all rfl)) de_int) da_nil)) (de_var (pv 1)))))) dss_nil)
    (dss_cons (ds_set (ps_set (i := 3) sc__law_taken.nd rfl (by first | exact Or.inl rfl | exact Or.inr rfl) (de_ix rfl (de_ix rfl (de_var (pv 0)) de_int (by intro _ _; with_unfolding_all rfl)) (de_sub (de_ix rfl (de_var (pv 0)) de_int (by intro _ _; with_unfolding_all rfl)) de_int) (by intro _ _; with_unfolding_all rfl))))
    (dss_cons (ds_asg (de_mod (de_callTy call_int1 ok_int1 rfl m.bn.int bo_int (da_cons (de_add rfl (de_add rfl (de_mul rfl (de_ix rfl (de_var (pv 0)) de_int (by intro _ _; with_unfolding_all rfl)) de_int) (de_var (pv 3))) de_int) da_nil)) de_int) (dg_sub (de_var (pv 0)) de_int))
    (dss_cons (ds_if (dt_cmp op_ge ok_ge (de_var (pv 3)) (de_pow de_int de_int) (by rfl)) (dss_cons (ds_asg (de_div (de_var (pv 3)) (de_var (pv 1))) (dg_sub (de_var (pv 0)) de_int))
    (dss_one (ds_ret (de_mod (de_callTy call_int1 ok_int1 rfl m.bn.int bo_int (da_cons (de_var (pv 3)) da_nil)) (de_var (pv 1)))))) dss_nil)
    (dss_one (ds_ret (de_mod (de_callTy call_int1 ok_int1 rfl m.bn.int bo_int (da_cons (de_add rfl (de_mul rfl (de_mod (de_callTy call_int1 ok_int1 rfl m.bn.int bo_int (da_cons (de_var (pv 3)) da_nil)) de_int) de_int) (de_div (de_ix rfl (de_var (pv 0)) de_int (by intro _ _; with_unfolding_all rfl)) de_int)) da_nil)) (de_var (pv 1))))))))))))
def b__law_pick : FS := (sRet (f2 gIx (fVar 1) (fCallF F__law_taken (fCons (fVar 0) (fCons (fCall gLen (fCons (fVar 1) fNil)) fNil)))))
def F__law_pick : GF := runF 2 2 b__law_pick
theorem sc__law_pick : FnScope ["row", "things"] ["row", "things"] (defScope (top 45)) := ⟨rfl, rfl, rfl, by decide +kernel, rfl, by decide +kernel, by decide +kernel⟩
theorem ok__law_pick (m : Mx K mg (tb K cA fA tP qn)) (f__law_taken : DefD (tb K cA fA tP qn) P w K mg base "_law_taken" 2 F__law_taken) {f : Addr} {fd : FuncData} (F : Fun K "_law_pick" "_law_pick" (top 45) f fd) : FnOk P w K mg base (L2.CX P w) 3 f fd ["row", "things"] (spD (tb K cA fA tP qn) F__law_pick) :=
  fn_D F sc__law_pick (fun cdv A outer s H E hr => by
    have px : Passes (L2.CX P w) (cxOf (L2.CX P w) P w K mg base ["row", "things"] "_law_pick" (defScope (top 45)) f cdv A outer s H E) E := passes_call (takes_of rfl rfl rfl rfl) fun _ _ _ _ h => h
    exact (dss_one (ds_ret (de_ix rfl (de_var (pv 1)) (de_call f__law_taken (hr.mono (by decide)) px rfl (da_cons (de_var (pv 0)) (da_cons (de_callB call_len ok_len rfl m.bn.len bo_len (da_cons (de_var (pv 1)) da_nil)) da_nil))) (by intro _ _; with_unfolding_all rfl)))))
def b__law_at : FS := (sRet (f2 gAdd (f2 gAdd (fSl (fVar 0) oNone (oSome (f2 gSub (fVar 1) (fC (.int 1))))) (fTup (fCons (fVar 2) fNil))) (fSl (fVar 0) (oSome (fVar 1)) oNone)))
def F__law_at : GF := runF 3 3 b__law_at
theorem sc__law_at : FnScope ["rows", "number", "value"] ["rows", "number", "value"] (defScope (top 51)) := ⟨rfl, rfl, rfl, by decide +kernel, rfl, by decide +kernel, by decide +kernel⟩
theorem ok__law_at (m : Mx K mg (tb K cA fA tP qn))  {f : Addr} {fd : FuncData} (F : Fun K "_law_at" "_law_at" (top 51) f fd) : FnOk P w K mg base (L2.CX P w) 2 f fd ["rows", "number", "value"] (spD (tb K cA fA tP qn) F__law_at) :=
  fn_D F sc__law_at (fun cdv A outer s H E hr => by
    have px : Passes (L2.CX P w) (cxOf (L2.CX P w) P w K mg base ["rows", "number", "value"] "_law_at" (defScope (top 51)) f cdv A outer s H E) E := passes_call (takes_of rfl rfl rfl rfl) fun _ _ _ _ h => h
    exact (dss_one (ds_ret (de_add rfl (de_add rfl (de_sl rfl (de_var (pv 0)) do_none (do_some (de_sub (de_var (pv 1)) de_int))) (de_tup (da_cons (de_var (pv 2)) da_nil))) (de_sl rfl (de_var (pv 0)) (do_some (de_var (pv 1))) do_none)))))
def b__law_whole : FS := (sRet (fAnd (fCall gIsi (fCons (fVar 0) (fCons (fC (.ty "int")) fNil))) (fAnd (fNot (fCall gIsi (fCons (fVar 0) (fCons (fC (.ty "bool")) fNil)))) (f3 gLe gLe (fVar 1) (fVar 0) (fVar 2)))))
def F__law_whole : GF := runF 3 3 b__law_whole
theorem sc__law_whole : FnScope ["value", "least", "most"] ["value", "least", "most"] (defScope (top 52)) := ⟨rfl, rfl, rfl, by decide +kernel, rfl, by decide +kernel, by decide +kernel⟩
theorem ok__law_whole (m : Mx K mg (tb K cA fA tP qn))  {f : Addr} {fd : FuncData} (F : Fun K "_law_whole" "_law_whole" (top 52) f fd) : FnOk P w K mg base (L2.CX P w) 2 f fd ["value", "least", "most"] (spD (tb K cA fA tP qn) F__law_whole) :=
  fn_D F sc__law_whole (fun cdv A outer s H E hr => by
    have px : Passes (L2.CX P w) (cxOf (L2.CX P w) P w K mg base ["value", "least", "most"] "_law_whole" (defScope (top 52)) f cdv A outer s H E) E := passes_call (takes_of rfl rfl rfl rfl) fun _ _ _ _ h => h
    exact (dss_one (ds_ret (de_and (de_callB cr_isiD (ok_isi m.cf) rfl m.bn.isinstance bo_isinstance (da_cons (de_var (pv 0)) (da_cons (de_ty rfl m.bn.int bo_int) da_nil))) (de_and (de_not (de_callB cr_isiD (ok_isi m.cf) rfl m.bn.isinstance bo_isinstance (da_cons (de_var (pv 0)) (da_cons (de_ty rfl m.bn.bool bo_bool) da_nil)))) (de_one (de_chain op_le op_le ok_le ok_le (de_var (pv 1)) (de_var (pv 0)) (de_var (pv 2)))))))))
def b__law_calendar : FS := (sCons (sAsg (fTup (fCons (f2 gAdd (fC (.int 1)) (fCallF F__law_taken (fCons (fVar 0) (fCons (fC (.int 12)) fNil)))) (fCons (fCallF F__law_taken (fCons (fVar 0) (fCons (fC (.int 3)) fNil))) fNil))) (pTup 2 (pCons (pName 1) (pCons (pName 2) pNil))))
    (sCons (sAsg (fCallF F__law_taken (fCons (fVar 0) (fCons (f2 gAdd (fVar 1) (fC (.int 1))) fNil))) (pName 3))
    (sCons (sAsg (fCall DL.gTup (fCons (fLc [4] (iR1 (fCons (fVar 1) fNil)) (cName 4) fYes (fCallF F__law_taken (fCons (fVar 0) (fCons (fC (.int 2)) fNil)))) fNil)) (pName 5))
    (sCons (sIf (asB (f2 gEq (fVar 2) (fC (.int 0)))) (sAsg (fCall DL.gTup (fCons (fLc [4] (iR1 (fCons (fVar 1) fNil)) (cName 4) fYes (f2 gSub (f2 gDiv (f2 gMul (f2 gAdd (fVar 4) (fC (.int 1))) (fVar 3)) (fVar 1)) (f2 gDiv (f2 gMul (fVar 4) (fVar 3)) (fVar 1)))) fNil)) (pName 5)) sNil)
    (sRet (fTup (fCons (fVar 5) (fCons (fCallF F__law_pick (fCons (fVar 0) (fCons (fLst (fCons (fCallF F__law_taken (fCons (fVar 0) (fCons (fC (.int 20)) fNil))) (fCons (fCallF F__law_taken (fCons (fVar 0) (fCons (fC (.int 200)) fNil))) fNil))) fNil))) fNil))))))))
def F__law_calendar : GF := runF 1 6 b__law_calendar
theorem sc__law_calendar : FnScope ["row", "many", "kind", "leaps", "k", "years"] ["row"] (defScope (top 53)) := ⟨rfl, rfl, rfl, by decide +kernel, rfl, by decide +kernel, by decide +kernel⟩
theorem ok__law_calendar (m : Mx K mg (tb K cA fA tP qn)) (f__law_pick : DefD (tb K cA fA tP qn) P w K mg base "_law_pick" 3 F__law_pick) (f__law_taken : DefD (tb K cA fA tP qn) P w K mg base "_law_taken" 2 F__law_taken) {f : Addr} {fd : FuncData} (F : Fun K "_law_calendar" "_law_calendar" (top 53) f fd) : FnOk P w K mg base (L2.CX P w) 4 f fd ["row"] (spD (tb K cA fA tP qn) F__law_calendar) :=
  fn_D F sc__law_calendar (fun cdv A outer s H E hr => by
    have px : Passes (L2.CX P w) (cxOf (L2.CX P w) P w K mg base ["row", "many", "kind", "leaps", "k", "years"] "_law_calendar" (defScope (top 53)) f cdv A outer s H E) E := passes_call (takes_of rfl rfl rfl rfl) fun _ _ _ _ h => h
    exact (dss_cons (ds_asg (de_tup (da_cons (de_add rfl de_int (de_call f__law_taken (hr.mono (by decide)) px rfl (da_cons (de_var (pv 0)) (da_cons de_int da_nil)))) (da_cons (de_call f__law_taken (hr.mono (by decide)) px rfl (da_cons (de_var (pv 0)) (da_cons de_int da_nil))) da_nil))) (dg_tup rfl rfl (dgs_cons (dg_name (pg_name (i := 1) sc__law_calendar.nd rfl (by first | exact Or.inl rfl | exact Or.inr rfl))) (dgs_cons (dg_name (pg_name (i := 2) sc__law_calendar.nd rfl (by first | exact Or.inl rfl | exact Or.inr rfl))) dgs_nil))))
    (dss_cons (ds_set (ps_set (i := 3) sc__law_calendar.nd rfl (by first | exact Or.inl rfl | exact Or.inr rfl) (de_call f__law_taken (hr.mono (by decide)) px rfl (da_cons (de_var (pv 0)) (da_cons (de_add rfl (de_var (pv 1)) de_int) da_nil)))))
    (dss_cons (ds_set (ps_set (i := 5) sc__law_calendar.nd rfl (by first | exact Or.inl rfl | exact Or.inr rfl) (de_callTy cr_tupX ok_tup rfl m.bn.tuple bo_tuple (da_cons (de_lc (own := [("k", 4)]) (g := (gName 4)) rfl sc__law_calendar.nd (di_r1 rfl m.bn.range (da_cons (de_var (pv 1)) da_nil)) (blkOk_by (N := ["row", "many", "kind", "leaps", "k", "years"]) (sc := defScope (top 53)) (by decide +kernel)) (gok_name (by decide)) tt_yes (fun _ _ _ _ _ => (pg_name (i := 4) sc__law_calendar.nd rfl (Or.inl rfl))) (fun _ _ _ _ _ => pts_nil) (fun _ _ _ _ _ => (de_call f__law_taken (hr.mono (by decide)) passL rfl (da_cons (de_var (pv 0)) (da_cons de_int da_nil))))) da_nil))))
    (dss_cons (ds_if (dt_cmp (op_eqT rfl hr) ok_eq (de_var (pv 2)) de_int (by rfl)) (dss_one (ds_set (ps_set (i := 5) sc__law_calendar.nd rfl (by first | exact Or.inl rfl | exact Or.inr rfl) (de_callTy cr_tupX ok_tup rfl m.bn.tuple bo_tuple (da_cons (de_lc (own := [("k", 4)]) (g := (gName 4)) rfl sc__law_calendar.nd (di_r1 rfl m.bn.range (da_cons (de_var (pv 1)) da_nil)) (blkOk_by (N := ["row", "many", "kind", "leaps", "k", "years"]) (sc := defScope (top 53)) (by decide +kernel)) (gok_name (by decide)) tt_yes (fun _ _ _ _ _ => (pg_name (i := 4) sc__law_calendar.nd rfl (Or.inl rfl))) (fun _ _ _ _ _ => pts_nil) (fun _ _ _ _ _ => (de_sub (de_div (de_mul rfl (de_add rfl (de_var (pv 4)) de_int) (de_var (pv 3))) (de_var (pv 1))) (de_div (de_mul rfl (de_var (pv 4)) (de_var (pv 3))) (de_var (pv 1)))))) da_nil))))) dss_nil)
    (dss_one (ds_ret (de_tup (da_cons (de_var (pv 5)) (da_cons (de_call f__law_pick (hr.mono (by decide)) px rfl (da_cons (de_var (pv 0)) (da_cons (de_lst (da_cons (de_call f__law_taken (hr.mono (by decide)) px rfl (da_cons (de_var (pv 0)) (da_cons de_int da_nil))) (da_cons (de_call f__law_taken (hr.mono (by decide)) px rfl (da_cons (de_var (pv 0)) (da_cons de_int da_nil))) da_nil))) da_nil))) da_nil))))))))))
def b__law_ahead : FS := (sCons (sAsg (f2 gIx (fVar 0) (fC (.int 0))) (pName 1))
    (sRet (fLc [2] (iR1 (fCons (f2 gAdd (fCall gLen (fCons (fVar 1) fNil)) (fC (.int 1))) fNil)) (cName 2) fYes (f2 gSub (f2 gMul (fCall gSum (fCons (fSl (fVar 1) oNone (oSome (fVar 2))) fNil)) (fCall gLen (fCons (fVar 1) fNil))) (f2 gMul (fVar 2) (fCall gSum (fCons (fVar 1) fNil)))))))
def F__law_ahead : GF := runF 1 3 b__law_ahead
theorem sc__law_ahead : FnScope ["told", "years", "k"] ["told"] (defScope (top 54)) := ⟨rfl, rfl, rfl, by decide +kernel, rfl, by decide +kernel, by decide +kernel⟩
theorem ok__law_ahead (m : Mx K mg (tb K cA fA tP qn))  {f : Addr} {fd : FuncData} (F : Fun K "_law_ahead" "_law_ahead" (top 54) f fd) : FnOk P w K mg base (L2.CX P w) 2 f fd ["told"] (spD (tb K cA fA tP qn) F__law_ahead) :=
  fn_D F sc__law_ahead (fun cdv A outer s H E hr => by
    have px : Passes (L2.CX P w) (cxOf (L2.CX P w) P w K mg base ["told", "years", "k"] "_law_ahead" (defScope (top 54)) f cdv A outer s H E) E := passes_call (takes_of rfl rfl rfl rfl) fun _ _ _ _ h => h
    exact (dss_cons (ds_set (ps_set (i := 1) sc__law_ahead.nd rfl (by first | exact Or.inl rfl | exact Or.inr rfl) (de_ix rfl (de_var (pv 0)) de_int (by intro _ _; with_unfolding_all rfl))))
    (dss_one (ds_ret (de_lc (own := [("k", 2)]) (g := (gName 2)) rfl sc__law_ahead.nd (di_r1 rfl m.bn.range (da_cons (de_add rfl (de_callB call_len ok_len rfl m.bn.len bo_len (da_cons (de_var (pv 1)) da_nil)) de_int) da_nil)) (blkOk_by (N := ["told", "years", "k"]) (sc := defScope (top 54)) (by decide +kernel)) (gok_name (by decide)) tt_yes (fun _ _ _ _ _ => (pg_name (i := 2) sc__law_ahead.nd rfl (Or.inl rfl))) (fun _ _ _ _ _ => pts_nil) (fun _ _ _ _ _ => (de_sub (de_mul rfl (de_callB (cr_sumD rfl) ok_sum rfl m.bn.sum bo_sum (da_cons (de_sl rfl (de_var (pv 1)) do_none (do_some (de_var (pv 2)))) da_nil)) (de_callB call_len ok_len rfl m.bn.len bo_len (da_cons (de_var (pv 1)) da_nil))) (de_mul rfl (de_var (pv 2)) (de_callB (cr_sumD rfl) ok_sum rfl m.bn.sum bo_sum (da_cons (de_var (pv 1)) da_nil))))))))))
def b__law_uneven : FS := (sRet (f2 gSub (fCall gMax (fCons (fCallF F__law_ahead (fCons (fVar 0) fNil)) fNil)) (fCall gMin (fCons (fCallF F__law_ahead (fCons (fVar 0) fNil)) fNil))))
def F__law_uneven : GF := runF 1 1 b__law_uneven
theorem sc__law_uneven : FnScope ["told"] ["told"] (defScope (top 55)) := ⟨rfl, rfl, rfl, by decide +kernel, rfl, by decide +kernel, by decide +kernel⟩
theorem ok__law_uneven (m : Mx K mg (tb K cA fA tP qn)) (f__law_ahead : DefD (tb K cA fA tP qn) P w K mg base "_law_ahead" 2 F__law_ahead) {f : Addr} {fd : FuncData} (F : Fun K "_law_uneven" "_law_uneven" (top 55) f fd) : FnOk P w K mg base (L2.CX P w) 3 f fd ["told"] (spD (tb K cA fA tP qn) F__law_uneven) :=
  fn_D F sc__law_uneven (fun cdv A outer s H E hr => by
    have px : Passes (L2.CX P w) (cxOf (L2.CX P w) P w K mg base ["told"] "_law_uneven" (defScope (top 55)) f cdv A outer s H E) E := passes_call (takes_of rfl rfl rfl rfl) fun _ _ _ _ h => h
    exact (dss_one (ds_ret (de_sub (de_callB (cr_maxD' rfl hr) ok_max rfl m.bn.max bo_max (da_cons (de_call f__law_ahead (hr.mono (by decide)) px rfl (da_cons (de_var (pv 0)) da_nil)) da_nil)) (de_callB (cr_minD' rfl hr) ok_min rfl m.bn.min bo_min (da_cons (de_call f__law_ahead (hr.mono (by decide)) px rfl (da_cons (de_var (pv 0)) da_nil)) da_nil))))))
def b__law_heighted : FS := (sCons (sAsg (fCallF F__law_ahead (fCons (fVar 0) fNil)) (pName 2))
    (sCons (sIf (fOrT (fNotT (asB (fCall gIsi (fCons (fVar 1) (fCons (fC (.ty "tuple")) fNil))))) (fOrT (asB (f2 gNe (fCall gLen (fCons (fVar 1) fNil)) (fCall gLen (fCons (fVar 2) fNil)))) (asB (f2 gNe (fLc [3] (iSeq (fVar 1)) (cName 3) (fNotT (asB (fCallF F__law_whole (fCons (fVar 3) (fCons (fC (.int 0)) (fCons (fC (.int 1600)) fNil)))))) (fVar 3)) (fLst fNil))))) (sRet (fNeg (fC (.int 1)))) sNil)
    (sRet (fIf (asB (f2 gEq (fLc [4] (iR1 (fCons (fCall gLen (fCons (fVar 2) fNil)) fNil)) (cName 4) (asB (f2 gNe (f2 gSub (f2 gIx (fVar 1) (fVar 4)) (f2 gIx (fVar 1) (fC (.int 0)))) (f2 gIx (fVar 2) (fVar 4)))) (fVar 4)) (fLst fNil))) (fCall gMax (fCons (fVar 1) fNil)) (fNeg (fC (.int 1)))))))
def F__law_heighted : GF := runF 2 5 b__law_heighted
theorem sc__law_heighted : FnScope ["told", "value", "ahead", "one", "k"] ["told", "value"] (defScope (top 56)) := ⟨rfl, rfl, rfl, by decide +kernel, rfl, by decide +kernel, by decide +kernel⟩
theorem ok__law_heighted (m : Mx K mg (tb K cA fA tP qn)) (f__law_whole : DefD (tb K cA fA tP qn) P w K mg base "_law_whole" 2 F__law_whole) (f__law_ahead : DefD (tb K cA fA tP qn) P w K mg base "_law_ahead" 2 F__law_ahead) {f : Addr} {fd : FuncData} (F : Fun K "_law_heighted" "_law_heighted" (top 56) f fd) : FnOk P w K mg base (L2.CX P w) 3 f fd ["told", "value"] (spD (tb K cA fA tP qn) F__law_heighted) :=
  fn_D F sc__law_heighted (fun cdv A outer s H E hr => by
    have px : Passes (L2.CX P w) (cxOf (L2.CX P w) P w K mg base ["told", "value", "ahead", "one", "k"] "_law_heighted" (defScope (top 56)) f cdv A outer s H E) E := passes_call (takes_of rfl rfl rfl rfl) fun _ _ _ _ h => h
    exact (dss_cons (ds_set (ps_set (i := 2) sc__law_heighted.nd rfl (by first | exact Or.inl rfl | exact Or.inr rfl) (de_call f__law_ahead (hr.mono (by decide)) px rfl (da_cons (de_var (pv 0)) da_nil))))
    (dss_cons (ds_if (PW.pt (dw_or (dt_not (dt_val (de_callB cr_isiD (ok_isi m.cf) rfl m.bn.isinstance bo_isinstance (da_cons (de_var (pv 1)) (da_cons (de_ty rfl m.bn.tuple bo_tuple) da_nil))))) (dw_or (dt_cmp (op_neT rfl hr) ok_ne (de_callB call_len ok_len rfl m.bn.len bo_len (da_cons (de_var (pv 1)) da_nil)) (de_callB call_len ok_len rfl m.bn.len bo_len (da_cons (de_var (pv 2)) da_nil)) (by rfl)) (dw_or1 (dt_cmp (op_neT rfl hr) ok_ne (de_lc (own := [("one", 3)]) (g := (gName 3)) rfl sc__law_heighted.nd (di_seq rfl (de_var (pv 1))) (blkOk_by (N := ["told", "value", "ahead", "one", "k"]) (sc := defScope (top 56)) (by decide +kernel)) (gok_name (by decide)) tt_of (fun _ _ _ _ _ => (pg_name (i := 3) sc__law_heighted.nd rfl (Or.inl rfl))) (fun _ _ _ _ _ => pts_one (dt_not (dt_val (de_call f__law_whole (hr.mono (by decide)) passL rfl (da_cons (de_var (pv 3)) (da_cons de_int (da_cons de_int da_nil))))))) (fun _ _ _ _ _ => (de_var (pv 3)))) (de_lst da_nil) (by rfl)))))) (dss_one (ds_ret (de_neg de_int))) dss_nil)
    (dss_one (ds_ret (de_if (dt_cmp (op_eqT rfl hr) ok_eq (de_lc (own := [("k", 4)]) (g := (gName 4)) rfl sc__law_heighted.nd (di_r1 rfl m.bn.range (da_cons (de_callB call_len ok_len rfl m.bn.len bo_len (da_cons (de_var (pv 2)) da_nil)) da_nil)) (blkOk_by (N := ["told", "value", "ahead", "one", "k"]) (sc := defScope (top 56)) (by decide +kernel)) (gok_name (by decide)) tt_of (fun _ _ _ _ _ => (pg_name (i := 4) sc__law_heighted.nd rfl (Or.inl rfl))) (fun _ _ _ _ _ => pts_one (dt_cmp (op_neT rfl hr) ok_ne (de_sub (de_ix rfl (de_var (pv 1)) (de_var (pv 4)) (by intro _ _; with_unfolding_all rfl)) (de_ix rfl (de_var (pv 1)) de_int (by intro _ _; with_unfolding_all rfl))) (de_ix rfl (de_var (pv 2)) (de_var (pv 4)) (by intro _ _; with_unfolding_all rfl)) (by rfl))) (fun _ _ _ _ _ => (de_var (pv 4)))) (de_lst da_nil) (by rfl)) (de_callB (cr_maxD' rfl hr) ok_max rfl m.bn.max bo_max (da_cons (de_var (pv 1)) da_nil)) (de_neg de_int)))))))
def b__law_apart : FS := (sCons (sAsg (fCallF F__law_ahead (fCons (fVar 0) fNil)) (pName 2))
    (sCons (sIf (fOrT (fNotT (asB (fCall gIsi (fCons (fVar 1) (fCons (fC (.ty "tuple")) fNil))))) (fOrT (asB (f2 gNe (fCall gLen (fCons (fVar 1) fNil)) (fC (.int 2)))) (asB (f2 gNe (fLc [3] (iSeq (fVar 1)) (cName 3) (fNotT (asB (fCallF F__law_whole (fCons (fVar 3) (fCons (fC (.int 0)) (fCons (fCall gLen (fCons (f2 gIx (fVar 0) (fC (.int 0))) fNil)) fNil)))))) (fVar 3)) (fLst fNil))))) (sRet (fNeg (fC (.int 1)))) sNil)
    (sRet (fCall gAbs (fCons (f2 gSub (f2 gIx (fVar 2) (f2 gIx (fVar 1) (fC (.int 0)))) (f2 gIx (fVar 2) (f2 gIx (fVar 1) (fC (.int 1))))) fNil)))))
def F__law_apart : GF := runF 2 4 b__law_apart
theorem sc__law_apart : FnScope ["told", "value", "ahead", "one"] ["told", "value"] (defScope (top 57)) := ⟨rfl, rfl, rfl, by decide +kernel, rfl, by decide +kernel, by decide +kernel⟩
theorem ok__law_apart (m : Mx K mg (tb K cA fA tP qn)) (f__law_whole : DefD (tb K cA fA tP qn) P w K mg base "_law_whole" 2 F__law_whole) (f__law_ahead : DefD (tb K cA fA tP qn) P w K mg base "_law_ahead" 2 F__law_ahead) {f : Addr} {fd : FuncData} (F : Fun K "_law_apart" "_law_apart" (top 57) f fd) : FnOk P w K mg base (L2.CX P w) 3 f fd ["told", "value"] (spD (tb K cA fA tP qn) F__law_apart) :=
  fn_D F sc__law_apart (fun cdv A outer s H E hr => by
    have px : Passes (L2.CX P w) (cxOf (L2.CX P w) P w K mg base ["told", "value", "ahead", "one"] "_law_apart" (defScope (top 57)) f cdv A outer s H E) E := passes_call (takes_of rfl rfl rfl rfl) fun _ _ _ _ h => h
    exact (dss_cons (ds_set (ps_set (i := 2) sc__law_apart.nd rfl (by first | exact Or.inl rfl | exact Or.inr rfl) (de_call f__law_ahead (hr.mono (by decide)) px rfl (da_cons (de_var (pv 0)) da_nil))))
    (dss_cons (ds_if (PW.pt (dw_or (dt_not (dt_val (de_callB cr_isiD (ok_isi m.cf) rfl m.bn.isinstance bo_isinstance (da_cons (de_var (pv 1)) (da_cons (de_ty rfl m.bn.tuple bo_tuple) da_nil))))) (dw_or (dt_cmp (op_neT rfl hr) ok_ne (de_callB call_len ok_len rfl m.bn.len bo_len (da_cons (de_var (pv 1)) da_nil)) de_int (by rfl)) (dw_or1 (dt_cmp (op_neT rfl hr) ok_ne (de_lc (own := [("one", 3)]) (g := (gName 3)) rfl sc__law_apart.nd (di_seq rfl (de_var (pv 1))) (blkOk_by (N := ["told", "value", "ahead", "one"]) (sc := defScope (top 57)) (by decide +kernel)) (gok_name (by decide)) tt_of (fun _ _ _ _ _ => (pg_name (i := 3) sc__law_apart.nd rfl (Or.inl rfl))) (fun _ _ _ _ _ => pts_one (dt_not (dt_val (de_call f__law_whole (hr.mono (by decide)) passL rfl (da_cons (de_var (pv 3)) (da_cons de_int (da_cons (de_callB call_len ok_len rfl m.bn.len bo_len (da_cons (de_ix rfl (de_var (pv 0)) de_int (by intro _ _; with_unfolding_all rfl)) da_nil)) da_nil))))))) (fun _ _ _ _ _ => (de_var (pv 3)))) (de_lst da_nil) (by rfl)))))) (dss_one (ds_ret (de_neg de_int))) dss_nil)
    (dss_one (ds_ret (de_callB call_abs ok_abs rfl m.bn.abs bo_abs (da_cons (de_sub (de_ix rfl (de_var (pv 2)) (de_ix rfl (de_var (pv 1)) de_int (by intro _ _; with_unfolding_all rfl)) (by intro _ _; with_unfolding_all rfl)) (de_ix rfl (de_var (pv 2)) (de_ix rfl (de_var (pv 1)) de_int (by intro _ _; with_unfolding_all rfl)) (by intro _ _; with_unfolding_all rfl))) da_nil)))))))
end
end KA
set_option Elab.async false
set_option linter.all false
set_option maxRecDepth 100000
set_option maxHeartbeats 4000000
namespace KA
open PySem PySem.Spec PyProof.Rows L2 DL
section
variable {P : Program} {w : World} {K : PySem.W.Frag} {mg : Str → Option Value} {base : Heap} {cA fA : Nat → Addr} {tP : Addr} {qn : Str}
def b_Calendar_with_part : FS := (sRet (fMake 0 F_Calendar___init__ (fCons (fCallF F_replaced (fCons (fFld 5 (fVar 0)) (fCons (fCallF F_place_of (fCons (fC (.tup [(.str "years"), (.str "uneven")])) (fCons (fVar 1) (fCons (fC (.str "calendar")) fNil)))) (fCons (fVar 2) fNil)))) fNil)))
def F_Calendar_with_part : GF := runF 3 3 b_Calendar_with_part
theorem sc_Calendar_with_part : FnScope ["self", "word", "value"] ["self", "word", "value"] (defScope ((clsB (top 27)).getD 1 (.Pass ⟨0, 0, 0, 0⟩))) := ⟨rfl, rfl, rfl, by decide +kernel, rfl, by decide +kernel, by decide +kernel⟩
theorem ok_Calendar_with_part (m : Mx K mg (tb K cA fA tP qn)) (mk_Calendar : MakeD (tb K cA fA tP qn) P w K mg base "Calendar" 0 8 F_Calendar___init__) (f_replaced : DefD (tb K cA fA tP qn) P w K mg base "replaced" 2 F_replaced) (f_place_of : DefD (tb K cA fA tP qn) P w K mg base "place_of" 4 F_place_of) {f : Addr} {fd : FuncData} (F : Fun K "with_part" "Calendar.with_part" ((clsB (top 27)).getD 1 (.Pass ⟨0, 0, 0, 0⟩)) f fd) : FnOk P w K mg base (L2.CX P w) 10 f fd ["self", "word", "value"] (spD (tb K cA fA tP qn) F_Calendar_with_part) :=
  fn_D F sc_Calendar_with_part (fun cdv A outer s H E hr => by
    have px : Passes (L2.CX P w) (cxOf (L2.CX P w) P w K mg base ["self", "word", "value"] "Calendar.with_part" (defScope ((clsB (top 27)).getD 1 (.Pass ⟨0, 0, 0, 0⟩))) f cdv A outer s H E) E := passes_call (takes_of rfl rfl rfl rfl) fun _ _ _ _ h => h
    exact (dss_one (ds_ret (de_make mk_Calendar (hr.mono (by decide)) px rfl (da_cons (de_call f_replaced (hr.mono (by decide)) px rfl (da_cons (de_fld m.cf rfl rfl (de_var (pv 0))) (da_cons (de_call f_place_of (hr.mono (by decide)) px rfl (da_cons (de_gcx rfl m.c_PARTS) (da_cons (de_var (pv 1)) (da_cons de_str da_nil)))) (da_cons (de_var (pv 2)) da_nil)))) da_nil)))))
def b_Calendar_with_year : FS := (sCons (sIf (fNotT (asB (fCallF F_is_within (fCons (fVar 1) (fCons (fC (.int 1)) (fCons (fCall gLen (fCons (fFld 6 (fVar 0)) fNil)) fNil)))))) (sRaise 2 [3] (fCons (fVar 1) fNil)) sNil)
    (sRet (fMeth 0 F_Calendar_with_part (fVar 0) (fCons (fC (.str "years")) (fCons (fCallF F_replaced (fCons (fFld 6 (fVar 0)) (fCons (f2 gSub (fVar 1) (fC (.int 1))) (fCons (fVar 2) fNil)))) fNil)))))
def F_Calendar_with_year : GF := runF 3 3 b_Calendar_with_year
theorem sc_Calendar_with_year : FnScope ["self", "number", "leap"] ["self", "number", "leap"] (defScope ((clsB (top 27)).getD 2 (.Pass ⟨0, 0, 0, 0⟩))) := ⟨rfl, rfl, rfl, by decide +kernel, rfl, by decide +kernel, by decide +kernel⟩
theorem ok_Calendar_with_year (m : Mx K mg (tb K cA fA tP qn)) (f_replaced : DefD (tb K cA fA tP qn) P w K mg base "replaced" 2 F_replaced) (m_Calendar_with_part : MethD (tb K cA fA tP qn) P w K mg base 0 "with_part" 10 F_Calendar_with_part) (f_is_within : DefD (tb K cA fA tP qn) P w K mg base "is_within" 3 F_is_within) (er_Unknown : ErrD P w K mg base "Unknown" (fA 2) (([3] : List Nat).map nmF) 1) {f : Addr} {fd : FuncData} (F : Fun K "with_year" "Calendar.with_year" ((clsB (top 27)).getD 2 (.Pass ⟨0, 0, 0, 0⟩)) f fd) : FnOk P w K mg base (L2.CX P w) 11 f fd ["self", "number", "leap"] (spD (tb K cA fA tP qn) F_Calendar_with_year) :=
  fn_D F sc_Calendar_with_year (fun cdv A outer s H E hr => by
    have px : Passes (L2.CX P w) (cxOf (L2.CX P w) P w K mg base ["self", "number", "leap"] "Calendar.with_year" (defScope ((clsB (top 27)).getD 2 (.Pass ⟨0, 0, 0, 0⟩))) f cdv A outer s H E) E := passes_call (takes_of rfl rfl rfl rfl) fun _ _ _ _ h => h
    exact (dss_cons (ds_if (dt_not (dt_val (de_call f_is_within (hr.mono (by decide)) px rfl (da_cons (de_var (pv 1)) (da_cons de_int (da_cons (de_callB call_len ok_len rfl m.bn.len bo_len (da_cons (de_fld m.cf rfl rfl (de_var (pv 0))) da_nil)) da_nil)))))) (dss_one (ds_raise (c := 2) (fids := [3]) rfl (takes_of rfl rfl rfl rfl) (show ∀ f ∈ ([3] : List Nat), f < 8 from by decide) (mk_err er_Unknown (by exact Nat.le_of_ble_eq_true rfl) (hr.mono (by decide)) rfl (da_cons (de_var (pv 1)) da_nil)))) dss_nil)
    (dss_one (ds_ret (de_meth m.cf rfl m_Calendar_with_part (hr.mono (by decide)) px (de_var (pv 0)) (da_cons de_str (da_cons (de_call f_replaced (hr.mono (by decide)) px rfl (da_cons (de_fld m.cf rfl rfl (de_var (pv 0))) (da_cons (de_sub (de_var (pv 1)) de_int) (da_cons (de_var (pv 2)) da_nil)))) da_nil)))))))
def b_Calendar___eq__ : FS := (sRet (fAnd (fCall gIsi (fCons (fVar 1) (fCons (fC (.cl 0)) fNil))) (f2 gEq (fFld 5 (fVar 0)) (fFld 5 (fVar 1)))))
def F_Calendar___eq__ : GF := runF 2 2 b_Calendar___eq__
theorem sc_Calendar___eq__ : FnScope ["self", "other"] ["self", "other"] (defScope ((clsB (top 27)).getD 3 (.Pass ⟨0, 0, 0, 0⟩))) := ⟨rfl, rfl, rfl, by decide +kernel, rfl, by decide +kernel, by decide +kernel⟩
theorem ok_Calendar___eq__ (m : Mx K mg (tb K cA fA tP qn))  {f : Addr} {fd : FuncData} (F : Fun K "__eq__" "Calendar.__eq__" ((clsB (top 27)).getD 3 (.Pass ⟨0, 0, 0, 0⟩)) f fd) : FnOk P w K mg base (L2.CX P w) 2 f fd ["self", "other"] (spD (tb K cA fA tP qn) F_Calendar___eq__) :=
  fn_D F sc_Calendar___eq__ (fun cdv A outer s H E hr => by
    have px : Passes (L2.CX P w) (cxOf (L2.CX P w) P w K mg base ["self", "other"] "Calendar.__eq__" (defScope ((clsB (top 27)).getD 3 (.Pass ⟨0, 0, 0, 0⟩))) f cdv A outer s H E) E := passes_call (takes_of rfl rfl rfl rfl) fun _ _ _ _ h => h
    exact (dss_one (ds_ret (de_and (de_callB cr_isiD (ok_isi m.cf) rfl m.bn.isinstance bo_isinstance (da_cons (de_var (pv 1)) (da_cons (de_cl (c := 0) rfl m.k_Calendar (show 0 < 1 from by decide)) da_nil))) (de_one (de_cmp (op_eqT rfl hr) ok_eq (de_fld m.cf rfl rfl (de_var (pv 0))) (de_fld m.cf rfl rfl (de_var (pv 1))) (by rfl)))))))
def b__law_alike (r : GF) : FS := (sCons (sIf (asB (fCall gIsi (fCons (fVar 1) (fCons (fTup (fCons (fC (.ty "tuple")) (fCons (fC (.ty "list")) fNil))) fNil)))) (sCons (sIf (fOrT (fNotT (asB (fCall gIsi (fCons (fVar 0) (fCons (fTup (fCons (fC (.ty "tuple")) (fCons (fC (.ty "list")) fNil))) fNil))))) (asB (f2 gNe (fCall gIsi (fCons (fVar 0) (fCons (fC (.ty "list")) fNil))) (fCall gIsi (fCons (fVar 1) (fCons (fC (.ty "list")) fNil)))))) (sRet (fC (.bl false))) sNil)
    (sCons (sIf (asB (f2 gNe (fCall gLen (fCons (fVar 0) fNil)) (fCall gLen (fCons (fVar 1) fNil)))) (sRet (fC (.bl false))) sNil)
    (sRet (f2 gEq (fLc [2] (iR1 (fCons (fCall gLen (fCons (fVar 1) fNil)) fNil)) (cName 2) (fNotT (asB (fCallF r (fCons (f2 gIx (fVar 0) (fVar 2)) (fCons (f2 gIx (fVar 1) (fVar 2)) fNil))))) (fVar 2)) (fLst fNil))))) sNil)
    (sCons (sIf (fOrT (asB (f2 gIsN (fVar 1) (fC .non))) (asB (fCall gIsi (fCons (fVar 1) (fCons (fC (.ty "str")) fNil))))) (sRet (fAnd (f2 gEq (fVar 0) (fVar 1)) (f2 gEq (fCall gIsi (fCons (fVar 0) (fCons (fC (.ty "str")) fNil))) (fCall gIsi (fCons (fVar 1) (fCons (fC (.ty "str")) fNil)))))) sNil)
    (sRet (fAnd (fCall gIsi (fCons (fVar 0) (fCons (fC (.ty "int")) fNil))) (fAnd (f2 gEq (fCall gIsi (fCons (fVar 0) (fCons (fC (.ty "bool")) fNil))) (fCall gIsi (fCons (fVar 1) (fCons (fC (.ty "bool")) fNil)))) (f2 gEq (fVar 0) (fVar 1)))))))
def F__law_alike : Nat → GF
  | 0 => fun _ _ => .bad
  | n + 1 => runF 2 3 (b__law_alike (F__law_alike n))
theorem sc__law_alike : FnScope ["found", "due", "k"] ["found", "due"] (defScope (top 46)) := ⟨rfl, rfl, rfl, by decide +kernel, rfl, by decide +kernel, by decide +kernel⟩
theorem ok__law_alike (m : Mx K mg (tb K cA fA tP qn))  {f : Addr} {fd : FuncData} (F : Fun K "_law_alike" "_law_alike" (top 46) f fd) (hm : mg "_law_alike" = some (.ref f)) (hk : PySem.W.keepIn K (.ref f) = true) (hb : Binds K fd ["found", "due"] []) : ∀ n, FnOk P w K mg base (L2.CX P w) (2 + n) f fd ["found", "due"] (spD (tb K cA fA tP qn) (F__law_alike n)) := by
  intro n
  induction n with
  | zero => exact fn_bad
  | succ n ih0 =>
    have ih : DefD (tb K cA fA tP qn) P w K mg base "_law_alike" (2 + n) (F__law_alike n) := ⟨f, fd, ["found", "due"], hm, hk, hb, ih0⟩
    exact fn_D F sc__law_alike (fun cdv A outer s H E hr0 => by
      have hr : Room (2 + n) (A.deeper (envOfC "_law_alike" (defScope (top 46)) s.heap.objs.size f cdv)) := hr0
      have px : Passes (L2.CX P w) (cxOf (L2.CX P w) P w K mg base ["found", "due", "k"] "_law_alike" (defScope (top 46)) f cdv A outer s H E) E := passes_call (takes_of rfl rfl rfl rfl) fun _ _ _ _ h => h
      exact (dss_cons (ds_if (dt_val (de_callB cr_isiD (ok_isi m.cf) rfl m.bn.isinstance bo_isinstance (da_cons (de_var (pv 1)) (da_cons (de_tup (da_cons (de_ty rfl m.bn.tuple bo_tuple) (da_cons (de_ty rfl m.bn.list bo_list) da_nil))) da_nil)))) (dss_cons (ds_if (PW.pt (dw_or (dt_not (dt_val (de_callB cr_isiD (ok_isi m.cf) rfl m.bn.isinstance bo_isinstance (da_cons (de_var (pv 0)) (da_cons (de_tup (da_cons (de_ty rfl m.bn.tuple bo_tuple) (da_cons (de_ty rfl m.bn.list bo_list) da_nil))) da_nil))))) (dw_or1 (dt_cmp (op_neT rfl hr) ok_ne (de_callB cr_isiD (ok_isi m.cf) rfl m.bn.isinstance bo_isinstance (da_cons (de_var (pv 0)) (da_cons (de_ty rfl m.bn.list bo_list) da_nil))) (de_callB cr_isiD (ok_isi m.cf) rfl m.bn.isinstance bo_isinstance (da_cons (de_var (pv 1)) (da_cons (de_ty rfl m.bn.list bo_list) da_nil))) (by rfl))))) (dss_one (ds_ret de_bl)) dss_nil)
    (dss_cons (ds_if (dt_cmp (op_neT rfl hr) ok_ne (de_callB call_len ok_len rfl m.bn.len bo_len (da_cons (de_var (pv 0)) da_nil)) (de_callB call_len ok_len rfl m.bn.len bo_len (da_cons (de_var (pv 1)) da_nil)) (by rfl)) (dss_one (ds_ret de_bl)) dss_nil)
    (dss_one (ds_ret (de_cmp (op_eqT rfl hr) ok_eq (de_lc (own := [("k", 2)]) (g := (gName 2)) rfl sc__law_alike.nd (di_r1 rfl m.bn.range (da_cons (de_callB call_len ok_len rfl m.bn.len bo_len (da_cons (de_var (pv 1)) da_nil)) da_nil)) (blkOk_by (N := ["found", "due", "k"]) (sc := defScope (top 46)) (by decide +kernel)) (gok_name (by decide)) tt_of (fun _ _ _ _ _ => (pg_name (i := 2) sc__law_alike.nd rfl (Or.inl rfl))) (fun _ _ _ _ _ => pts_one (dt_not (dt_val (de_call ih (hr.mono (by omega)) passL rfl (da_cons (de_ix rfl (de_var (pv 0)) (de_var (pv 2)) (by intro _ _; with_unfolding_all rfl)) (da_cons (de_ix rfl (de_var (pv 1)) (de_var (pv 2)) (by intro _ _; with_unfolding_all rfl)) da_nil)))))) (fun _ _ _ _ _ => (de_var (pv 2)))) (de_lst da_nil) (by rfl)))))) dss_nil)
    (dss_cons (ds_if (PW.pt (dw_or (dt_cmp op_isN ok_isN (de_var (pv 1)) de_non (by rfl)) (dw_or1 (dt_val (de_callB cr_isiD (ok_isi m.cf) rfl m.bn.isinstance bo_isinstance (da_cons (de_var (pv 1)) (da_cons (de_ty rfl m.bn.str bo_str) da_nil))))))) (dss_one (ds_ret (de_and (de_cmp (op_eqT rfl hr) ok_eq (de_var (pv 0)) (de_var (pv 1)) (by rfl)) (de_one (de_cmp (op_eqT rfl hr) ok_eq (de_callB cr_isiD (ok_isi m.cf) rfl m.bn.isinstance bo_isinstance (da_cons (de_var (pv 0)) (da_cons (de_ty rfl m.bn.str bo_str) da_nil))) (de_callB cr_isiD (ok_isi m.cf) rfl m.bn.isinstance bo_isinstance (da_cons (de_var (pv 1)) (da_cons (de_ty rfl m.bn.str bo_str) da_nil))) (by rfl)))))) dss_nil)
    (dss_one (ds_ret (de_and (de_callB cr_isiD (ok_isi m.cf) rfl m.bn.isinstance bo_isinstance (da_cons (de_var (pv 0)) (da_cons (de_ty rfl m.bn.int bo_int) da_nil))) (de_and (de_cmp (op_eqT rfl hr) ok_eq (de_callB cr_isiD (ok_isi m.cf) rfl m.bn.isinstance bo_isinstance (da_cons (de_var (pv 0)) (da_cons (de_ty rfl m.bn.bool bo_bool) da_nil))) (de_callB cr_isiD (ok_isi m.cf) rfl m.bn.isinstance bo_isinstance (da_cons (de_var (pv 1)) (da_cons (de_ty rfl m.bn.bool bo_bool) da_nil))) (by rfl)) (de_one (de_cmp (op_eqT rfl hr) ok_eq (de_var (pv 0)) (de_var (pv 1)) (by rfl))))))))))
def b__law_spoiled (r : GF) : FS := (sCons (sIf (fNotT (asB (fCall gIsi (fCons (fVar 1) (fCons (fC (.ty "tuple")) fNil))))) (sRet (fIf (asB (fCall gIsi (fCons (fVar 1) (fCons (fC (.ty "int")) fNil)))) (fCallF F__law_pick (fCons (fVar 0) (fCons (fLst (fCons (f2 gAdd (fVar 1) (fC (.int 1))) (fCons (f2 gSub (fVar 1) (fC (.int 1))) (fCons (fC (.int 0)) (fCons (fC .non) (fCons (fC (.bl true)) (fCons (fLst (fCons (fVar 1) fNil)) (fCons (fNeg (fC (.int 1))) fNil)))))))) fNil))) (fCallF F__law_pick (fCons (fVar 0) (fCons (fLst (fCons (fC .non) (fCons (fC (.str "a")) (fCons (fC (.str "zz")) (fCons (fC (.int 1)) (fCons (fVar 1) fNil)))))) fNil))))) sNil)
    (sCons (sIf (fOrT (asB (f2 gEq (fCall gLen (fCons (fVar 1) fNil)) (fC (.int 0)))) (asB (f2 gEq (fCallF F__law_taken (fCons (fVar 0) (fCons (fC (.int 6)) fNil))) (fC (.int 0))))) (sRet (fCallF F__law_pick (fCons (fVar 0) (fCons (fLst (fCons (f2 gAdd (fVar 1) (fTup (fCons (fC (.int 0)) fNil))) (fCons (fSl (fVar 1) (oSome (fC (.int 1))) oNone) (fCons (fSl (fVar 1) oNone (oSome (fNeg (fC (.int 1))))) (fCons (fCall gList (fCons (fVar 1) fNil)) (fCons (f2 gAdd (fVar 1) (fSl (fVar 1) oNone (oSome (fC (.int 1))))) (fCons (fRevS (fVar 1)) (fCons (fTup fNil) fNil)))))))) fNil)))) sNil)
    (sCons (sAsg (fCallF F__law_taken (fCons (fVar 0) (fCons (fCall gLen (fCons (fVar 1) fNil)) fNil))) (pName 2))
    (sRet (f2 gAdd (f2 gAdd (fSl (fVar 1) oNone (oSome (fVar 2))) (fTup (fCons (fCallF r (fCons (fVar 0) (fCons (f2 gIx (fVar 1) (fVar 2)) fNil))) fNil))) (fSl (fVar 1) (oSome (f2 gAdd (fVar 2) (fC (.int 1)))) oNone))))))
def F__law_spoiled : Nat → GF
  | 0 => fun _ _ => .bad
  | n + 1 => runF 2 3 (b__law_spoiled (F__law_spoiled n))
theorem sc__law_spoiled : FnScope ["row", "value", "at"] ["row", "value"] (defScope (top 50)) := ⟨rfl, rfl, rfl, by decide +kernel, rfl, by decide +kernel, by decide +kernel⟩
theorem ok__law_spoiled (m : Mx K mg (tb K cA fA tP qn)) (f__law_taken : DefD (tb K cA fA tP qn) P w K mg base "_law_taken" 2 F__law_taken) (f__law_pick : DefD (tb K cA fA tP qn) P w K mg base "_law_pick" 3 F__law_pick) {f : Addr} {fd : FuncData} (F : Fun K "_law_spoiled" "_law_spoiled" (top 50) f fd) (hm : mg "_law_spoiled" = some (.ref f)) (hk : PySem.W.keepIn K (.ref f) = true) (hb : Binds K fd ["row", "value"] []) : ∀ n, FnOk P w K mg base (L2.CX P w) (4 + n) f fd ["row", "value"] (spD (tb K cA fA tP qn) (F__law_spoiled n)) := by
  intro n
  induction n with
  | zero => exact fn_bad
  | succ n ih0 =>
    have ih : DefD (tb K cA fA tP qn) P w K mg base "_law_spoiled" (4 + n) (F__law_spoiled n) := ⟨f, fd, ["row", "value"], hm, hk, hb, ih0⟩
    exact fn_D F sc__law_spoiled (fun cdv A outer s H E hr0 => by
      have hr : Room (4 + n) (A.deeper (envOfC "_law_spoiled" (defScope (top 50)) s.heap.objs.size f cdv)) := hr0
      have px : Passes (L2.CX P w) (cxOf (L2.CX P w) P w K mg base ["row", "value", "at"] "_law_spoiled" (defScope (top 50)) f cdv A outer s H E) E := passes_call (takes_of rfl rfl rfl rfl) fun _ _ _ _ h => h
      exact (dss_cons (ds_if (dt_not (dt_val (de_callB cr_isiD (ok_isi m.cf) rfl m.bn.isinstance bo_isinstance (da_cons (de_var (pv 1)) (da_cons (de_ty rfl m.bn.tuple bo_tuple) da_nil))))) (dss_one (ds_ret (de_if (dt_val (de_callB cr_isiD (ok_isi m.cf) rfl m.bn.isinstance bo_isinstance (da_cons (de_var (pv 1)) (da_cons (de_ty rfl m.bn.int bo_int) da_nil)))) (de_call f__law_pick (hr.mono (by omega)) px rfl (da_cons (de_var (pv 0)) (da_cons (de_lst (da_cons (de_add rfl (de_var (pv 1)) de_int) (da_cons (de_sub (de_var (pv 1)) de_int) (da_cons de_int (da_cons de_non (da_cons de_bl (da_cons (de_lst (da_cons (de_var (pv 1)) da_nil)) (da_cons (de_neg de_int) da_nil)))))))) da_nil))) (de_call f__law_pick (hr.mono (by omega)) px rfl (da_cons (de_var (pv 0)) (da_cons (de_lst (da_cons de_non (da_cons de_str (da_cons de_str (da_cons de_int (da_cons (de_var (pv 1)) da_nil)))))) da_nil)))))) dss_nil)
    (dss_cons (ds_if (PW.pt (dw_or (dt_cmp (op_eqT rfl hr) ok_eq (de_callB call_len ok_len rfl m.bn.len bo_len (da_cons (de_var (pv 1)) da_nil)) de_int (by rfl)) (dw_or1 (dt_cmp (op_eqT rfl hr) ok_eq (de_call f__law_taken (hr.mono (by omega)) px rfl (da_cons (de_var (pv 0)) (da_cons de_int da_nil))) de_int (by rfl))))) (dss_one (ds_ret (de_call f__law_pick (hr.mono (by omega)) px rfl (da_cons (de_var (pv 0)) (da_cons (de_lst (da_cons (de_add rfl (de_var (pv 1)) (de_tup (da_cons de_int da_nil))) (da_cons (de_sl rfl (de_var (pv 1)) (do_some de_int) do_none) (da_cons (de_sl rfl (de_var (pv 1)) do_none (do_some (de_neg de_int))) (da_cons (de_callTy call_list_of ok_list rfl m.bn.list bo_list (da_cons (de_var (pv 1)) da_nil)) (da_cons (de_add rfl (de_var (pv 1)) (de_sl rfl (de_var (pv 1)) do_none (do_some de_int))) (da_cons (de_revS rfl (de_var (pv 1))) (da_cons (de_tup da_nil) da_nil)))))))) da_nil))))) dss_nil)
    (dss_cons (ds_set (ps_set (i := 2) sc__law_spoiled.nd rfl (by first | exact Or.inl rfl | exact Or.inr rfl) (de_call f__law_taken (hr.mono (by omega)) px rfl (da_cons (de_var (pv 0)) (da_cons (de_callB call_len ok_len rfl m.bn.len bo_len (da_cons (de_var (pv 1)) da_nil)) da_nil)))))
    (dss_one (ds_ret (de_add rfl (de_add rfl (de_sl rfl (de_var (pv 1)) do_none (do_some (de_var (pv 2)))) (de_tup (da_cons (de_call ih (hr.mono (by omega)) px rfl (da_cons (de_var (pv 0)) (da_cons (de_ix rfl (de_var (pv 1)) (de_var (pv 2)) (by intro _ _; with_unfolding_all rfl)) da_nil))) da_nil))) (de_sl rfl (de_var (pv 1)) (do_some (de_add rfl (de_var (pv 2)) de_int)) do_none))))))))
def b__law_refusal : FS := (sCons (sAsg (fLst (fCons (fC (.str "BadPart")) (fCons (fC (.str "BadNumber")) (fCons (fC (.str "Unknown")) (fCons (fC (.str "BadCourse")) (fCons (fC (.str "BadChange")) (fCons (fC (.str "BadText")) (fCons (fC (.str "BadLine")) (fCons (fC (.str "BadClaim")) (fCons (fC (.str "NothingDone")) fNil)))))))))) (pName 1))
    (sCons (sAsg (fLst (fCons (fCall (gIsX ansE basE) (fCons (fVar 0) (fCons (fC (.fn 0)) fNil))) (fCons (fCall (gIsX ansE basE) (fCons (fVar 0) (fCons (fC (.fn 1)) fNil))) (fCons (fCall (gIsX ansE basE) (fCons (fVar 0) (fCons (fC (.fn 2)) fNil))) (fCons (fCall (gIsX ansE basE) (fCons (fVar 0) (fCons (fC (.fn 3)) fNil))) (fCons (fCall (gIsX ansE basE) (fCons (fVar 0) (fCons (fC (.fn 4)) fNil))) (fCons (fCall (gIsX ansE basE) (fCons (fVar 0) (fCons (fC (.fn 5)) fNil))) (fCons (fCall (gIsX ansE basE) (fCons (fVar 0) (fCons (fC (.fn 6)) fNil))) (fCons (fCall (gIsX ansE basE) (fCons (fVar 0) (fCons (fC (.fn 7)) fNil))) (fCons (fCall (gIsX ansE basE) (fCons (fVar 0) (fCons (fC (.fn 8)) fNil))) fNil)))))))))) (pName 2))
    (sCons (sIf (fOrT (asB (f2 gNe (fMthL gCntB (fVar 2) (fCons (fC (.bl true)) fNil)) (fC (.int 1)))) (fNotT (asB (fCall (gIsX ansE basE) (fCons (fVar 0) (fCons (fC (.ty "ValueError")) fNil)))))) (sRet (fTup (fCons (fC (.str "other")) fNil))) sNil)
    (sCons (sAsg (f2 gIx (fVar 1) (fMthL gIdxB (fVar 2) (fCons (fC (.bl true)) fNil))) (pName 3))
    (sCons (sIf (asB (f2 gEq (fVar 3) (fC (.str "BadPart")))) (sRet (fTup (fCons (fVar 3) (fCons (fXf 0 (fVar 0)) (fCons (fXf 1 (fVar 0)) fNil))))) sNil)
    (sCons (sIf (asB (f2 gEq (fVar 3) (fC (.str "BadNumber")))) (sRet (fTup (fCons (fVar 3) (fCons (fXf 2 (fVar 0)) fNil)))) sNil)
    (sCons (sIf (asB (f2 gEq (fVar 3) (fC (.str "Unknown")))) (sRet (fTup (fCons (fVar 3) (fCons (fXf 3 (fVar 0)) fNil)))) sNil)
    (sCons (sIf (asB (f2 (gIn false) (fVar 3) (fTup (fCons (fC (.str "BadText")) (fCons (fC (.str "BadLine")) fNil))))) (sRet (fTup (fCons (fVar 3) (fCons (fXf 4 (fVar 0)) fNil)))) sNil)
    (sCons (sIf (asB (f2 (gIn false) (fVar 3) (fTup (fCons (fC (.str "BadClaim")) (fCons (fC (.str "NothingDone")) fNil))))) (sRet (fTup (fCons (fVar 3) fNil))) sNil)
    (sRet (fTup (fCons (fVar 3) (fCons (fXf 1 (fVar 0)) fNil)))))))))))))
def F__law_refusal : GF := runF 1 4 b__law_refusal
theorem sc__law_refusal : FnScope ["e", "kinds", "marks", "name"] ["e"] (defScope (top 48)) := ⟨rfl, rfl, rfl, by decide +kernel, rfl, by decide +kernel, by decide +kernel⟩
theorem ok__law_refusal (m : Mx K mg (tb K cA fA tP qn))  {f : Addr} {fd : FuncData} (F : Fun K "_law_refusal" "_law_refusal" (top 48) f fd) : FnR (tb K cA fA tP qn) P w K mg base 2 f fd ["e"] inE F__law_refusal :=
  fn_R F sc__law_refusal (fun cdv A outer s H E p c dd hin hpc hpd hpf hr => by
    have hX := hotX_R (P := P) (w := w) (K := K) (mg := mg) (base := base) (T := (tb K cA fA tP qn)) (N := ["e", "kinds", "marks", "name"]) (qual := "_law_refusal") (scope := defScope (top 48)) (f := f) (cd := cdv) (A := A) (outer := outer) (s := s) (H := H) (E := E) hpc hpd hpf
    have hu := roomH_units hr
    have isE := isE_of m p.1 c dd
    have ecX := fun (n : Str) (hn : n ∈ nmL) => ecX_of m p.1 c dd hin n hn
    exact (dss_cons (ds_set (ps_set (i := 1) sc__law_refusal.nd rfl (by first | exact Or.inl rfl | exact Or.inr rfl) (de_lst (da_cons de_str (da_cons de_str (da_cons de_str (da_cons de_str (da_cons de_str (da_cons de_str (da_cons de_str (da_cons de_str (da_cons de_str da_nil))))))))))))
    (dss_cons (ds_set (ps_set (i := 2) sc__law_refusal.nd rfl (by first | exact Or.inl rfl | exact Or.inr rfl) (de_lst (da_cons (de_callB (cr_isX hX) (ok_isX isE) rfl m.bn.isinstance bo_isinstance (da_cons (de_var (pv 0)) (da_cons (de_fn (i := 0) rfl m.e_BadPart) da_nil))) (da_cons (de_callB (cr_isX hX) (ok_isX isE) rfl m.bn.isinstance bo_isinstance (da_cons (de_var (pv 0)) (da_cons (de_fn (i := 1) rfl m.e_BadNumber) da_nil))) (da_cons (de_callB (cr_isX hX) (ok_isX isE) rfl m.bn.isinstance bo_isinstance (da_cons (de_var (pv 0)) (da_cons (de_fn (i := 2) rfl m.e_Unknown) da_nil))) (da_cons (de_callB (cr_isX hX) (ok_isX isE) rfl m.bn.isinstance bo_isinstance (da_cons (de_var (pv 0)) (da_cons (de_fn (i := 3) rfl m.e_BadCourse) da_nil))) (da_cons (de_callB (cr_isX hX) (ok_isX isE) rfl m.bn.isinstance bo_isinstance (da_cons (de_var (pv 0)) (da_cons (de_fn (i := 4) rfl m.e_BadChange) da_nil))) (da_cons (de_callB (cr_isX hX) (ok_isX isE) rfl m.bn.isinstance bo_isinstance (da_cons (de_var (pv 0)) (da_cons (de_fn (i := 5) rfl m.e_BadText) da_nil))) (da_cons (de_callB (cr_isX hX) (ok_isX isE) rfl m.bn.isinstance bo_isinstance (da_cons (de_var (pv 0)) (da_cons (de_fn (i := 6) rfl m.e_BadLine) da_nil))) (da_cons (de_callB (cr_isX hX) (ok_isX isE) rfl m.bn.isinstance bo_isinstance (da_cons (de_var (pv 0)) (da_cons (de_fn (i := 7) rfl m.e_BadClaim) da_nil))) (da_cons (de_callB (cr_isX hX) (ok_isX isE) rfl m.bn.isinstance bo_isinstance (da_cons (de_var (pv 0)) (da_cons (de_fn (i := 8) rfl m.e_NothingDone) da_nil))) da_nil))))))))))))
    (dss_cons (ds_if (PW.pt (dw_or (dt_cmp (op_neH rfl hu) ok_ne (de_mthL rfl PySem.F.slot_list_count PySem.F.type_list_count (mt_cntB hu) ok_cntB (de_var (pv 2)) (da_cons de_bl da_nil)) de_int (by rfl)) (dw_or1 (dt_not (dt_val (de_callB (cr_isX hX) (ok_isX isE) rfl m.bn.isinstance bo_isinstance (da_cons (de_var (pv 0)) (da_cons (de_ty rfl m.nVE bo_ValueError) da_nil)))))))) (dss_one (ds_ret (de_tup (da_cons de_str da_nil)))) dss_nil)
    (dss_cons (ds_set (ps_set (i := 3) sc__law_refusal.nd rfl (by first | exact Or.inl rfl | exact Or.inr rfl) (de_ix rfl (de_var (pv 1)) (de_mthL rfl PySem.F.slot_list_index PySem.F.type_list_index (mt_idxB hu) ok_idxB (de_var (pv 2)) (da_cons de_bl da_nil)) (by intro _ _; with_unfolding_all rfl))))
    (dss_cons (ds_if (dt_cmp (op_eqH rfl hu) ok_eq (de_var (pv 3)) de_str (by rfl)) (dss_one (ds_ret (de_tup (da_cons (de_var (pv 3)) (da_cons (de_xf rfl hX (show 0 < 8 from by decide) rfl (ecX "part" (by decide)) (de_var (pv 0))) (da_cons (de_xf rfl hX (show 1 < 8 from by decide) rfl (ecX "place" (by decide)) (de_var (pv 0))) da_nil)))))) dss_nil)
    (dss_cons (ds_if (dt_cmp (op_eqH rfl hu) ok_eq (de_var (pv 3)) de_str (by rfl)) (dss_one (ds_ret (de_tup (da_cons (de_var (pv 3)) (da_cons (de_xf rfl hX (show 2 < 8 from by decide) rfl (ecX "value" (by decide)) (de_var (pv 0))) da_nil))))) dss_nil)
    (dss_cons (ds_if (dt_cmp (op_eqH rfl hu) ok_eq (de_var (pv 3)) de_str (by rfl)) (dss_one (ds_ret (de_tup (da_cons (de_var (pv 3)) (da_cons (de_xf rfl hX (show 3 < 8 from by decide) rfl (ecX "name" (by decide)) (de_var (pv 0))) da_nil))))) dss_nil)
    (dss_cons (ds_if (dt_cmp (op_inT rfl) (ok_in (neg := false)) (de_var (pv 3)) (de_tup (da_cons de_str (da_cons de_str da_nil))) (by rfl)) (dss_one (ds_ret (de_tup (da_cons (de_var (pv 3)) (da_cons (de_xf rfl hX (show 4 < 8 from by decide) rfl (ecX "line" (by decide)) (de_var (pv 0))) da_nil))))) dss_nil)
    (dss_cons (ds_if (dt_cmp (op_inT rfl) (ok_in (neg := false)) (de_var (pv 3)) (de_tup (da_cons de_str (da_cons de_str da_nil))) (by rfl)) (dss_one (ds_ret (de_tup (da_cons (de_var (pv 3)) da_nil)))) dss_nil)
    (dss_one (ds_ret (de_tup (da_cons (de_var (pv 3)) (da_cons (de_xf rfl hX (show 1 < 8 from by decide) rfl (ecX "place" (by decide)) (de_var (pv 0))) da_nil)))))))))))))))
def b__law_same : FS := (sRet (f2 gEq (fCall gRepr (fCons (fVar 0) fNil)) (fCall gRepr (fCons (fVar 1) fNil))))
def F__law_same : GF := runF 2 2 b__law_same
theorem sc__law_same : FnScope ["found", "due"] ["found", "due"] (defScope (top 47)) := ⟨rfl, rfl, rfl, by decide +kernel, rfl, by decide +kernel, by decide +kernel⟩
theorem ok__law_same (m : Mx K mg (tb K cA fA tP qn))  {f : Addr} {fd : FuncData} (F : Fun K "_law_same" "_law_same" (top 47) f fd) : FnG (tb K cA fA tP qn) P w K mg base 2 f fd ["found", "due"] F__law_same :=
  fn_G F sc__law_same (fun A outer s H E hg0 hr => by
    have hg : (A.deeper (envOfC "_law_same" (defScope (top 47)) s.heap.objs.size f fd.code)).guards = some [] := hg0
    have px : Passes (L2.CX P w) (cxOf (L2.CX P w) P w K mg base ["found", "due"] "_law_same" (defScope (top 47)) f fd.code A outer s H E) E := passes_call (takes_of rfl rfl rfl rfl) fun _ _ _ _ h => h
    exact (dss_one (ds_ret (de_cmp (op_eqT rfl hr) ok_eq (de_callB (cr_repr rfl hr hg) ok_repr rfl m.nRp bo_repr (da_cons (de_var (pv 0)) da_nil)) (de_callB (cr_repr rfl hr hg) ok_repr rfl m.nRp bo_repr (da_cons (de_var (pv 1)) da_nil)) (by rfl)))))
end
end KA

set_option Elab.async false
set_option linter.all false
set_option maxRecDepth 100000
set_option maxHeartbeats 4000000
namespace KA
open PySem PySem.Spec PyProof.Rows L2 DL
section
variable {P : Program} {w : World} {K : PySem.W.Frag} {mg : Str → Option Value} {base : Heap} {cA fA : Nat → Addr} {tP : Addr} {qn : Str}
def b_law : FS := (sCons (sAsg (fNew (fCons (fVar 0) (fCons (fC (.int 0)) (fCons (fC (.int 9014)) (fCons (fC (.int 0)) fNil))))) (pName 1))
    (sCons (sAsg (fCallF F__law_calendar (fCons (fVar 1) fNil)) (pName 2))
    (sCons (sAsg (fTup (fCons (fMake 0 F_Calendar___init__ (fCons (fVar 2) fNil)) (fCons (f2 gIx (fVar 2) (fC (.int 0))) (fCons (fCallF F__law_ahead (fCons (fVar 2) fNil)) (fCons (fCallF F__law_uneven (fCons (fVar 2) fNil)) fNil))))) (pTup 4 (pCons (pName 3) (pCons (pName 4) (pCons (pName 5) (pCons (pName 6) pNil))))))
    (sCons (sAsg (fTup (fCons (fCall gLen (fCons (fVar 4) fNil)) (fCons (fCall gSum (fCons (fVar 4) fNil)) fNil))) (pTup 2 (pCons (pName 7) (pCons (pName 8) pNil))))
    (sCons (sIf (fNotT (asB (fCallF (F__law_alike 6) (fCons (fTup (fCons (fFld 5 (fVar 3)) (fCons (fFld 6 (fVar 3)) (fCons (fFld 7 (fVar 3)) (fCons (fCallF F_unevenness (fCons (fVar 3) fNil)) (fCons (fCallF F_is_even (fCons (fVar 3) fNil)) fNil)))))) (fCons (f2 gAdd (f2 gAdd (fTup (fCons (fVar 2) fNil)) (fVar 2)) (fTup (fCons (fVar 6) (fCons (f2 gLe (fVar 6) (f2 gIx (fVar 2) (fC (.int 1)))) fNil)))) fNil))))) (sRet (fC (.bl false))) sNil)
    (sCons (sIf (fOrT (asB (f2 gNotB (fCallF F_is_calendar (fCons (fVar 3) fNil)) (fC (.bl true)))) (fOrT (asB (fCallF F_is_calendar (fCons (fVar 2) fNil))) (fOrT (asB (f2 (gEqO 0 F_Calendar___eq__) (fVar 3) (fVar 2))) (fNotT (asB (f2 (gEqO 0 F_Calendar___eq__) (fVar 3) (fMake 0 F_Calendar___init__ (fCons (fVar 2) fNil)))))))) (sRet (fC (.bl false))) sNil)
    (sCons (sIf (fNotT (asB (fCallF (F__law_alike 6) (fCons (fCall DL.gTup (fCons (fCallF F_worst_years (fCons (fVar 3) fNil)) fNil)) (fCons (fTup (fCons (fMthL gIndexL (fVar 5) (fCons (fCall gMin (fCons (fVar 5) fNil)) fNil)) (fCons (fMthL gIndexL (fVar 5) (fCons (fCall gMax (fCons (fVar 5) fNil)) fNil)) fNil))) fNil))))) (sRet (fC (.bl false))) sNil)
    (sCons (sAsg (fCallF F_evenest (fCons (fVar 7) (fCons (fVar 8) fNil))) (pName 9))
    (sCons (sIf (fOrT (fNotT (asB (fCall gIsi (fCons (fVar 9) (fCons (fC (.ty "tuple")) fNil))))) (asB (f2 gNe (fCall gLen (fCons (fVar 9) fNil)) (fVar 7)))) (sRet (fC (.bl false))) sNil)
    (sCons (sIf (fOrT (asB (f2 gNe (fLc [10] (iSeq (fVar 9)) (cName 10) (fNotT (asB (fCallF F__law_whole (fCons (fVar 10) (fCons (fC (.int 0)) (fCons (fC (.int 1)) fNil)))))) (fVar 10)) (fLst fNil))) (fOrT (asB (f2 gNe (fCall gSum (fCons (fVar 9) fNil)) (fVar 8))) (asB (f2 gNe (fCallF F__law_uneven (fCons (fTup (fCons (fVar 9) fNil)) fNil)) (fCallF F_least_uneven (fCons (fVar 3) fNil)))))) (sRet (fC (.bl false))) sNil)
    (sCons (sAsg (fLst (fCons (fTup fNil) fNil)) (pName 11))
    (sCons (sFor (iR1 (fCons (fIf (asB (f2 gLe (fVar 7) (fC (.int 9)))) (fVar 7) (fC (.int 0))) fNil)) (pName 12) (sAsg (f2 gAdd (fLc [10] (iSeq (fVar 11)) (cName 10) fYes (f2 gAdd (fVar 10) (fTup (fCons (fC (.int 0)) fNil)))) (fLc [10] (iSeq (fVar 11)) (cName 10) fYes (f2 gAdd (fVar 10) (fTup (fCons (fC (.int 1)) fNil))))) (pName 11)))
    (sCons (sIf (fAndT (asB (f2 gLe (fVar 7) (fC (.int 9)))) (asB (f2 gNe (fCall gMin (fCons (fLc [10] (iSeq (fVar 11)) (cName 10) (asB (f2 gEq (fCall gSum (fCons (fVar 10) fNil)) (fVar 8))) (fCallF F__law_uneven (fCons (fTup (fCons (fVar 10) fNil)) fNil))) fNil)) (fCallF F_least_uneven (fCons (fVar 3) fNil))))) (sRet (fC (.bl false))) sNil)
    (sCons (sFor (iR1 (fCons (fC (.int 12)) fNil)) (pName 13) (sCons (sAsg (fTup (fCons (f2 gAdd (fC (.int 1)) (fCallF F__law_taken (fCons (fVar 1) (fCons (fVar 7) fNil)))) (fCons (fCallF F__law_pick (fCons (fVar 1) (fCons (fLst (fCons (fCallF F__law_taken (fCons (fVar 1) (fCons (fC (.int 30)) fNil))) (fCons (fCallF F__law_taken (fCons (fVar 1) (fCons (fC (.int 10000)) fNil))) fNil))) fNil))) fNil))) (pTup 2 (pCons (pName 14) (pCons (pName 15) pNil))))
    (sCons (sAsg (f2 gSub (f2 gMul (fCall gSum (fCons (fLc [12] (iR1 (fCons (f2 gMod (fVar 15) (fVar 7)) fNil)) (cName 12) fYes (f2 gIx (fVar 4) (f2 gMod (f2 gAdd (f2 gSub (fVar 14) (fC (.int 1))) (fVar 12)) (fVar 7)))) fNil)) (fVar 7)) (f2 gMul (f2 gMod (fVar 15) (fVar 7)) (fVar 8))) (pName 16))
    (sCons (sIf (fNotT (asB (fCallF (F__law_alike 6) (fCons (fCallF F_excess_of (fCons (fVar 3) (fCons (fVar 14) (fCons (fVar 15) fNil)))) (fCons (fVar 16) fNil))))) (sRet (fC (.bl false))) sNil)
    (sCons (sAsg (fCallF F__law_pick (fCons (fVar 1) (fCons (fLst (fCons (fCall DL.gTup (fCons (fLc [10] (iSeq (fVar 5)) (cName 10) fYes (f2 gSub (fVar 10) (fCall gMin (fCons (fVar 5) fNil)))) fNil)) (fCons (fCall DL.gTup (fCons (fLc [10] (iSeq (fVar 5)) (cName 10) fYes (f2 gAdd (f2 gSub (fVar 10) (fCall gMin (fCons (fVar 5) fNil))) (fC (.int 3)))) fNil)) (fCons (fTup (fCons (fCallF F__law_taken (fCons (fVar 1) (fCons (f2 gAdd (fVar 7) (fC (.int 1))) fNil))) (fCons (fCallF F__law_taken (fCons (fVar 1) (fCons (f2 gAdd (fVar 7) (fC (.int 1))) fNil))) fNil))) (fCons (fTup (fCons (fC (.int 0)) (fCons (fVar 7) fNil))) fNil))))) fNil))) (pName 17))
    (sCons (sFor (iR1 (fCons (fCallF F__law_taken (fCons (fVar 1) (fCons (fC (.int 2)) fNil))) fNil)) (pName 12) (sAsg (fCallF (F__law_spoiled 3) (fCons (fVar 1) (fCons (fVar 17) fNil))) (pName 17)))
    (sCons (sPar3 18 19 20 (fCons (fCallF F__law_heighted (fCons (fVar 2) (fCons (fVar 17) fNil))) (fCons (fCallF F__law_apart (fCons (fVar 2) (fCons (fVar 17) fNil))) (fCons (fCallF F_calendar_paper (fCons (fVar 3) fNil)) fNil))))
    (sCons (sIf (fNotT (asB (fCallF (F__law_alike 6) (fCons (fTup (fCons (fCallF F_are_heights (fCons (fVar 3) (fCons (fVar 17) fNil))) (fCons (fCallF F_are_worst (fCons (fVar 3) (fCons (fVar 17) fNil))) fNil))) (fCons (fTup (fCons (f2 gGe (fVar 18) (fC (.int 0))) (fCons (f2 gGe (fVar 19) (fC (.int 0))) fNil))) fNil))))) (sRet (fC (.bl false))) sNil)
    (sCons (sAsg (fTup (fCons (f2 gEq (fVar 18) (fCallF F__law_apart (fCons (fVar 2) (fCons (f2 gIx (fVar 20) (fC (.int 1))) fNil)))) (fCons (f2 gEq (fVar 19) (fCallF F__law_heighted (fCons (fVar 2) (fCons (f2 gIx (fVar 20) (fC (.int 0))) fNil)))) fNil))) (pName 21))
    (sCons (sIf (fOrT (asB (f2 gNe (fCallF F__law_heighted (fCons (fVar 2) (fCons (f2 gIx (fVar 20) (fC (.int 0))) fNil))) (fVar 6))) (asB (f2 gNe (fCallF F__law_apart (fCons (fVar 2) (fCons (f2 gIx (fVar 20) (fC (.int 1))) fNil))) (fVar 6)))) (sRet (fC (.bl false))) sNil)
    (sIf (fNotT (asB (fCallF (F__law_alike 6) (fCons (fTup (fCons (fCallF F_is_calendar_paper (fCons (fVar 3) (fCons (fTup (fCons (fVar 17) (fCons (f2 gIx (fVar 20) (fC (.int 1))) fNil))) fNil))) (fCons (fCallF F_is_calendar_paper (fCons (fVar 3) (fCons (fTup (fCons (f2 gIx (fVar 20) (fC (.int 0))) (fCons (fVar 17) fNil))) fNil))) fNil))) (fCons (fVar 21) fNil))))) (sRet (fC (.bl false))) sNil)))))))))))
    (sCons (sAsg (fTup (fCons (fCallF F__law_pick (fCons (fVar 1) (fCons (fLst (fCons (fC (.int 0)) (fCons (f2 gAdd (fVar 7) (fC (.int 1))) (fCons (fC .non) (fCons (fC (.bl true)) (fCons (fC (.str "1")) fNil)))))) fNil))) (fCons (f2 gAdd (fC (.int 1)) (fCallF F__law_taken (fCons (fVar 1) (fCons (fVar 7) fNil)))) fNil))) (pTup 2 (pCons (pName 22) (pCons (pName 23) pNil))))
    (sCons (sAsg (fLst (fCons (fTold (fun f => fTup (fCons (fC (.str "told")) (fCons f fNil))) 2 inE F__law_refusal [] (fCallF F_excess_of (fCons (fVar 3) (fCons (fVar 22) (fCons (fNeg (fC (.int 1))) fNil))))) (fCons (fTold (fun f => fTup (fCons (fC (.str "told")) (fCons f fNil))) 2 inE F__law_refusal [] (fCallF F_excess_of (fCons (fVar 3) (fCons (fC (.int 1)) (fCons (fNeg (fC (.int 1))) fNil))))) (fCons (fTold (fun f => fTup (fCons (fC (.str "told")) (fCons f fNil))) 2 inE F__law_refusal [] (fCallF F_excess_of (fCons (fVar 3) (fCons (fC (.int 1)) (fCons (fC (.int 10000)) fNil))))) (fCons (fTold (fun f => fTup (fCons (fC (.str "told")) (fCons f fNil))) 2 inE F__law_refusal [] (fCallF F_evenest (fCons (fCallF F__law_pick (fCons (fVar 1) (fCons (fLst (fCons (fC (.int 0)) fNil)) fNil))) (fCons (fC (.int 41)) fNil)))) (fCons (fTold (fun f => fTup (fCons (fC (.str "told")) (fCons f fNil))) 2 inE F__law_refusal [] (fCallF F_evenest (fCons (fC (.int 41)) (fCons (fC (.int 0)) fNil)))) (fCons (fTold (fun f => fTup (fCons (fC (.str "told")) (fCons f fNil))) 2 inE F__law_refusal [] (fCallF F_evenest (fCons (fC (.int 5)) (fCons (fC (.int 6)) fNil)))) (fCons (fTold (fun f => fTup (fCons (fC (.str "told")) (fCons f fNil))) 2 inE F__law_refusal [] (fMeth 0 F_Calendar_with_year (fVar 3) (fCons (f2 gAdd (fVar 7) (fC (.int 1))) (fCons (fC (.int 0)) fNil)))) (fCons (fTold (fun f => fTup (fCons (fC (.str "told")) (fCons f fNil))) 2 inE F__law_refusal [] (fMeth 0 F_Calendar_with_year (fVar 3) (fCons (fVar 23) (fCons (fC (.int 2)) fNil)))) (fCons (fTold (fun f => fTup (fCons (fC (.str "told")) (fCons f fNil))) 2 inE F__law_refusal [] (fMeth 0 F_Calendar_with_part (fVar 3) (fCons (fC (.str "years")) (fCons (f2 gAdd (fSl (fVar 4) oNone (oSome (fVar 23))) (fTup (fCons (fC (.int 2)) fNil))) fNil)))) (fCons (fTold (fun f => fTup (fCons (fC (.str "told")) (fCons f fNil))) 2 inE F__law_refusal [] (fMeth 0 F_Calendar_with_part (fVar 3) (fCons (fC (.str "uneven")) (fCons (fC (.int 1601)) fNil)))) (fCons (fTold (fun f => fTup (fCons (fC (.str "told")) (fCons f fNil))) 2 inE F__law_refusal [12] (fMeth 0 F_Calendar_with_part (fVar 3) (fCons (fC (.str "calendar")) (fCons (fC (.int 1)) fNil)))) (fCons (fTold (fun f => fTup (fCons (fC (.str "told")) (fCons f fNil))) 2 inE F__law_refusal [] (fMake 0 F_Calendar___init__ (fCons (fVar 4) fNil))) fNil))))))))))))) (pName 16))
    (sCons (sAsg (fLst (fCons (fTup (fCons (fC (.str "BadNumber")) (fCons (fVar 22) fNil))) (fCons (fTup (fCons (fC (.str "BadNumber")) (fCons (fNeg (fC (.int 1))) fNil))) (fCons (fTup (fCons (fC (.str "BadNumber")) (fCons (fC (.int 10000)) fNil))) (fCons (fTup (fCons (fC (.str "BadNumber")) (fCons (fC (.int 0)) fNil))) (fCons (fTup (fCons (fC (.str "BadNumber")) (fCons (fC (.int 41)) fNil))) fNil)))))) (pName 21))
    (sCons (sAsg (f2 gAdd (fVar 21) (fLst (fCons (fTup (fCons (fC (.str "BadNumber")) (fCons (fC (.int 6)) fNil))) (fCons (fTup (fCons (fC (.str "Unknown")) (fCons (f2 gAdd (fVar 7) (fC (.int 1))) fNil))) (fCons (fTup (fCons (fC (.str "BadPart")) (fCons (fC (.str "years")) (fCons (f2 gSub (fVar 23) (fC (.int 1))) fNil)))) (fCons (fTup (fCons (fC (.str "BadPart")) (fCons (fC (.str "years")) (fCons (fVar 23) fNil)))) fNil)))))) (pName 21))
    (sCons (sAsg (f2 gAdd (fVar 21) (fLst (fCons (fTup (fCons (fC (.str "BadPart")) (fCons (fC (.str "uneven")) (fCons (fC .non) fNil)))) (fCons (fTup (fCons (fC (.str "BadPart")) (fCons (fC (.str "calendar")) (fCons (fC .non) fNil)))) (fCons (fTup (fCons (fC (.str "BadPart")) (fCons (fC (.str "calendar")) (fCons (fC .non) fNil)))) fNil))))) (pName 21))
    (sCons (sIf (fOrT (fNotT (asB (fCallF F__law_same (fCons (fSl (fVar 16) oNone (oSome (fC (.int 11)))) (fCons (fSl (fVar 21) oNone (oSome (fC (.int 11)))) fNil))))) (fOrT (fAndT (asB (f2 gNe (fVar 7) (fC (.int 2)))) (fNotT (asB (fCallF F__law_same (fCons (f2 gIx (fVar 16) (fC (.int 11))) (fCons (f2 gIx (fVar 21) (fC (.int 11))) fNil)))))) (asB (fCallF F_is_calendar_paper (fCons (fVar 3) (fCons (fVar 22) fNil)))))) (sRet (fC (.bl false))) sNil)
    (sCons (sIf (fNotT (asB (f2 (gEqO 0 F_Calendar___eq__) (fMeth 0 F_Calendar_with_year (fVar 3) (fCons (fVar 23) (fCons (f2 gSub (fC (.int 1)) (f2 gIx (fVar 4) (f2 gSub (fVar 23) (fC (.int 1))))) fNil))) (fMake 0 F_Calendar___init__ (fCons (fTup (fCons (fCallF F__law_at (fCons (fVar 4) (fCons (fVar 23) (fCons (f2 gSub (fC (.int 1)) (f2 gIx (fVar 4) (f2 gSub (fVar 23) (fC (.int 1))))) fNil)))) (fCons (f2 gIx (fVar 2) (fC (.int 1))) fNil))) fNil))))) (sRet (fC (.bl false))) sNil)
    (sRet (fCallF F__law_same (fCons (fTold (fun f => fTup (fCons (fC (.str "told")) (fCons f fNil))) 2 inE F__law_refusal [] (fMeth 0 F_Calendar_with_part (fVar 3) (fCons (fC (.str "years")) (fCons (fTup fNil) fNil)))) (fCons (fTup (fCons (fC (.str "BadPart")) (fCons (fC (.str "years")) (fCons (fC .non) fNil)))) fNil)))))))))))))))))))))))))
def F_law : GF := runF 1 24 b_law
theorem sc_law : FnScope ["script", "row", "told", "calendar", "years", "ahead", "uneven", "many", "leaps", "even", "one", "rounds", "k", "turn", "first", "span", "found", "value", "top", "wide", "paper", "due", "odd", "at"] ["script"] (defScope (top 58)) := ⟨rfl, rfl, rfl, by decide +kernel, rfl, by decide +kernel, by decide +kernel⟩
theorem ok_law (m : Mx K mg (tb K cA fA tP qlaw)) (fr_refusal : DefR (tb K cA fA tP qlaw) P w K mg base "_law_refusal" 11 inE F__law_refusal) {gT : Addr} {fdT : FuncData} (TD : mg "_law_told" = some (.ref gT) ∧ Fun K "_law_told" "_law_told" (top 49) gT fdT ∧ Binds K fdT ["call"] []) (m_Calendar_with_part : MethD (tb K cA fA tP qlaw) P w K mg base 0 "with_part" 10 F_Calendar_with_part) (g__law_same : DefG (tb K cA fA tP qlaw) P w K mg base "_law_same" 2 F__law_same) (m_Calendar_with_year : MethD (tb K cA fA tP qlaw) P w K mg base 0 "with_year" 11 F_Calendar_with_year) (mk_Calendar : MakeD (tb K cA fA tP qlaw) P w K mg base "Calendar" 0 8 F_Calendar___init__) (f__law_at : DefD (tb K cA fA tP qlaw) P w K mg base "_law_at" 2 F__law_at) (eq_Calendar : EqD (tb K cA fA tP qlaw) P w K mg base 0 2 F_Calendar___eq__) (f_is_calendar_paper : DefD (tb K cA fA tP qlaw) P w K mg base "is_calendar_paper" 5 F_is_calendar_paper) (f_evenest : DefD (tb K cA fA tP qlaw) P w K mg base "evenest" 4 F_evenest) (f__law_pick : DefD (tb K cA fA tP qlaw) P w K mg base "_law_pick" 3 F__law_pick) (f_excess_of : DefD (tb K cA fA tP qlaw) P w K mg base "excess_of" 4 F_excess_of) (f__law_taken : DefD (tb K cA fA tP qlaw) P w K mg base "_law_taken" 2 F__law_taken) (f__law_alike : DefD (tb K cA fA tP qlaw) P w K mg base "_law_alike" 8 (F__law_alike 6)) (f__law_heighted : DefD (tb K cA fA tP qlaw) P w K mg base "_law_heighted" 3 F__law_heighted) (f__law_apart : DefD (tb K cA fA tP qlaw) P w K mg base "_law_apart" 3 F__law_apart) (f_are_worst : DefD (tb K cA fA tP qlaw) P w K mg base "are_worst" 4 F_are_worst) (f_are_heights : DefD (tb K cA fA tP qlaw) P w K mg base "are_heights" 4 F_are_heights) (f_calendar_paper : DefD (tb K cA fA tP qlaw) P w K mg base "calendar_paper" 4 F_calendar_paper) (f__law_spoiled : DefD (tb K cA fA tP qlaw) P w K mg base "_law_spoiled" 7 (F__law_spoiled 3)) (f__law_uneven : DefD (tb K cA fA tP qlaw) P w K mg base "_law_uneven" 3 F__law_uneven) (f_least_uneven : DefD (tb K cA fA tP qlaw) P w K mg base "least_uneven" 3 F_least_uneven) (f__law_whole : DefD (tb K cA fA tP qlaw) P w K mg base "_law_whole" 2 F__law_whole) (f_worst_years : DefD (tb K cA fA tP qlaw) P w K mg base "worst_years" 3 F_worst_years) (f_is_calendar : DefD (tb K cA fA tP qlaw) P w K mg base "is_calendar" 2 F_is_calendar) (f_is_even : DefD (tb K cA fA tP qlaw) P w K mg base "is_even" 4 F_is_even) (f_unevenness : DefD (tb K cA fA tP qlaw) P w K mg base "unevenness" 3 F_unevenness) (f__law_ahead : DefD (tb K cA fA tP qlaw) P w K mg base "_law_ahead" 2 F__law_ahead) (f__law_calendar : DefD (tb K cA fA tP qlaw) P w K mg base "_law_calendar" 4 F__law_calendar) {f : Addr} {fd : FuncData} (F : Fun K "law" "law" (top 58) f fd) {cc : Addr} (hcode : fd.code = .ref cc) (TB : LamX.TabB base mg cc tP) : FnG (tb K cA fA tP qlaw) P w K mg base 14 f fd ["script"] F_law :=
  fn_G F sc_law (fun A outer s H E hg0 hr => by
    have hg : (A.deeper (envOfC "law" (defScope (top 58)) s.heap.objs.size f fd.code)).guards = some [] := hg0
    have px : Passes (L2.CX P w) (cxOf (L2.CX P w) P w K mg base ["script", "row", "told", "calendar", "years", "ahead", "uneven", "many", "leaps", "even", "one", "rounds", "k", "turn", "first", "span", "found", "value", "top", "wide", "paper", "due", "odd", "at"] "law" (defScope (top 58)) f fd.code A outer s H E) E := passes_call (takes_of rfl rfl rfl rfl) fun _ _ _ _ h => h
    exact (dss_cons (ds_set (ps_set (i := 1) sc_law.nd rfl (by first | exact Or.inl rfl | exact Or.inr rfl) (de_new (da_cons (de_var (pv 0)) (da_cons de_int (da_cons de_int (da_cons de_int da_nil)))))))
    (dss_cons (ds_set (ps_set (i := 2) sc_law.nd rfl (by first | exact Or.inl rfl | exact Or.inr rfl) (de_call f__law_calendar (hr.mono (by decide)) px rfl (da_cons (de_var (pv 1)) da_nil))))
    (dss_cons (ds_asg (de_tup (da_cons (de_make mk_Calendar (hr.mono (by decide)) px rfl (da_cons (de_var (pv 2)) da_nil)) (da_cons (de_ix rfl (de_var (pv 2)) de_int (by intro _ _; with_unfolding_all rfl)) (da_cons (de_call f__law_ahead (hr.mono (by decide)) px rfl (da_cons (de_var (pv 2)) da_nil)) (da_cons (de_call f__law_uneven (hr.mono (by decide)) px rfl (da_cons (de_var (pv 2)) da_nil)) da_nil))))) (dg_tup rfl rfl (dgs_cons (dg_name (pg_name (i := 3) sc_law.nd rfl (by first | exact Or.inl rfl | exact Or.inr rfl))) (dgs_cons (dg_name (pg_name (i := 4) sc_law.nd rfl (by first | exact Or.inl rfl | exact Or.inr rfl))) (dgs_cons (dg_name (pg_name (i := 5) sc_law.nd rfl (by first | exact Or.inl rfl | exact Or.inr rfl))) (dgs_cons (dg_name (pg_name (i := 6) sc_law.nd rfl (by first | exact Or.inl rfl | exact Or.inr rfl))) dgs_nil))))))
    (dss_cons (ds_asg (de_tup (da_cons (de_callB call_len ok_len rfl m.bn.len bo_len (da_cons (de_var (pv 4)) da_nil)) (da_cons (de_callB (cr_sumD rfl) ok_sum rfl m.bn.sum bo_sum (da_cons (de_var (pv 4)) da_nil)) da_nil))) (dg_tup rfl rfl (dgs_cons (dg_name (pg_name (i := 7) sc_law.nd rfl (by first | exact Or.inl rfl | exact Or.inr rfl))) (dgs_cons (dg_name (pg_name (i := 8) sc_law.nd rfl (by first | exact Or.inl rfl | exact Or.inr rfl))) dgs_nil))))
    (dss_cons (ds_if (dt_not (dt_val (de_call f__law_alike (hr.mono (by decide)) px rfl (da_cons (de_tup (da_cons (de_fld m.cf rfl rfl (de_var (pv 3))) (da_cons (de_fld m.cf rfl rfl (de_var (pv 3))) (da_cons (de_fld m.cf rfl rfl (de_var (pv 3))) (da_cons (de_call f_unevenness (hr.mono (by decide)) px rfl (da_cons (de_var (pv 3)) da_nil)) (da_cons (de_call f_is_even (hr.mono (by decide)) px rfl (da_cons (de_var (pv 3)) da_nil)) da_nil)))))) (da_cons (de_add rfl (de_add rfl (de_tup (da_cons (de_var (pv 2)) da_nil)) (de_var (pv 2))) (de_tup (da_cons (de_var (pv 6)) (da_cons (de_cmp op_le ok_le (de_var (pv 6)) (de_ix rfl (de_var (pv 2)) de_int (by intro _ _; with_unfolding_all rfl)) (by rfl)) da_nil)))) da_nil))))) (dss_one (ds_ret de_bl)) dss_nil)
    (dss_cons (ds_if (PW.pt (dw_or (dt_cmp op_notBl ok_notB (de_call f_is_calendar (hr.mono (by decide)) px rfl (da_cons (de_var (pv 3)) da_nil)) de_bl (by rfl)) (dw_or (dt_val (de_call f_is_calendar (hr.mono (by decide)) px rfl (da_cons (de_var (pv 2)) da_nil))) (dw_or (dt_cmp (op_eqO rfl eq_Calendar (hr.mono (by decide)) px) ok_eqO (de_var (pv 3)) (de_var (pv 2)) (by rfl)) (dw_or1 (dt_not (dt_cmp (op_eqO rfl eq_Calendar (hr.mono (by decide)) px) ok_eqO (de_var (pv 3)) (de_make mk_Calendar (hr.mono (by decide)) px rfl (da_cons (de_var (pv 2)) da_nil)) (by rfl)))))))) (dss_one (ds_ret de_bl)) dss_nil)
    (dss_cons (ds_if (dt_not (dt_val (de_call f__law_alike (hr.mono (by decide)) px rfl (da_cons (de_callTy cr_tupX ok_tup rfl m.bn.tuple bo_tuple (da_cons (de_call f_worst_years (hr.mono (by decide)) px rfl (da_cons (de_var (pv 3)) da_nil)) da_nil)) (da_cons (de_tup (da_cons (de_mthL rfl PySem.F.slot_list_index PySem.F.type_list_index mt_idxL ok_idxL (de_var (pv 5)) (da_cons (de_callB (cr_minD' rfl hr) ok_min rfl m.bn.min bo_min (da_cons (de_var (pv 5)) da_nil)) da_nil)) (da_cons (de_mthL rfl PySem.F.slot_list_index PySem.F.type_list_index mt_idxL ok_idxL (de_var (pv 5)) (da_cons (de_callB (cr_maxD' rfl hr) ok_max rfl m.bn.max bo_max (da_cons (de_var (pv 5)) da_nil)) da_nil)) da_nil))) da_nil))))) (dss_one (ds_ret de_bl)) dss_nil)
    (dss_cons (ds_set (ps_set (i := 9) sc_law.nd rfl (by first | exact Or.inl rfl | exact Or.inr rfl) (de_call f_evenest (hr.mono (by decide)) px rfl (da_cons (de_var (pv 7)) (da_cons (de_var (pv 8)) da_nil)))))
    (dss_cons (ds_if (PW.pt (dw_or (dt_not (dt_val (de_callB cr_isiD (ok_isi m.cf) rfl m.bn.isinstance bo_isinstance (da_cons (de_var (pv 9)) (da_cons (de_ty rfl m.bn.tuple bo_tuple) da_nil))))) (dw_or1 (dt_cmp (op_neT rfl hr) ok_ne (de_callB call_len ok_len rfl m.bn.len bo_len (da_cons (de_var (pv 9)) da_nil)) (de_var (pv 7)) (by rfl))))) (dss_one (ds_ret de_bl)) dss_nil)
    (dss_cons (ds_if (PW.pt (dw_or (dt_cmp (op_neT rfl hr) ok_ne (de_lc (own := [("one", 10)]) (g := (gName 10)) rfl sc_law.nd (di_seq rfl (de_var (pv 9))) (blkOk_by (N := ["script", "row", "told", "calendar", "years", "ahead", "uneven", "many", "leaps", "even", "one", "rounds", "k", "turn", "first", "span", "found", "value", "top", "wide", "paper", "due", "odd", "at"]) (sc := defScope (top 58)) (by decide +kernel)) (gok_name (by decide)) tt_of (fun _ _ _ _ _ => (pg_name (i := 10) sc_law.nd rfl (Or.inl rfl))) (fun _ _ _ _ _ => pts_one (dt_not (dt_val (de_call f__law_whole (hr.mono (by decide)) passL rfl (da_cons (de_var (pv 10)) (da_cons de_int (da_cons de_int da_nil))))))) (fun _ _ _ _ _ => (de_var (pv 10)))) (de_lst da_nil) (by rfl)) (dw_or (dt_cmp (op_neT rfl hr) ok_ne (de_callB (cr_sumD rfl) ok_sum rfl m.bn.sum bo_sum (da_cons (de_var (pv 9)) da_nil)) (de_var (pv 8)) (by rfl)) (dw_or1 (dt_cmp (op_neT rfl hr) ok_ne (de_call f__law_uneven (hr.mono (by decide)) px rfl (da_cons (de_tup (da_cons (de_var (pv 9)) da_nil)) da_nil)) (de_call f_least_uneven (hr.mono (by decide)) px rfl (da_cons (de_var (pv 3)) da_nil)) (by rfl)))))) (dss_one (ds_ret de_bl)) dss_nil)
    (dss_cons (ds_set (ps_set (i := 11) sc_law.nd rfl (by first | exact Or.inl rfl | exact Or.inr rfl) (de_lst (da_cons (de_tup da_nil) da_nil))))
    (dss_cons (ds_for (passes_of rfl) rfl (di_r1 rfl m.bn.range (da_cons (de_if (dt_cmp op_le ok_le (de_var (pv 7)) de_int (by rfl)) (de_var (pv 7)) de_int) da_nil)) (dg_name (pg_name (i := 12) sc_law.nd rfl (by first | exact Or.inl rfl | exact Or.inr rfl))) (dss_one (ds_set (ps_set (i := 11) sc_law.nd rfl (by first | exact Or.inl rfl | exact Or.inr rfl) (de_add rfl (de_lc (own := [("one", 10)]) (g := (gName 10)) rfl sc_law.nd (di_seq rfl (de_var (pv 11))) (blkOk_by (N := ["script", "row", "told", "calendar", "years", "ahead", "uneven", "many", "leaps", "even", "one", "rounds", "k", "turn", "first", "span", "found", "value", "top", "wide", "paper", "due", "odd", "at"]) (sc := defScope (top 58)) (by decide +kernel)) (gok_name (by decide)) tt_yes (fun _ _ _ _ _ => (pg_name (i := 10) sc_law.nd rfl (Or.inl rfl))) (fun _ _ _ _ _ => pts_nil) (fun _ _ _ _ _ => (de_add rfl (de_var (pv 10)) (de_tup (da_cons de_int da_nil))))) (de_lc (own := [("one", 10)]) (g := (gName 10)) rfl sc_law.nd (di_seq rfl (de_var (pv 11))) (blkOk_by (N := ["script", "row", "told", "calendar", "years", "ahead", "uneven", "many", "leaps", "even", "one", "rounds", "k", "turn", "first", "span", "found", "value", "top", "wide", "paper", "due", "odd", "at"]) (sc := defScope (top 58)) (by decide +kernel)) (gok_name (by decide)) tt_yes (fun _ _ _ _ _ => (pg_name (i := 10) sc_law.nd rfl (Or.inl rfl))) (fun _ _ _ _ _ => pts_nil) (fun _ _ _ _ _ => (de_add rfl (de_var (pv 10)) (de_tup (da_cons de_int da_nil))))))))))
    (dss_cons (ds_if (PW.pt (dw_and (dt_cmp op_le ok_le (de_var (pv 7)) de_int (by rfl)) (dw_and1 (dt_cmp (op_neT rfl hr) ok_ne (de_callB (cr_minD' rfl hr) ok_min rfl m.bn.min bo_min (da_cons (de_lc (own := [("one", 10)]) (g := (gName 10)) rfl sc_law.nd (di_seq rfl (de_var (pv 11))) (blkOk_by (N := ["script", "row", "told", "calendar", "years", "ahead", "uneven", "many", "leaps", "even", "one", "rounds", "k", "turn", "first", "span", "found", "value", "top", "wide", "paper", "due", "odd", "at"]) (sc := defScope (top 58)) (by decide +kernel)) (gok_name (by decide)) tt_of (fun _ _ _ _ _ => (pg_name (i := 10) sc_law.nd rfl (Or.inl rfl))) (fun _ _ _ _ _ => pts_one (dt_cmp (op_eqT rfl hr) ok_eq (de_callB (cr_sumD rfl) ok_sum rfl m.bn.sum bo_sum (da_cons (de_var (pv 10)) da_nil)) (de_var (pv 8)) (by rfl))) (fun _ _ _ _ _ => (de_call f__law_uneven (hr.mono (by decide)) passL rfl (da_cons (de_tup (da_cons (de_var (pv 10)) da_nil)) da_nil)))) da_nil)) (de_call f_least_uneven (hr.mono (by decide)) px rfl (da_cons (de_var (pv 3)) da_nil)) (by rfl))))) (dss_one (ds_ret de_bl)) dss_nil)
    (dss_cons (ds_for (passes_of rfl) rfl (di_r1 rfl m.bn.range (da_cons de_int da_nil)) (dg_name (pg_name (i := 13) sc_law.nd rfl (by first | exact Or.inl rfl | exact Or.inr rfl))) (dss_cons (ds_asg (de_tup (da_cons (de_add rfl de_int (de_call f__law_taken (hr.mono (by decide)) px rfl (da_cons (de_var (pv 1)) (da_cons (de_var (pv 7)) da_nil)))) (da_cons (de_call f__law_pick (hr.mono (by decide)) px rfl (da_cons (de_var (pv 1)) (da_cons (de_lst (da_cons (de_call f__law_taken (hr.mono (by decide)) px rfl (da_cons (de_var (pv 1)) (da_cons de_int da_nil))) (da_cons (de_call f__law_taken (hr.mono (by decide)) px rfl (da_cons (de_var (pv 1)) (da_cons de_int da_nil))) da_nil))) da_nil))) da_nil))) (dg_tup rfl rfl (dgs_cons (dg_name (pg_name (i := 14) sc_law.nd rfl (by first | exact Or.inl rfl | exact Or.inr rfl))) (dgs_cons (dg_name (pg_name (i := 15) sc_law.nd rfl (by first | exact Or.inl rfl | exact Or.inr rfl))) dgs_nil))))
    (dss_cons (ds_set (ps_set (i := 16) sc_law.nd rfl (by first | exact Or.inl rfl | exact Or.inr rfl) (de_sub (de_mul rfl (de_callB (cr_sumD rfl) ok_sum rfl m.bn.sum bo_sum (da_cons (de_lc (own := [("k", 12)]) (g := (gName 12)) rfl sc_law.nd (di_r1 rfl m.bn.range (da_cons (de_mod (de_var (pv 15)) (de_var (pv 7))) da_nil)) (blkOk_by (N := ["script", "row", "told", "calendar", "years", "ahead", "uneven", "many", "leaps", "even", "one", "rounds", "k", "turn", "first", "span", "found", "value", "top", "wide", "paper", "due", "odd", "at"]) (sc := defScope (top 58)) (by decide +kernel)) (gok_name (by decide)) tt_yes (fun _ _ _ _ _ => (pg_name (i := 12) sc_law.nd rfl (Or.inl rfl))) (fun _ _ _ _ _ => pts_nil) (fun _ _ _ _ _ => (de_ix rfl (de_var (pv 4)) (de_mod (de_add rfl (de_sub (de_var (pv 14)) de_int) (de_var (pv 12))) (de_var (pv 7))) (by intro _ _; with_unfolding_all rfl)))) da_nil)) (de_var (pv 7))) (de_mul rfl (de_mod (de_var (pv 15)) (de_var (pv 7))) (de_var (pv 8))))))
    (dss_cons (ds_if (dt_not (dt_val (de_call f__law_alike (hr.mono (by decide)) px rfl (da_cons (de_call f_excess_of (hr.mono (by decide)) px rfl (da_cons (de_var (pv 3)) (da_cons (de_var (pv 14)) (da_cons (de_var (pv 15)) da_nil)))) (da_cons (de_var (pv 16)) da_nil))))) (dss_one (ds_ret de_bl)) dss_nil)
    (dss_cons (ds_set (ps_set (i := 17) sc_law.nd rfl (by first | exact Or.inl rfl | exact Or.inr rfl) (de_call f__law_pick (hr.mono (by decide)) px rfl (da_cons (de_var (pv 1)) (da_cons (de_lst (da_cons (de_callTy cr_tupX ok_tup rfl m.bn.tuple bo_tuple (da_cons (de_lc (own := [("one", 10)]) (g := (gName 10)) rfl sc_law.nd (di_seq rfl (de_var (pv 5))) (blkOk_by (N := ["script", "row", "told", "calendar", "years", "ahead", "uneven", "many", "leaps", "even", "one", "rounds", "k", "turn", "first", "span", "found", "value", "top", "wide", "paper", "due", "odd", "at"]) (sc := defScope (top 58)) (by decide +kernel)) (gok_name (by decide)) tt_yes (fun _ _ _ _ _ => (pg_name (i := 10) sc_law.nd rfl (Or.inl rfl))) (fun _ _ _ _ _ => pts_nil) (fun _ _ _ _ _ => (de_sub (de_var (pv 10)) (de_callB (cr_minD' rfl hr) ok_min rfl m.bn.min bo_min (da_cons (de_var (pv 5)) da_nil))))) da_nil)) (da_cons (de_callTy cr_tupX ok_tup rfl m.bn.tuple bo_tuple (da_cons (de_lc (own := [("one", 10)]) (g := (gName 10)) rfl sc_law.nd (di_seq rfl (de_var (pv 5))) (blkOk_by (N := ["script", "row", "told", "calendar", "years", "ahead", "uneven", "many", "leaps", "even", "one", "rounds", "k", "turn", "first", "span", "found", "value", "top", "wide", "paper", "due", "odd", "at"]) (sc := defScope (top 58)) (by decide +kernel)) (gok_name (by decide)) tt_yes (fun _ _ _ _ _ => (pg_name (i := 10) sc_law.nd rfl (Or.inl rfl))) (fun _ _ _ _ _ => pts_nil) (fun _ _ _ _ _ => (de_add rfl (de_sub (de_var (pv 10)) (de_callB (cr_minD' rfl hr) ok_min rfl m.bn.min bo_min (da_cons (de_var (pv 5)) da_nil))) de_int))) da_nil)) (da_cons (de_tup (da_cons (de_call f__law_taken (hr.mono (by decide)) px rfl (da_cons (de_var (pv 1)) (da_cons (de_add rfl (de_var (pv 7)) de_int) da_nil))) (da_cons (de_call f__law_taken (hr.mono (by decide)) px rfl (da_cons (de_var (pv 1)) (da_cons (de_add rfl (de_var (pv 7)) de_int) da_nil))) da_nil))) (da_cons (de_tup (da_cons de_int (da_cons (de_var (pv 7)) da_nil))) da_nil))))) da_nil)))))
    (dss_cons (ds_for (passes_of rfl) rfl (di_r1 rfl m.bn.range (da_cons (de_call f__law_taken (hr.mono (by decide)) px rfl (da_cons (de_var (pv 1)) (da_cons de_int da_nil))) da_nil)) (dg_name (pg_name (i := 12) sc_law.nd rfl (by first | exact Or.inl rfl | exact Or.inr rfl))) (dss_one (ds_set (ps_set (i := 17) sc_law.nd rfl (by first | exact Or.inl rfl | exact Or.inr rfl) (de_call f__law_spoiled (hr.mono (by decide)) px rfl (da_cons (de_var (pv 1)) (da_cons (de_var (pv 17)) da_nil)))))))
    (dss_cons (ds_par3 (ps_par3 rfl sc_law.nd rfl rfl rfl (by decide) (by decide) (by decide) rfl rfl rfl (da_cons (de_call f__law_heighted (hr.mono (by decide)) px rfl (da_cons (de_var (pv 2)) (da_cons (de_var (pv 17)) da_nil))) (da_cons (de_call f__law_apart (hr.mono (by decide)) px rfl (da_cons (de_var (pv 2)) (da_cons (de_var (pv 17)) da_nil))) (da_cons (de_call f_calendar_paper (hr.mono (by decide)) px rfl (da_cons (de_var (pv 3)) da_nil)) da_nil))) (by with_unfolding_all rfl)))
    (dss_cons (ds_if (dt_not (dt_val (de_call f__law_alike (hr.mono (by decide)) px rfl (da_cons (de_tup (da_cons (de_call f_are_heights (hr.mono (by decide)) px rfl (da_cons (de_var (pv 3)) (da_cons (de_var (pv 17)) da_nil))) (da_cons (de_call f_are_worst (hr.mono (by decide)) px rfl (da_cons (de_var (pv 3)) (da_cons (de_var (pv 17)) da_nil))) da_nil))) (da_cons (de_tup (da_cons (de_cmp op_ge ok_ge (de_var (pv 18)) de_int (by rfl)) (da_cons (de_cmp op_ge ok_ge (de_var (pv 19)) de_int (by rfl)) da_nil))) da_nil))))) (dss_one (ds_ret de_bl)) dss_nil)
    (dss_cons (ds_set (ps_set (i := 21) sc_law.nd rfl (by first | exact Or.inl rfl | exact Or.inr rfl) (de_tup (da_cons (de_cmp (op_eqT rfl hr) ok_eq (de_var (pv 18)) (de_call f__law_apart (hr.mono (by decide)) px rfl (da_cons (de_var (pv 2)) (da_cons (de_ix rfl (de_var (pv 20)) de_int (by intro _ _; with_unfolding_all rfl)) da_nil))) (by rfl)) (da_cons (de_cmp (op_eqT rfl hr) ok_eq (de_var (pv 19)) (de_call f__law_heighted (hr.mono (by decide)) px rfl (da_cons (de_var (pv 2)) (da_cons (de_ix rfl (de_var (pv 20)) de_int (by intro _ _; with_unfolding_all rfl)) da_nil))) (by rfl)) da_nil)))))
    (dss_cons (ds_if (PW.pt (dw_or (dt_cmp (op_neT rfl hr) ok_ne (de_call f__law_heighted (hr.mono (by decide)) px rfl (da_cons (de_var (pv 2)) (da_cons (de_ix rfl (de_var (pv 20)) de_int (by intro _ _; with_unfolding_all rfl)) da_nil))) (de_var (pv 6)) (by rfl)) (dw_or1 (dt_cmp (op_neT rfl hr) ok_ne (de_call f__law_apart (hr.mono (by decide)) px rfl (da_cons (de_var (pv 2)) (da_cons (de_ix rfl (de_var (pv 20)) de_int (by intro _ _; with_unfolding_all rfl)) da_nil))) (de_var (pv 6)) (by rfl))))) (dss_one (ds_ret de_bl)) dss_nil)
    (dss_one (ds_if (dt_not (dt_val (de_call f__law_alike (hr.mono (by decide)) px rfl (da_cons (de_tup (da_cons (de_call f_is_calendar_paper (hr.mono (by decide)) px rfl (da_cons (de_var (pv 3)) (da_cons (de_tup (da_cons (de_var (pv 17)) (da_cons (de_ix rfl (de_var (pv 20)) de_int (by intro _ _; with_unfolding_all rfl)) da_nil))) da_nil))) (da_cons (de_call f_is_calendar_paper (hr.mono (by decide)) px rfl (da_cons (de_var (pv 3)) (da_cons (de_tup (da_cons (de_ix rfl (de_var (pv 20)) de_int (by intro _ _; with_unfolding_all rfl)) (da_cons (de_var (pv 17)) da_nil))) da_nil))) da_nil))) (da_cons (de_var (pv 21)) da_nil))))) (dss_one (ds_ret de_bl)) dss_nil))))))))))))
    (dss_cons (ds_asg (de_tup (da_cons (de_call f__law_pick (hr.mono (by decide)) px rfl (da_cons (de_var (pv 1)) (da_cons (de_lst (da_cons de_int (da_cons (de_add rfl (de_var (pv 7)) de_int) (da_cons de_non (da_cons de_bl (da_cons de_str da_nil)))))) da_nil))) (da_cons (de_add rfl de_int (de_call f__law_taken (hr.mono (by decide)) px rfl (da_cons (de_var (pv 1)) (da_cons (de_var (pv 7)) da_nil)))) da_nil))) (dg_tup rfl rfl (dgs_cons (dg_name (pg_name (i := 22) sc_law.nd rfl (by first | exact Or.inl rfl | exact Or.inr rfl))) (dgs_cons (dg_name (pg_name (i := 23) sc_law.nd rfl (by first | exact Or.inl rfl | exact Or.inr rfl))) dgs_nil))))
    (dss_cons (ds_set (ps_set (i := 16) sc_law.nd rfl (by first | exact Or.inl rfl | exact Or.inr rfl) (de_lst (da_cons (de_lamtold (own := []) (wr := (fun f => fTup (fCons (fC (.str "told")) (fCons f fNil)))) (Ng := ["call", "e"]) (i := 1) (k := 11) rfl TD.1 TD.2.1 TD.2.2 sc__law_told rfl (.inl rfl) rfl rfl rfl (fun X' T' E' f h => de_tup (da_cons de_str (da_cons h da_nil))) rfl m.e_ClockError rfl cold_tb m.xC fr_refusal TB hcode (List.mem_singleton.mpr rfl) (fun p hp _ => by obtain rfl := List.mem_singleton.mp hp; rfl) (hr.mono (by decide)) (show LamS2 ["script", "row", "told", "calendar", "years", "ahead", "uneven", "many", "leaps", "even", "one", "rounds", "k", "turn", "first", "span", "found", "value", "top", "wide", "paper", "due", "odd", "at"] (defScope (top 58)) _ [] from ⟨rfl, rfl, rfl, by decide +kernel, lamOwn_by (by decide +kernel), by decide +kernel⟩) lamDfl0 lamBind0
      (fun A outer s H E f c' hr => (de_call f_excess_of (hr.mono (by decide)) (passes_call (takes_of rfl rfl rfl rfl) fun _ _ _ _ h => h) rfl (da_cons (de_var (pv 3)) (da_cons (de_var (pv 22)) (da_cons (de_neg de_int) da_nil)))))) (da_cons (de_lamtold (own := []) (wr := (fun f => fTup (fCons (fC (.str "told")) (fCons f fNil)))) (Ng := ["call", "e"]) (i := 1) (k := 11) rfl TD.1 TD.2.1 TD.2.2 sc__law_told rfl (.inl rfl) rfl rfl rfl (fun X' T' E' f h => de_tup (da_cons de_str (da_cons h da_nil))) rfl m.e_ClockError rfl cold_tb m.xC fr_refusal TB hcode (List.mem_singleton.mpr rfl) (fun p hp _ => by obtain rfl := List.mem_singleton.mp hp; rfl) (hr.mono (by decide)) (show LamS2 ["script", "row", "told", "calendar", "years", "ahead", "uneven", "many", "leaps", "even", "one", "rounds", "k", "turn", "first", "span", "found", "value", "top", "wide", "paper", "due", "odd", "at"] (defScope (top 58)) _ [] from ⟨rfl, rfl, rfl, by decide +kernel, lamOwn_by (by decide +kernel), by decide +kernel⟩) lamDfl1 (fun dvs hl => by match dvs, hl with | [v], _ => exact ⟨[("a", v)], (fun y hy => by obtain rfl := List.mem_singleton.mp hy; rfl), fun q cl dV pm cv ct s1 h => by obtain ⟨td, e, ho⟩ := h.resolve_left (fun z => by cases z.1); subst e; exact BindsTo.of_defaults rfl ho rfl rfl rfl⟩)
      (fun A outer s H E f c' hr => (de_call f_excess_of (hr.mono (by decide)) (passes_call (takes_of rfl rfl rfl rfl) fun _ _ _ _ h => h) rfl (da_cons (de_var (pv 3)) (da_cons de_int (da_cons (de_neg de_int) da_nil)))))) (da_cons (de_lamtold (own := []) (wr := (fun f => fTup (fCons (fC (.str "told")) (fCons f fNil)))) (Ng := ["call", "e"]) (i := 1) (k := 11) rfl TD.1 TD.2.1 TD.2.2 sc__law_told rfl (.inl rfl) rfl rfl rfl (fun X' T' E' f h => de_tup (da_cons de_str (da_cons h da_nil))) rfl m.e_ClockError rfl cold_tb m.xC fr_refusal TB hcode (List.mem_singleton.mpr rfl) (fun p hp _ => by obtain rfl := List.mem_singleton.mp hp; rfl) (hr.mono (by decide)) (show LamS2 ["script", "row", "told", "calendar", "years", "ahead", "uneven", "many", "leaps", "even", "one", "rounds", "k", "turn", "first", "span", "found", "value", "top", "wide", "paper", "due", "odd", "at"] (defScope (top 58)) _ [] from ⟨rfl, rfl, rfl, by decide +kernel, lamOwn_by (by decide +kernel), by decide +kernel⟩) lamDfl1 (fun dvs hl => by match dvs, hl with | [v], _ => exact ⟨[("b", v)], (fun y hy => by obtain rfl := List.mem_singleton.mp hy; rfl), fun q cl dV pm cv ct s1 h => by obtain ⟨td, e, ho⟩ := h.resolve_left (fun z => by cases z.1); subst e; exact BindsTo.of_defaults rfl ho rfl rfl rfl⟩)
      (fun A outer s H E f c' hr => (de_call f_excess_of (hr.mono (by decide)) (passes_call (takes_of rfl rfl rfl rfl) fun _ _ _ _ h => h) rfl (da_cons (de_var (pv 3)) (da_cons de_int (da_cons de_int da_nil)))))) (da_cons (de_lamtold (own := []) (wr := (fun f => fTup (fCons (fC (.str "told")) (fCons f fNil)))) (Ng := ["call", "e"]) (i := 1) (k := 11) rfl TD.1 TD.2.1 TD.2.2 sc__law_told rfl (.inl rfl) rfl rfl rfl (fun X' T' E' f h => de_tup (da_cons de_str (da_cons h da_nil))) rfl m.e_ClockError rfl cold_tb m.xC fr_refusal TB hcode (List.mem_singleton.mpr rfl) (fun p hp _ => by obtain rfl := List.mem_singleton.mp hp; rfl) (hr.mono (by decide)) (show LamS2 ["script", "row", "told", "calendar", "years", "ahead", "uneven", "many", "leaps", "even", "one", "rounds", "k", "turn", "first", "span", "found", "value", "top", "wide", "paper", "due", "odd", "at"] (defScope (top 58)) _ [] from ⟨rfl, rfl, rfl, by decide +kernel, lamOwn_by (by decide +kernel), by decide +kernel⟩) lamDfl1 (fun dvs hl => by match dvs, hl with | [v], _ => exact ⟨[("c", v)], (fun y hy => by obtain rfl := List.mem_singleton.mp hy; rfl), fun q cl dV pm cv ct s1 h => by obtain ⟨td, e, ho⟩ := h.resolve_left (fun z => by cases z.1); subst e; exact BindsTo.of_defaults rfl ho rfl rfl rfl⟩)
      (fun A outer s H E f c' hr => (de_call f_evenest (hr.mono (by decide)) (passes_call (takes_of rfl rfl rfl rfl) fun _ _ _ _ h => h) rfl (da_cons (de_call f__law_pick (hr.mono (by decide)) (passes_call (takes_of rfl rfl rfl rfl) fun _ _ _ _ h => h) rfl (da_cons (de_var (pv 1)) (da_cons (de_lst (da_cons de_int da_nil)) da_nil))) (da_cons de_int da_nil))))) (da_cons (de_lamtold (own := []) (wr := (fun f => fTup (fCons (fC (.str "told")) (fCons f fNil)))) (Ng := ["call", "e"]) (i := 1) (k := 11) rfl TD.1 TD.2.1 TD.2.2 sc__law_told rfl (.inl rfl) rfl rfl rfl (fun X' T' E' f h => de_tup (da_cons de_str (da_cons h da_nil))) rfl m.e_ClockError rfl cold_tb m.xC fr_refusal TB hcode (List.mem_singleton.mpr rfl) (fun p hp _ => by obtain rfl := List.mem_singleton.mp hp; rfl) (hr.mono (by decide)) (show LamS2 ["script", "row", "told", "calendar", "years", "ahead", "uneven", "many", "leaps", "even", "one", "rounds", "k", "turn", "first", "span", "found", "value", "top", "wide", "paper", "due", "odd", "at"] (defScope (top 58)) _ [] from ⟨rfl, rfl, rfl, by decide +kernel, lamOwn_by (by decide +kernel), by decide +kernel⟩) lamDfl1 (fun dvs hl => by match dvs, hl with | [v], _ => exact ⟨[("d", v)], (fun y hy => by obtain rfl := List.mem_singleton.mp hy; rfl), fun q cl dV pm cv ct s1 h => by obtain ⟨td, e, ho⟩ := h.resolve_left (fun z => by cases z.1); subst e; exact BindsTo.of_defaults rfl ho rfl rfl rfl⟩)
      (fun A outer s H E f c' hr => (de_call f_evenest (hr.mono (by decide)) (passes_call (takes_of rfl rfl rfl rfl) fun _ _ _ _ h => h) rfl (da_cons de_int (da_cons de_int da_nil))))) (da_cons (de_lamtold (own := []) (wr := (fun f => fTup (fCons (fC (.str "told")) (fCons f fNil)))) (Ng := ["call", "e"]) (i := 1) (k := 11) rfl TD.1 TD.2.1 TD.2.2 sc__law_told rfl (.inl rfl) rfl rfl rfl (fun X' T' E' f h => de_tup (da_cons de_str (da_cons h da_nil))) rfl m.e_ClockError rfl cold_tb m.xC fr_refusal TB hcode (List.mem_singleton.mpr rfl) (fun p hp _ => by obtain rfl := List.mem_singleton.mp hp; rfl) (hr.mono (by decide)) (show LamS2 ["script", "row", "told", "calendar", "years", "ahead", "uneven", "many", "leaps", "even", "one", "rounds", "k", "turn", "first", "span", "found", "value", "top", "wide", "paper", "due", "odd", "at"] (defScope (top 58)) _ [] from ⟨rfl, rfl, rfl, by decide +kernel, lamOwn_by (by decide +kernel), by decide +kernel⟩) lamDfl1 (fun dvs hl => by match dvs, hl with | [v], _ => exact ⟨[("f", v)], (fun y hy => by obtain rfl := List.mem_singleton.mp hy; rfl), fun q cl dV pm cv ct s1 h => by obtain ⟨td, e, ho⟩ := h.resolve_left (fun z => by cases z.1); subst e; exact BindsTo.of_defaults rfl ho rfl rfl rfl⟩)
      (fun A outer s H E f c' hr => (de_call f_evenest (hr.mono (by decide)) (passes_call (takes_of rfl rfl rfl rfl) fun _ _ _ _ h => h) rfl (da_cons de_int (da_cons de_int da_nil))))) (da_cons (de_lamtold (own := []) (wr := (fun f => fTup (fCons (fC (.str "told")) (fCons f fNil)))) (Ng := ["call", "e"]) (i := 1) (k := 11) rfl TD.1 TD.2.1 TD.2.2 sc__law_told rfl (.inl rfl) rfl rfl rfl (fun X' T' E' f h => de_tup (da_cons de_str (da_cons h da_nil))) rfl m.e_ClockError rfl cold_tb m.xC fr_refusal TB hcode (List.mem_singleton.mpr rfl) (fun p hp _ => by obtain rfl := List.mem_singleton.mp hp; rfl) (hr.mono (by decide)) (show LamS2 ["script", "row", "told", "calendar", "years", "ahead", "uneven", "many", "leaps", "even", "one", "rounds", "k", "turn", "first", "span", "found", "value", "top", "wide", "paper", "due", "odd", "at"] (defScope (top 58)) _ [] from ⟨rfl, rfl, rfl, by decide +kernel, lamOwn_by (by decide +kernel), by decide +kernel⟩) lamDfl1 (fun dvs hl => by match dvs, hl with | [v], _ => exact ⟨[("g", v)], (fun y hy => by obtain rfl := List.mem_singleton.mp hy; rfl), fun q cl dV pm cv ct s1 h => by obtain ⟨td, e, ho⟩ := h.resolve_left (fun z => by cases z.1); subst e; exact BindsTo.of_defaults rfl ho rfl rfl rfl⟩)
      (fun A outer s H E f c' hr => (de_meth m.cf rfl m_Calendar_with_year (hr.mono (by decide)) (passes_call (takes_of rfl rfl rfl rfl) fun _ _ _ _ h => h) (de_var (pv 3)) (da_cons (de_add rfl (de_var (pv 7)) de_int) (da_cons de_int da_nil))))) (da_cons (de_lamtold (own := []) (wr := (fun f => fTup (fCons (fC (.str "told")) (fCons f fNil)))) (Ng := ["call", "e"]) (i := 1) (k := 11) rfl TD.1 TD.2.1 TD.2.2 sc__law_told rfl (.inl rfl) rfl rfl rfl (fun X' T' E' f h => de_tup (da_cons de_str (da_cons h da_nil))) rfl m.e_ClockError rfl cold_tb m.xC fr_refusal TB hcode (List.mem_singleton.mpr rfl) (fun p hp _ => by obtain rfl := List.mem_singleton.mp hp; rfl) (hr.mono (by decide)) (show LamS2 ["script", "row", "told", "calendar", "years", "ahead", "uneven", "many", "leaps", "even", "one", "rounds", "k", "turn", "first", "span", "found", "value", "top", "wide", "paper", "due", "odd", "at"] (defScope (top 58)) _ [] from ⟨rfl, rfl, rfl, by decide +kernel, lamOwn_by (by decide +kernel), by decide +kernel⟩) lamDfl1 (fun dvs hl => by match dvs, hl with | [v], _ => exact ⟨[("h", v)], (fun y hy => by obtain rfl := List.mem_singleton.mp hy; rfl), fun q cl dV pm cv ct s1 h => by obtain ⟨td, e, ho⟩ := h.resolve_left (fun z => by cases z.1); subst e; exact BindsTo.of_defaults rfl ho rfl rfl rfl⟩)
      (fun A outer s H E f c' hr => (de_meth m.cf rfl m_Calendar_with_year (hr.mono (by decide)) (passes_call (takes_of rfl rfl rfl rfl) fun _ _ _ _ h => h) (de_var (pv 3)) (da_cons (de_var (pv 23)) (da_cons de_int da_nil))))) (da_cons (de_lamtold (own := []) (wr := (fun f => fTup (fCons (fC (.str "told")) (fCons f fNil)))) (Ng := ["call", "e"]) (i := 1) (k := 11) rfl TD.1 TD.2.1 TD.2.2 sc__law_told rfl (.inl rfl) rfl rfl rfl (fun X' T' E' f h => de_tup (da_cons de_str (da_cons h da_nil))) rfl m.e_ClockError rfl cold_tb m.xC fr_refusal TB hcode (List.mem_singleton.mpr rfl) (fun p hp _ => by obtain rfl := List.mem_singleton.mp hp; rfl) (hr.mono (by decide)) (show LamS2 ["script", "row", "told", "calendar", "years", "ahead", "uneven", "many", "leaps", "even", "one", "rounds", "k", "turn", "first", "span", "found", "value", "top", "wide", "paper", "due", "odd", "at"] (defScope (top 58)) _ [] from ⟨rfl, rfl, rfl, by decide +kernel, lamOwn_by (by decide +kernel), by decide +kernel⟩) lamDfl1 (fun dvs hl => by match dvs, hl with | [v], _ => exact ⟨[("i", v)], (fun y hy => by obtain rfl := List.mem_singleton.mp hy; rfl), fun q cl dV pm cv ct s1 h => by obtain ⟨td, e, ho⟩ := h.resolve_left (fun z => by cases z.1); subst e; exact BindsTo.of_defaults rfl ho rfl rfl rfl⟩)
      (fun A outer s H E f c' hr => (de_meth m.cf rfl m_Calendar_with_part (hr.mono (by decide)) (passes_call (takes_of rfl rfl rfl rfl) fun _ _ _ _ h => h) (de_var (pv 3)) (da_cons de_str (da_cons (de_add rfl (de_sl rfl (de_var (pv 4)) do_none (do_some (de_var (pv 23)))) (de_tup (da_cons de_int da_nil))) da_nil))))) (da_cons (de_lamtold (own := []) (wr := (fun f => fTup (fCons (fC (.str "told")) (fCons f fNil)))) (Ng := ["call", "e"]) (i := 1) (k := 11) rfl TD.1 TD.2.1 TD.2.2 sc__law_told rfl (.inl rfl) rfl rfl rfl (fun X' T' E' f h => de_tup (da_cons de_str (da_cons h da_nil))) rfl m.e_ClockError rfl cold_tb m.xC fr_refusal TB hcode (List.mem_singleton.mpr rfl) (fun p hp _ => by obtain rfl := List.mem_singleton.mp hp; rfl) (hr.mono (by decide)) (show LamS2 ["script", "row", "told", "calendar", "years", "ahead", "uneven", "many", "leaps", "even", "one", "rounds", "k", "turn", "first", "span", "found", "value", "top", "wide", "paper", "due", "odd", "at"] (defScope (top 58)) _ [] from ⟨rfl, rfl, rfl, by decide +kernel, lamOwn_by (by decide +kernel), by decide +kernel⟩) lamDfl1 (fun dvs hl => by match dvs, hl with | [v], _ => exact ⟨[("j", v)], (fun y hy => by obtain rfl := List.mem_singleton.mp hy; rfl), fun q cl dV pm cv ct s1 h => by obtain ⟨td, e, ho⟩ := h.resolve_left (fun z => by cases z.1); subst e; exact BindsTo.of_defaults rfl ho rfl rfl rfl⟩)
      (fun A outer s H E f c' hr => (de_meth m.cf rfl m_Calendar_with_part (hr.mono (by decide)) (passes_call (takes_of rfl rfl rfl rfl) fun _ _ _ _ h => h) (de_var (pv 3)) (da_cons de_str (da_cons de_int da_nil))))) (da_cons (de_lamtold (own := [12]) (wr := (fun f => fTup (fCons (fC (.str "told")) (fCons f fNil)))) (Ng := ["call", "e"]) (i := 1) (k := 11) rfl TD.1 TD.2.1 TD.2.2 sc__law_told rfl (.inl rfl) rfl rfl rfl (fun X' T' E' f h => de_tup (da_cons de_str (da_cons h da_nil))) rfl m.e_ClockError rfl cold_tb m.xC fr_refusal TB hcode (List.mem_singleton.mpr rfl) (fun p hp _ => by obtain rfl := List.mem_singleton.mp hp; rfl) (hr.mono (by decide)) (show LamS2 ["script", "row", "told", "calendar", "years", "ahead", "uneven", "many", "leaps", "even", "one", "rounds", "k", "turn", "first", "span", "found", "value", "top", "wide", "paper", "due", "odd", "at"] (defScope (top 58)) _ [12] from ⟨rfl, rfl, rfl, by decide +kernel, lamOwn_by (by decide +kernel), by decide +kernel⟩) lamDfl1 (fun dvs hl => by match dvs, hl with | [v], _ => exact ⟨[("k", v)], (fun y hy => by obtain rfl := List.mem_singleton.mp hy; rfl), fun q cl dV pm cv ct s1 h => by obtain ⟨td, e, ho⟩ := h.resolve_left (fun z => by cases z.1); subst e; exact BindsTo.of_defaults rfl ho rfl rfl rfl⟩)
      (fun A outer s H E f c' hr => (de_meth m.cf rfl m_Calendar_with_part (hr.mono (by decide)) (passes_call (takes_of rfl rfl rfl rfl) fun _ _ _ _ h => h) (de_var (pv 3)) (da_cons de_str (da_cons de_int da_nil))))) (da_cons (de_lamtold (own := []) (wr := (fun f => fTup (fCons (fC (.str "told")) (fCons f fNil)))) (Ng := ["call", "e"]) (i := 1) (k := 11) rfl TD.1 TD.2.1 TD.2.2 sc__law_told rfl (.inl rfl) rfl rfl rfl (fun X' T' E' f h => de_tup (da_cons de_str (da_cons h da_nil))) rfl m.e_ClockError rfl cold_tb m.xC fr_refusal TB hcode (List.mem_singleton.mpr rfl) (fun p hp _ => by obtain rfl := List.mem_singleton.mp hp; rfl) (hr.mono (by decide)) (show LamS2 ["script", "row", "told", "calendar", "years", "ahead", "uneven", "many", "leaps", "even", "one", "rounds", "k", "turn", "first", "span", "found", "value", "top", "wide", "paper", "due", "odd", "at"] (defScope (top 58)) _ [] from ⟨rfl, rfl, rfl, by decide +kernel, lamOwn_by (by decide +kernel), by decide +kernel⟩) lamDfl1 (fun dvs hl => by match dvs, hl with | [v], _ => exact ⟨[("n", v)], (fun y hy => by obtain rfl := List.mem_singleton.mp hy; rfl), fun q cl dV pm cv ct s1 h => by obtain ⟨td, e, ho⟩ := h.resolve_left (fun z => by cases z.1); subst e; exact BindsTo.of_defaults rfl ho rfl rfl rfl⟩)
      (fun A outer s H E f c' hr => (de_make mk_Calendar (hr.mono (by decide)) (passes_call (takes_of rfl rfl rfl rfl) fun _ _ _ _ h => h) rfl (da_cons (de_var (pv 4)) da_nil)))) da_nil)))))))))))))))
    (dss_cons (ds_set (ps_set (i := 21) sc_law.nd rfl (by first | exact Or.inl rfl | exact Or.inr rfl) (de_lst (da_cons (de_tup (da_cons de_str (da_cons (de_var (pv 22)) da_nil))) (da_cons (de_tup (da_cons de_str (da_cons (de_neg de_int) da_nil))) (da_cons (de_tup (da_cons de_str (da_cons de_int da_nil))) (da_cons (de_tup (da_cons de_str (da_cons de_int da_nil))) (da_cons (de_tup (da_cons de_str (da_cons de_int da_nil))) da_nil))))))))
    (dss_cons (ds_set (ps_set (i := 21) sc_law.nd rfl (by first | exact Or.inl rfl | exact Or.inr rfl) (de_add rfl (de_var (pv 21)) (de_lst (da_cons (de_tup (da_cons de_str (da_cons de_int da_nil))) (da_cons (de_tup (da_cons de_str (da_cons (de_add rfl (de_var (pv 7)) de_int) da_nil))) (da_cons (de_tup (da_cons de_str (da_cons de_str (da_cons (de_sub (de_var (pv 23)) de_int) da_nil)))) (da_cons (de_tup (da_cons de_str (da_cons de_str (da_cons (de_var (pv 23)) da_nil)))) da_nil))))))))
    (dss_cons (ds_set (ps_set (i := 21) sc_law.nd rfl (by first | exact Or.inl rfl | exact Or.inr rfl) (de_add rfl (de_var (pv 21)) (de_lst (da_cons (de_tup (da_cons de_str (da_cons de_str (da_cons de_non da_nil)))) (da_cons (de_tup (da_cons de_str (da_cons de_str (da_cons de_non da_nil)))) (da_cons (de_tup (da_cons de_str (da_cons de_str (da_cons de_non da_nil)))) da_nil)))))))
    (dss_cons (ds_if (PW.pt (dw_or (dt_not (dt_val (de_callG g__law_same hg (hr.mono (by decide)) px rfl (da_cons (de_sl rfl (de_var (pv 16)) do_none (do_some de_int)) (da_cons (de_sl rfl (de_var (pv 21)) do_none (do_some de_int)) da_nil))))) (dw_or (PW.pt (dw_and (dt_cmp (op_neT rfl hr) ok_ne (de_var (pv 7)) de_int (by rfl)) (dw_and1 (dt_not (dt_val (de_callG g__law_same hg (hr.mono (by decide)) px rfl (da_cons (de_ix rfl (de_var (pv 16)) de_int (by intro _ _; with_unfolding_all rfl)) (da_cons (de_ix rfl (de_var (pv 21)) de_int (by intro _ _; with_unfolding_all rfl)) da_nil)))))))) (dw_or1 (dt_val (de_call f_is_calendar_paper (hr.mono (by decide)) px rfl (da_cons (de_var (pv 3)) (da_cons (de_var (pv 22)) da_nil)))))))) (dss_one (ds_ret de_bl)) dss_nil)
    (dss_cons (ds_if (dt_not (dt_cmp (op_eqO rfl eq_Calendar (hr.mono (by decide)) px) ok_eqO (de_meth m.cf rfl m_Calendar_with_year (hr.mono (by decide)) px (de_var (pv 3)) (da_cons (de_var (pv 23)) (da_cons (de_sub de_int (de_ix rfl (de_var (pv 4)) (de_sub (de_var (pv 23)) de_int) (by intro _ _; with_unfolding_all rfl))) da_nil))) (de_make mk_Calendar (hr.mono (by decide)) px rfl (da_cons (de_tup (da_cons (de_call f__law_at (hr.mono (by decide)) px rfl (da_cons (de_var (pv 4)) (da_cons (de_var (pv 23)) (da_cons (de_sub de_int (de_ix rfl (de_var (pv 4)) (de_sub (de_var (pv 23)) de_int) (by intro _ _; with_unfolding_all rfl))) da_nil)))) (da_cons (de_ix rfl (de_var (pv 2)) de_int (by intro _ _; with_unfolding_all rfl)) da_nil))) da_nil)) (by rfl))) (dss_one (ds_ret de_bl)) dss_nil)
    (dss_one (ds_ret (de_callG g__law_same hg (hr.mono (by decide)) px rfl (da_cons (de_lamtold (own := []) (wr := (fun f => fTup (fCons (fC (.str "told")) (fCons f fNil)))) (Ng := ["call", "e"]) (i := 1) (k := 11) rfl TD.1 TD.2.1 TD.2.2 sc__law_told rfl (.inl rfl) rfl rfl rfl (fun X' T' E' f h => de_tup (da_cons de_str (da_cons h da_nil))) rfl m.e_ClockError rfl cold_tb m.xC fr_refusal TB hcode (List.mem_singleton.mpr rfl) (fun p hp _ => by obtain rfl := List.mem_singleton.mp hp; rfl) (hr.mono (by decide)) (show LamS2 ["script", "row", "told", "calendar", "years", "ahead", "uneven", "many", "leaps", "even", "one", "rounds", "k", "turn", "first", "span", "found", "value", "top", "wide", "paper", "due", "odd", "at"] (defScope (top 58)) _ [] from ⟨rfl, rfl, rfl, by decide +kernel, lamOwn_by (by decide +kernel), by decide +kernel⟩) lamDfl0 lamBind0
      (fun A outer s H E f c' hr => (de_meth m.cf rfl m_Calendar_with_part (hr.mono (by decide)) (passes_call (takes_of rfl rfl rfl rfl) fun _ _ _ _ h => h) (de_var (pv 3)) (da_cons de_str (da_cons (de_tup da_nil) da_nil))))) (da_cons (de_tup (da_cons de_str (da_cons de_str (da_cons de_non da_nil)))) da_nil)))))))))))))))))))))))))))
end
end KA

set_option Elab.async false
set_option linter.all false
set_option maxRecDepth 100000
set_option maxHeartbeats 4000000
namespace KL
open PySem PySem.Spec PyProof.Rows L2 DL KA
abbrev rw_ (ns : List Int) (i s r : Int) : SO := .lst [.scr ns, .int i, .int s, .int r]
structure RowOk (R : SO) : Prop where
  ex : ∃ ns i s r, R = rw_ ns i s r ∧ 0 ≤ i ∧ 0 ≤ s ∧ s < 2147483648
theorem at_int {ns : List Int} {k : Nat} (h : k < ns.length) : atI (ns.map D.int) (k : Int) = some (.int ns[k]) := by
  simp [atI, ixN, h]
theorem taken {Z : Store} {ns : List Int} {i s r many : Int} (hi : 0 ≤ i) (hs : 0 ≤ s) (hs2 : s < 2147483648) (hm : 0 < many) (hm2 : many < 1000000) :
    ∃ d i' s' r', 0 ≤ d ∧ d < many ∧ 0 ≤ i' ∧ 0 ≤ s' ∧ s' < 2147483648 ∧ F__law_taken [.obj 0, .int many] (rw_ ns i s r :: Z) = .ok (.int d) (rw_ ns i' s' r' :: Z) := by
  have mdiv : many < 1073741824 := by omega
  by_cases h1 : 0 < r
  · refine ⟨r % many, i, s, r / many, Int.emod_nonneg _ (by omega), Int.emod_lt_of_pos _ hm, hi, hs, hs2, ?_⟩
    simp [F__law_taken, b__law_taken, runF, start0, sCons, sIf, asB, f2, fVar, fC, gGt, gGe, gI, gIx, seqOf, items, atI, sAsg, pName, pSub, gSet, gMod, gDiv, gAdd, DL.gSub, gMul, gPow, gLen, fCall, fCons, fNil, gInt, sRet, retD, pur, ixN, h1, hm, mdiv]
  · by_cases h2 : (ns.length : Int) < i + 1
    · refine ⟨((s * 48271 + 11) % 2147483647) / 7 % many, i + 1, (s * 48271 + 11) % 2147483647, r, Int.emod_nonneg _ (by omega), Int.emod_lt_of_pos _ hm, by omega, by omega, by omega, ?_⟩
      simp [F__law_taken, b__law_taken, runF, start0, sCons, sIf, asB, f2, fVar, fC, gGt, gGe, gI, gIx, seqOf, items, atI, sAsg, pName, pSub, gSet, gMod, gDiv, gAdd, DL.gSub, gMul, gPow, gLen, fCall, fCons, fNil, gInt, sRet, retD, pur, ixN, h1, h2, hm, mdiv, mulOk, sNil]
    · obtain ⟨k, rfl⟩ : ∃ k : Nat, i = (k : Int) := ⟨i.toNat, by omega⟩
      have hk : k < ns.length := by omega
      have hat : atI (ns.map D.int) (k : Int) = some (.int ns[k]) := at_int hk
      have h2' : ¬ (ns.length : Int) < (k : Int) + 1 := h2
      generalize ns[k] = c at hat
      have a1 : atI [D.scr ns, .int (k : Int), .int s, .int r] 0 = some (.scr ns) := rfl
      have a2 : ∀ x y z : D, ∀ ns, atI [D.scr ns, x, y, z] 1 = some x := fun _ _ _ _ => rfl
      have a3 : ∀ x y z : D, ∀ ns, atI [D.scr ns, x, y, z] 2 = some y := fun _ _ _ _ => rfl
      have a4 : ∀ x y z : D, ∀ ns, atI [D.scr ns, x, y, z] 3 = some z := fun _ _ _ _ => rfl
      have a5 : ∀ x y z : D, ∀ ns, atI [D.scr ns, x, y, z] 0 = some (.scr ns) := fun _ _ _ _ => rfl
      by_cases h3 : (1000000000000000000 : Int) ≤ c
      · refine ⟨c % many, k + 1, (s * 48271 + c + 11) % 2147483647, c / many, Int.emod_nonneg _ (by omega), Int.emod_lt_of_pos _ hm, by omega, by omega, by omega, ?_⟩
        simp [F__law_taken, b__law_taken, runF, start0, sCons, sIf, asB, f2, fVar, fC, gGt, gGe, gI, gIx, seqOf, items, sAsg, pName, pSub, gSet, gMod, gDiv, gAdd, DL.gSub, gMul, gPow, gLen, fCall, fCons, fNil, gInt, sRet, retD, pur, ixN, h1, h2', hm, mdiv, mulOk, sNil, hat, a2, a3, a4, a5, h3]
      · refine ⟨(c % 1000003 * 31 + (s * 48271 + c + 11) % 2147483647 / 11) % many, k + 1, (s * 48271 + c + 11) % 2147483647, r, Int.emod_nonneg _ (by omega), Int.emod_lt_of_pos _ hm, by omega, by omega, by omega, ?_⟩
        simp [F__law_taken, b__law_taken, runF, start0, sCons, sIf, asB, f2, fVar, fC, gGt, gGe, gI, gIx, seqOf, items, sAsg, pName, pSub, gSet, gMod, gDiv, gAdd, DL.gSub, gMul, gPow, gLen, fCall, fCons, fNil, gInt, sRet, retD, pur, ixN, h1, h2', hm, mdiv, mulOk, sNil, hat, a2, a3, a4, a5, h3]
end KL

set_option Elab.async false
set_option linter.all false
set_option maxRecDepth 100000
set_option maxHeartbeats 4000000
namespace KL
open PySem PySem.Spec PyProof.Rows L2 DL KA
theorem takenR {R : SO} {Z : Store} {many : Int} (hR : RowOk R) (hm : 0 < many) (hm2 : many < 1000000) :
    ∃ d R', RowOk R' ∧ 0 ≤ d ∧ d < many ∧ F__law_taken [.obj 0, .int many] (R :: Z) = .ok (.int d) (R' :: Z) := by
  obtain ⟨ns, i, s, r, rfl, h1, h2, h3⟩ := hR.ex
  obtain ⟨d, i', s', r', g1, g2, g3, g4, g5, g⟩ := taken (Z := Z) (ns := ns) (r := r) h1 h2 h3 hm hm2
  exact ⟨d, _, ⟨ns, i', s', r', rfl, g3, g4, g5⟩, g1, g2, g⟩
theorem purL_mem {xs : List D} (h : purL xs = true) : ∀ x ∈ xs, pur x = true := by
  induction xs with
  | nil => intro x hx; cases hx
  | cons y ys ih =>
    have h' := Bool.and_eq_true_iff.mp h
    intro x hx
    rcases List.mem_cons.mp hx with rfl | hx
    · exact h'.1
    · exact ih h'.2 x hx
theorem pickR {R : SO} {Z : Store} {xs : List D} (hR : RowOk R) (h0 : 0 < xs.length) (h1 : xs.length < 1000000) (hp : purL xs = true) :
    ∃ x R', RowOk R' ∧ x ∈ xs ∧ F__law_pick [.obj 0, .lst xs] (R :: Z) = .ok x (R' :: Z) := by
  obtain ⟨d, R', hR', d0, d1, e⟩ := takenR (Z := Z) (many := (xs.length : Int)) hR (by omega) (by omega)
  obtain ⟨k, rfl⟩ : ∃ k : Nat, d = (k : Int) := ⟨d.toNat, by omega⟩
  have hk : k < xs.length := by omega
  have px : pur xs[k] = true := purL_mem hp _ (List.getElem_mem hk)
  refine ⟨xs[k], R', hR', List.getElem_mem hk, ?_⟩
  have ea : atI xs (k : Int) = some xs[k] := by simp [atI, ixN, hk]
  have rd : ∀ S' : Store, retD (Z.length + 1) xs[k] S' = .ok xs[k] (S'.take (Z.length + 1)) := fun S' => by
    unfold retD
    split
    · rename_i l e
      rw [e] at px
      cases px
    · rw [if_pos px]
  simp [F__law_pick, b__law_pick, runF, start0, sCons, f2, fVar, fC, gIx, seqOf, items, fCall, fCallF, fCons, fNil, gLen, sRet, e, ea, rd]
end KL

set_option Elab.async false
set_option linter.all false
set_option maxRecDepth 100000
set_option maxHeartbeats 4000000
/-! KL3: comprehensions read plainly. -/
namespace KL
open PySem PySem.Spec PyProof.Rows L2 DL KA
theorem get_end {S0 : Store} {x : SO} : (S0 ++ [x])[S0.length]? = some x := by simp
theorem set_end {S0 : Store} {x y : SO} : (S0 ++ [x]).set S0.length y = S0 ++ [y] := by simp
theorem take_end {S0 : Store} {x : SO} : (S0 ++ [x]).take S0.length = S0 := by simp
theorem append_end {S0 : Store} {acc : List D} {y : D} (hp : pur y = true) (hl : acc.length < lineN) : appendTo S0.length y (S0 ++ [.lst acc]) = some (S0 ++ [.lst (acc ++ [y])]) := by
  unfold appendTo
  rw [get_end]
  simp only
  rw [if_pos ⟨hp, hl⟩, set_end]
/-- a turn that leaves the store as it is -/
def Turn (S0 : Store) (p : FC) (t : FT) (e : FE) (ρ : Ev) (d : D) (ys : List D) : Prop := ∃ ρ1, p d ρ = some ρ1 ∧ ∀ acc : List D,
  (t ρ1 (S0 ++ [.lst acc]) = .ok false (S0 ++ [.lst acc]) ∧ ys = []) ∨ (t ρ1 (S0 ++ [.lst acc]) = .ok true (S0 ++ [.lst acc]) ∧ ∃ y, e ρ1 (S0 ++ [.lst acc]) = .ok y (S0 ++ [.lst acc]) ∧ pur y = true ∧ ys = [y])
theorem lc_pure {S0 : Store} {p : FC} {t : FT} {e : FE} {ρ : Ev} {f : D → List D} : ∀ (ds : List D) (acc : List D), (∀ d ∈ ds, Turn S0 p t e ρ d (f d)) → acc.length + ds.length < lineN → lcRun S0.length p t e ρ ds (S0 ++ [.lst acc]) = .ok (.lst (acc ++ ds.flatMap f)) S0
  | [], acc, _, _ => by
    unfold lcRun
    rw [get_end]
    simp only
    rw [take_end, List.flatMap_nil, List.append_nil]
  | d :: ds, acc, h, hl => by
    obtain ⟨ρ1, hp, ht⟩ := h d List.mem_cons_self
    rw [List.length_cons] at hl
    unfold lcRun
    rw [hp]
    simp only
    rcases ht acc with ⟨h1, h2⟩ | ⟨h1, y, h2, h3, h4⟩
    · rw [h1, List.flatMap_cons, h2, List.nil_append]
      exact lc_pure ds acc (fun x hx => h x (List.mem_cons_of_mem _ hx)) (by omega)
    · rw [h1, List.flatMap_cons, h4]
      simp only [Res.noX, Res.bind_ok, if_true]
      rw [h2]
      simp only [Res.noX, Res.bind_ok]
      rw [append_end h3 (by omega)]
      simp only
      rw [lc_pure ds (acc ++ [y]) (fun x hx => h x (List.mem_cons_of_mem _ hx)) (by rw [List.length_append, List.length_singleton]; omega), List.append_assoc]
theorem fLc_pure {S0 : Store} {vs : List Nat} {fi : FI} {p : FC} {t : FT} {e : FE} {ρ : Ev} {f : D → List D} {ds : List D} (hi : fi ρ S0 = .ok ds S0) (h : ∀ d ∈ ds, Turn S0 p t e (wipeE ρ vs) d (f d)) (hl : ds.length < lineN) : fLc vs fi p t e ρ S0 = .ok (.lst (ds.flatMap f)) S0 := by
  unfold fLc
  rw [hi, Res.bind_ok]
  exact lc_pure ds [] h (by simpa using hl)
/-- turns that draw: every one takes a good store to a good store -/
theorem lc_eff {Pr : Store → Prop} {Qd : D → Prop} {n : Nat} {p : FC} {e : FE} {ρ : Ev} : ∀ (ds : List D) (S0 : Store) (acc : List D), S0.length = n → Pr S0 →
    (∀ d ∈ ds, ∃ ρ1, p d ρ = some ρ1 ∧ ∀ (S : Store) (acc : List D), S.length = n → Pr S → ∃ y S', S'.length = n ∧ Pr S' ∧ Qd y ∧ pur y = true ∧ e ρ1 (S ++ [.lst acc]) = .ok y (S' ++ [.lst acc])) → acc.length + ds.length < lineN →
    ∃ ys S', S'.length = n ∧ Pr S' ∧ ys.length = ds.length ∧ (∀ y ∈ ys, Qd y) ∧ lcRun n p fYes e ρ ds (S0 ++ [.lst acc]) = .ok (.lst (acc ++ ys)) S'
  | [], S0, acc, hn, hP, _, _ => by
    subst hn
    refine ⟨[], S0, rfl, hP, rfl, (fun y hy => by cases hy), ?_⟩
    unfold lcRun
    rw [get_end]
    simp only
    rw [take_end, List.append_nil]
  | d :: ds, S0, acc, hn, hP, h, hl => by
    obtain ⟨ρ1, hp, ht⟩ := h d List.mem_cons_self
    obtain ⟨y, S', hn', hP', hq, py, he⟩ := ht S0 acc hn hP
    rw [List.length_cons] at hl
    obtain ⟨ys, S2, g1, g2, g3, g4, g5⟩ := lc_eff ds S' (acc ++ [y]) hn' hP' (fun x hx => h x (List.mem_cons_of_mem _ hx)) (by rw [List.length_append, List.length_singleton]; omega)
    refine ⟨y :: ys, S2, g1, g2, by rw [List.length_cons, List.length_cons, g3], fun z hz => ?_, ?_⟩
    · rcases List.mem_cons.mp hz with rfl | hz
      · exact hq
      · exact g4 z hz
    · unfold lcRun
      rw [hp]
      simp only [fYes, Res.noX, Res.bind_ok, if_true]
      rw [he]
      simp only [Res.noX, Res.bind_ok]
      have ea : appendTo n y (S' ++ [.lst acc]) = some (S' ++ [.lst (acc ++ [y])]) := by rw [← hn']; exact append_end py (by omega)
      rw [ea]
      simp only
      rw [g5, List.append_assoc]
      rfl
end KL

set_option Elab.async false
set_option linter.all false
set_option maxRecDepth 100000
set_option maxHeartbeats 4000000
/-! KL4: the calendar drawn. -/
namespace KL
open PySem PySem.Spec PyProof.Rows L2 DL KA
def Bit (d : D) : Prop := d = .int 0 ∨ d = .int 1
theorem mem_upto {lo : Int} {n : Nat} {d : D} (h : d ∈ upto lo n) : ∃ i : Nat, i < n ∧ d = .int (lo + i) := by
  obtain ⟨i, hi, rfl⟩ := List.mem_map.mp h
  exact ⟨i, List.mem_range.mp hi, rfl⟩
theorem len_upto {lo : Int} {n : Nat} : (upto lo n).length = n := by simp [upto]
/-- the years drawn one by one -/
theorem years_drawn {R : SO} {Z : Store} {many : Int} {a b c : D} (hR : RowOk R) (h1 : 1 ≤ many) (h2 : many ≤ 12) :
    ∃ ys R', RowOk R' ∧ ys.length = many.toNat ∧ (∀ y ∈ ys, Bit y) ∧
      fLc [4] (iR1 (fCons (fVar 1) fNil)) (cName 4) fYes (fCallF F__law_taken (fCons (fVar 0) (fCons (fC (.int 2)) fNil))) [some (.obj 0), some (.int many), some b, some c, none, none] (R :: Z) = .ok (.lst ys) (R' :: Z) := by
  obtain ⟨ys, S', g1, ⟨R', hR', rfl⟩, g3, g4, g5⟩ := lc_eff (Pr := fun S => ∃ R, RowOk R ∧ S = R :: Z) (Qd := Bit) (n := Z.length + 1) (p := cName 4) (e := fCallF F__law_taken (fCons (fVar 0) (fCons (fC (.int 2)) fNil))) (ρ := [some (.obj 0), some (.int many), some b, some c, none, none]) (upto 0 many.toNat) (R :: Z) [] rfl ⟨R, hR, rfl⟩ (fun d hd => by
      obtain ⟨i, _, rfl⟩ := mem_upto hd
      refine ⟨_, rfl, fun S acc hS ⟨R, hR, e⟩ => ?_⟩
      subst e
      obtain ⟨d, R', hR', d0, d1, e⟩ := takenR (Z := Z ++ [.lst acc]) (many := 2) hR (by decide) (by decide)
      refine ⟨.int d, R' :: Z, by simpa using hS, ⟨R', hR', rfl⟩, ?_, rfl, ?_⟩
      · unfold Bit
        rcases (by omega : d = 0 ∨ d = 1) with rfl | rfl
        · exact .inl rfl
        · exact .inr rfl
      · simp [fCallF, fCons, fNil, fVar, fC, e]) (by rw [len_upto]; simp [lineN]; omega)
  refine ⟨ys, R', hR', by rw [g3, len_upto], g4, ?_⟩
  have e : iR1 (fCons (fVar 1) fNil) [some (.obj 0), some (.int many), some b, some c, none, none] (R :: Z) = .ok (upto 0 many.toNat) (R :: Z) := by
    simp [iR1, fCons, fVar, fNil]
    have z : bigN = 2 ^ 62 := by first | rfl | decide
    constructor <;> (rw [z]; omega)
  unfold fLc
  rw [e, Res.bind_ok]
  exact g5
end KL

set_option Elab.async false
set_option linter.all false
set_option maxRecDepth 100000
set_option maxHeartbeats 4000000
/-! KL5: the calendar drawn, second part. -/
namespace KL
open PySem PySem.Spec PyProof.Rows L2 DL KA
theorem step_bit {x l m : Int} (h1 : 1 ≤ m) (h2 : m ≤ 12) (h3 : 0 ≤ l) (h4 : l ≤ m) : (x + l) / m - x / m = 0 ∨ (x + l) / m - x / m = 1 := by
  have : m = 1 ∨ m = 2 ∨ m = 3 ∨ m = 4 ∨ m = 5 ∨ m = 6 ∨ m = 7 ∨ m = 8 ∨ m = 9 ∨ m = 10 ∨ m = 11 ∨ m = 12 := by omega
  rcases this with h | h | h | h | h | h | h | h | h | h | h | h <;> (subst h; omega)
def evB (m l : Int) (d : D) : List D := match d with | .int k => [.int ((k + 1) * l / m - k * l / m)] | _ => []
theorem even_elt {S : Store} {m l k : Int} {a b e : Option D} (m0 : 0 < m) (m1 : m < 1073741824) (lb : mulOk (k + 1) l = true) (lc : mulOk k l = true) :
    f2 DL.gSub (f2 gDiv (f2 gMul (f2 gAdd (fVar 4) (fC (.int 1))) (fVar 3)) (fVar 1)) (f2 gDiv (f2 gMul (fVar 4) (fVar 3)) (fVar 1)) [a, some (.int m), b, some (.int l), some (.int k), e] S = .ok (.int ((k + 1) * l / m - k * l / m)) S := by
  have hd : decide (0 < m ∧ m < 1073741824) = true := decide_eq_true ⟨m0, m1⟩
  show (f2 gDiv (f2 gMul (f2 gAdd (fVar 4) (fC (.int 1))) (fVar 3)) (fVar 1) [a, some (.int m), b, some (.int l), some (.int k), e] S).bind _ = _
  have x1 : f2 gMul (f2 gAdd (fVar 4) (fC (.int 1))) (fVar 3) [a, some (.int m), b, some (.int l), some (.int k), e] S = .ok (.int ((k + 1) * l)) S := if_pos lb
  have x2 : f2 gMul (fVar 4) (fVar 3) [a, some (.int m), b, some (.int l), some (.int k), e] S = .ok (.int (k * l)) S := if_pos lc
  have y1 : f2 gDiv (f2 gMul (f2 gAdd (fVar 4) (fC (.int 1))) (fVar 3)) (fVar 1) [a, some (.int m), b, some (.int l), some (.int k), e] S = .ok (.int ((k + 1) * l / m)) S := by
    unfold f2 at x1 ⊢
    rw [x1]
    exact if_pos hd
  have y2 : f2 gDiv (f2 gMul (fVar 4) (fVar 3)) (fVar 1) [a, some (.int m), b, some (.int l), some (.int k), e] S = .ok (.int (k * l / m)) S := by
    unfold f2 at x2 ⊢
    rw [x2]
    exact if_pos hd
  rw [y1, Res.bind_ok, y2]
  rfl
theorem years_even {S : Store} {m l : Int} {a b e : Option D} (h1 : 1 ≤ m) (h2 : m ≤ 12) (h3 : 0 ≤ l) (h4 : l ≤ m) :
    ∃ ys : List D, ys.length = m.toNat ∧ (∀ y ∈ ys, Bit y) ∧
      fLc [4] (iR1 (fCons (fVar 1) fNil)) (cName 4) fYes (f2 DL.gSub (f2 gDiv (f2 gMul (f2 gAdd (fVar 4) (fC (.int 1))) (fVar 3)) (fVar 1)) (f2 gDiv (f2 gMul (fVar 4) (fVar 3)) (fVar 1))) [a, some (.int m), b, some (.int l), none, e] S = .ok (.lst ys) S := by
  refine ⟨(upto 0 m.toNat).flatMap (evB m l), ?_, fun y hy => ?_, ?_⟩
  · unfold upto
    rw [List.flatMap_map]
    simp [evB, List.length_flatMap, List.map_const']
  · obtain ⟨d, hd, hy⟩ := List.mem_flatMap.mp hy
    obtain ⟨i, _, rfl⟩ := mem_upto hd
    obtain rfl := List.mem_singleton.mp hy
    have := step_bit (x := (0 + (i : Int)) * l) h1 h2 h3 h4
    have e : ((0 + (i : Int)) + 1) * l = (0 + (i : Int)) * l + l := by rw [Int.add_mul, Int.one_mul]
    rw [e]
    unfold Bit
    rcases this with z | z
    · left; rw [z]
    · right; rw [z]
  · refine fLc_pure (f := evB m l) ?_ (fun d hd => ?_) (by rw [len_upto]; simp [lineN]; omega)
    · simp [iR1, fCons, fVar, fNil]
      exact ⟨by unfold bigN; omega, by unfold bigN; omega⟩
    · obtain ⟨i, hi, rfl⟩ := mem_upto hd
      refine ⟨_, rfl, fun acc => .inr ⟨rfl, _, ?_, rfl, rfl⟩⟩
      have mb : ∀ j : Int, mulOk j l = true := fun j => decide_eq_true (.inr ⟨by omega, by omega⟩)
      exact even_elt (by omega) (by omega) (mb _) (mb _)
end KL

set_option Elab.async false
set_option linter.all false
set_option maxRecDepth 100000
set_option maxHeartbeats 4000000
/-! KL6: _law_calendar. -/
namespace KL
open PySem PySem.Spec PyProof.Rows L2 DL KA
theorem bits_ints : ∀ {ds : List D}, (∀ y ∈ ds, Bit y) → ∃ ys : List Int, ds = ys.map D.int ∧ ∀ y ∈ ys, y = 0 ∨ y = 1
  | [], _ => ⟨[], rfl, fun y hy => by cases hy⟩
  | d :: ds, h => by
    obtain ⟨ys, rfl, hy⟩ := bits_ints (ds := ds) fun y hy => h y (List.mem_cons_of_mem _ hy)
    rcases h d List.mem_cons_self with rfl | rfl
    · exact ⟨0 :: ys, rfl, fun y hy' => by rcases List.mem_cons.mp hy' with rfl | q; exact .inl rfl; exact hy y q⟩
    · exact ⟨1 :: ys, rfl, fun y hy' => by rcases List.mem_cons.mp hy' with rfl | q; exact .inr rfl; exact hy y q⟩
theorem pur_ints (ys : List Int) : purL (ys.map D.int) = true := by
  induction ys with
  | nil => rfl
  | cons y ys ih => exact Bool.and_eq_true_iff.mpr ⟨rfl, ih⟩
theorem deq_int (i j : Int) : deq (.int i) (.int j) = some (i == j) := by
  first
    | rfl
    | simp [deq, toPy, SeqAt.shaped, PyData.eqv, PyData.canLay0, PyData.depth]
    | (unfold deq; simp [toPy, SeqAt.shaped, PyData.eqv]; decide)
theorem calR {R : SO} {Z : Store} (hR : RowOk R) : ∃ (ys : List Int) (u : Int) (R' : SO), RowOk R' ∧ 1 ≤ ys.length ∧ ys.length ≤ 12 ∧ (∀ y ∈ ys, y = 0 ∨ y = 1) ∧ 0 ≤ u ∧ u < 200 ∧ F__law_calendar [.obj 0] (R :: Z) = .ok (.tup [.tup (ys.map D.int), .int u]) (R' :: Z) := by
  obtain ⟨a, R1, hR1, a0, a1, e1⟩ := takenR (Z := Z) (many := 12) hR (by decide) (by decide)
  obtain ⟨b, R2, hR2, b0, b1, e2⟩ := takenR (Z := Z) (many := 3) hR1 (by decide) (by decide)
  obtain ⟨c, R3, hR3, c0, c1, e3⟩ := takenR (Z := Z) (many := 1 + a + 1) hR2 (by omega) (by omega)
  obtain ⟨ds, R4, hR4, d0, d1, e4⟩ := years_drawn (Z := Z) (many := 1 + a) (a := .non) (b := .int b) (c := .int c) hR3 (by omega) (by omega)
  obtain ⟨es, f0, f1, e5⟩ := years_even (S := R4 :: Z) (m := 1 + a) (l := c) (a := some (.obj 0)) (b := some (.int b)) (e := some (.tup ds)) (by omega) (by omega) c0 (by omega)
  obtain ⟨g, R5, hR5, g0, g1, e6⟩ := takenR (Z := Z) (many := 20) hR4 (by decide) (by decide)
  obtain ⟨h, R6, hR6, h0, h1, e7⟩ := takenR (Z := Z) (many := 200) hR5 (by decide) (by decide)
  obtain ⟨x, R7, hR7, hx, e8⟩ := pickR (Z := Z) (xs := [.int g, .int h]) hR6 (by simp) (by simp) rfl
  obtain ⟨u, rfl, u0, u1⟩ : ∃ u : Int, x = .int u ∧ 0 ≤ u ∧ u < 200 := by
    rcases List.mem_cons.mp hx with rfl | hx
    · exact ⟨g, rfl, g0, by omega⟩
    · obtain rfl := List.mem_singleton.mp hx
      exact ⟨h, rfl, h0, h1⟩
  obtain ⟨ys1, rfl, k1⟩ := bits_ints d1
  obtain ⟨ys2, rfl, k2⟩ := bits_ints f1
  rw [List.length_map] at d0 f0
  by_cases hb : b = 0
  · refine ⟨ys2, u, R7, hR7, by omega, by omega, k2, u0, u1, ?_⟩
    subst hb
    simp [F__law_calendar, b__law_calendar, runF, start0, sCons, sAsg, sIf, sNil, asB, sRet, fTup, fLst, fCons, fNil, f2, gAdd, gEq, deq_int, fC, fCallF, fCall, fVar, pTup, pCons, pName, pNil, lineN, DL.gTup, items, retD, pur, purL, pur_ints, e1, e2, e3, e4, e5, e6, e7, e8]
  · refine ⟨ys1, u, R7, hR7, by omega, by omega, k1, u0, u1, ?_⟩
    simp [F__law_calendar, b__law_calendar, runF, start0, sCons, sAsg, sIf, sNil, asB, sRet, fTup, fLst, fCons, fNil, f2, gAdd, gEq, deq_int, fC, fCallF, fCall, fVar, pTup, pCons, pName, pNil, lineN, DL.gTup, items, retD, pur, purL, pur_ints, hb, e1, e2, e3, e4, e5, e6, e7, e8]
end KL

set_option Elab.async false
set_option linter.all false
set_option maxRecDepth 100000
set_option maxHeartbeats 4000000
/-! KL7: _law_ahead in closed form. -/
namespace KL
open PySem PySem.Spec PyProof.Rows L2 DL KA
/-- how far the years run ahead behind k of them -/
def aheadI (ys : List Int) (k : Nat) : Int := (ys.take k).sum * ys.length - k * ys.sum
def aheads (ys : List Int) : List Int := (List.range (ys.length + 1)).map (aheadI ys)
theorem ints_of (ys : List Int) : intsOf (ys.map D.int) = some ys := by
  induction ys with
  | nil => rfl
  | cons y ys ih => simp [intsOf, ih]
theorem cut_to (ys : List Int) (k : Nat) : cutL (ys.map D.int) none (some (k : Int)) = (ys.take k).map D.int := by
  unfold cutL
  rw [HT.sIx_none, HT.sIx_nat, List.drop_zero, Nat.sub_zero, List.map_take, List.length_map]
  by_cases h : k ≤ ys.length
  · rw [Nat.min_eq_left h]
  · rw [Nat.min_eq_right (by omega), List.take_of_length_le (by rw [List.length_map]; exact Nat.le_refl _), List.take_of_length_le (by rw [List.length_map]; omega)]
theorem mul_small {i j : Int} (h1 : -1000000 ≤ j) (h2 : j ≤ 1000000) : mulOk i j = true := decide_eq_true (.inr ⟨by omega, by omega⟩)
theorem mul_small' {i j : Int} (h1 : -1000000 ≤ i) (h2 : i ≤ 1000000) : mulOk i j = true := decide_eq_true (.inl ⟨by omega, by omega⟩)
theorem ints_take (ys : List Int) (k : Nat) : intsOf (List.take k (ys.map D.int)) = some (ys.take k) := by
  rw [← List.map_take]
  exact ints_of _
def elA : FE := f2 DL.gSub (f2 gMul (fCall DL.gSum (fCons (fSl (fVar 1) oNone (oSome (fVar 2))) fNil)) (fCall gLen (fCons (fVar 1) fNil))) (f2 gMul (fVar 2) (fCall DL.gSum (fCons (fVar 1) fNil)))
theorem elA_eq {t : D} {ys : List Int} {k : Nat} {S : Store} (hk : k ≤ 1000) (hl : ys.length ≤ 1000) : elA [some t, some (.tup (ys.map D.int)), some (.int (k : Int))] S = .ok (.int (aheadI ys k)) S := by
  have x1 : fCall DL.gSum (fCons (fSl (fVar 1) oNone (oSome (fVar 2))) fNil) [some t, some (.tup (ys.map D.int)), some (.int (k : Int))] S = .ok (.int (ys.take k).sum) S := by
    simp [fCall, DL.gSum, fCons, fNil, fSl, fVar, oNone, oSome, gSl, numsD, seqOf, cut_to, ints_of, ints_take]
  have x2 : fCall gLen (fCons (fVar 1) fNil) [some t, some (.tup (ys.map D.int)), some (.int (k : Int))] S = .ok (.int ys.length) S := by
    simp [fCall, gLen, fCons, fNil, fVar, seqOf]
  have x3 : fCall DL.gSum (fCons (fVar 1) fNil) [some t, some (.tup (ys.map D.int)), some (.int (k : Int))] S = .ok (.int ys.sum) S := by
    simp [fCall, DL.gSum, fCons, fNil, fVar, numsD, seqOf, ints_of]
  have y1 : f2 gMul (fCall DL.gSum (fCons (fSl (fVar 1) oNone (oSome (fVar 2))) fNil)) (fCall gLen (fCons (fVar 1) fNil)) [some t, some (.tup (ys.map D.int)), some (.int (k : Int))] S = .ok (.int ((ys.take k).sum * ys.length)) S := by
    unfold f2
    rw [x1, Res.bind_ok, x2, Res.bind_ok]
    have z : mulOk (ys.take k).sum (ys.length : Int) = true := mul_small (by omega) (by omega)
    simp only [gMul, z, if_true]
  have y2 : f2 gMul (fVar 2) (fCall DL.gSum (fCons (fVar 1) fNil)) [some t, some (.tup (ys.map D.int)), some (.int (k : Int))] S = .ok (.int (k * ys.sum)) S := by
    unfold f2
    rw [show fVar 2 [some t, some (.tup (ys.map D.int)), some (.int (k : Int))] S = .ok (.int (k : Int)) S from rfl, Res.bind_ok, x3, Res.bind_ok]
    have z : mulOk (k : Int) ys.sum = true := mul_small' (by omega) (by omega)
    simp only [gMul, z, if_true]
  unfold elA
  show (f2 gMul _ _ _ S).bind _ = _
  rw [y1, Res.bind_ok, y2]
  rfl
end KL

set_option Elab.async false
set_option linter.all false
set_option maxRecDepth 100000
set_option maxHeartbeats 4000000
/-! KR: big-step readings of the meanings. -/
namespace KL
open PySem PySem.Spec PyProof.Rows L2 DL KA
theorem ev2 {g : G2} {fa fb : FE} {ρ : Ev} {S S1 S2 : Store} {d e : D} {r : Res D} (h1 : fa ρ S = .ok d S1) (h2 : fb ρ S1 = .ok e S2) (h3 : g d e S2 = r) : f2 g fa fb ρ S = r := by
  unfold f2; rw [h1, Res.bind_ok, h2, Res.bind_ok, h3]
theorem evB2 {f : FE} {ρ : Ev} {S S1 : Store} {b : Bool} (h : f ρ S = .ok (.bl b) S1) : asB f ρ S = .ok b S1 := by
  unfold asB; rw [h]; rfl
theorem evNil {ρ : Ev} {S : Store} : fNil ρ S = .ok [] S := rfl
theorem evCons {f : FE} {g : FL} {ρ : Ev} {S S1 S2 : Store} {d : D} {ds : List D} (h1 : f ρ S = .ok d S1) (h2 : g ρ S1 = .ok ds S2) : fCons f g ρ S = .ok (d :: ds) S2 := by
  unfold fCons; rw [h1, Res.bind_ok, h2]; rfl
theorem evCall {g : GL} {fs : FL} {ρ : Ev} {S S1 : Store} {ds : List D} {r : Res D} (h1 : fs ρ S = .ok ds S1) (h2 : g ds S1 = r) : fCall g fs ρ S = r := by
  unfold fCall; rw [h1, Res.bind_ok, h2]
theorem evCallF {F : GF} {fs : FL} {ρ : Ev} {S S1 : Store} {ds : List D} {r : Res D} (h1 : fs ρ S = .ok ds S1) (h2 : F ds S1 = r) : fCallF F fs ρ S = r := by
  unfold fCallF; rw [h1, Res.bind_ok, h2]
theorem evTup {fs : FL} {ρ : Ev} {S S1 : Store} {ds : List D} (h1 : fs ρ S = .ok ds S1) (hl : ds.length ≤ 1000) : fTup fs ρ S = .ok (.tup ds) S1 := by
  unfold fTup; rw [h1, Res.bind_ok]; exact if_pos (by unfold lineN; omega)
theorem evLst {fs : FL} {ρ : Ev} {S S1 : Store} {ds : List D} (h1 : fs ρ S = .ok ds S1) (hl : ds.length ≤ 1000) : fLst fs ρ S = .ok (.lst ds) S1 := by
  unfold fLst; rw [h1, Res.bind_ok]; exact if_pos (by unfold lineN; omega)
theorem stNext {f g : FS} {ρ ρ1 : Ev} {S S1 : Store} {o : Out} (h1 : f ρ S = .nx ρ1 S1) (h2 : g ρ1 S1 = o) : sCons f g ρ S = o := by
  unfold sCons; rw [h1, Out.next_nx, h2]
theorem stStop {f g : FS} {ρ : Ev} {S S1 : Store} {d : D} (h1 : f ρ S = .rt d S1) : sCons f g ρ S = .rt d S1 := by
  unfold sCons; rw [h1]; rfl
theorem stRet {f : FE} {ρ : Ev} {S S1 : Store} {d : D} (h : f ρ S = .ok d S1) : sRet f ρ S = .rt d S1 := by
  unfold sRet; rw [h]; rfl
def notRow : D → Bool
  | .row _ => false
  | _ => true
theorem pName_ok {i : Nat} {d : D} {ρ : Ev} {S : Store} (h : notRow d = true) : pName i d ρ S = .ok (ρ.set i (some d)) S := by
  cases d <;> first | rfl | cases h
theorem stAsg {f : FE} {i : Nat} {ρ : Ev} {S S1 : Store} {d : D} (h : f ρ S = .ok d S1) (hn : notRow d = true := by rfl) : sAsg f (pName i) ρ S = .nx (ρ.set i (some d)) S1 := by
  unfold sAsg; rw [h, Res.out_ok, pName_ok hn]; rfl
theorem stIfT {c : FT} {f g : FS} {ρ : Ev} {S S1 : Store} {o : Out} (h : c ρ S = .ok true S1) (h2 : f ρ S1 = o) : sIf c f g ρ S = o := by
  unfold sIf; rw [h, Res.out_ok]; exact h2
theorem stIfF {c : FT} {f g : FS} {ρ : Ev} {S S1 : Store} {o : Out} (h : c ρ S = .ok false S1) (h2 : g ρ S1 = o) : sIf c f g ρ S = o := by
  unfold sIf; rw [h, Res.out_ok]; exact h2
theorem runRt {n m : Nat} {body : FS} {ds : List D} {S S1 S2 : Store} {d : D} (hl : ds.length = n) (hb : body (start0 m ds) S = .rt d S1) (hp : pur d = true) (hS : S1.take S.length = S2) : runF n m body ds S = .ok d S2 := by
  unfold runF
  rw [if_pos hl, hb]
  show retD S.length d S1 = _
  unfold retD
  split
  · cases hp
  · rw [if_pos hp, hS]
theorem r1_ok {fs : FL} {ρ : Ev} {S : Store} {n : Nat} (h : fs ρ S = .ok [.int (n : Int)] S) (hn : n ≤ 1000000) : iR1 fs ρ S = .ok (upto 0 n) S := by
  unfold iR1
  rw [h, Res.bind_ok]
  have z : -bigN ≤ (n : Int) ∧ (n : Int) < bigN := ⟨by unfold bigN; omega, by unfold bigN; omega⟩
  simp only [z, and_self, if_true, Int.toNat_natCast]
theorem takeS (S : Store) : S.take S.length = S := List.take_length
theorem not_obj_ints (ys : List Int) : pur (.lst (ys.map D.int)) = true := pur_ints ys
end KL

set_option Elab.async false
set_option linter.all false
set_option maxRecDepth 100000
set_option maxHeartbeats 4000000
/-! KM1: the words of DL as rewriting rules, evaluated from the left. -/
namespace KL
open PySem PySem.Spec PyProof.Rows L2 DL KA
section
variable {ρ : Ev} {S : Store}
@[simp ↓] theorem cg_bind {α β : Type} {r : Res α} {f : α → Store → Res β} : r.bind f = match r with | .ok a S => f a S | .exc c fs S => .exc c fs S | .bad => .bad := id rfl
@[simp ↓] theorem cg_out {α : Type} {r : Res α} {f : α → Store → Out} : r.out f = match r with | .ok a S => f a S | .exc c fs S => .exc c fs S | .bad => .bad := id rfl
@[simp ↓] theorem cg_next {o : Out} {f : Ev → Store → Out} : o.next f = match o with | .nx ρ S => f ρ S | .rt d S => .rt d S | .exc c fs S => .exc c fs S | .bad => .bad := by cases o <;> rfl
@[simp] theorem w_out {α : Type} {a : α} {f : α → Store → Out} : (Res.ok a S).out f = f a S := id rfl
@[simp] theorem w_outx {α : Type} {c : Nat} {fs : List (Nat × D)} {f : α → Store → Out} : (Res.exc c fs S : Res α).out f = .exc c fs S := id rfl
@[simp] theorem w_next {f : Ev → Store → Out} : (Out.nx ρ S).next f = f ρ S := id rfl
@[simp] theorem w_nextr {d : D} {f : Ev → Store → Out} : (Out.rt d S).next f = .rt d S := id rfl
@[simp] theorem w_nextx {c : Nat} {fs : List (Nat × D)} {f : Ev → Store → Out} : (Out.exc c fs S).next f = .exc c fs S := id rfl
@[simp] theorem w_var {i : Nat} : fVar i ρ S = (match ρ[i]? with | some (some d) => Res.ok d S | _ => .bad) := id rfl
@[simp] theorem w_c {d : D} : fC d ρ S = .ok d S := id rfl
@[simp] theorem w_nil : fNil ρ S = .ok [] S := id rfl
@[simp] theorem w_cons {f : FE} {g : FL} : fCons f g ρ S = (f ρ S).bind fun d S1 => (g ρ S1).bind fun ds S2 => .ok (d :: ds) S2 := id rfl
@[simp] theorem w_tup {g : FL} : fTup g ρ S = (g ρ S).bind fun ds S1 => if ds.length ≤ 1000000 then .ok (.tup ds) S1 else .bad := id rfl
@[simp] theorem w_lst {g : FL} : fLst g ρ S = (g ρ S).bind fun ds S1 => if ds.length ≤ 1000000 then .ok (.lst ds) S1 else .bad := id rfl
@[simp] theorem w_2 {g : G2} {fa fb : FE} : f2 g fa fb ρ S = (fa ρ S).bind fun d S1 => (fb ρ S1).bind fun e S2 => g d e S2 := id rfl
@[simp] theorem w_asB {f : FE} : asB f ρ S = (f ρ S).bind fun d S1 => match d with | .bl b => .ok b S1 | _ => .bad := id rfl
@[simp] theorem w_3 {g g' : G2} {fa fb fc : FE} : f3 g g' fa fb fc ρ S = (fa ρ S).bind fun d S1 => (fb ρ S1).bind fun e S2 => (g d e S2).bind fun z S3 => match z with
  | .bl true => (fc ρ S3).bind fun h S4 => g' e h S4
  | .bl false => .ok (.bl false) S3
  | _ => .bad := id rfl
@[simp] theorem w_andT {f g : FT} : fAndT f g ρ S = (f ρ S).bind fun b S1 => if b = true then g ρ S1 else .ok false S1 := id rfl
@[simp] theorem w_orT {f g : FT} : fOrT f g ρ S = (f ρ S).bind fun b S1 => if b = true then .ok true S1 else g ρ S1 := id rfl
@[simp] theorem w_notT {f : FT} : fNotT f ρ S = (f ρ S).bind fun b S1 => .ok (!b) S1 := id rfl
@[simp] theorem w_and {f g : FE} : fAnd f g ρ S = (f ρ S).bind fun d S1 => match d with | .bl true => g ρ S1 | .bl false => .ok (.bl false) S1 | _ => .bad := id rfl
@[simp] theorem w_not {f : FE} : fNot f ρ S = (f ρ S).bind fun d S1 => match d with | .bl b => .ok (.bl (!b)) S1 | _ => .bad := id rfl
@[simp] theorem w_if {c : FT} {f g : FE} : fIf c f g ρ S = (c ρ S).bind fun b S1 => if b = true then f ρ S1 else g ρ S1 := id rfl
@[simp] theorem w_neg {f : FE} : fNeg f ρ S = (f ρ S).bind fun d S1 => match d with | .int i => .ok (.int (-i)) S1 | _ => .bad := id rfl
@[simp] theorem w_call {g : GL} {fs : FL} : fCall g fs ρ S = (fs ρ S).bind g := id rfl
@[simp] theorem w_callF {F : GF} {fs : FL} : fCallF F fs ρ S = (fs ρ S).bind F := id rfl
@[simp] theorem w_fld {f : Nat} {e : FE} : fFld f e ρ S = (e ρ S).bind fun d S1 => gFld f d S1 := id rfl
@[simp] theorem w_oN : oNone ρ S = .ok none S := id rfl
@[simp] theorem w_oS {f : FE} : oSome f ρ S = (f ρ S).bind fun d S1 => match d with | .int i => .ok (some i) S1 | _ => .bad := id rfl
@[simp] theorem w_sl {f : FE} {lo hi : FO} : fSl f lo hi ρ S = (f ρ S).bind fun d S1 => (lo ρ S1).bind fun l S2 => (hi ρ S2).bind fun u S3 => gSl d l u S3 := id rfl
@[simp] theorem w_mthL {g : GM} {fo : FE} {fs : FL} : fMthL g fo fs ρ S = (fo ρ S).bind fun d S1 => if isL d S1 = true then (fs ρ S1).bind fun ds S2 => g d ds S2 else .bad := id rfl
@[simp] theorem w_callV {tab : Nat → Option GF} {i : Nat} {fs : FL} : fCallV tab i fs ρ S = (match ρ[i]? with
  | some (some (.fn j)) => (match tab j with | some F => (fs ρ S).bind F | none => .bad)
  | _ => .bad) := id rfl
@[simp] theorem w_meth {c : Nat} {F : GF} {fo : FE} {fs : FL} : fMeth c F fo fs ρ S = (fo ρ S).bind fun d S1 => match d with
  | .ins c' _ => if c' = c then (fs ρ S1).bind fun ds S2 => F (d :: ds) S2 else .bad
  | _ => .bad := id rfl
@[simp] theorem w_make {c : Nat} {F : GF} {fs : FL} : fMake c F fs ρ S = (fs ρ S).bind (makeD c F) := id rfl
@[simp] theorem w_scons {f g : FS} : sCons f g ρ S = (f ρ S).next g := id rfl
@[simp] theorem w_snil : sNil ρ S = .nx ρ S := id rfl
@[simp] theorem w_sexpr {f : FE} : sExpr f ρ S = (f ρ S).out fun _ S1 => .nx ρ S1 := id rfl
@[simp] theorem w_sret {f : FE} : sRet f ρ S = (f ρ S).out fun d S1 => .rt d S1 := id rfl
@[simp] theorem w_sif {c : FT} {f g : FS} : sIf c f g ρ S = (c ρ S).out fun b S1 => if b = true then f ρ S1 else g ρ S1 := id rfl
@[simp] theorem w_asg {f : FE} {p : FG} : sAsg f p ρ S = (f ρ S).out fun d S1 => (p d ρ S1).out fun ρ1 S2 => .nx ρ1 S2 := id rfl
@[simp] theorem w_par {i j : Nat} {g : FL} : sPar i j g ρ S = (g ρ S).out fun ds S1 => match ds with | [x, y] => .nx ((ρ.set i (some x)).set j (some y)) S1 | _ => .bad := id rfl
@[simp] theorem w_par3 {i j l : Nat} {g : FL} : sPar3 i j l g ρ S = (g ρ S).out fun ds S1 => match ds with | [x, y, z] => .nx (((ρ.set i (some x)).set j (some y)).set l (some z)) S1 | _ => .bad := id rfl
@[simp] theorem w_raise {c : Nat} {fids : List Nat} {g : FL} : sRaise c fids g ρ S = (g ρ S).out fun ds S1 => if ds.length = fids.length then .exc c (fids.zip ds).reverse S1 else .bad := id rfl
@[simp] theorem w_for {fi : FI} {p : FG} {body : FS} : sFor fi p body ρ S = (fi ρ S).out fun ds S1 => loopS p body ds ρ S1 := id rfl
@[simp] theorem w_seq {fe : FE} : iSeq fe ρ S = (fe ρ S).bind fun d S1 => match itemsI d with | some ds => .ok ds S1 | none => .bad := id rfl
@[simp] theorem w_en {fe : FE} : iEn fe ρ S = (fe ρ S).bind fun d S1 => match itemsI d with | some ds => .ok ((enumL 0 ds).map D.row) S1 | none => .bad := id rfl
@[simp] theorem w_loop0 {p : FG} {body : FS} : loopS p body [] ρ S = .nx ρ S := id rfl
@[simp] theorem w_loop1 {p : FG} {body : FS} {d : D} {ds : List D} : loopS p body (d :: ds) ρ S = ((p d ρ S).out fun ρ1 S1 => body ρ1 S1).next (loopS p body ds) := id rfl
@[simp] theorem p_int {i : Nat} {x : Int} : pName i (.int x) ρ S = .ok (ρ.set i (some (.int x))) S := id rfl
@[simp] theorem p_tup {i : Nat} {x : List D} : pName i (.tup x) ρ S = .ok (ρ.set i (some (.tup x))) S := id rfl
@[simp] theorem p_lst {i : Nat} {x : List D} : pName i (.lst x) ρ S = .ok (ρ.set i (some (.lst x))) S := id rfl
@[simp] theorem p_ins {i c : Nat} {x : List (Nat × D)} : pName i (.ins c x) ρ S = .ok (ρ.set i (some (.ins c x))) S := id rfl
@[simp] theorem p_bl {i : Nat} {x : Bool} : pName i (.bl x) ρ S = .ok (ρ.set i (some (.bl x))) S := id rfl
@[simp] theorem p_str {i : Nat} {x : Str} : pName i (.str x) ρ S = .ok (ρ.set i (some (.str x))) S := id rfl
@[simp] theorem p_non {i : Nat} : pName i .non ρ S = .ok (ρ.set i (some .non)) S := id rfl
@[simp] theorem p_obj {i x : Nat} : pName i (.obj x) ρ S = .ok (ρ.set i (some (.obj x))) S := id rfl
@[simp] theorem p_pnil : pNil [] ρ S = .ok ρ S := id rfl
@[simp] theorem p_pcons {p : FG} {q : FGs} {d : D} {r : List D} : pCons p q (d :: r) ρ S = (p d ρ S).bind fun ρ1 S1 => q r ρ1 S1 := id rfl
@[simp] theorem p_ptup {n : Nat} {q : FGs} {ds : List D} : pTup n q (.tup ds) ρ S = if ds.length = n then q ds ρ S else .bad := id rfl
@[simp] theorem p_prow {n : Nat} {q : FGs} {ds : List D} : pTup n q (.row ds) ρ S = if ds.length = n then q ds ρ S else .bad := id rfl
@[simp] theorem w_run {n m : Nat} {body : FS} {ds : List D} : runF n m body ds S = if ds.length = n then
    match body (start0 m ds) S with
    | .nx _ S' => .ok .non (S'.take S.length)
    | .rt d S' => retD S.length d S'
    | .exc c fs S' => if purF fs = true then .exc c fs (S'.take S.length) else .bad
    | .bad => .bad
  else .bad := id rfl
@[simp] theorem w_reti {n : Nat} {x : Int} : retD n (.int x) S = .ok (.int x) (S.take n) := id rfl
@[simp] theorem w_retb {n : Nat} {x : Bool} : retD n (.bl x) S = .ok (.bl x) (S.take n) := id rfl
@[simp] theorem w_rets {n : Nat} {x : Str} : retD n (.str x) S = .ok (.str x) (S.take n) := id rfl
@[simp] theorem w_retn {n : Nat} : retD n .non S = .ok .non (S.take n) := id rfl
@[simp] theorem w_rett {n : Nat} {x : List D} : retD n (.tup x) S = if purL x = true then .ok (.tup x) (S.take n) else .bad := id rfl
@[simp] theorem w_retl {n : Nat} {x : List D} : retD n (.lst x) S = if purL x = true then .ok (.lst x) (S.take n) else .bad := id rfl
/- the operators at values -/
@[simp] theorem g_sub {i j : Int} : DL.gSub (.int i) (.int j) S = .ok (.int (i - j)) S := id rfl
@[simp] theorem g_add {i j : Int} : gAdd (.int i) (.int j) S = .ok (.int (i + j)) S := id rfl
@[simp] theorem g_addT {i j : List D} : gAdd (.tup i) (.tup j) S = if i.length + j.length ≤ 1000000 then .ok (.tup (i ++ j)) S else .bad := id rfl
@[simp] theorem g_le {i j : Int} : gLe (.int i) (.int j) S = .ok (.bl (decide (i ≤ j))) S := id rfl
@[simp] theorem g_lt {i j : Int} : gLt (.int i) (.int j) S = .ok (.bl (decide (i < j))) S := id rfl
@[simp] theorem g_gt {i j : Int} : gGt (.int i) (.int j) S = .ok (.bl (decide (j < i))) S := id rfl
@[simp] theorem g_ge {i j : Int} : gGe (.int i) (.int j) S = .ok (.bl (decide (j ≤ i))) S := id rfl
theorem g_mul {i j : Int} (h : mulOk i j = true) : gMul (.int i) (.int j) S = .ok (.int (i * j)) S := if_pos h
theorem g_mod {i j : Int} (h : 0 < j) : gMod (.int i) (.int j) S = .ok (.int (i % j)) S := by
  show (if decide (0 < j) = true then _ else _) = _
  rw [if_pos (decide_eq_true h)]
theorem g_div {i j : Int} (h : 0 < j) (h2 : j ≤ 1000000) : gDiv (.int i) (.int j) S = .ok (.int (i / j)) S := by
  show (if decide (0 < j ∧ j < 1073741824) = true then _ else _) = _
  rw [if_pos (decide_eq_true ⟨h, by omega⟩)]
@[simp] theorem g_eq {i j : Int} : gEq (.int i) (.int j) S = .ok (.bl (i == j)) S := by simp only [gEq, deq_int]
@[simp] theorem g_ne {i j : Int} : gNe (.int i) (.int j) S = .ok (.bl (!(i == j))) S := by simp only [gNe, deq_int]
theorem deq_of {d e : D} {p q : PyData} (h1 : toPy d = some p) (h2 : toPy e = some q) (h3 : SeqAt.shaped p = true) (h4 : SeqAt.shaped q = true) : deq d e = some (PyData.eqv p q) := by
  unfold deq; rw [h1, h2]; exact if_pos ⟨h3, h4⟩
theorem deq_bl {i j : Bool} : deq (.bl i) (.bl j) = some (i == j) := by
  rw [deq_of (p := .bool i) (q := .bool j) rfl rfl (by simp [SeqAt.shaped, PyData.canLay0, PyData.depth]) (by simp [SeqAt.shaped, PyData.canLay0, PyData.depth])]
  simp only [PyData.eqv]
@[simp] theorem g_eqB {i j : Bool} : gEq (.bl i) (.bl j) S = .ok (.bl (i == j)) S := by simp only [gEq, deq_bl]
@[simp] theorem g_neB {i j : Bool} : gNe (.bl i) (.bl j) S = .ok (.bl (!(i == j))) S := by simp only [gNe, deq_bl]
theorem toPy_ints (xs : List Int) : toPyL (xs.map D.int) = some (xs.map PyData.int) := by
  induction xs with
  | nil => rfl
  | cons x xs ih => rw [List.map_cons, toPyL, ih]; rfl
theorem toPy_tints (xs : List Int) : toPy (.tup (xs.map D.int)) = some (.tuple (xs.map PyData.int)) := by rw [toPy, toPy_ints]; rfl
theorem toPy_lints (xs : List Int) : toPy (.lst (xs.map D.int)) = some (.list (xs.map PyData.int)) := by rw [toPy, toPy_ints]; rfl
theorem lay_ints (xs : List Int) : PyData.canLayAll0 (xs.map PyData.int) = true ∧ PyData.depthAll (xs.map PyData.int) ≤ 1 := by
  induction xs with
  | nil => exact ⟨rfl, Nat.zero_le _⟩
  | cons x xs ih =>
    rw [List.map_cons]
    refine ⟨?_, ?_⟩
    · rw [PyData.canLayAll0, ih.1]; rfl
    · rw [PyData.depthAll]
      refine Nat.max_le.mpr ⟨?_, ih.2⟩
      simp [PyData.depth]
theorem eqv_ints : ∀ (xs ys : List Int), PyData.eqvAll (xs.map PyData.int) (ys.map PyData.int) = decide (xs = ys)
  | [], [] => rfl
  | [], _ :: _ => rfl
  | _ :: _, [] => rfl
  | x :: xs, y :: ys => by
    rw [List.map_cons, List.map_cons, PyData.eqvAll, eqv_ints xs ys]
    simp only [PyData.eqv]
    by_cases h : x = y <;> by_cases h2 : xs = ys <;> simp [h, h2]
theorem deq_tints (xs ys : List Int) : deq (.tup (xs.map D.int)) (.tup (ys.map D.int)) = some (decide (xs = ys)) := by
  rw [deq_of (toPy_tints xs) (toPy_tints ys)]
  · rw [PyData.eqv, eqv_ints]
  · simp only [SeqAt.shaped, PyData.canLay0, (lay_ints xs).1, PyData.depth, Bool.true_and]
    exact decide_eq_true (by have := (lay_ints xs).2; omega)
  · simp only [SeqAt.shaped, PyData.canLay0, (lay_ints ys).1, PyData.depth, Bool.true_and]
    exact decide_eq_true (by have := (lay_ints ys).2; omega)
theorem deq_lints (xs ys : List Int) : deq (.lst (xs.map D.int)) (.lst (ys.map D.int)) = some (decide (xs = ys)) := by
  rw [deq_of (toPy_lints xs) (toPy_lints ys)]
  · rw [PyData.eqv, eqv_ints]
  · simp only [SeqAt.shaped, PyData.canLay0, (lay_ints xs).1, PyData.depth, Bool.true_and]
    exact decide_eq_true (by have := (lay_ints xs).2; omega)
  · simp only [SeqAt.shaped, PyData.canLay0, (lay_ints ys).1, PyData.depth, Bool.true_and]
    exact decide_eq_true (by have := (lay_ints ys).2; omega)
/- kinds of values -/
def ty1 : D → Bool
  | .non => true
  | .bl _ => true
  | .int _ => true
  | .str _ => true
  | .tup _ => true
  | .lst _ => true
  | _ => false
def tyN : D → String
  | .non => "NoneType"
  | .bl _ => "bool"
  | .int _ => "int"
  | .str _ => "str"
  | .tup _ => "tuple"
  | _ => "list"
theorem tyD_of {d : D} (h : ty1 d = true) : tyD d S = some (.inl (tyN d)) := by
  cases d <;> first | rfl | (cases h; done)
@[simp] theorem isi_non_int  : gIsi [.non, .ty "int"] S = .ok (.bl false) S := id rfl
@[simp] theorem isi_non_bool  : gIsi [.non, .ty "bool"] S = .ok (.bl false) S := id rfl
@[simp] theorem isi_non_str  : gIsi [.non, .ty "str"] S = .ok (.bl false) S := id rfl
@[simp] theorem isi_non_tuple  : gIsi [.non, .ty "tuple"] S = .ok (.bl false) S := id rfl
@[simp] theorem isi_non_list  : gIsi [.non, .ty "list"] S = .ok (.bl false) S := id rfl
@[simp] theorem isi_non_seq  : gIsi [.non, .tup [.ty "tuple", .ty "list"]] S = .ok (.bl false) S := id rfl
@[simp] theorem isi_bl_int {x : Bool} : gIsi [(.bl x), .ty "int"] S = .ok (.bl true) S := id rfl
@[simp] theorem isi_bl_bool {x : Bool} : gIsi [(.bl x), .ty "bool"] S = .ok (.bl true) S := id rfl
@[simp] theorem isi_bl_str {x : Bool} : gIsi [(.bl x), .ty "str"] S = .ok (.bl false) S := id rfl
@[simp] theorem isi_bl_tuple {x : Bool} : gIsi [(.bl x), .ty "tuple"] S = .ok (.bl false) S := id rfl
@[simp] theorem isi_bl_list {x : Bool} : gIsi [(.bl x), .ty "list"] S = .ok (.bl false) S := id rfl
@[simp] theorem isi_bl_seq {x : Bool} : gIsi [(.bl x), .tup [.ty "tuple", .ty "list"]] S = .ok (.bl false) S := id rfl
@[simp] theorem isi_int_int {x : Int} : gIsi [(.int x), .ty "int"] S = .ok (.bl true) S := id rfl
@[simp] theorem isi_int_bool {x : Int} : gIsi [(.int x), .ty "bool"] S = .ok (.bl false) S := id rfl
@[simp] theorem isi_int_str {x : Int} : gIsi [(.int x), .ty "str"] S = .ok (.bl false) S := id rfl
@[simp] theorem isi_int_tuple {x : Int} : gIsi [(.int x), .ty "tuple"] S = .ok (.bl false) S := id rfl
@[simp] theorem isi_int_list {x : Int} : gIsi [(.int x), .ty "list"] S = .ok (.bl false) S := id rfl
@[simp] theorem isi_int_seq {x : Int} : gIsi [(.int x), .tup [.ty "tuple", .ty "list"]] S = .ok (.bl false) S := id rfl
@[simp] theorem isi_str_int {x : Str} : gIsi [(.str x), .ty "int"] S = .ok (.bl false) S := id rfl
@[simp] theorem isi_str_bool {x : Str} : gIsi [(.str x), .ty "bool"] S = .ok (.bl false) S := id rfl
@[simp] theorem isi_str_str {x : Str} : gIsi [(.str x), .ty "str"] S = .ok (.bl true) S := id rfl
@[simp] theorem isi_str_tuple {x : Str} : gIsi [(.str x), .ty "tuple"] S = .ok (.bl false) S := id rfl
@[simp] theorem isi_str_list {x : Str} : gIsi [(.str x), .ty "list"] S = .ok (.bl false) S := id rfl
@[simp] theorem isi_str_seq {x : Str} : gIsi [(.str x), .tup [.ty "tuple", .ty "list"]] S = .ok (.bl false) S := id rfl
@[simp] theorem isi_tup_int {x : List D} : gIsi [(.tup x), .ty "int"] S = .ok (.bl false) S := id rfl
@[simp] theorem isi_tup_bool {x : List D} : gIsi [(.tup x), .ty "bool"] S = .ok (.bl false) S := id rfl
@[simp] theorem isi_tup_str {x : List D} : gIsi [(.tup x), .ty "str"] S = .ok (.bl false) S := id rfl
@[simp] theorem isi_tup_tuple {x : List D} : gIsi [(.tup x), .ty "tuple"] S = .ok (.bl true) S := id rfl
@[simp] theorem isi_tup_list {x : List D} : gIsi [(.tup x), .ty "list"] S = .ok (.bl false) S := id rfl
@[simp] theorem isi_tup_seq {x : List D} : gIsi [(.tup x), .tup [.ty "tuple", .ty "list"]] S = .ok (.bl true) S := id rfl
@[simp] theorem isi_lst_int {x : List D} : gIsi [(.lst x), .ty "int"] S = .ok (.bl false) S := id rfl
@[simp] theorem isi_lst_bool {x : List D} : gIsi [(.lst x), .ty "bool"] S = .ok (.bl false) S := id rfl
@[simp] theorem isi_lst_str {x : List D} : gIsi [(.lst x), .ty "str"] S = .ok (.bl false) S := id rfl
@[simp] theorem isi_lst_tuple {x : List D} : gIsi [(.lst x), .ty "tuple"] S = .ok (.bl false) S := id rfl
@[simp] theorem isi_lst_list {x : List D} : gIsi [(.lst x), .ty "list"] S = .ok (.bl true) S := id rfl
@[simp] theorem isi_lst_seq {x : List D} : gIsi [(.lst x), .tup [.ty "tuple", .ty "list"]] S = .ok (.bl true) S := id rfl
def withB (d : D) (lo hi : Int) : Bool := match d with | .int v => decide (lo ≤ v) && decide (v ≤ hi) | _ => false
theorem is_whole_eq {d : D} (h : ty1 d = true) : F_is_whole [d] S = .ok (.bl (tyN d == "int")) S := by
  cases d <;> first | (cases h; done) | simp [F_is_whole, b_is_whole, start0, ty1, tyN, pur, takeS]
theorem is_within_eq {d : D} {lo hi : Int} (h : ty1 d = true) : F_is_within [d, .int lo, .int hi] S = .ok (.bl (withB d lo hi)) S := by
  have e := is_whole_eq (S := S) h
  cases d with
  | int i => by_cases q : lo ≤ i <;> simp [F_is_within, b_is_within, start0, e, tyN, withB, q]
  | _ => first | (cases h; done) | simp [F_is_within, b_is_within, start0, e, tyN, withB]
theorem law_whole_eq {d : D} {lo hi : Int} (h : ty1 d = true) : F__law_whole [d, .int lo, .int hi] S = .ok (.bl (withB d lo hi)) S := by
  cases d with
  | int i => by_cases q : lo ≤ i <;> simp [F__law_whole, b__law_whole, start0, withB, q]
  | _ => first | (cases h; done) | simp [F__law_whole, b__law_whole, start0, withB]
def rowB (d : D) (n : Int) : Bool := match d with | .tup ds => (ds.length : Int) == n | _ => false
theorem is_row_eq {d : D} {n : Int} (h : ty1 d = true) : F_is_row [d, .int n] S = .ok (.bl (rowB d n)) S := by
  cases d <;> first | (cases h; done) | simp [F_is_row, b_is_row, start0, ty1, tyN, pur, takeS, rowB, gLen, seqOf]
end
end KL

set_option Elab.async false
set_option linter.all false
set_option maxRecDepth 100000
set_option maxHeartbeats 4000000
/-! KM2: _law_ahead and heights_of. -/
namespace KL
open PySem PySem.Spec PyProof.Rows L2 DL KA
def fA (ys : List Int) (d : D) : List D := match d with | .int k => [.int (aheadI ys k.toNat)] | _ => []
theorem fA_all (ys : List Int) (n : Nat) : (upto 0 n).flatMap (fA ys) = ((List.range n).map (aheadI ys)).map D.int := by
  unfold upto
  rw [List.flatMap_map]
  generalize List.range n = l
  induction l with
  | nil => rfl
  | cons k l ih =>
    rw [List.flatMap_cons, ih]
    show [D.int (aheadI ys ((0 : Int) + (k : Int)).toNat)] ++ _ = _
    rw [Int.zero_add, Int.toNat_natCast]
    rfl
theorem lc_ahead {t : D} {ys : List Int} {S : Store} (hl : ys.length ≤ 900) : fLc [2] (iR1 (fCons (f2 gAdd (fCall gLen (fCons (fVar 1) fNil)) (fC (.int 1))) fNil)) (cName 2) fYes elA [some t, some (.tup (ys.map D.int)), none] S = .ok (.lst ((aheads ys).map D.int)) S := by
  have e : iR1 (fCons (f2 gAdd (fCall gLen (fCons (fVar 1) fNil)) (fC (.int 1))) fNil) [some t, some (.tup (ys.map D.int)), none] S = .ok (upto 0 (ys.length + 1)) S := by
    refine r1_ok ?_ (by omega)
    simp [gLen, seqOf]
  have := fLc_pure (S0 := S) (vs := [2]) (p := cName 2) (t := fYes) (e := elA) (f := fA ys) e (fun d hd => by
    obtain ⟨i, hi, rfl⟩ := mem_upto hd
    refine ⟨_, rfl, fun acc => .inr ⟨rfl, .int (aheadI ys i), ?_, rfl, ?_⟩⟩
    · show elA [some t, some (.tup (ys.map D.int)), some (.int (0 + (i : Int)))] _ = _
      rw [Int.zero_add]
      exact elA_eq (by omega) (by omega)
    · show [D.int (aheadI ys ((0 : Int) + (i : Int)).toNat)] = _
      rw [Int.zero_add, Int.toNat_natCast]) (by rw [len_upto]; unfold lineN; omega)
  rw [this, fA_all]
  rfl
theorem ahead_eq {ys : List Int} {rest : List D} {S : Store} (hl : ys.length ≤ 900) : F__law_ahead [.tup (.tup (ys.map D.int) :: rest)] S = .ok (.lst ((aheads ys).map D.int)) S := by
  unfold F__law_ahead
  refine runRt rfl ?_ (pur_ints _) (takeS S)
  refine stNext (ρ1 := [some (.tup (.tup (ys.map D.int) :: rest)), some (.tup (ys.map D.int)), none]) (S1 := S) ?_ (stRet (lc_ahead hl))
  simp [start0, gIx, seqOf, atI, ixN]
/-- a calendar -/
def told (ys : List Int) (u : Int) : D := .tup [.tup (ys.map D.int), .int u]
def cal (ys : List Int) (u : Int) : D := .ins 0 [(5, told ys u), (6, .tup (ys.map D.int)), (7, .int u)]
section
variable {S : Store}
@[simp] theorem fld5 {ys : List Int} {u : Int} : gFld 5 (cal ys u) S = .ok (told ys u) S := rfl
@[simp] theorem fld6 {ys : List Int} {u : Int} : gFld 6 (cal ys u) S = .ok (.tup (ys.map D.int)) S := rfl
@[simp] theorem fld7 {ys : List Int} {u : Int} : gFld 7 (cal ys u) S = .ok (.int u) S := rfl
@[simp] theorem len_tints {ys : List Int} : gLen [.tup (ys.map D.int)] S = .ok (.int ys.length) S := by simp [gLen, seqOf]
@[simp] theorem len_lints {ys : List Int} : gLen [.lst (ys.map D.int)] S = .ok (.int ys.length) S := by simp [gLen, seqOf, items]
@[simp] theorem sum_tints {ys : List Int} : DL.gSum [.tup (ys.map D.int)] S = .ok (.int ys.sum) S := by simp [DL.gSum, numsD, seqOf, ints_of]
@[simp] theorem sum_lints {ys : List Int} : DL.gSum [.lst (ys.map D.int)] S = .ok (.int ys.sum) S := by simp [DL.gSum, numsD, seqOf, items, ints_of]
def mx : List Int → Int
  | [] => 0
  | x :: xs => maxI x xs
def mn : List Int → Int
  | [] => 0
  | x :: xs => minI x xs
theorem max_tints {ys : List Int} (h : ys ≠ []) : gMax [.tup (ys.map D.int)] S = .ok (.int (mx ys)) S := by
  cases ys with
  | nil => exact absurd rfl h
  | cons y ys => simp [gMax, numsD, seqOf, intsOf, ints_of, mx]
theorem max_lints {ys : List Int} (h : ys ≠ []) : gMax [.lst (ys.map D.int)] S = .ok (.int (mx ys)) S := by
  cases ys with
  | nil => exact absurd rfl h
  | cons y ys => simp [gMax, numsD, seqOf, items, intsOf, ints_of, mx]
theorem min_tints {ys : List Int} (h : ys ≠ []) : gMin [.tup (ys.map D.int)] S = .ok (.int (mn ys)) S := by
  cases ys with
  | nil => exact absurd rfl h
  | cons y ys => simp [gMin, numsD, seqOf, intsOf, ints_of, mn]
theorem min_lints {ys : List Int} (h : ys ≠ []) : gMin [.lst (ys.map D.int)] S = .ok (.int (mn ys)) S := by
  cases ys with
  | nil => exact absurd rfl h
  | cons y ys => simp [gMin, numsD, seqOf, items, intsOf, ints_of, mn]
theorem aheads_ne (ys : List Int) : aheads ys ≠ [] := by
  intro h
  have := congrArg List.length h
  simp [aheads] at this
theorem aheads_len (ys : List Int) : (aheads ys).length = ys.length + 1 := by simp [aheads]
def unevenI (ys : List Int) : Int := mx (aheads ys) - mn (aheads ys)
theorem law_uneven_eq {ys : List Int} {rest : List D} (hl : ys.length ≤ 900) : F__law_uneven [.tup (.tup (ys.map D.int) :: rest)] S = .ok (.int (unevenI ys)) S := by
  simp [F__law_uneven, b__law_uneven, start0, ahead_eq hl, max_lints (aheads_ne ys), min_lints (aheads_ne ys), pur, takeS, unevenI]
/- the loop of heights_of -/
def hgo (n L : Int) : Int → List Int → List Int
  | _, [] => []
  | h, y :: ys => (h + y * n - L) :: hgo n L (h + y * n - L) ys
theorem hgo_eq (n L : Int) : ∀ (suf pre : List Int), hgo n L (pre.sum * n - pre.length * L) suf = (List.range suf.length).map fun (j : Nat) => ((pre ++ suf).take (pre.length + j + 1)).sum * n - ((pre.length + j + 1 : Nat) : Int) * L
  | [], _ => rfl
  | y :: s, pre => by
    have e : pre.sum * n - pre.length * L + y * n - L = (pre ++ [y]).sum * n - (pre ++ [y]).length * L := by
      rw [List.sum_append, List.length_append]
      simp [Int.add_mul]
      omega
    rw [hgo, e, hgo_eq n L s (pre ++ [y]), List.length_cons, List.range_succ_eq_map, List.map_cons, List.map_map]
    refine congr (congrArg List.cons ?_) (List.map_congr_left fun j _ => ?_)
    · rw [Nat.add_zero, show pre ++ y :: s = (pre ++ [y]) ++ s by simp, List.take_append_of_le_length (by simp), List.take_of_length_le (by simp), List.length_append]
      rfl
    · show _ = ((pre ++ y :: s).take (pre.length + (j + 1) + 1)).sum * n - ((pre.length + (j + 1) + 1 : Nat) : Int) * L
      rw [show (pre ++ [y]) ++ s = pre ++ y :: s by simp, List.length_append, show pre.length + [y].length + j + 1 = pre.length + (j + 1) + 1 by simp; omega]
theorem hgo_aheads (ys : List Int) : 0 :: hgo ys.length ys.sum 0 ys = aheads ys := by
  have := hgo_eq ys.length ys.sum ys []
  rw [show (([] : List Int).sum * (ys.length : Int) - (([] : List Int).length : Int) * ys.sum) = 0 by simp] at this
  simp only [List.length_nil, List.nil_append, Nat.zero_add] at this
  rw [this]
  unfold aheads
  rw [List.range_succ_eq_map, List.map_cons, List.map_map]
  refine congr (congrArg List.cons ?_) (List.map_congr_left fun j _ => rfl)
  simp [aheadI]
theorem atI_last {acc : List Int} {h : Int} : atI ((acc ++ [h]).map D.int) (-1) = some (.int h) := by
  have e : ixN ((acc ++ [h]).map D.int).length (-1) = some acc.length := by
    rw [List.length_map, List.length_append, List.length_singleton]
    unfold ixN
    rw [if_neg (by decide), if_pos (by omega)]
    congr 1
    omega
  unfold atI
  rw [e, Option.bind_some]
  simp
theorem app_end {S0 : Store} {acc : List Int} {x : Int} (h : acc.length < 1000000) : gAppend (.obj S0.length) [.int x] (S0 ++ [.lst (acc.map D.int)]) = .ok .non (S0 ++ [.lst ((acc ++ [x]).map D.int)]) := by
  unfold gAppend
  simp only [get_end]
  rw [if_pos ⟨rfl, by rw [List.length_map]; exact h⟩, set_end, List.map_append]
  rfl
theorem isL_end {S0 : Store} {acc : List D} : isL (.obj S0.length) (S0 ++ [.lst acc]) = true := by
  unfold isL items
  simp only [get_end]
  rfl
theorem seqOf_end {S0 : Store} {acc : List D} : seqOf (.obj S0.length) (S0 ++ [.lst acc]) = some acc := by
  show items (.obj S0.length) (S0 ++ [.lst acc]) = some acc
  unfold items
  simp only [get_end]
def bH : FS := sExpr (fMthL gAppend (fVar 3) (fCons (f2 DL.gSub (f2 gAdd (f2 gIx (fVar 3) (fNeg (fC (.int 1)))) (f2 gMul (fVar 4) (fVar 1))) (fVar 2)) fNil))
theorem bH_step {S0 : Store} {n L y h : Int} {c : D} {acc : List Int} (hn : -1000 ≤ n ∧ n ≤ 1000) (hl : acc.length < 10000) :
    bH [some c, some (.int n), some (.int L), some (.obj S0.length), some (.int y)] (S0 ++ [.lst ((acc ++ [h]).map D.int)]) = .nx [some c, some (.int n), some (.int L), some (.obj S0.length), some (.int y)] (S0 ++ [.lst ((acc ++ [h] ++ [h + y * n - L]).map D.int)]) := by
  have e1 : gIx (.obj S0.length) (.int (-1)) (S0 ++ [.lst ((acc ++ [h]).map D.int)]) = .ok (.int h) (S0 ++ [.lst ((acc ++ [h]).map D.int)]) := by
    unfold gIx
    simp only [seqOf_end, atI_last]
  have e2 := g_mul (S := S0 ++ [.lst ((acc ++ [h]).map D.int)]) (mul_small (i := y) (j := n) (by omega) (by omega))
  have e3 := app_end (S0 := S0) (acc := acc ++ [h]) (x := h + y * n - L) (by rw [List.length_append, List.length_singleton]; omega)
  have e4 := isL_end (S0 := S0) (acc := (acc ++ [h]).map D.int)
  unfold bH
  simp only [w_sexpr, w_mthL, w_var, w_2, w_neg, w_c, w_cons, w_nil, List.getElem?_cons_succ, List.getElem?_cons_zero, Res.bind_ok, e4, if_true, e1, e2, g_add, g_sub, e3, w_out]
theorem h_loop {S0 : Store} {n L : Int} {c : D} (hn : -1000 ≤ n ∧ n ≤ 1000) : ∀ (ys acc : List Int) (h : Int) (e : Option D), acc.length + ys.length < 10000 →
    ∃ e', loopS (pName 4) bH (ys.map D.int) [some c, some (.int n), some (.int L), some (.obj S0.length), e] (S0 ++ [.lst ((acc ++ [h]).map D.int)]) = .nx [some c, some (.int n), some (.int L), some (.obj S0.length), e'] (S0 ++ [.lst ((acc ++ h :: hgo n L h ys).map D.int)])
  | [], acc, h, e, _ => ⟨e, rfl⟩
  | y :: ys, acc, h, e, hl => by
    rw [List.length_cons] at hl
    obtain ⟨e', ih⟩ := h_loop (S0 := S0) (c := c) (L := L) hn ys (acc ++ [h]) (h + y * n - L) (some (.int y)) (by rw [List.length_append, List.length_singleton]; omega)
    refine ⟨e', ?_⟩
    rw [List.map_cons, w_loop1, p_int, w_out, List.set_cons_succ, List.set_cons_succ, List.set_cons_succ, List.set_cons_succ, List.set_cons_zero, bH_step hn (by omega), w_next, ih, hgo, List.append_assoc]
    rfl
theorem heights_eq {ys : List Int} {u : Int} (hl : ys.length ≤ 900) : F_heights_of [cal ys u] S = .ok (.tup ((aheads ys).map D.int)) S := by
  unfold F_heights_of
  obtain ⟨e', hL⟩ := h_loop (S0 := S) (n := ys.length) (L := ys.sum) (c := cal ys u) (by omega) ys [] 0 none (by simp; omega)
  rw [hgo_aheads, List.nil_append, List.nil_append] at hL
  refine runRt (S1 := S ++ [.lst ((aheads ys).map D.int)]) rfl ?_ (by exact pur_ints _) take_end
  unfold b_heights_of
  refine stNext (ρ1 := [some (cal ys u), some (.int ys.length), some (.int ys.sum), none, none]) (S1 := S) (by simp [start0]) ?_
  refine stNext (ρ1 := [some (cal ys u), some (.int ys.length), some (.int ys.sum), some (.obj S.length), none]) (S1 := S ++ [.lst [.int 0]]) (by simp [fNew, lineN, pur, purL]) ?_
  refine stNext (ρ1 := [some (cal ys u), some (.int ys.length), some (.int ys.sum), some (.obj S.length), e']) (S1 := S ++ [.lst ((aheads ys).map D.int)]) ?_ ?_
  · rw [w_for]
    simp only [w_seq, w_fld, w_var, List.getElem?_cons_zero, Res.bind_ok, fld6, itemsI, w_out]
    exact hL
  · refine stRet ?_
    simp only [w_call, w_cons, w_var, w_nil, List.getElem?_cons_zero, List.getElem?_cons_succ, Res.bind_ok]
    unfold DL.gTup
    simp only [items, get_end]
end
end KL

set_option Elab.async false
set_option linter.all false
set_option maxRecDepth 100000
set_option maxHeartbeats 4000000
/-! PA: the arithmetic of the heights. -/
namespace KL
open PySem PySem.Spec PyProof.Rows L2 DL KA
theorem maxI_spec : ∀ (xs : List Int) (x : Int), maxI x xs ∈ x :: xs ∧ ∀ y ∈ x :: xs, y ≤ maxI x xs
  | [], x => ⟨List.mem_singleton.mpr rfl, fun y hy => by rw [List.mem_singleton.mp hy]; exact Int.le_refl _⟩
  | z :: xs, x => by
    have e : maxI x (z :: xs) = maxI (if x < z then z else x) xs := rfl
    rw [e]
    obtain ⟨h1, h2⟩ := maxI_spec xs (if x < z then z else x)
    refine ⟨?_, fun y hy => ?_⟩
    · rcases List.mem_cons.mp h1 with h | h
      · rw [h]; split <;> simp
      · exact List.mem_cons_of_mem _ (List.mem_cons_of_mem _ h)
    · have h3 := h2 _ List.mem_cons_self
      have hx : x ≤ (if x < z then z else x) := by split <;> omega
      have hz : z ≤ (if x < z then z else x) := by split <;> omega
      rcases List.mem_cons.mp hy with q | hy
      · rw [q]; exact Int.le_trans hx h3
      · rcases List.mem_cons.mp hy with q | hy
        · rw [q]; exact Int.le_trans hz h3
        · exact h2 _ (List.mem_cons_of_mem _ hy)
theorem minI_spec : ∀ (xs : List Int) (x : Int), minI x xs ∈ x :: xs ∧ ∀ y ∈ x :: xs, minI x xs ≤ y
  | [], x => ⟨List.mem_singleton.mpr rfl, fun y hy => by rw [List.mem_singleton.mp hy]; exact Int.le_refl _⟩
  | z :: xs, x => by
    have e : minI x (z :: xs) = minI (if z < x then z else x) xs := rfl
    rw [e]
    obtain ⟨h1, h2⟩ := minI_spec xs (if z < x then z else x)
    refine ⟨?_, fun y hy => ?_⟩
    · rcases List.mem_cons.mp h1 with h | h
      · rw [h]; split <;> simp
      · exact List.mem_cons_of_mem _ (List.mem_cons_of_mem _ h)
    · have h3 := h2 _ List.mem_cons_self
      have hx : (if z < x then z else x) ≤ x := by split <;> omega
      have hz : (if z < x then z else x) ≤ z := by split <;> omega
      rcases List.mem_cons.mp hy with q | hy
      · rw [q]; exact Int.le_trans h3 hx
      · rcases List.mem_cons.mp hy with q | hy
        · rw [q]; exact Int.le_trans h3 hz
        · exact h2 _ (List.mem_cons_of_mem _ hy)
theorem mx_mem {xs : List Int} (h : xs ≠ []) : mx xs ∈ xs := by
  cases xs with
  | nil => exact absurd rfl h
  | cons x xs => exact (maxI_spec xs x).1
theorem le_mx {xs : List Int} {x : Int} (h : x ∈ xs) : x ≤ mx xs := by
  cases xs with
  | nil => cases h
  | cons y xs => exact (maxI_spec xs y).2 x h
theorem mn_mem {xs : List Int} (h : xs ≠ []) : mn xs ∈ xs := by
  cases xs with
  | nil => exact absurd rfl h
  | cons x xs => exact (minI_spec xs x).1
theorem mn_le {xs : List Int} {x : Int} (h : x ∈ xs) : mn xs ≤ x := by
  cases xs with
  | nil => cases h
  | cons y xs => exact (minI_spec xs y).2 x h
theorem mx_add {xs : List Int} (h : xs ≠ []) (c : Int) : mx (xs.map (· + c)) = mx xs + c := by
  have h' : xs.map (· + c) ≠ [] := by simpa using h
  obtain ⟨y, hy, e⟩ := List.mem_map.mp (mx_mem h')
  have a1 := le_mx hy
  have a2 := le_mx (List.mem_map.mpr ⟨mx xs, mx_mem h, rfl⟩ : mx xs + c ∈ xs.map (· + c))
  omega
theorem aheads_get {ys : List Int} {k : Nat} (h : k ≤ ys.length) : (aheads ys)[k]? = some (aheadI ys k) := by
  unfold aheads
  rw [List.getElem?_map, List.getElem?_range (by omega)]
  rfl
theorem mem_aheads {ys : List Int} {x : Int} : x ∈ aheads ys ↔ ∃ k, k ≤ ys.length ∧ x = aheadI ys k := by
  unfold aheads
  rw [List.mem_map]
  constructor
  · rintro ⟨k, hk, rfl⟩
    exact ⟨k, by have := List.mem_range.mp hk; omega, rfl⟩
  · rintro ⟨k, hk, rfl⟩
    exact ⟨k, List.mem_range.mpr (by omega), rfl⟩
theorem ahead_0 (ys : List Int) : aheadI ys 0 = 0 := by simp [aheadI]
theorem ahead_n (ys : List Int) : aheadI ys ys.length = 0 := by
  simp [aheadI, Int.mul_comm]
theorem ahead_s {ys : List Int} {k : Nat} (h : k < ys.length) : aheadI ys (k + 1) = aheadI ys k + ys[k] * ys.length - ys.sum := by
  unfold aheadI
  rw [List.take_add_one, List.getElem?_eq_getElem h, Option.toList_some, List.sum_append, List.sum_singleton, Int.add_mul, Int.natCast_add, Int.add_mul]
  omega
theorem sum_bits : ∀ {ys : List Int}, (∀ y ∈ ys, y = 0 ∨ y = 1) → 0 ≤ ys.sum ∧ ys.sum ≤ ys.length
  | [], _ => ⟨Int.le_refl _, Int.le_refl _⟩
  | y :: ys, h => by
    have a := sum_bits (ys := ys) fun z hz => h z (List.mem_cons_of_mem _ hz)
    have b := h y List.mem_cons_self
    rw [List.sum_cons, List.length_cons]
    omega
theorem ahead_b {ys : List Int} (hb : ∀ y ∈ ys, y = 0 ∨ y = 1) (hn : ys.length ≤ 12) {k : Nat} (hk : k ≤ ys.length) : -144 ≤ aheadI ys k ∧ aheadI ys k ≤ 144 := by
  have h1 := sum_bits (ys := ys.take k) fun y hy => hb y (List.mem_of_mem_take hy)
  have h2 := sum_bits hb
  rw [List.length_take] at h1
  have a1 : (ys.take k).sum * ys.length ≤ 12 * 12 := Int.mul_le_mul (by omega) (by omega) (by omega) (by omega)
  have a2 : 0 ≤ (ys.take k).sum * ys.length := Int.mul_nonneg h1.1 (by omega)
  have a3 : (k : Int) * ys.sum ≤ 12 * 12 := Int.mul_le_mul (by omega) (by omega) (by omega) (by omega)
  have a4 : 0 ≤ (k : Int) * ys.sum := Int.mul_nonneg (by omega) h2.1
  unfold aheadI
  omega
theorem uneven_b {ys : List Int} (hb : ∀ y ∈ ys, y = 0 ∨ y = 1) (hn : ys.length ≤ 12) : 0 ≤ unevenI ys ∧ unevenI ys ≤ 288 := by
  obtain ⟨i, hi, e1⟩ := mem_aheads.mp (mx_mem (aheads_ne ys))
  obtain ⟨j, hj, e2⟩ := mem_aheads.mp (mn_mem (aheads_ne ys))
  have h1 := ahead_b hb hn hi
  have h2 := ahead_b hb hn hj
  have h3 := le_mx (mn_mem (aheads_ne ys))
  unfold unevenI
  omega
/-- behind how many years the leaps are least, most ahead -/
def iMin (ys : List Int) : Nat := (aheads ys).idxOf (mn (aheads ys))
def iMax (ys : List Int) : Nat := (aheads ys).idxOf (mx (aheads ys))
theorem iMin_le (ys : List Int) : iMin ys ≤ ys.length := by
  have := List.idxOf_lt_length_of_mem (mn_mem (aheads_ne ys))
  rw [aheads_len] at this
  exact Nat.le_of_lt_succ this
theorem iMax_le (ys : List Int) : iMax ys ≤ ys.length := by
  have := List.idxOf_lt_length_of_mem (mx_mem (aheads_ne ys))
  rw [aheads_len] at this
  exact Nat.le_of_lt_succ this
theorem at_iMin (ys : List Int) : aheadI ys (iMin ys) = mn (aheads ys) := by
  have h := List.idxOf_lt_length_of_mem (mn_mem (aheads_ne ys))
  have e := List.getElem_idxOf h
  have e2 := aheads_get (iMin_le ys)
  rw [show iMin ys = (aheads ys).idxOf (mn (aheads ys)) from rfl, List.getElem?_eq_getElem h, e] at e2
  exact (Option.some.inj e2).symm
theorem at_iMax (ys : List Int) : aheadI ys (iMax ys) = mx (aheads ys) := by
  have h := List.idxOf_lt_length_of_mem (mx_mem (aheads_ne ys))
  have e := List.getElem_idxOf h
  have e2 := aheads_get (iMax_le ys)
  rw [show iMax ys = (aheads ys).idxOf (mx (aheads ys)) from rfl, List.getElem?_eq_getElem h, e] at e2
  exact (Option.some.inj e2).symm
/-- the years drawn in a row from one on -/
def runI (ys : List Int) (f r : Nat) : Int := ((List.range r).map fun j => ys[(f + j) % ys.length]?.getD 0).sum
theorem run_eq {ys : List Int} (hn : 0 < ys.length) (f : Nat) (hf : f < ys.length) : ∀ r : Nat, runI ys f r * ys.length - r * ys.sum = aheadI ys ((f + r) % ys.length) - aheadI ys f
  | 0 => by
    rw [Nat.add_zero, Nat.mod_eq_of_lt hf]
    simp [runI]
  | r + 1 => by
    have ih := run_eq hn f hf r
    have hm : (f + r) % ys.length < ys.length := Nat.mod_lt _ hn
    have e : runI ys f (r + 1) = runI ys f r + ys[(f + r) % ys.length]?.getD 0 := by
      unfold runI
      rw [List.range_succ, List.map_append, List.sum_append, List.map_singleton, List.sum_singleton]
    rw [e, List.getElem?_eq_getElem hm, Option.getD_some, Int.add_mul, Int.natCast_add, Int.add_mul]
    have s := ahead_s hm
    have e2 : aheadI ys ((f + (r + 1)) % ys.length) = aheadI ys ((f + r) % ys.length + 1) := by
      rw [show f + (r + 1) = (f + r) + 1 from rfl, Nat.add_mod (f + r) 1]
      by_cases h1 : ys.length = 1
      · have : (f + r) % ys.length = 0 := by rw [h1]; exact Nat.mod_one _
        rw [this, h1]
        rw [show (0 + 1 % 1) % 1 = 0 from rfl, ahead_0]
        have := ahead_n ys
        rw [h1] at this
        exact this.symm
      · rw [Nat.mod_eq_of_lt (show 1 < ys.length by omega)]
        by_cases h2 : (f + r) % ys.length + 1 = ys.length
        · rw [h2, Nat.mod_self, ahead_0, ahead_n]
        · rw [Nat.mod_eq_of_lt (by omega)]
    rw [e2, s]
    omega
theorem run_mod {ys : List Int} (hn : 0 < ys.length) {f : Nat} (hf : f < ys.length) (s : Nat) : runI ys f (s % ys.length) * ys.length - (s % ys.length : Nat) * ys.sum = aheadI ys ((f + s) % ys.length) - aheadI ys f := by
  rw [run_eq hn f hf, Nat.add_mod f (s % ys.length), Nat.mod_mod, ← Nat.add_mod]
/-- heights that go as the leaps do -/
theorem heights_iff {ys xs : List Int} (hl : xs.length = ys.length + 1) : (∀ k, k ≤ ys.length → xs[k]?.getD 0 - xs[0]?.getD 0 = aheadI ys k) ↔ ∀ k, (h : k < ys.length) → xs[k + 1]?.getD 0 - xs[k]?.getD 0 = ys[k] * ys.length - ys.sum := by
  constructor
  · intro H k h
    have h1 := H k (by omega)
    have h2 := H (k + 1) (by omega)
    have := ahead_s h
    omega
  · intro H k
    induction k with
    | zero => intro _; rw [ahead_0]; omega
    | succ k ih =>
      intro h
      have h1 := ih (by omega)
      have h2 := H k (by omega)
      have := ahead_s (ys := ys) (k := k) (by omega)
      omega
/- the least uneven rounds: reckoned -/
def evenI (m l : Nat) : List Int := (List.range m).map fun (k : Nat) => ((k : Int) + 1) * (l : Int) / (m : Int) - (k : Int) * (l : Int) / (m : Int)
def evenChk (m l : Nat) : Bool := decide ((evenI m l).sum = (l : Int)) && decide (unevenI (evenI m l) = (m : Int) - (Nat.gcd m l : Int)) && (evenI m l).all fun y => decide (y = 0) || decide (y = 1)
theorem even_all : ((List.range 13).all fun m => m == 0 || (List.range (m + 1)).all fun l => evenChk m l) = true := by decide +kernel
def rndI : Nat → List (List Int)
  | 0 => [[]]
  | k + 1 => (rndI k).map (· ++ [0]) ++ (rndI k).map (· ++ [1])
def rndU (m l : Nat) : List Int := ((rndI m).filter fun xs => decide (xs.sum = (l : Int))).map unevenI
def rndChk (m l : Nat) : Bool := !(rndU m l).isEmpty && decide (mn (rndU m l) = (m : Int) - (Nat.gcd m l : Int))
theorem rnd_all : ((List.range 10).all fun m => m == 0 || (List.range (m + 1)).all fun l => rndChk m l) = true := by decide +kernel
theorem even_ok {m l : Nat} (h1 : 1 ≤ m) (h2 : m ≤ 12) (h3 : l ≤ m) : evenChk m l = true := by
  have := List.all_eq_true.mp even_all m (List.mem_range.mpr (by omega))
  rw [show (m == 0) = false from by simp; omega, Bool.false_or] at this
  exact List.all_eq_true.mp this l (List.mem_range.mpr (by omega))
theorem rnd_ok {m l : Nat} (h1 : 1 ≤ m) (h2 : m ≤ 9) (h3 : l ≤ m) : rndChk m l = true := by
  have := List.all_eq_true.mp rnd_all m (List.mem_range.mpr (by omega))
  rw [show (m == 0) = false from by simp; omega, Bool.false_or] at this
  exact List.all_eq_true.mp this l (List.mem_range.mpr (by omega))
end KL

set_option Elab.async false
set_option linter.all false
set_option maxRecDepth 100000
set_option maxHeartbeats 4000000
/-! KM3: the small defs in closed form. -/
namespace KL
open PySem PySem.Spec PyProof.Rows L2 DL KA
section
variable {S : Store} {ρ : Ev} {ys : List Int} {u : Int}
@[simp] theorem pur_tints (xs : List Int) : pur (.tup (xs.map D.int)) = true := pur_ints xs
@[simp] theorem pur_lints (xs : List Int) : pur (.lst (xs.map D.int)) = true := pur_ints xs
@[simp] theorem pur_int (x : Int) : pur (.int x) = true := rfl
@[simp] theorem pur_bl (x : Bool) : pur (.bl x) = true := rfl
@[simp] theorem pur_str (x : Str) : pur (.str x) = true := rfl
@[simp] theorem pur_non : pur .non = true := rfl
@[simp] theorem w_mthT {g : GM} {fo : FE} {fs : FL} : fMthT g fo fs ρ S = (fo ρ S).bind fun d S1 => match d with | .tup _ => (fs ρ S1).bind fun ds S2 => g d ds S2 | _ => .bad := rfl
theorem uneven_eq (hl : ys.length ≤ 900) : F_unevenness [cal ys u] S = .ok (.int (unevenI ys)) S := by
  simp [F_unevenness, b_unevenness, start0, heights_eq hl, max_tints (aheads_ne ys), min_tints (aheads_ne ys), unevenI]
theorem is_even_eq (hl : ys.length ≤ 900) : F_is_even [cal ys u] S = .ok (.bl (decide (unevenI ys ≤ u))) S := by
  simp [F_is_even, b_is_even, start0, uneven_eq hl]
theorem idxT {xs : List Int} {x : Int} (h : x ∈ xs) : gIndexT (.tup (xs.map D.int)) [.int x] S = .ok (.int (xs.idxOf x : Nat)) S := by
  simp [gIndexT, gIndex, ints_of, h]
theorem idxL {xs : List Int} {x : Int} (h : x ∈ xs) : gIndexL (.lst (xs.map D.int)) [.int x] S = .ok (.int (xs.idxOf x : Nat)) S := by
  simp [gIndexL, items, gIndex, ints_of, h]
theorem worst_eq (hl : ys.length ≤ 900) : F_worst_years [cal ys u] S = .ok (.tup [.int (iMin ys), .int (iMax ys)]) S := by
  simp [F_worst_years, b_worst_years, start0, heights_eq hl, max_tints (aheads_ne ys), min_tints (aheads_ne ys), idxT (mx_mem (aheads_ne ys)), idxT (mn_mem (aheads_ne ys)), pur, purL, iMin, iMax]
theorem atI_nat {α : Type} {xs : List α} {k : Nat} {x : α} (h : xs[k]? = some x) : atI xs (k : Int) = some x := by
  have hk : k < xs.length := by
    rcases Nat.lt_or_ge k xs.length with q | q
    · exact q
    · rw [List.getElem?_eq_none q] at h; cases h
  simp [atI, ixN, hk]
  rw [List.getElem?_eq_getElem hk] at h
  exact Option.some.inj h
theorem ix_tup {ds : List D} {k : Nat} {x : D} (h : ds[k]? = some x) : gIx (.tup ds) (.int (k : Int)) S = .ok x S := by
  unfold gIx
  simp only [seqOf, atI_nat h]
theorem ix_lst {ds : List D} {k : Nat} {x : D} (h : ds[k]? = some x) : gIx (.lst ds) (.int (k : Int)) S = .ok x S := by
  unfold gIx
  simp only [seqOf, items, atI_nat h]
theorem ix_tints {xs : List Int} {k : Nat} {x : Int} (h : xs[k]? = some x) : gIx (.tup (xs.map D.int)) (.int (k : Int)) S = .ok (.int x) S := ix_tup (by rw [List.getElem?_map, h]; rfl)
theorem ix_lints {xs : List Int} {k : Nat} {x : Int} (h : xs[k]? = some x) : gIx (.lst (xs.map D.int)) (.int (k : Int)) S = .ok (.int x) S := ix_lst (by rw [List.getElem?_map, h]; rfl)
theorem excess_eq {f s : Nat} (hl : ys.length ≤ 900) (hf : f < ys.length) (hs : s ≤ 9999) : F_excess_of [cal ys u, .int ((f : Int) + 1), .int s] S = .ok (.int (aheadI ys ((f + s) % ys.length) - aheadI ys f)) S := by
  have hn : (0 : Int) < ys.length := by omega
  have w1 := is_within_eq (S := S) (d := .int ((f : Int) + 1)) (lo := 1) (hi := ys.length) rfl
  have w2 := is_within_eq (S := S) (d := .int (s : Int)) (lo := 0) (hi := 9999) rfl
  have v1 : withB (.int ((f : Int) + 1)) 1 ys.length = true := by simp [withB]; omega
  have v2 : withB (.int (s : Int)) 0 9999 = true := by simp [withB]; omega
  rw [v1] at w1
  rw [v2] at w2
  have i1 := ix_tints (S := S) (aheads_get (ys := ys) (k := (f + s) % ys.length) (Nat.le_of_lt (Nat.mod_lt _ (by omega))))
  have i2 := ix_tints (S := S) (aheads_get (ys := ys) (k := f) (by omega))
  have m1 := g_mod (S := S) (i := (f : Int) + 1 - 1 + s) hn
  have m2 : ((f : Int) + 1 - 1 + s) % (ys.length : Int) = (((f + s) % ys.length : Nat) : Int) := by rw [Int.natCast_emod, Int.natCast_add]; congr 1; omega
  have m3 : (f : Int) + 1 - 1 = f := by omega
  rw [m2] at m1
  unfold F_excess_of
  refine runRt rfl ?_ (pur_int _) (takeS S)
  unfold b_excess_of
  simp only [start0, List.map_cons, List.map_nil, List.length_cons, List.length_nil, List.cons_append, List.nil_append, show (5 : Nat) - (0 + 1 + 1 + 1) = 2 from rfl, List.replicate_succ, List.replicate_zero]
  simp only [w_scons, w_asg, w_call, w_cons, w_fld, w_var, w_nil, w_c, List.getElem?_cons_succ, List.getElem?_cons_zero, Res.bind_ok, fld6, len_tints, w_out, p_int, p_tup, w_next, w_sif, w_notT, w_asB, w_callF, List.set_cons_succ, List.set_cons_zero, w1, w2, Bool.not_true, if_neg Bool.false_ne_true, if_false, w_snil, heights_eq hl, w_sret, w_2, g_sub, g_add, m1, i1]
  rw [m3, i2]
  rfl
theorem wrong_excess1 {d : D} {x : Int} (hd : ty1 d = true) (hw : withB d 1 ys.length = false) (hp : pur d = true) : F_excess_of [cal ys u, d, .int x] S = .exc 1 [(2, d)] S := by
  have w1 := is_within_eq (S := S) (lo := 1) (hi := ys.length) hd
  rw [hw] at w1
  simp [F_excess_of, b_excess_of, start0, w1, purF, hp]
theorem wrong_excess2 {x : Int} (hw : withB (.int x) 0 9999 = false) (hn : 1 ≤ ys.length) : F_excess_of [cal ys u, .int 1, .int x] S = .exc 1 [(2, .int x)] S := by
  have w1 := is_within_eq (S := S) (d := .int 1) (lo := 1) (hi := ys.length) rfl
  rw [show withB (.int 1) 1 ys.length = true from by simp [withB]; omega] at w1
  have w2 := is_within_eq (S := S) (d := .int x) (lo := 0) (hi := 9999) rfl
  rw [hw] at w2
  simp [F_excess_of, b_excess_of, start0, w1, w2, purF]
/- common, least_uneven, evenest -/
theorem common_go : ∀ (k a b : Nat), b < k → whileS (asB (f2 gGt (fVar 1) (fC (.int 0)))) (sPar 0 1 (fCons (fVar 1) (fCons (f2 gMod (fVar 0) (fVar 1)) fNil))) k [some (.int (a : Int)), some (.int (b : Int))] S = .nx [some (.int (Nat.gcd a b : Nat)), some (.int 0)] S
  | k + 1, a, 0, _ => by
    unfold whileS
    simp
  | k + 1, a, b + 1, h => by
    have ih := common_go k (b + 1) (a % (b + 1)) (by have := Nat.mod_lt a (show 0 < b + 1 by omega); omega)
    have e : Nat.gcd a (b + 1) = Nat.gcd (b + 1) (a % (b + 1)) := by rw [Nat.gcd_comm a, Nat.gcd_rec, Nat.gcd_comm]
    have m : gMod (.int (a : Int)) (.int ((b + 1 : Nat) : Int)) S = .ok (.int ((a % (b + 1) : Nat) : Int)) S := by
      rw [g_mod (by omega)]; rfl
    have c : decide ((0 : Int) < ((b + 1 : Nat) : Int)) = true := decide_eq_true (by omega)
    unfold whileS
    simp only [w_asB, w_2, w_var, w_c, List.getElem?_cons_succ, List.getElem?_cons_zero, Res.bind_ok, g_gt, c, w_out, if_true, w_par, w_cons, w_nil, m, List.set_cons_succ, List.set_cons_zero, w_next]
    rw [e]
    exact ih
theorem common_eq (a b : Nat) : F_common [.int a, .int b] S = .ok (.int (Nat.gcd a b : Nat)) S := by
  unfold F_common
  refine runRt rfl (S1 := S) ?_ (pur_int _) (takeS S)
  exact stNext (common_go ((b : Int).toNat + 1) a b (by omega)) (stRet rfl)
theorem least_eq (hb : ∀ y ∈ ys, y = 0 ∨ y = 1) : F_least_uneven [cal ys u] S = .ok (.int (ys.length - (Nat.gcd ys.length ys.sum.toNat : Nat))) S := by
  have h := sum_bits hb
  have e := common_eq (S := S) ys.length ys.sum.toNat
  rw [Int.toNat_of_nonneg h.1] at e
  simp [F_least_uneven, b_least_uneven, start0, e]
theorem evenest_elt {m l k : Nat} (m0 : 0 < m) (m1 : m ≤ 40) (hl : l ≤ m) :
    f2 DL.gSub (f2 gDiv (f2 gMul (f2 gAdd (fVar 2) (fC (.int 1))) (fVar 1)) (fVar 0)) (f2 gDiv (f2 gMul (fVar 2) (fVar 1)) (fVar 0)) [some (.int (m : Int)), some (.int (l : Int)), some (.int (k : Int))] S = .ok (.int (((k : Int) + 1) * (l : Int) / (m : Int) - (k : Int) * (l : Int) / (m : Int))) S := by
  have a1 := g_mul (S := S) (mul_small (i := (k : Int) + 1) (j := (l : Int)) (by omega) (by omega))
  have a2 := g_mul (S := S) (mul_small (i := (k : Int)) (j := (l : Int)) (by omega) (by omega))
  have b1 := g_div (S := S) (i := ((k : Int) + 1) * (l : Int)) (j := (m : Int)) (by omega) (by omega)
  have b2 := g_div (S := S) (i := (k : Int) * (l : Int)) (j := (m : Int)) (by omega) (by omega)
  exact ev2 (ev2 (ev2 (ev2 rfl rfl rfl) rfl a1) rfl b1) (ev2 (ev2 rfl rfl a2) rfl b2) rfl
def fE (m l : Nat) (d : D) : List D := match d with | .int k => [.int ((k + 1) * (l : Int) / (m : Int) - k * (l : Int) / (m : Int))] | _ => []
theorem evenest_eq {m l : Nat} (m0 : 0 < m) (m1 : m ≤ 40) (hl : l ≤ m) : F_evenest [.int m, .int l] S = .ok (.tup ((evenI m l).map D.int)) S := by
  have w1 := is_within_eq (S := S) (d := .int (m : Int)) (lo := 1) (hi := 40) rfl
  rw [show withB (.int (m : Int)) 1 40 = true from by simp [withB]; omega] at w1
  have w2 := is_within_eq (S := S) (d := .int (l : Int)) (lo := 0) (hi := m) rfl
  rw [show withB (.int (l : Int)) 0 m = true from by simp [withB]; omega] at w2
  have i1 : iR1 (fCons (fVar 0) fNil) [some (.int (m : Int)), some (.int (l : Int)), none] S = .ok (upto 0 m) S := r1_ok rfl (by omega)
  have lc := fLc_pure (S0 := S) (vs := [2]) (p := cName 2) (t := fYes) (f := fE m l) i1 (e := f2 DL.gSub (f2 gDiv (f2 gMul (f2 gAdd (fVar 2) (fC (.int 1))) (fVar 1)) (fVar 0)) (f2 gDiv (f2 gMul (fVar 2) (fVar 1)) (fVar 0))) (fun d hd => by
    obtain ⟨i, hi, rfl⟩ := mem_upto hd
    refine ⟨_, rfl, fun acc => .inr ⟨rfl, _, ?_, rfl, rfl⟩⟩
    show f2 DL.gSub _ _ [some (.int (m : Int)), some (.int (l : Int)), some (.int (0 + (i : Int)))] _ = _
    rw [Int.zero_add]
    exact evenest_elt m0 m1 hl) (by rw [len_upto]; unfold lineN; omega)
  have e : (upto 0 m).flatMap (fE m l) = (evenI m l).map D.int := by
    unfold upto evenI
    rw [List.flatMap_map]
    generalize List.range m = r
    induction r with
    | nil => rfl
    | cons k r ih =>
      rw [List.flatMap_cons, ih, List.map_cons, List.map_cons]
      show [D.int (((0 + (k : Int)) + 1) * (l : Int) / (m : Int) - (0 + (k : Int)) * (l : Int) / (m : Int))] ++ _ = _
      rw [Int.zero_add]
      rfl
  rw [e] at lc
  unfold F_evenest
  refine runRt rfl (S1 := S) ?_ (pur_tints _) (takeS S)
  refine stNext (S1 := S) (ρ1 := [some (.int (m : Int)), some (.int (l : Int)), none]) (by simp [start0, w1]) ?_
  refine stNext (S1 := S) (ρ1 := [some (.int (m : Int)), some (.int (l : Int)), none]) (by simp [w2]) ?_
  refine stRet (evCall (evCons lc evNil) ?_)
  rfl
theorem wrong_even1 {x y : Int} (hw : withB (.int x) 1 40 = false) : F_evenest [.int x, .int y] S = .exc 1 [(2, .int x)] S := by
  have w1 := is_within_eq (S := S) (d := .int x) (lo := 1) (hi := 40) rfl
  rw [hw] at w1
  simp [F_evenest, b_evenest, start0, w1, purF]
theorem wrong_even2 {x y : Int} (hw : withB (.int x) 1 40 = true) (hw2 : withB (.int y) 0 x = false) : F_evenest [.int x, .int y] S = .exc 1 [(2, .int y)] S := by
  have w1 := is_within_eq (S := S) (d := .int x) (lo := 1) (hi := 40) rfl
  rw [hw] at w1
  have w2 := is_within_eq (S := S) (d := .int y) (lo := 0) (hi := x) rfl
  rw [hw2] at w2
  simp [F_evenest, b_evenest, start0, w1, w2, purF]
end
end KL

set_option Elab.async false
set_option linter.all false
set_option maxRecDepth 100000
set_option maxHeartbeats 4000000
/-! KM4: heights and places told, by the program and by the law. -/
namespace KL
open PySem PySem.Spec PyProof.Rows L2 DL KA
section
variable {S : Store} {ρ : Ev} {ys : List Int} {u : Int}
/-- what a drawn value can hold -/
def okE : D → Bool
  | .non => true
  | .bl _ => true
  | .int _ => true
  | .lst ds => (intsOf ds).isSome
  | _ => false
def OkV (v : D) : Prop := (∃ ds : List D, v = .tup ds ∧ (∀ d ∈ ds, okE d = true) ∧ ds.length ≤ 1000) ∨ ∃ xs : List Int, v = .lst (xs.map D.int)
theorem okE_ty {d : D} (h : okE d = true) : ty1 d = true := by cases d <;> first | rfl | (cases h; done)
theorem intsOf_inv : ∀ {ds : List D} {xs : List Int}, intsOf ds = some xs → ds = xs.map D.int
  | [], xs, h => by cases h; rfl
  | d :: ds, xs, h => by
    cases d with
    | int i =>
      simp only [intsOf, Option.map_eq_some_iff] at h
      obtain ⟨ys, h1, rfl⟩ := h
      rw [intsOf_inv h1]
      rfl
    | _ => cases h
theorem okE_lst {ds : List D} (h : okE (.lst ds) = true) : ∃ xs : List Int, ds = xs.map D.int := by
  obtain ⟨xs, h⟩ := Option.isSome_iff_exists.mp h
  exact ⟨xs, intsOf_inv h⟩
theorem okE_pur {d : D} (h : okE d = true) : pur d = true := by
  cases d with
  | lst ds => obtain ⟨xs, rfl⟩ := okE_lst h; exact pur_ints xs
  | _ => first | rfl | (cases h; done)
theorem purL_of : ∀ {ds : List D}, (∀ d ∈ ds, pur d = true) → purL ds = true
  | [], _ => rfl
  | d :: ds, h => Bool.and_eq_true_iff.mpr ⟨h d List.mem_cons_self, purL_of fun x hx => h x (List.mem_cons_of_mem _ hx)⟩
theorem okE_nr {d : D} (h : okE d = true) (i : Nat) : cName i d ρ = some (ρ.set i (some d)) := by cases d <;> first | rfl | (cases h; done)
theorem okV_ty {v : D} (h : OkV v) : ty1 v = true := by
  rcases h with ⟨ds, rfl, _⟩ | ⟨xs, rfl⟩ <;> rfl
theorem okV_pur {v : D} (h : OkV v) : pur v = true := by
  rcases h with ⟨ds, rfl, h, _⟩ | ⟨xs, rfl⟩
  · exact purL_of fun d hd => okE_pur (h d hd)
  · exact pur_ints xs
/-- such things can be compared -/
theorem okE_py {d : D} (h : okE d = true) : ∃ p, toPy d = some p ∧ p.canLay0 = true ∧ p.depth ≤ 2 := by
  cases d with
  | non => exact ⟨.none, rfl, by simp [PyData.canLay0], by simp [PyData.depth]⟩
  | bl b => exact ⟨.bool b, rfl, by simp [PyData.canLay0], by simp [PyData.depth]⟩
  | int b => exact ⟨.int b, rfl, by simp [PyData.canLay0], by simp [PyData.depth]⟩
  | lst ds =>
    obtain ⟨xs, rfl⟩ := okE_lst h
    refine ⟨_, toPy_lints xs, ?_, ?_⟩
    · simp only [PyData.canLay0, (lay_ints xs).1]
    · simp only [PyData.depth]; have := (lay_ints xs).2; omega
  | _ => cases h
theorem okL_py : ∀ {ds : List D}, (∀ d ∈ ds, okE d = true) → ∃ ps, toPyL ds = some ps ∧ PyData.canLayAll0 ps = true ∧ PyData.depthAll ps ≤ 2 ∧ ps.length = ds.length
  | [], _ => ⟨[], rfl, by simp [PyData.canLayAll0], by simp [PyData.depthAll], rfl⟩
  | d :: ds, h => by
    obtain ⟨p, h1, h2, h3⟩ := okE_py (h d List.mem_cons_self)
    obtain ⟨ps, g1, g2, g3, g4⟩ := okL_py (ds := ds) fun x hx => h x (List.mem_cons_of_mem _ hx)
    refine ⟨p :: ps, by simp only [toPyL, h1, g1], ?_, ?_, by rw [List.length_cons, List.length_cons, g4]⟩
    · simp only [PyData.canLayAll0, h2, g2, Bool.and_self]
    · simp only [PyData.depthAll]; exact Nat.max_le.mpr ⟨h3, g3⟩
theorem deq_nil {ds : List D} (h : ∀ d ∈ ds, okE d = true) : deq (.lst ds) (.lst []) = some ds.isEmpty := by
  obtain ⟨ps, h1, h2, h3, h4⟩ := okL_py h
  rw [deq_of (p := .list ps) (q := .list []) (by simp only [toPy, h1, Option.map_some]) rfl]
  · simp only [PyData.eqv]
    cases ds with
    | nil => cases ps with
      | nil => rfl
      | cons _ _ => cases h4
    | cons _ _ => cases ps with
      | nil => cases h4
      | cons _ _ => rfl
  · simp only [SeqAt.shaped, PyData.canLay0, h2, PyData.depth, Bool.true_and]
    exact decide_eq_true (by omega)
  · simp [SeqAt.shaped, PyData.canLay0, PyData.canLayAll0, PyData.depth, PyData.depthAll]
/-- the things of a row that are not whole -/
def outs (ds : List D) (lo hi : Int) : List D := ds.flatMap fun d => if withB d lo hi then [] else [d]
theorem outs_ok {ds : List D} {lo hi : Int} (h : ∀ d ∈ ds, okE d = true) : ∀ d ∈ outs ds lo hi, okE d = true := fun d hd => by
  obtain ⟨x, hx, hd⟩ := List.mem_flatMap.mp hd
  split at hd
  · cases hd
  · rw [List.mem_singleton.mp hd]; exact h x hx
theorem outs_empty {ds : List D} {lo hi : Int} : (outs ds lo hi).isEmpty = ds.all fun d => withB d lo hi := by
  induction ds with
  | nil => rfl
  | cons d ds ih =>
    unfold outs at ih ⊢
    rw [List.flatMap_cons, List.all_cons]
    by_cases h : withB d lo hi = true
    · rw [if_pos h, h, List.nil_append, Bool.true_and]; exact ih
    · rw [if_neg h, Bool.eq_false_iff.mpr h]; rfl
theorem lc_outs {ds : List D} {i : Nat} {hi : Int} {fh : FE} {fi : FI} (hI : fi ρ S = .ok ds S) (h : ∀ d ∈ ds, okE d = true) (hl : ds.length ≤ 1000) (hv : ∀ (d : D) (S : Store), fVar i ((wipeE ρ [i]).set i (some d)) S = .ok d S)
    (hh : ∀ (d : D) (S : Store), fh ((wipeE ρ [i]).set i (some d)) S = .ok (.int hi) S) :
    fLc [i] fi (cName i) (fNotT (asB (fCallF F__law_whole (fCons (fVar i) (fCons (fC (.int 0)) (fCons fh fNil)))))) (fVar i) ρ S = .ok (.lst (outs ds 0 hi)) S := by
  refine fLc_pure hI (fun d hd => ?_) (by unfold lineN; omega)
  refine ⟨_, okE_nr (h d hd) i, fun acc => ?_⟩
  have e := law_whole_eq (S := S ++ [.lst acc]) (lo := 0) (hi := hi) (okE_ty (h d hd))
  have e2 : fNotT (asB (fCallF F__law_whole (fCons (fVar i) (fCons (fC (.int 0)) (fCons fh fNil))))) ((wipeE ρ [i]).set i (some d)) (S ++ [.lst acc]) = .ok (!withB d 0 hi) (S ++ [.lst acc]) := by
    have e3 : fCallF F__law_whole (fCons (fVar i) (fCons (fC (.int 0)) (fCons fh fNil))) ((wipeE ρ [i]).set i (some d)) (S ++ [.lst acc]) = .ok (.bl (withB d 0 hi)) (S ++ [.lst acc]) := evCallF (evCons (hv d _) (evCons rfl (evCons (hh d _) evNil))) e
    unfold fNotT
    rw [evB2 e3]
    rfl
  cases hw : withB d 0 hi with
  | true => exact .inl ⟨by rw [e2, hw]; rfl, by simp [hw]⟩
  | false => exact .inr ⟨by rw [e2, hw]; rfl, d, hv d _, okE_pur (h d hd), by simp [hw]⟩
/- places of years -/
def worstB (v : D) (n : Nat) : Bool := match v with | .tup [a, b] => withB a 0 n && withB b 0 n | _ => false
theorem worstB_len {ds : List D} {n : Nat} (h : ds.length ≠ 2) : worstB (.tup ds) n = false := by
  match ds, h with
  | [], _ => rfl
  | [_], _ => rfl
  | [_, _], q => exact absurd rfl q
  | _ :: _ :: _ :: _, _ => rfl
theorem rowB_len {ds : List D} {n : Nat} (h : ds.length ≠ n) : rowB (.tup ds) n = false := beq_eq_false_iff_ne.mpr (by omega)
theorem are_worst_bad {v : D} (r : F_is_row [v, .int 2] S = .ok (.bl false) S) : F_are_worst [cal ys u, v] S = .ok (.bl false) S := by
  simp [F_are_worst, b_are_worst, start0, r]
theorem are_worst_two {a b : D} (ha : ty1 a = true) (hb : ty1 b = true) : F_are_worst [cal ys u, .tup [a, b]] S = .ok (.bl (withB a 0 ys.length && withB b 0 ys.length)) S := by
  have r : F_is_row [.tup [a, b], .int 2] S = .ok (.bl true) S := is_row_eq rfl
  have w1 := is_within_eq (S := S) (lo := 0) (hi := ys.length) ha
  have w2 := is_within_eq (S := S) (lo := 0) (hi := ys.length) hb
  have i1 : gIx (.tup [a, b]) (.int 0) S = .ok a S := rfl
  have i2 : gIx (.tup [a, b]) (.int 1) S = .ok b S := rfl
  cases q : withB a 0 ys.length <;> simp [F_are_worst, b_are_worst, start0, r, w1, w2, i1, i2, q]
theorem are_worst_eq {v : D} (h : OkV v) : F_are_worst [cal ys u, v] S = .ok (.bl (worstB v ys.length)) S := by
  have r := is_row_eq (S := S) (n := 2) (okV_ty h)
  rcases h with ⟨ds, rfl, h, hl⟩ | ⟨xs, rfl⟩
  · by_cases q : ds.length = 2
    · match ds, q with
      | [a, b], _ => exact are_worst_two (okE_ty (h a (by simp))) (okE_ty (h b (by simp)))
    · rw [worstB_len q]
      exact are_worst_bad (r.trans (by rw [show rowB (.tup ds) 2 = false from rowB_len (n := 2) q]))
  · exact are_worst_bad r
theorem abs_eq {i : Int} : gAbs [.int i] S = .ok (.int i.natAbs) S := by
  show Res.ok (D.int (if i < 0 then -i else i)) S = _
  congr 2
  split <;> omega
theorem withB_nat {d : D} {n : Nat} (h : withB d 0 n = true) : ∃ a : Nat, d = .int a ∧ a ≤ n := by
  cases d with
  | int i =>
    simp only [withB, Bool.and_eq_true, decide_eq_true_eq] at h
    exact ⟨i.toNat, by congr 1; omega, by omega⟩
  | _ => cases h
theorem apart_eq {a b : Nat} (hl : ys.length ≤ 900) (ha : a ≤ ys.length) (hb : b ≤ ys.length) : F_apart [cal ys u, .tup [.int a, .int b]] S = .ok (.int (aheadI ys b - aheadI ys a).natAbs) S := by
  have i1 : gIx (.tup [.int (a : Int), .int (b : Int)]) (.int 0) S = .ok (.int a) S := rfl
  have i2 : gIx (.tup [.int (a : Int), .int (b : Int)]) (.int 1) S = .ok (.int b) S := rfl
  have j1 := ix_tints (S := S) (aheads_get ha)
  have j2 := ix_tints (S := S) (aheads_get hb)
  simp [F_apart, b_apart, start0, heights_eq hl, i1, i2, j1, j2, abs_eq]
theorem A0 (hl : ys.length ≤ 900) : F__law_ahead [told ys u] S = .ok (.lst ((aheads ys).map D.int)) S := by
  rw [show told ys u = .tup [.tup (ys.map D.int), .int u] from rfl]
  exact ahead_eq (ys := ys) (rest := [.int u]) (S := S) hl
theorem law_apart_list {xs : List Int} {t : D} {q : List D} (A : F__law_ahead [t] S = .ok (.lst q) S) : F__law_apart [t, .lst (xs.map D.int)] S = .ok (.int (-1)) S := by
  unfold F__law_apart b__law_apart
  generalize F__law_ahead = F at *
  generalize F__law_whole = F2 at *
  simp [start0, A]
theorem law_apart_len {ds q : List D} {t : D} (A : F__law_ahead [t] S = .ok (.lst q) S) (h : ds.length ≠ 2) : F__law_apart [t, .tup ds] S = .ok (.int (-1)) S := by
  have ln : gLen [.tup ds] S = .ok (.int ds.length) S := rfl
  have q : ((ds.length : Int) == 2) = false := beq_eq_false_iff_ne.mpr (by omega)
  unfold F__law_apart b__law_apart
  generalize F__law_ahead = F at *
  generalize F__law_whole = F2 at *
  simp [start0, A, ln, q]
theorem fld_told : gIx (told ys u) (.int 0) S = .ok (.tup (ys.map D.int)) S := rfl
theorem apart_lc {ds : List D} {t a : D} {n : Nat} (h : ∀ d ∈ ds, okE d = true) (hd : ds.length ≤ 1000) (hn : ∀ S, fCall gLen (fCons (f2 gIx (fC t) (fC (.int 0))) fNil) [] S = .ok (.int n) S) : fLc [3] (iSeq (fVar 1)) (cName 3) (fNotT (asB (fCallF F__law_whole (fCons (fVar 3) (fCons (fC (.int 0)) (fCons (fCall gLen (fCons (f2 gIx (fVar 0) (fC (.int 0))) fNil)) fNil)))))) (fVar 3) [some t, some (.tup ds), some a, none] S = .ok (.lst (outs ds 0 n)) S :=
  lc_outs rfl h hd (fun d S => rfl) (fun d S => hn S)
theorem ne_nil {es : List D} (h : ∀ d ∈ es, okE d = true) : gNe (.lst es) (.lst []) S = .ok (.bl (!es.isEmpty)) S := by
  unfold gNe; rw [deq_nil h]
theorem law_apart_two {a b t : D} {n : Nat} {q : List D} (A : F__law_ahead [t] S = .ok (.lst q) S) (hn : ∀ S, fCall gLen (fCons (f2 gIx (fC t) (fC (.int 0))) fNil) [] S = .ok (.int n) S) (ha : okE a = true) (hb : okE b = true) (hw : (withB a 0 n && withB b 0 n) = false) : F__law_apart [t, .tup [a, b]] S = .ok (.int (-1)) S := by
  have hE : ∀ d ∈ [a, b], okE d = true := fun d hd => by
    rcases List.mem_cons.mp hd with rfl | hd
    · exact ha
    · rw [List.mem_singleton.mp hd]; exact hb
  have o := apart_lc (S := S) (a := .lst q) hE (by simp) hn
  have dn := ne_nil (S := S) (outs_ok (lo := 0) (hi := n) hE)
  rw [outs_empty, List.all_cons, List.all_cons, List.all_nil, Bool.and_true, hw] at dn
  have ln : gLen [.tup [a, b]] S = .ok (.int 2) S := rfl
  unfold F__law_apart b__law_apart
  generalize F__law_ahead = F at *
  generalize F__law_whole = F2 at *
  simp [start0, A, ln, o, dn]
theorem law_apart_ok {a b n : Nat} {t : D} {xs : List Int} {x y : Int} (A : F__law_ahead [t] S = .ok (.lst (xs.map D.int)) S) (hn : ∀ S, fCall gLen (fCons (f2 gIx (fC t) (fC (.int 0))) fNil) [] S = .ok (.int n) S) (ha : a ≤ n) (hb : b ≤ n) (h1 : xs[a]? = some x) (h2 : xs[b]? = some y) : F__law_apart [t, .tup [.int a, .int b]] S = .ok (.int (x - y).natAbs) S := by
  have hE : ∀ d ∈ [D.int a, D.int b], okE d = true := fun d hd => by
    rcases List.mem_cons.mp hd with rfl | hd
    · rfl
    · rw [List.mem_singleton.mp hd]; rfl
  have o := apart_lc (S := S) (a := .lst (xs.map D.int)) hE (by simp) hn
  have dn := ne_nil (S := S) (outs_ok (lo := 0) (hi := n) hE)
  have w1 : withB (.int (a : Int)) 0 n = true := by simp [withB]; omega
  have w2 : withB (.int (b : Int)) 0 n = true := by simp [withB]; omega
  rw [outs_empty, List.all_cons, List.all_cons, List.all_nil, w1, w2] at dn
  have ln : gLen [.tup [.int (a : Int), .int (b : Int)]] S = .ok (.int 2) S := rfl
  have i1 : gIx (.tup [.int (a : Int), .int (b : Int)]) (.int 0) S = .ok (.int a) S := rfl
  have i2 : gIx (.tup [.int (a : Int), .int (b : Int)]) (.int 1) S = .ok (.int b) S := rfl
  have j1 := ix_lints (S := S) h1
  have j2 := ix_lints (S := S) h2
  unfold F__law_apart b__law_apart
  generalize F__law_ahead = F at *
  generalize F__law_whole = F2 at *
  simp [start0, A, ln, o, dn, i1, i2, j1, j2, abs_eq]
theorem len_told (S : Store) : fCall gLen (fCons (f2 gIx (fC (told ys u)) (fC (.int 0))) fNil) [] S = .ok (.int ys.length) S := evCall (evCons (ev2 rfl rfl fld_told) evNil) len_tints
/-- the law's own measure of two places: the same ones -/
theorem law_apart_spec {v : D} (h : OkV v) (hl : ys.length ≤ 900) :
    (∃ a b : Nat, a ≤ ys.length ∧ b ≤ ys.length ∧ v = .tup [.int a, .int b] ∧ (∀ S, F_are_worst [cal ys u, v] S = .ok (.bl true) S) ∧ ∀ S, F__law_apart [told ys u, v] S = .ok (.int (aheadI ys a - aheadI ys b).natAbs) S) ∨
    ((∀ S, F_are_worst [cal ys u, v] S = .ok (.bl false) S) ∧ ∀ S, F__law_apart [told ys u, v] S = .ok (.int (-1)) S) := by
  have w := fun S => are_worst_eq (S := S) (ys := ys) (u := u) h
  rcases h with ⟨ds, rfl, h, hd⟩ | ⟨xs, rfl⟩
  · by_cases q : ds.length = 2
    · match ds, q with
      | [a, b], _ =>
        have ha := h a (by simp)
        have hb := h b (by simp)
        cases hw : (withB a 0 ys.length && withB b 0 ys.length) with
        | true =>
          left
          obtain ⟨h1, h2⟩ := Bool.and_eq_true_iff.mp hw
          obtain ⟨a, rfl, ka⟩ := withB_nat h1
          obtain ⟨b, rfl, kb⟩ := withB_nat h2
          exact ⟨a, b, ka, kb, rfl, fun S => (w S).trans (by rw [show worstB (.tup [.int (a : Int), .int (b : Int)]) ys.length = true from hw]), fun S => law_apart_ok (A0 hl) len_told ka kb (aheads_get ka) (aheads_get kb)⟩
        | false => exact .inr ⟨fun S => (w S).trans (by rw [show worstB (.tup [a, b]) ys.length = false from hw]), fun S => law_apart_two (A0 hl) len_told ha hb hw⟩
    · exact .inr ⟨fun S => (w S).trans (by rw [worstB_len q]), fun S => law_apart_len (A0 hl) q⟩
  · exact .inr ⟨w, fun S => law_apart_list (A0 hl)⟩
end
end KL

set_option Elab.async false
set_option linter.all false
set_option maxRecDepth 4000
set_option maxHeartbeats 4000000
/-! KR2: more big-step readings. -/
namespace KL
open PySem PySem.Spec PyProof.Rows L2 DL KA
section
variable {S S1 S2 S3 : Store} {ρ ρ1 : Ev}
theorem gen0 {p : Prop} (h : p) : p := h
theorem evIfT {c : FT} {f g : FE} {r : Res D} (h : c ρ S = .ok true S1) (h2 : f ρ S1 = r) : fIf c f g ρ S = r := by unfold fIf; rw [h]; exact h2
theorem evIfF {c : FT} {f g : FE} {r : Res D} (h : c ρ S = .ok false S1) (h2 : g ρ S1 = r) : fIf c f g ρ S = r := by unfold fIf; rw [h]; exact h2
theorem evNot {f : FT} {b : Bool} (h : f ρ S = .ok b S1) : fNotT f ρ S = .ok (!b) S1 := by unfold fNotT; rw [h]; rfl
theorem evNotF {f : FT} (h : f ρ S = .ok true S1) : fNotT f ρ S = .ok false S1 := by unfold fNotT; rw [h]; rfl
theorem evNotT {f : FT} (h : f ρ S = .ok false S1) : fNotT f ρ S = .ok true S1 := by unfold fNotT; rw [h]; rfl
theorem evOrF {f g : FT} {r : Res Bool} (h : f ρ S = .ok false S1) (h2 : g ρ S1 = r) : fOrT f g ρ S = r := by unfold fOrT; rw [h]; exact h2
theorem evOrT {f g : FT} (h : f ρ S = .ok true S1) : fOrT f g ρ S = .ok true S1 := by unfold fOrT; rw [h]; rfl
theorem evAndT {f g : FT} {r : Res Bool} (h : f ρ S = .ok true S1) (h2 : g ρ S1 = r) : fAndT f g ρ S = r := by unfold fAndT; rw [h]; exact h2
theorem evAndF {f g : FT} (h : f ρ S = .ok false S1) : fAndT f g ρ S = .ok false S1 := by unfold fAndT; rw [h]; rfl
theorem evA {f g : FE} {r : Res D} (h : f ρ S = .ok (.bl true) S1) (h2 : g ρ S1 = r) : fAnd f g ρ S = r := by unfold fAnd; rw [h]; exact h2
theorem evAF {f g : FE} (h : f ρ S = .ok (.bl false) S1) : fAnd f g ρ S = .ok (.bl false) S1 := by unfold fAnd; rw [h]; rfl
theorem evFld {k : Nat} {f : FE} {d : D} {r : Res D} (h : f ρ S = .ok d S1) (h2 : gFld k d S1 = r) : fFld k f ρ S = r := by unfold fFld; rw [h]; exact h2
theorem evMthL {g : GM} {fo : FE} {fs : FL} {d : D} {ds : List D} {r : Res D} (h : fo ρ S = .ok d S1) (hl : isL d S1 = true) (h2 : fs ρ S1 = .ok ds S2) (h3 : g d ds S2 = r) : fMthL g fo fs ρ S = r := by
  unfold fMthL; rw [h, Res.bind_ok, if_pos hl, h2, Res.bind_ok, h3]
theorem evSl {f : FE} {lo hi : FO} {d : D} {a b : Option Int} {r : Res D} (h : f ρ S = .ok d S1) (h1 : lo ρ S1 = .ok a S2) (h2 : hi ρ S2 = .ok b S3) (h3 : gSl d a b S3 = r) : fSl f lo hi ρ S = r := by
  unfold fSl; rw [h, Res.bind_ok, h1, Res.bind_ok, h2, Res.bind_ok, h3]
theorem evSome {f : FE} {i : Int} (h : f ρ S = .ok (.int i) S1) : oSome f ρ S = .ok (some i) S1 := by unfold oSome; rw [h]; rfl
theorem evMeth {c : Nat} {F : GF} {fo : FE} {fs : FL} {fl : List (Nat × D)} {ds : List D} {r : Res D} (h : fo ρ S = .ok (.ins c fl) S1) (h1 : fs ρ S1 = .ok ds S2) (h2 : F (.ins c fl :: ds) S2 = r) : fMeth c F fo fs ρ S = r := by
  unfold fMeth; rw [h, Res.bind_ok]; simp only [if_true]; rw [h1, Res.bind_ok, h2]
theorem evMake {c : Nat} {F : GF} {fs : FL} {ds : List D} {r : Res D} (h1 : fs ρ S = .ok ds S1) (h2 : makeD c F ds S1 = r) : fMake c F fs ρ S = r := by
  unfold fMake; rw [h1, Res.bind_ok, h2]
theorem stPar {i j : Nat} {g : FL} {x y : D} (h : g ρ S = .ok [x, y] S1) : sPar i j g ρ S = .nx ((ρ.set i (some x)).set j (some y)) S1 := by unfold sPar; rw [h]; rfl
theorem stPar3 {i j k : Nat} {g : FL} {x y z : D} (h : g ρ S = .ok [x, y, z] S1) : sPar3 i j k g ρ S = .nx (((ρ.set i (some x)).set j (some y)).set k (some z)) S1 := by unfold sPar3; rw [h]; rfl
theorem stAsgT2 {f : FE} {i j : Nat} {x y : D} (h : f ρ S = .ok (.tup [x, y]) S1) (hx : notRow x = true) (hy : notRow y = true) : sAsg f (pTup 2 (pCons (pName i) (pCons (pName j) pNil))) ρ S = .nx ((ρ.set i (some x)).set j (some y)) S1 := by
  unfold sAsg
  rw [h, Res.out_ok]
  simp only [p_ptup, List.length_cons, List.length_nil, if_true, p_pcons, pName_ok hx, pName_ok hy, Res.bind_ok, p_pnil, Res.out_ok]
theorem stFor {fi : FI} {p : FG} {body : FS} {ds : List D} {o : Out} (h : fi ρ S = .ok ds S1) (h2 : loopS p body ds ρ S1 = o) : sFor fi p body ρ S = o := by unfold sFor; rw [h]; exact h2
theorem stExpr {f : FE} {d : D} (h : f ρ S = .ok d S1) : sExpr f ρ S = .nx ρ S1 := by unfold sExpr; rw [h]; rfl
theorem stIfNx {c : FT} {f g : FS} {b : Bool} {o : Out} (h : c ρ S = .ok b S1) (h2 : (if b = true then f ρ S1 else g ρ S1) = o) : sIf c f g ρ S = o := by unfold sIf; rw [h]; exact h2
/-- a test that fails: `if c: return False` is passed by -/
theorem stSkip {c : FT} {f : FS} (h : c ρ S = .ok false S1) : sIf c f sNil ρ S = .nx ρ S1 := by unfold sIf; rw [h]; rfl
theorem evLst0 : fLst fNil ρ S = .ok (.lst []) S := id rfl
theorem evTup0 : fTup fNil ρ S = .ok (.tup []) S := id rfl
theorem evVar {i : Nat} {d : D} (h : ρ[i]? = some (some d)) : fVar i ρ S = .ok d S := by unfold fVar; rw [h]
end
end KL

set_option Elab.async false
set_option linter.all false
set_option maxRecDepth 4000
set_option maxHeartbeats 4000000
/-! KM5: heights. -/
namespace KL
open PySem PySem.Spec PyProof.Rows L2 DL KA
section
variable {S : Store} {ρ : Ev} {ys : List Int} {u : Int}
theorem flatMap_one {α β : Type} (f : α → β) (l : List α) : (l.flatMap fun x => [f x]) = l.map f := by
  induction l with
  | nil => rfl
  | cons x l ih => rw [List.flatMap_cons, ih]; rfl
theorem bools_of (bs : List Bool) : boolsOf (bs.map D.bl) = some bs := by
  induction bs with
  | nil => rfl
  | cons b bs ih => simp [boolsOf, ih]
theorem all_bls (bs : List Bool) : gAll [.lst (bs.map D.bl)] S = .ok (.bl (bs.all id)) S := by
  simp [gAll, items, bools_of]
/- a row whose things are all within bounds is one of integers -/
theorem ints_within : ∀ {ds : List D} {lo hi : Int}, (ds.all fun d => withB d lo hi) = true → ∃ xs : List Int, ds = xs.map D.int ∧ ∀ x ∈ xs, lo ≤ x ∧ x ≤ hi
  | [], _, _, _ => ⟨[], rfl, fun x hx => by cases hx⟩
  | d :: ds, lo, hi, h => by
    rw [List.all_cons] at h
    obtain ⟨h1, h2⟩ := Bool.and_eq_true_iff.mp h
    obtain ⟨xs, rfl, hx⟩ := ints_within h2
    cases d with
    | int i =>
      simp only [withB, Bool.and_eq_true, decide_eq_true_eq] at h1
      exact ⟨i :: xs, rfl, fun x hx' => by rcases List.mem_cons.mp hx' with rfl | q; exact h1; exact hx x q⟩
    | _ => cases h1
/- the law's own -/
theorem heighted_list {xs : List Int} {t : D} {q : List D} (A : F__law_ahead [t] S = .ok (.lst q) S) : F__law_heighted [t, .lst (xs.map D.int)] S = .ok (.int (-1)) S := by
  unfold F__law_heighted b__law_heighted
  generalize F__law_ahead = F at *
  generalize F__law_whole = F2 at *
  simp [start0, A]
theorem heighted_len {ds q : List D} {t : D} (A : F__law_ahead [t] S = .ok (.lst q) S) (h : ds.length ≠ q.length) : F__law_heighted [t, .tup ds] S = .ok (.int (-1)) S := by
  have ln : gLen [.tup ds] S = .ok (.int ds.length) S := rfl
  have ln2 : gLen [.lst q] S = .ok (.int q.length) S := rfl
  have q : ((ds.length : Int) == (q.length : Int)) = false := beq_eq_false_iff_ne.mpr (by omega)
  unfold F__law_heighted b__law_heighted
  generalize F__law_ahead = F at *
  generalize F__law_whole = F2 at *
  simp [start0, A, ln, ln2, q]
theorem heighted_lc {ds : List D} {t a : D} (h : ∀ d ∈ ds, okE d = true) (hd : ds.length ≤ 1000) : fLc [3] (iSeq (fVar 1)) (cName 3) (fNotT (asB (fCallF F__law_whole (fCons (fVar 3) (fCons (fC (.int 0)) (fCons (fC (.int 1600)) fNil)))))) (fVar 3) [some t, some (.tup ds), some a, none, none] S = .ok (.lst (outs ds 0 1600)) S :=
  lc_outs rfl h hd (fun d S => rfl) (fun d S => rfl)
theorem heighted_out {ds q : List D} {t : D} (A : F__law_ahead [t] S = .ok (.lst q) S) (h : ds.length = q.length) (hE : ∀ d ∈ ds, okE d = true) (hd : ds.length ≤ 1000) (hw : (ds.all fun d => withB d 0 1600) = false) : F__law_heighted [t, .tup ds] S = .ok (.int (-1)) S := by
  have ln : gLen [.tup ds] S = .ok (.int ds.length) S := rfl
  have ln2 : gLen [.lst q] S = .ok (.int q.length) S := rfl
  rw [h] at ln
  have o := heighted_lc (S := S) (t := t) (a := .lst q) hE hd
  have dn := ne_nil (S := S) (outs_ok (lo := 0) (hi := 1600) hE)
  rw [outs_empty, hw] at dn
  unfold F__law_heighted b__law_heighted
  generalize F__law_ahead = F at *
  generalize F__law_whole = F2 at *
  simp [start0, A, ln, ln2, o, dn]
/-- where the heights go otherwise -/
def offs (H xs : List Int) : List Int := ((List.range H.length).filter fun k => xs[k]?.getD 0 - xs[0]?.getD 0 != H[k]?.getD 0).map fun (k : Nat) => (k : Int)
def fO (H xs : List Int) (d : D) : List D := match d with | .int k => if xs[k.toNat]?.getD 0 - xs[0]?.getD 0 != H[k.toNat]?.getD 0 then [.int k] else [] | _ => []
theorem fO_all (H xs : List Int) : (upto 0 H.length).flatMap (fO H xs) = (offs H xs).map D.int := by
  unfold upto offs
  rw [List.flatMap_map]
  generalize List.range H.length = l
  induction l with
  | nil => rfl
  | cons k l ih =>
    rw [List.flatMap_cons, ih, List.filter_cons]
    show (if xs[((0 : Int) + (k : Int)).toNat]?.getD 0 - xs[0]?.getD 0 != H[((0 : Int) + (k : Int)).toNat]?.getD 0 then [D.int ((0 : Int) + (k : Int))] else []) ++ _ = _
    rw [Int.zero_add, Int.toNat_natCast]
    split
    · rw [List.map_cons, List.map_cons]; rfl
    · rfl
theorem lc_offs {H xs : List Int} {t : D} (hl : H.length ≤ 1000) (he : xs.length = H.length) (h0 : 0 < xs.length) {o : Option D} :
    fLc [4] (iR1 (fCons (fCall gLen (fCons (fVar 2) fNil)) fNil)) (cName 4) (asB (f2 gNe (f2 DL.gSub (f2 gIx (fVar 1) (fVar 4)) (f2 gIx (fVar 1) (fC (.int 0)))) (f2 gIx (fVar 2) (fVar 4)))) (fVar 4) [some t, some (.tup (xs.map D.int)), some (.lst (H.map D.int)), o, none] S = .ok (.lst ((offs H xs).map D.int)) S := by
  have i1 : iR1 (fCons (fCall gLen (fCons (fVar 2) fNil)) fNil) [some t, some (.tup (xs.map D.int)), some (.lst (H.map D.int)), o, none] S = .ok (upto 0 H.length) S :=
    r1_ok (evCons (evCall (evCons rfl evNil) len_lints) evNil) (by omega)
  rw [← fO_all]
  refine fLc_pure i1 (fun d hd => ?_) (by rw [len_upto]; unfold lineN; omega)
  obtain ⟨k, hk, rfl⟩ := mem_upto hd
  rw [Int.zero_add]
  refine ⟨_, rfl, fun acc => ?_⟩
  have a1 := ix_tints (S := S ++ [.lst acc]) (List.getElem?_eq_getElem (show k < xs.length by omega))
  have a2 := ix_tints (S := S ++ [.lst acc]) (List.getElem?_eq_getElem h0)
  have a3 := ix_lints (S := S ++ [.lst acc]) (List.getElem?_eq_getElem hk)
  have e : asB (f2 gNe (f2 DL.gSub (f2 gIx (fVar 1) (fVar 4)) (f2 gIx (fVar 1) (fC (.int 0)))) (f2 gIx (fVar 2) (fVar 4))) [some t, some (.tup (xs.map D.int)), some (.lst (H.map D.int)), o, some (.int (k : Int))] (S ++ [.lst acc]) = .ok (!(xs[k] - xs[0] == H[k])) (S ++ [.lst acc]) :=
    evB2 (ev2 (ev2 (ev2 rfl rfl a1) (ev2 rfl rfl a2) rfl) (ev2 rfl rfl a3) g_ne)
  have e2 : fO H xs (.int (k : Int)) = if (!(xs[k] - xs[0] == H[k])) = true then [.int (k : Int)] else [] := by
    simp only [fO, Int.toNat_natCast, List.getElem?_eq_getElem hk, List.getElem?_eq_getElem h0, List.getElem?_eq_getElem (show k < xs.length by omega), Option.getD_some]
    rfl
  rw [e2]
  cases hq : (!(xs[k] - xs[0] == H[k])) with
  | true => exact .inr ⟨e.trans (by rw [hq]), _, rfl, rfl, rfl⟩
  | false => exact .inl ⟨e.trans (by rw [hq]), rfl⟩
theorem eq_lnil {xs : List Int} : gEq (.lst (xs.map D.int)) (.lst []) S = .ok (.bl (decide (xs = []))) S := by
  unfold gEq
  rw [show (D.lst [] : D) = .lst (([] : List Int).map D.int) from rfl, deq_lints]
theorem heighted_ev {H : List D} {t v : D} {O O2 : List D} {n : Int} {b : Bool} {m : Int} (A : F__law_ahead [t] S = .ok (.lst H) S) (hv : gIsi [v, .ty "tuple"] S = .ok (.bl true) S) (ln : gLen [v] S = .ok (.int n) S) (ln2 : gLen [.lst H] S = .ok (.int n) S)
    (o : fLc [3] (iSeq (fVar 1)) (cName 3) (fNotT (asB (fCallF F__law_whole (fCons (fVar 3) (fCons (fC (.int 0)) (fCons (fC (.int 1600)) fNil)))))) (fVar 3) [some t, some v, some (.lst H), none, none] S = .ok (.lst O2) S) (dn : gNe (.lst O2) (.lst []) S = .ok (.bl false) S)
    (o2 : fLc [4] (iR1 (fCons (fCall gLen (fCons (fVar 2) fNil)) fNil)) (cName 4) (asB (f2 gNe (f2 DL.gSub (f2 gIx (fVar 1) (fVar 4)) (f2 gIx (fVar 1) (fC (.int 0)))) (f2 gIx (fVar 2) (fVar 4)))) (fVar 4) [some t, some v, some (.lst H), none, none] S = .ok (.lst O) S)
    (e2 : gEq (.lst O) (.lst []) S = .ok (.bl b) S) (mm : gMax [v] S = .ok (.int m) S) : F__law_heighted [t, v] S = .ok (.int (if b = true then m else -1)) S := by
  unfold F__law_heighted
  refine runRt (S1 := S) rfl ?_ rfl (takeS S)
  unfold b__law_heighted
  refine stNext (ρ1 := [some t, some v, some (.lst H), none, none]) (S1 := S) (stAsg (evCallF (evCons rfl evNil) A)) ?_
  refine stNext (ρ1 := [some t, some v, some (.lst H), none, none]) (S1 := S) (stIfF (S1 := S) ?_ rfl) ?_
  · exact evOrF (evNotF (evB2 (evCall (evCons rfl (evCons rfl evNil)) hv))) (evOrF (evB2 (ev2 (evCall (evCons rfl evNil) ln) (evCall (evCons rfl evNil) ln2) (g_ne.trans (by rw [beq_self_eq_true]; rfl)))) (evB2 (ev2 o evLst0 dn)))
  · cases b with
    | true => exact stRet (evIfT (evB2 (ev2 o2 evLst0 e2)) (evCall (evCons rfl evNil) mm))
    | false => exact stRet (evIfF (evB2 (ev2 o2 evLst0 e2)) rfl)
theorem heighted_in {H xs : List Int} {t : D} (A : F__law_ahead [t] S = .ok (.lst (H.map D.int)) S) (hl : H.length ≤ 1000) (he : xs.length = H.length) (h0 : 0 < xs.length) (hw : ∀ x ∈ xs, 0 ≤ x ∧ x ≤ 1600) : F__law_heighted [t, .tup (xs.map D.int)] S = .ok (.int (if offs H xs = [] then mx xs else -1)) S := by
  have ln := len_tints (S := S) (ys := xs)
  rw [he] at ln
  have ln2 := len_lints (S := S) (ys := H)
  have hE : ∀ d ∈ xs.map D.int, okE d = true := fun d hd => by obtain ⟨x, _, rfl⟩ := List.mem_map.mp hd; rfl
  have o := heighted_lc (S := S) (t := t) (a := .lst (H.map D.int)) hE (by rw [List.length_map]; omega)
  have dn := ne_nil (S := S) (outs_ok (lo := 0) (hi := 1600) hE)
  have hw' : ((xs.map D.int).all fun d => withB d 0 1600) = true := List.all_eq_true.mpr fun d hd => by
    obtain ⟨x, hx, rfl⟩ := List.mem_map.mp hd
    simp only [withB, Bool.and_eq_true, decide_eq_true_eq]
    exact hw x hx
  rw [outs_empty, hw'] at dn
  have o2 := lc_offs (S := S) (t := t) (o := none) hl he h0
  have e2 := eq_lnil (S := S) (xs := offs H xs)
  have m := max_tints (S := S) (ys := xs) (by intro q; rw [q] at h0; cases h0)
  have r := heighted_ev A rfl ln ln2 o dn o2 e2 m
  rw [r]
  by_cases q : offs H xs = []
  · rw [if_pos q, decide_eq_true q]; rfl
  · rw [if_neg q, decide_eq_false q]; rfl
end
end KL

set_option Elab.async false
set_option linter.all false
set_option maxRecDepth 4000
set_option maxHeartbeats 4000000
/-! KM6: heights by the program; the papers. -/
namespace KL
open PySem PySem.Spec PyProof.Rows L2 DL KA
section
variable {S : Store} {ρ : Ev} {ys : List Int} {u : Int}
theorem eN1 {ds : List D} (h : ∀ d ∈ ds, okE d = true) (hd : ds.length ≤ 1000) {a b c e f g : Option D} : fLc [4] (iSeq (fVar 1)) (cName 4) fYes (fCallF F_is_within (fCons (fVar 4) (fCons (fC (.int 0)) (fCons (fC (.int 1600)) fNil)))) [a, some (.tup ds), b, c, none, e, f, g] S = .ok (.lst ((ds.map fun d => withB d 0 1600).map D.bl)) S := by
  have := fLc_pure (S0 := S) (vs := [4]) (fi := iSeq (fVar 1)) (p := cName 4) (t := fYes) (e := fCallF F_is_within (fCons (fVar 4) (fCons (fC (.int 0)) (fCons (fC (.int 1600)) fNil)))) (ρ := [a, some (.tup ds), b, c, none, e, f, g]) (f := fun d => [D.bl (withB d 0 1600)]) (ds := ds) rfl (fun d hd => by
    refine ⟨_, okE_nr (h d hd) 4, fun acc => .inr ⟨rfl, _, evCallF (evCons rfl (evCons rfl (evCons rfl evNil))) (is_within_eq (okE_ty (h d hd))), rfl, rfl⟩⟩) (by unfold lineN; omega)
  rw [this, flatMap_one, List.map_map]
  rfl
/- the second comprehension -/
def z3 : List Int → List Int → List (Int × Int × Int)
  | x :: x' :: xs, y :: ys => (x, x', y) :: z3 (x' :: xs) ys
  | _, _ => []
theorem zip3_ints : ∀ (xs ys : List Int), zipL3 (xs.map D.int) ((xs.map D.int).drop 1) (ys.map D.int) = (z3 xs ys).map fun t => [D.int t.1, .int t.2.1, .int t.2.2]
  | [], ys => by simp [zipL3, z3]
  | [x], ys => by simp [zipL3, z3]
  | x :: x' :: xs, [] => by simp [zipL3, z3]
  | x :: x' :: xs, y :: ys => by
    have ih := zip3_ints (x' :: xs) ys
    simp only [List.map_cons, List.drop_succ_cons, List.drop_zero, z3, zipL3] at ih ⊢
    rw [ih]
theorem z3_iff (n L : Int) : ∀ (xs ys : List Int), xs.length = ys.length + 1 → (((z3 xs ys).all fun t => t.2.1 - t.1 == t.2.2 * n - L) = true ↔ ∀ k, (h : k < ys.length) → xs[k + 1]?.getD 0 - xs[k]?.getD 0 = ys[k] * n - L)
  | [], ys, h => by simp at h
  | [x], [], _ => by simp [z3]
  | [x], _ :: _, h => by simp at h
  | x :: x' :: xs, [], h => by simp at h
  | x :: x' :: xs, y :: ys, h => by
    have ih := z3_iff n L (x' :: xs) ys (by simpa using h)
    rw [z3, List.all_cons, Bool.and_eq_true, ih]
    constructor
    · rintro ⟨h1, h2⟩ k hk
      cases k with
      | zero => simpa using h1
      | succ k => simpa using h2 k (by simpa using hk)
    · intro h
      exact ⟨beq_iff_eq.mpr (h 0 (by simp)), fun k hk => h (k + 1) (by simpa using hk)⟩
theorem cut_from {α : Type} (xs : List α) (k : Nat) : cutL xs (some (k : Int)) none = xs.drop k := by
  unfold cutL
  rw [HT.sIx_none, HT.sIx_nat]
  by_cases h : k ≤ xs.length
  · rw [Nat.min_eq_left h, List.take_of_length_le (by rw [List.length_drop]; exact Nat.le_refl _)]
  · rw [Nat.min_eq_right (by omega), List.drop_of_length_le (Nat.le_refl _), List.drop_of_length_le (by omega), List.take_nil]
theorem eN2 {xs : List Int} {c : D} {n L : Int} (hc : ∀ S, gFld 6 c S = .ok (.tup (ys.map D.int)) S) (hn : -1000 ≤ n ∧ n ≤ 1000) (hl : xs.length ≤ 1000) {o : Option D} :
    fLc [5, 6, 7] (iZp zipI3 (fCons (fVar 1) (fCons (fSl (fVar 1) (oSome (fC (.int 1))) oNone) (fCons (fFld 6 (fVar 0)) fNil)))) (cTup 3 (cCons (cName 5) (cCons (cName 6) (cCons (cName 7) cNil)))) fYes (f2 gEq (f2 DL.gSub (fVar 6) (fVar 5)) (f2 DL.gSub (f2 gMul (fVar 7) (fVar 2)) (fVar 3))) [some c, some (.tup (xs.map D.int)), some (.int n), some (.int L), o, none, none, none] S = .ok (.lst (((z3 xs ys).map fun t => t.2.1 - t.1 == t.2.2 * n - L).map D.bl)) S := by
  have hz : iZp zipI3 (fCons (fVar 1) (fCons (fSl (fVar 1) (oSome (fC (.int 1))) oNone) (fCons (fFld 6 (fVar 0)) fNil))) [some c, some (.tup (xs.map D.int)), some (.int n), some (.int L), o, none, none, none] S = .ok ((z3 xs ys).map fun t => D.row [D.int t.1, .int t.2.1, .int t.2.2]) S := by
    have e : (fCons (fVar 1) (fCons (fSl (fVar 1) (oSome (fC (.int 1))) oNone) (fCons (fFld 6 (fVar 0)) fNil))) [some c, some (.tup (xs.map D.int)), some (.int n), some (.int L), o, none, none, none] S = .ok [.tup (xs.map D.int), .tup ((xs.map D.int).drop 1), .tup (ys.map D.int)] S :=
      evCons rfl (evCons (evSl rfl (evSome rfl) rfl (show gSl (.tup (xs.map D.int)) (some 1) none S = .ok (.tup ((xs.map D.int).drop 1)) S from by
        show Res.ok (D.tup (cutL (xs.map D.int) (some ((1 : Nat) : Int)) none)) S = _
        rw [cut_from])) (evCons (evFld rfl (hc S)) evNil))
    unfold iZp
    rw [e, Res.bind_ok]
    have e2 : zipI3 [.tup (xs.map D.int), .tup ((xs.map D.int).drop 1), .tup (ys.map D.int)] = some ((z3 xs ys).map fun t => D.row [D.int t.1, .int t.2.1, .int t.2.2]) := by
      show some ((zipL3 (xs.map D.int) ((xs.map D.int).drop 1) (ys.map D.int)).map D.row) = _
      rw [zip3_ints, List.map_map]
      rfl
    rw [e2]
  have hlen : (z3 xs ys).length ≤ xs.length := by
    clear hz
    generalize ys = ys
    induction xs generalizing ys with
    | nil => simp [z3]
    | cons x xs ih => cases xs with
      | nil => simp [z3]
      | cons x' xs => cases ys with
        | nil => simp [z3]
        | cons y ys =>
          have := ih (by simp at hl ⊢; omega) ys
          simp only [z3, List.length_cons] at this ⊢
          omega
  have := fLc_pure (S0 := S) (f := fun d => match d with | .row [.int x, .int x', .int y] => [D.bl (x' - x == y * n - L)] | _ => []) (vs := [5, 6, 7]) (p := cTup 3 (cCons (cName 5) (cCons (cName 6) (cCons (cName 7) cNil)))) (t := fYes) (e := f2 gEq (f2 DL.gSub (fVar 6) (fVar 5)) (f2 DL.gSub (f2 gMul (fVar 7) (fVar 2)) (fVar 3))) hz (fun d hd => by
    obtain ⟨t, _, rfl⟩ := List.mem_map.mp hd
    refine ⟨_, rfl, fun acc => .inr ⟨rfl, _, ev2 (ev2 rfl rfl rfl) (ev2 (ev2 rfl rfl (g_mul (mul_small (by omega) (by omega)))) rfl rfl) g_eq, rfl, rfl⟩⟩) (by rw [List.length_map]; unfold lineN; omega)
  rw [this, List.flatMap_map, flatMap_one, List.map_map]
  rfl
theorem are_heights_list {c : D} {xs : List Int} (hc : ∀ S, gFld 6 c S = .ok (.tup (ys.map D.int)) S) {v : D} (r : F_is_row [v, .int ((ys.length : Int) + 1)] S = .ok (.bl false) S) : F_are_heights [c, v] S = .ok (.bl false) S := by
  unfold F_are_heights
  refine runRt (S1 := S) rfl ?_ rfl (takeS S)
  unfold b_are_heights
  refine stNext (stAsgT2 (evTup (evCons (evCall (evCons (evFld rfl (hc S)) evNil) len_tints) (evCons (evCall (evCons (evFld rfl (hc S)) evNil) sum_tints) evNil)) (by simp)) rfl rfl) ?_
  exact stStop (stIfT (evOrT (evNotT (evB2 (evCallF (evCons rfl (evCons (ev2 rfl rfl rfl) evNil)) r)))) (stRet rfl))
theorem are_heights_out {c : D} {ds : List D} (hc : ∀ S, gFld 6 c S = .ok (.tup (ys.map D.int)) S) (r : F_is_row [.tup ds, .int ((ys.length : Int) + 1)] S = .ok (.bl true) S) (h : ∀ d ∈ ds, okE d = true) (hd : ds.length ≤ 1000) (hw : (ds.all fun d => withB d 0 1600) = false) : F_are_heights [c, .tup ds] S = .ok (.bl false) S := by
  have e := all_bls (S := S) (ds.map fun d => withB d 0 1600)
  rw [List.all_map, show ((id : Bool → Bool) ∘ fun d => withB d 0 1600) = fun d => withB d 0 1600 from rfl, hw] at e
  unfold F_are_heights
  refine runRt (S1 := S) rfl ?_ rfl (takeS S)
  unfold b_are_heights
  refine stNext (stAsgT2 (evTup (evCons (evCall (evCons (evFld rfl (hc S)) evNil) len_tints) (evCons (evCall (evCons (evFld rfl (hc S)) evNil) sum_tints) evNil)) (by simp)) rfl rfl) ?_
  exact stStop (stIfT (evOrF (evNotF (evB2 (evCallF (evCons rfl (evCons (ev2 rfl rfl rfl) evNil)) r))) (evNotT (evB2 (evCall (evCons (eN1 h hd) evNil) e)))) (stRet rfl))
theorem are_heights_in {c : D} {xs : List Int} (hc : ∀ S, gFld 6 c S = .ok (.tup (ys.map D.int)) S) (hn : ys.length ≤ 900) (hl : xs.length = ys.length + 1) (hw : ∀ x ∈ xs, 0 ≤ x ∧ x ≤ 1600) : F_are_heights [c, .tup (xs.map D.int)] S = .ok (.bl ((z3 xs ys).all fun t => t.2.1 - t.1 == t.2.2 * (ys.length : Int) - ys.sum)) S := by
  have hE : ∀ d ∈ xs.map D.int, okE d = true := fun d hd => by obtain ⟨x, _, rfl⟩ := List.mem_map.mp hd; rfl
  have r : F_is_row [.tup (xs.map D.int), .int ((ys.length : Int) + 1)] S = .ok (.bl true) S := by
    rw [is_row_eq rfl]
    congr 2
    show (((xs.map D.int).length : Int) == (ys.length : Int) + 1) = true
    rw [List.length_map, hl]
    exact beq_iff_eq.mpr rfl
  have hw' : ((xs.map D.int).all fun d => withB d 0 1600) = true := List.all_eq_true.mpr fun d hd => by
    obtain ⟨x, hx, rfl⟩ := List.mem_map.mp hd
    simp only [withB, Bool.and_eq_true, decide_eq_true_eq]
    exact hw x hx
  have e := all_bls (S := S) ((xs.map D.int).map fun d => withB d 0 1600)
  rw [List.all_map, show ((id : Bool → Bool) ∘ fun d => withB d 0 1600) = fun d => withB d 0 1600 from rfl, hw'] at e
  have e2 := all_bls (S := S) ((z3 xs ys).map fun t => t.2.1 - t.1 == t.2.2 * (ys.length : Int) - ys.sum)
  rw [List.all_map] at e2
  have n2 := eN2 (S := S) (xs := xs) (L := ys.sum) (o := none) hc (n := (ys.length : Int)) (by omega) (by omega)
  unfold F_are_heights
  refine runRt (S1 := S) rfl ?_ rfl (takeS S)
  unfold b_are_heights
  refine stNext (stAsgT2 (evTup (evCons (evCall (evCons (evFld rfl (hc S)) evNil) len_tints) (evCons (evCall (evCons (evFld rfl (hc S)) evNil) sum_tints) evNil)) (by simp)) rfl rfl) ?_
  refine stNext (stSkip (evOrF (evNotF (evB2 (evCallF (evCons rfl (evCons (ev2 rfl rfl rfl) evNil)) r))) (evNotF (evB2 (evCall (evCons (eN1 hE (by rw [List.length_map]; omega)) evNil) e))))) ?_
  exact stRet (evCall (evCons n2 evNil) e2)
end
end KL

set_option Elab.async false
set_option linter.all false
set_option maxRecDepth 4000
set_option maxHeartbeats 4000000
/-! KM7: heights and papers, what both sides say. -/
namespace KL
open PySem PySem.Spec PyProof.Rows L2 DL KA
section
variable {S : Store} {ρ : Ev} {ys : List Int} {u : Int}
theorem offs_nil {xs : List Int} : offs (aheads ys) xs = [] ↔ ∀ k, k ≤ ys.length → xs[k]?.getD 0 - xs[0]?.getD 0 = aheadI ys k := by
  unfold offs
  rw [List.map_eq_nil_iff, List.filter_eq_nil_iff]
  constructor
  · intro h k hk
    have := h k (List.mem_range.mpr (by rw [aheads_len]; omega))
    rw [aheads_get hk, Option.getD_some] at this
    simpa using this
  · intro h k hk
    have hk' : k ≤ ys.length := by have := List.mem_range.mp hk; rw [aheads_len] at this; omega
    rw [aheads_get hk', Option.getD_some, h k hk']
    simp
theorem heights_good {xs : List Int} (hn : ys.length ≤ 900) (hl : xs.length = ys.length + 1) (hw : ∀ x ∈ xs, 0 ≤ x ∧ x ≤ 1600) (hg : ∀ k, k ≤ ys.length → xs[k]?.getD 0 - xs[0]?.getD 0 = aheadI ys k) :
    F_are_heights [cal ys u, .tup (xs.map D.int)] S = .ok (.bl true) S ∧ F__law_heighted [told ys u, .tup (xs.map D.int)] S = .ok (.int (mx xs)) S := by
  constructor
  · rw [are_heights_in (fun S => fld6) hn hl hw, (z3_iff _ _ xs ys hl).mpr ((heights_iff hl).mp hg)]
  · rw [heighted_in (A0 hn) (by rw [aheads_len]; omega) (by rw [aheads_len, hl]) (by omega) hw, if_pos (offs_nil.mpr hg)]
theorem heights_bad {xs : List Int} (hn : ys.length ≤ 900) (hl : xs.length = ys.length + 1) (hw : ∀ x ∈ xs, 0 ≤ x ∧ x ≤ 1600) (hg : ¬ ∀ k, k ≤ ys.length → xs[k]?.getD 0 - xs[0]?.getD 0 = aheadI ys k) :
    F_are_heights [cal ys u, .tup (xs.map D.int)] S = .ok (.bl false) S ∧ F__law_heighted [told ys u, .tup (xs.map D.int)] S = .ok (.int (-1)) S := by
  constructor
  · rw [are_heights_in (fun S => fld6) hn hl hw, Bool.eq_false_iff.mpr fun q => hg ((heights_iff hl).mpr ((z3_iff _ _ xs ys hl).mp q))]
  · rw [heighted_in (A0 hn) (by rw [aheads_len]; omega) (by rw [aheads_len, hl]) (by omega) hw, if_neg fun q => hg (offs_nil.mp q)]
theorem heights_spec {v : D} (h : OkV v) (hn : ys.length ≤ 900) :
    (∃ xs : List Int, v = .tup (xs.map D.int) ∧ xs ≠ [] ∧ 0 ≤ mx xs ∧ (∀ S, F_are_heights [cal ys u, v] S = .ok (.bl true) S) ∧ ∀ S, F__law_heighted [told ys u, v] S = .ok (.int (mx xs)) S) ∨
    ((∀ S, F_are_heights [cal ys u, v] S = .ok (.bl false) S) ∧ ∀ S, F__law_heighted [told ys u, v] S = .ok (.int (-1)) S) := by
  rcases h with ⟨ds, rfl, hE, hd⟩ | ⟨xs, rfl⟩
  · by_cases hl : ds.length = ys.length + 1
    · have r : ∀ S, F_is_row [.tup ds, .int ((ys.length : Int) + 1)] S = .ok (.bl true) S := fun S => by
        rw [is_row_eq rfl]
        congr 2
        show ((ds.length : Int) == (ys.length : Int) + 1) = true
        rw [hl]
        exact beq_iff_eq.mpr rfl
      cases hw : (ds.all fun d => withB d 0 1600) with
      | true =>
        obtain ⟨xs, rfl, hx⟩ := ints_within hw
        rw [List.length_map] at hl
        by_cases hg : ∀ k, k ≤ ys.length → xs[k]?.getD 0 - xs[0]?.getD 0 = aheadI ys k
        · have hne : xs ≠ [] := fun q => by rw [q] at hl; cases hl
          exact .inl ⟨xs, rfl, hne, (hx _ (mx_mem hne)).1, fun S => (heights_good hn hl hx hg).1, fun S => (heights_good hn hl hx hg).2⟩
        · exact .inr ⟨fun S => (heights_bad hn hl hx hg).1, fun S => (heights_bad hn hl hx hg).2⟩
      | false =>
        refine .inr ⟨fun S => are_heights_out (fun S => fld6) (r S) hE hd hw, fun S => ?_⟩
        exact heighted_out (A0 hn) (by rw [List.length_map, aheads_len, hl]) hE hd hw
    · refine .inr ⟨fun S => are_heights_list (xs := []) (fun S => fld6) ?_, fun S => heighted_len (A0 hn) (by rw [List.length_map, aheads_len]; exact hl)⟩
      rw [is_row_eq rfl]
      congr 2
      show ((ds.length : Int) == (ys.length : Int) + 1) = false
      exact beq_eq_false_iff_ne.mpr (by omega)
  · exact .inr ⟨fun S => are_heights_list (xs := []) (fun S => fld6) (is_row_eq rfl), fun S => heighted_list (A0 hn)⟩
/- the paper -/
def raised (ys : List Int) : List Int := (aheads ys).map fun x => x - mn (aheads ys)
theorem raised_add (ys : List Int) (c : Int) : ((aheads ys).map fun x => x - mn (aheads ys) + c) = (aheads ys).map (· + (c - mn (aheads ys))) := by
  refine List.map_congr_left fun x _ => ?_
  show x - mn (aheads ys) + c = x + (c - mn (aheads ys))
  omega
theorem lifted_ok {c : Int} (hb : ∀ y ∈ ys, y = 0 ∨ y = 1) (hn : ys.length ≤ 12) (h0 : 0 ≤ c) (h1 : c ≤ 3) : let xs := (aheads ys).map fun x => x - mn (aheads ys) + c
    xs.length = ys.length + 1 ∧ (∀ x ∈ xs, 0 ≤ x ∧ x ≤ 1600) ∧ (∀ k, k ≤ ys.length → xs[k]?.getD 0 - xs[0]?.getD 0 = aheadI ys k) ∧ mx xs = unevenI ys + c := by
  intro xs
  refine ⟨by rw [List.length_map, aheads_len], fun x hx => ?_, fun k hk => ?_, ?_⟩
  · obtain ⟨y, hy, rfl⟩ := List.mem_map.mp hx
    have a := mn_le hy
    have b := le_mx hy
    have d := uneven_b hb hn
    unfold unevenI at d
    omega
  · have e0 : (aheads ys)[0]? = some 0 := by rw [aheads_get (Nat.zero_le _), ahead_0]
    simp only [xs, List.getElem?_map, aheads_get hk, e0, Option.map_some, Option.getD_some]
    omega
  · show mx ((aheads ys).map fun x => x - mn (aheads ys) + c) = _
    rw [raised_add, mx_add (aheads_ne ys)]
    unfold unevenI
    omega
theorem raised_0 (ys : List Int) : raised ys = (aheads ys).map fun x => x - mn (aheads ys) + 0 := List.map_congr_left fun x _ => by omega
theorem lc_minus {xs H : List Int} {i j : Nat} {fi : FI} {fm : FE} {m : Int} (hi : fi ρ S = .ok (xs.map D.int) S) (hl : xs.length ≤ 1000) (hv : ∀ (d : D) (S : Store), fVar i ((wipeE ρ [i]).set i (some d)) S = .ok d S)
    (hm : ∀ (d : D) (S : Store), fm ((wipeE ρ [i]).set i (some d)) S = .ok (.int m) S) :
    fLc [i] fi (cName i) fYes (f2 DL.gSub (fVar i) fm) ρ S = .ok (.lst ((xs.map fun x => x - m).map D.int)) S := by
  have := fLc_pure (S0 := S) (f := fun d => match d with | .int x => [D.int (x - m)] | _ => []) (vs := [i]) (p := cName i) (t := fYes) (e := f2 DL.gSub (fVar i) fm) hi (fun d hd => by
    obtain ⟨x, _, rfl⟩ := List.mem_map.mp hd
    exact ⟨_, rfl, fun acc => .inr ⟨rfl, _, ev2 (hv _ _) (hm _ _) rfl, rfl, rfl⟩⟩) (by rw [List.length_map]; unfold lineN; omega)
  rw [this, List.flatMap_map, flatMap_one, List.map_map]
  rfl
theorem lc_lift {xs H : List Int} {i j : Nat} {fi : FI} {fm : FE} {m c : Int} (hi : fi ρ S = .ok (xs.map D.int) S) (hl : xs.length ≤ 1000) (hv : ∀ (d : D) (S : Store), fVar i ((wipeE ρ [i]).set i (some d)) S = .ok d S)
    (hm : ∀ (d : D) (S : Store), fm ((wipeE ρ [i]).set i (some d)) S = .ok (.int m) S) :
    fLc [i] fi (cName i) fYes (f2 gAdd (f2 DL.gSub (fVar i) fm) (fC (.int c))) ρ S = .ok (.lst ((xs.map fun x => x - m + c).map D.int)) S := by
  have := fLc_pure (S0 := S) (f := fun d => match d with | .int x => [D.int (x - m + c)] | _ => []) (vs := [i]) (p := cName i) (t := fYes) (e := f2 gAdd (f2 DL.gSub (fVar i) fm) (fC (.int c))) hi (fun d hd => by
    obtain ⟨x, _, rfl⟩ := List.mem_map.mp hd
    exact ⟨_, rfl, fun acc => .inr ⟨rfl, _, ev2 (ev2 (hv _ _) (hm _ _) rfl) rfl rfl, rfl, rfl⟩⟩) (by rw [List.length_map]; unfold lineN; omega)
  rw [this, List.flatMap_map, flatMap_one, List.map_map]
  rfl
theorem tup_of {xs : List D} : DL.gTup [.lst xs] S = .ok (.tup xs) S := id rfl
theorem raised_eq (hn : ys.length ≤ 900) : F_raised_heights [cal ys u] S = .ok (.tup ((raised ys).map D.int)) S := by
  unfold F_raised_heights
  refine runRt (S1 := S) rfl ?_ (pur_tints _) (takeS S)
  unfold b_raised_heights
  refine stNext (stAsg (evCallF (evCons rfl evNil) (heights_eq hn)) rfl) (stRet (evCall (evCons (lc_minus (H := []) (j := 0) (m := mn (aheads ys)) rfl (by rw [aheads_len]; omega) (fun d S => rfl) (fun d S => evCall (evCons rfl evNil) (min_tints (aheads_ne ys)))) evNil) tup_of))
def paperD (ys : List Int) : D := .tup [.tup ((raised ys).map D.int), .tup [.int (iMin ys), .int (iMax ys)]]
theorem paper_eq (hn : ys.length ≤ 900) : F_calendar_paper [cal ys u] S = .ok (paperD ys) S := by
  unfold F_calendar_paper
  refine runRt (S1 := S) rfl ?_ (by show purL [.tup ((raised ys).map D.int), .tup [.int (iMin ys), .int (iMax ys)]] = true; simp [purL, pur]; exact pur_ints _) (takeS S)
  exact stRet (evTup (evCons (evCallF (evCons rfl evNil) (raised_eq hn)) (evCons (evCallF (evCons rfl evNil) (worst_eq hn)) evNil)) (by simp))
theorem is_paper_row {c v : D} (r : F_is_row [v, .int 2] S = .ok (.bl false) S) : F_is_calendar_paper [c, v] S = .ok (.bl false) S := by
  unfold F_is_calendar_paper
  refine runRt (S1 := S) rfl ?_ rfl (takeS S)
  unfold b_is_calendar_paper
  exact stStop (stIfT (evOrT (evNotT (evB2 (evCallF (evCons rfl (evCons rfl evNil)) r)))) (stRet rfl))
theorem row2 {a b : D} : F_is_row [.tup [a, b], .int 2] S = .ok (.bl true) S := is_row_eq rfl
theorem is_paper_h {c a b : D} (h : F_are_heights [c, a] S = .ok (.bl false) S) : F_is_calendar_paper [c, .tup [a, b]] S = .ok (.bl false) S := by
  unfold F_is_calendar_paper
  refine runRt (S1 := S) rfl ?_ rfl (takeS S)
  unfold b_is_calendar_paper
  exact stStop (stIfT (evOrF (evNotF (evB2 (evCallF (evCons rfl (evCons rfl evNil)) row2))) (evOrT (evNotT (evB2 (evCallF (evCons rfl (evCons (ev2 rfl rfl rfl) evNil)) h))))) (stRet rfl))
theorem is_paper_w {c a b : D} (h : F_are_heights [c, a] S = .ok (.bl true) S) (w : F_are_worst [c, b] S = .ok (.bl false) S) : F_is_calendar_paper [c, .tup [a, b]] S = .ok (.bl false) S := by
  unfold F_is_calendar_paper
  refine runRt (S1 := S) rfl ?_ rfl (takeS S)
  unfold b_is_calendar_paper
  exact stStop (stIfT (evOrF (evNotF (evB2 (evCallF (evCons rfl (evCons rfl evNil)) row2))) (evOrF (evNotF (evB2 (evCallF (evCons rfl (evCons (ev2 rfl rfl rfl) evNil)) h))) (evNotT (evB2 (evCallF (evCons rfl (evCons (ev2 rfl rfl rfl) evNil)) w))))) (stRet rfl))
theorem is_paper_ok {c a b : D} {m p : Int} (h : F_are_heights [c, a] S = .ok (.bl true) S) (w : F_are_worst [c, b] S = .ok (.bl true) S) (hm : gMax [a] S = .ok (.int m) S) (hp : F_apart [c, b] S = .ok (.int p) S) : F_is_calendar_paper [c, .tup [a, b]] S = .ok (.bl (m == p)) S := by
  unfold F_is_calendar_paper
  refine runRt (S1 := S) rfl ?_ rfl (takeS S)
  unfold b_is_calendar_paper
  refine stNext (stSkip (evOrF (evNotF (evB2 (evCallF (evCons rfl (evCons rfl evNil)) row2))) (evOrF (evNotF (evB2 (evCallF (evCons rfl (evCons (ev2 rfl rfl rfl) evNil)) h))) (evNotF (evB2 (evCallF (evCons rfl (evCons (ev2 rfl rfl rfl) evNil)) w)))))) ?_
  exact stRet (ev2 (evCall (evCons (ev2 rfl rfl rfl) evNil) hm) (evCallF (evCons rfl (evCons (ev2 rfl rfl rfl) evNil)) hp) g_eq)
end
end KL

set_option Elab.async false
set_option linter.all false
set_option maxRecDepth 4000
set_option maxHeartbeats 4000000
/-! KM8: _law_alike of equal values; _law_spoiled. -/
namespace KL
open PySem PySem.Spec PyProof.Rows L2 DL KA
section
variable {S : Store} {ρ : Ev} {ys : List Int} {u : Int}
theorem eq_nilnil : gEq (.lst []) (.lst []) S = .ok (.bl true) S := eq_lnil (xs := [])
theorem alike_int {n : Nat} {i : Int} : F__law_alike (n + 1) [.int i, .int i] S = .ok (.bl true) S := by
  show runF 2 3 (b__law_alike (F__law_alike n)) [.int i, .int i] S = _
  refine runRt (S1 := S) rfl ?_ rfl (takeS S)
  unfold b__law_alike
  refine stNext (stSkip (evB2 (evCall (evCons rfl (evCons (evTup (evCons rfl (evCons rfl evNil)) (by simp)) evNil)) isi_int_seq))) ?_
  refine stNext (stSkip (evOrF (evB2 (ev2 rfl rfl rfl)) (evB2 (evCall (evCons rfl (evCons rfl evNil)) isi_int_str)))) ?_
  refine stRet (evA (evCall (evCons rfl (evCons rfl evNil)) isi_int_int) (evA (ev2 (evCall (evCons rfl (evCons rfl evNil)) isi_int_bool) (evCall (evCons rfl (evCons rfl evNil)) isi_int_bool) g_eqB) (ev2 rfl rfl (g_eq.trans ?_))))
  rw [beq_self_eq_true]
theorem alike_bl {n : Nat} {i : Bool} : F__law_alike (n + 1) [.bl i, .bl i] S = .ok (.bl true) S := by
  show runF 2 3 (b__law_alike (F__law_alike n)) [.bl i, .bl i] S = _
  refine runRt (S1 := S) rfl ?_ rfl (takeS S)
  unfold b__law_alike
  refine stNext (stSkip (evB2 (evCall (evCons rfl (evCons (evTup (evCons rfl (evCons rfl evNil)) (by simp)) evNil)) isi_bl_seq))) ?_
  refine stNext (stSkip (evOrF (evB2 (ev2 rfl rfl rfl)) (evB2 (evCall (evCons rfl (evCons rfl evNil)) isi_bl_str)))) ?_
  refine stRet (evA (evCall (evCons rfl (evCons rfl evNil)) isi_bl_int) (evA (ev2 (evCall (evCons rfl (evCons rfl evNil)) isi_bl_bool) (evCall (evCons rfl (evCons rfl evNil)) isi_bl_bool) g_eqB) (ev2 rfl rfl (g_eqB.trans ?_))))
  rw [beq_self_eq_true]
theorem alike_tup {n : Nat} {ds : List D} (hl : ds.length ≤ 1000) (h : ∀ d ∈ ds, ∀ S, F__law_alike n [d, d] S = .ok (.bl true) S) : F__law_alike (n + 1) [.tup ds, .tup ds] S = .ok (.bl true) S := by
  have i1 : iR1 (fCons (fCall gLen (fCons (fVar 1) fNil)) fNil) [some (.tup ds), some (.tup ds), none] S = .ok (upto 0 ds.length) S := r1_ok (evCons (evCall (evCons rfl evNil) rfl) evNil) (by omega)
  have lc := fLc_pure (S0 := S) (f := fun _ => []) (vs := [2]) (p := cName 2) (t := fNotT (asB (fCallF (F__law_alike n) (fCons (f2 gIx (fVar 0) (fVar 2)) (fCons (f2 gIx (fVar 1) (fVar 2)) fNil))))) (e := fVar 2) i1 (fun d hd => by
    obtain ⟨k, hk, rfl⟩ := mem_upto hd
    rw [Int.zero_add]
    refine ⟨_, rfl, fun acc => .inl ⟨?_, rfl⟩⟩
    have a := fun S => ix_tup (S := S) (List.getElem?_eq_getElem hk)
    exact evNotF (evB2 (evCallF (evCons (ev2 rfl rfl (a _)) (evCons (ev2 rfl rfl (a _)) evNil)) (h _ (List.getElem_mem hk) _)))) (by rw [len_upto]; unfold lineN; omega)
  have e0 : (upto 0 ds.length).flatMap (fun _ => ([] : List D)) = [] := by
    generalize upto 0 ds.length = l
    induction l with
    | nil => rfl
    | cons x l ih => rw [List.flatMap_cons, ih]; rfl
  rw [e0] at lc
  have ln : gLen [.tup ds] S = .ok (.int ds.length) S := rfl
  show runF 2 3 (b__law_alike (F__law_alike n)) [.tup ds, .tup ds] S = _
  refine runRt (S1 := S) rfl ?_ rfl (takeS S)
  unfold b__law_alike
  refine stStop (stIfT (evB2 (evCall (evCons rfl (evCons (evTup (evCons rfl (evCons rfl evNil)) (by simp)) evNil)) isi_tup_seq)) ?_)
  refine stNext (stSkip (evOrF (evNotF (evB2 (evCall (evCons rfl (evCons (evTup (evCons rfl (evCons rfl evNil)) (by simp)) evNil)) isi_tup_seq))) (evB2 (ev2 (evCall (evCons rfl (evCons rfl evNil)) isi_tup_list) (evCall (evCons rfl (evCons rfl evNil)) isi_tup_list) g_neB)))) ?_
  refine stNext (stSkip (evB2 (ev2 (evCall (evCons rfl evNil) ln) (evCall (evCons rfl evNil) ln) (g_ne.trans (by rw [beq_self_eq_true]; rfl))))) ?_
  exact stRet (ev2 lc evLst0 eq_nilnil)
theorem alike_ints {n : Nat} {xs : List Int} (hl : xs.length ≤ 1000) : F__law_alike (n + 2) [.tup (xs.map D.int), .tup (xs.map D.int)] S = .ok (.bl true) S :=
  alike_tup (by rw [List.length_map]; exact hl) fun d hd S => by obtain ⟨x, _, rfl⟩ := List.mem_map.mp hd; exact alike_int
/- the values spoiled -/
theorem spoiled_int {R : SO} {Z : Store} {n : Nat} {i : Int} (hR : RowOk R) : ∃ d R', RowOk R' ∧ okE d = true ∧ F__law_spoiled (n + 1) [.obj 0, .int i] (R :: Z) = .ok d (R' :: Z) := by
  obtain ⟨d, R', hR', hd, e⟩ := pickR (Z := Z) (xs := [.int (i + 1), .int (i - 1), .int 0, .non, .bl true, .lst [.int i], .int (-1)]) hR (by simp) (by simp) rfl
  have hE : okE d = true := by
    simp only [List.mem_cons, List.not_mem_nil, or_false] at hd
    rcases hd with rfl | rfl | rfl | rfl | rfl | rfl | rfl <;> rfl
  refine ⟨d, R', hR', hE, ?_⟩
  show runF 2 3 (b__law_spoiled (F__law_spoiled n)) [.obj 0, .int i] (R :: Z) = _
  refine runRt (S1 := R' :: Z) rfl ?_ (okE_pur hE) (by show (R' :: Z).take (Z.length + 1) = _; rw [List.take_succ_cons, List.take_length])
  unfold b__law_spoiled
  refine stStop (stIfT (evNotT (evB2 (evCall (evCons rfl (evCons rfl evNil)) isi_int_tuple))) (stRet (evIfT (evB2 (evCall (evCons rfl (evCons rfl evNil)) isi_int_int)) ?_)))
  exact evCallF (evCons rfl (evCons (evLst (evCons (ev2 rfl rfl rfl) (evCons (ev2 rfl rfl rfl) (evCons rfl (evCons rfl (evCons rfl (evCons (evLst (evCons rfl evNil) (by simp)) (evCons rfl evNil))))))) (by simp)) evNil)) e
theorem cutL_mem {ds : List D} {a b : Option Int} {d : D} (h : d ∈ cutL ds a b) : d ∈ ds := List.mem_of_mem_drop (List.mem_of_mem_take h)
theorem cutL_len {ds : List D} {a b : Option Int} : (cutL ds a b).length ≤ ds.length := by
  unfold cutL
  rw [List.length_take, List.length_drop]
  omega
theorem spoiled_tup {R : SO} {Z : Store} {n : Nat} {xs : List Int} (hR : RowOk R) (hl : xs.length ≤ 400) : ∃ v R', RowOk R' ∧ OkV v ∧ F__law_spoiled (n + 2) [.obj 0, .tup (xs.map D.int)] (R :: Z) = .ok v (R' :: Z) := by
  have tk : ∀ R' : SO, (R' :: Z).take (R :: Z).length = R' :: Z := fun R' => by show (R' :: Z).take (Z.length + 1) = _; rw [List.take_succ_cons, List.take_length]
  have hI : ∀ d ∈ xs.map D.int, okE d = true := fun d hd => by obtain ⟨x, _, rfl⟩ := List.mem_map.mp hd; rfl
  have hdl : (xs.map D.int).length = xs.length := List.length_map _
  -- the seven other forms
  have seven : ∀ {R1 : SO}, RowOk R1 → ∃ v R', RowOk R' ∧ OkV v ∧ fCallF F__law_pick (fCons (fVar 0) (fCons (fLst (fCons (f2 gAdd (fVar 1) (fTup (fCons (fC (.int 0)) fNil))) (fCons (fSl (fVar 1) (oSome (fC (.int 1))) oNone) (fCons (fSl (fVar 1) oNone (oSome (fNeg (fC (.int 1))))) (fCons (fCall gList (fCons (fVar 1) fNil)) (fCons (f2 gAdd (fVar 1) (fSl (fVar 1) oNone (oSome (fC (.int 1))))) (fCons (fRevS (fVar 1)) (fCons (fTup fNil) fNil)))))))) fNil)) [some (.obj 0), some (.tup (xs.map D.int)), none] (R1 :: Z) = .ok v (R' :: Z) := fun {R1} hR1 => by
    have pl : purL [.tup (xs.map D.int ++ [.int 0]), .tup (cutL (xs.map D.int) (some 1) none), .tup (cutL (xs.map D.int) none (some (-1))), .lst (xs.map D.int), .tup (xs.map D.int ++ cutL (xs.map D.int) none (some 1)), .tup (xs.map D.int).reverse, .tup []] = true := by
      refine purL_of fun d hd => ?_
      simp only [List.mem_cons, List.not_mem_nil, or_false] at hd
      rcases hd with rfl | rfl | rfl | rfl | rfl | rfl | rfl
      · refine purL_of fun d hd => ?_
        rcases List.mem_append.mp hd with hd | hd
        · exact okE_pur (hI d hd)
        · rw [List.mem_singleton.mp hd]; rfl
      · exact purL_of fun d hd => okE_pur (hI d (cutL_mem hd))
      · exact purL_of fun d hd => okE_pur (hI d (cutL_mem hd))
      · exact pur_ints xs
      · refine purL_of fun d hd => ?_
        rcases List.mem_append.mp hd with hd | hd
        · exact okE_pur (hI d hd)
        · exact okE_pur (hI d (cutL_mem hd))
      · exact purL_of fun d hd => okE_pur (hI d (List.mem_reverse.mp hd))
      · rfl
    obtain ⟨d, R', hR', hd, e⟩ := pickR (Z := Z) hR1 (by simp) (by simp) pl
    refine ⟨d, R', hR', ?_, ?_⟩
    · simp only [List.mem_cons, List.not_mem_nil, or_false] at hd
      rcases hd with rfl | rfl | rfl | rfl | rfl | rfl | rfl
      · refine .inl ⟨_, rfl, fun d hd => ?_, by rw [List.length_append, hdl]; simp; omega⟩
        rcases List.mem_append.mp hd with hd | hd
        · exact hI d hd
        · rw [List.mem_singleton.mp hd]; rfl
      · exact .inl ⟨_, rfl, fun d hd => hI d (cutL_mem hd), Nat.le_trans cutL_len (by omega)⟩
      · exact .inl ⟨_, rfl, fun d hd => hI d (cutL_mem hd), Nat.le_trans cutL_len (by omega)⟩
      · exact .inr ⟨xs, rfl⟩
      · refine .inl ⟨_, rfl, fun d hd => ?_, by rw [List.length_append]; have := cutL_len (ds := xs.map D.int) (a := none) (b := some 1); omega⟩
        rcases List.mem_append.mp hd with hd | hd
        · exact hI d hd
        · exact hI d (cutL_mem hd)
      · exact .inl ⟨_, rfl, fun d hd => hI d (List.mem_reverse.mp hd), by rw [List.length_reverse]; omega⟩
      · exact .inl ⟨[], rfl, (fun d hd => by cases hd), by simp⟩
    · have g1 : ∀ {es : List D}, es.length ≤ 1000 → gAdd (.tup (xs.map D.int)) (.tup es) (R1 :: Z) = .ok (.tup (xs.map D.int ++ es)) (R1 :: Z) := fun {es} h => by
        show (if (xs.map D.int).length + es.length ≤ lineN then _ else _) = _
        rw [if_pos (by unfold lineN; omega)]
      exact evCallF (evCons rfl (evCons (evLst (evCons (ev2 rfl (evTup (evCons rfl evNil) (by simp)) (g1 (by simp))) (evCons (evSl rfl (evSome rfl) rfl rfl) (evCons (evSl rfl rfl (evSome rfl) rfl) (evCons (evCall (evCons rfl evNil) rfl) (evCons (ev2 rfl (evSl rfl rfl (evSome rfl) rfl) (g1 (Nat.le_trans cutL_len (by omega)))) (evCons rfl (evCons evTup0 evNil))))))) (by simp)) evNil)) e
  have ln : ∀ S, gLen [.tup (xs.map D.int)] S = .ok (.int xs.length) S := fun S => len_tints
  have pass1 : ∀ S, sIf (fNotT (asB (fCall gIsi (fCons (fVar 1) (fCons (fC (.ty "tuple")) fNil))))) (sRet (fIf (asB (fCall gIsi (fCons (fVar 1) (fCons (fC (.ty "int")) fNil)))) (fCallF F__law_pick (fCons (fVar 0) (fCons (fLst (fCons (f2 gAdd (fVar 1) (fC (.int 1))) (fCons (f2 DL.gSub (fVar 1) (fC (.int 1))) (fCons (fC (.int 0)) (fCons (fC .non) (fCons (fC (.bl true)) (fCons (fLst (fCons (fVar 1) fNil)) (fCons (fNeg (fC (.int 1))) fNil)))))))) fNil))) (fCallF F__law_pick (fCons (fVar 0) (fCons (fLst (fCons (fC .non) (fCons (fC (.str "a")) (fCons (fC (.str "zz")) (fCons (fC (.int 1)) (fCons (fVar 1) fNil)))))) fNil))))) sNil [some (.obj 0), some (.tup (xs.map D.int)), none] S = .nx [some (.obj 0), some (.tup (xs.map D.int)), none] S := fun S =>
    stSkip (evNotF (evB2 (evCall (evCons rfl (evCons rfl evNil)) isi_tup_tuple)))
  show ∃ v R', RowOk R' ∧ OkV v ∧ runF 2 3 (b__law_spoiled (F__law_spoiled (n + 1))) [.obj 0, .tup (xs.map D.int)] (R :: Z) = .ok v (R' :: Z)
  by_cases h0 : xs = []
  · obtain ⟨v, R', hR', hv, e⟩ := seven hR
    refine ⟨v, R', hR', hv, runRt (S1 := R' :: Z) rfl ?_ (okV_pur hv) (tk R')⟩
    unfold b__law_spoiled
    refine stNext (pass1 _) (stStop (stIfT (evOrT (evB2 (ev2 (evCall (evCons rfl evNil) (ln _)) rfl (g_eq.trans ?_)))) (stRet e)))
    rw [h0]
    rfl
  · obtain ⟨a, R1, hR1, a0, a1, e1⟩ := takenR (Z := Z) (many := 6) hR (by decide) (by decide)
    have hp : 0 < xs.length := by cases xs with | nil => exact absurd rfl h0 | cons _ _ => simp
    have q1 : ((xs.length : Int) == 0) = false := beq_eq_false_iff_ne.mpr (by omega)
    by_cases ha : a = 0
    · obtain ⟨v, R', hR', hv, e⟩ := seven hR1
      refine ⟨v, R', hR', hv, runRt (S1 := R' :: Z) rfl ?_ (okV_pur hv) (tk R')⟩
      unfold b__law_spoiled
      refine stNext (pass1 _) (stStop (stIfT (evOrF (evB2 (ev2 (evCall (evCons rfl evNil) (ln _)) rfl (g_eq.trans (by rw [q1])))) (evB2 (ev2 (evCallF (evCons rfl (evCons rfl evNil)) e1) rfl (g_eq.trans (by rw [ha]; rfl))))) (stRet e)))
    · obtain ⟨b, R2, hR2, b0, b1, e2⟩ := takenR (Z := Z) (many := (xs.length : Int)) hR1 (by omega) (by omega)
      obtain ⟨k, rfl⟩ : ∃ k : Nat, b = (k : Int) := ⟨b.toNat, by omega⟩
      have hk : k < xs.length := by omega
      obtain ⟨d, R3, hR3, hd, e3⟩ := spoiled_int (Z := Z) (n := n) (i := xs[k]) hR2
      have e2' : F__law_taken [.obj 0, .int (xs.length : Int)] (R1 :: Z) = .ok (.int (k : Int)) (R2 :: Z) := e2
      have hv : OkV (.tup (cutL (xs.map D.int) none (some (k : Int)) ++ [d] ++ cutL (xs.map D.int) (some ((k : Int) + 1)) none)) := by
        refine .inl ⟨_, rfl, fun z hz => ?_, ?_⟩
        · rcases List.mem_append.mp hz with hz | hz
          · rcases List.mem_append.mp hz with hz | hz
            · exact hI z (cutL_mem hz)
            · rw [List.mem_singleton.mp hz]; exact hd
          · exact hI z (cutL_mem hz)
        · have h1 := cutL_len (ds := xs.map D.int) (a := none) (b := some (k : Int))
          have h2 := cutL_len (ds := xs.map D.int) (a := some ((k : Int) + 1)) (b := none)
          rw [List.length_append, List.length_append, List.length_singleton]
          omega
      refine ⟨_, R3, hR3, hv, runRt (S1 := R3 :: Z) rfl ?_ (okV_pur hv) (tk R3)⟩
      unfold b__law_spoiled
      refine stNext (pass1 _) (stNext (stSkip (evOrF (evB2 (ev2 (evCall (evCons rfl evNil) (ln _)) rfl (g_eq.trans (by rw [q1])))) (evB2 (ev2 (evCallF (evCons rfl (evCons rfl evNil)) e1) rfl (g_eq.trans (by rw [beq_eq_false_iff_ne.mpr ha])))))) ?_)
      refine stNext (stAsg (evCallF (evCons rfl (evCons (evCall (evCons rfl evNil) (ln _)) evNil)) e2') rfl) ?_
      have i3 := ix_tints (S := R2 :: Z) (List.getElem?_eq_getElem hk)
      have g1 : ∀ {as es : List D} {S : Store}, as.length ≤ 1000 → es.length ≤ 1000 → gAdd (.tup as) (.tup es) S = .ok (.tup (as ++ es)) S := fun {as es S} h h' => by
        show (if as.length + es.length ≤ lineN then _ else _) = _
        rw [if_pos (by unfold lineN; omega)]
      refine stRet (ev2 (ev2 (evSl rfl rfl (evSome rfl) rfl) (evTup (evCons (evCallF (evCons rfl (evCons (ev2 rfl rfl i3) evNil)) e3) evNil) (by simp)) (g1 (Nat.le_trans cutL_len (by omega)) (by simp))) (evSl rfl (evSome (ev2 rfl rfl rfl)) rfl rfl) (g1 ?_ (Nat.le_trans cutL_len (by omega))))
      rw [List.length_append, List.length_singleton]
      have h1 := cutL_len (ds := xs.map D.int) (a := none) (b := some (k : Int))
      omega
end
end KL

set_option Elab.async false
set_option linter.all false
set_option maxRecDepth 4000
set_option maxHeartbeats 4000000
/-! KM9: making calendars, and the refusals. -/
namespace KL
open PySem PySem.Spec PyProof.Rows L2 DL KA
section
variable {S S1 S2 S3 : Store} {ρ ρ1 : Ev} {ys : List Int} {u : Int} {c : Nat} {fs : List (Nat × D)}
theorem xCons1 {f : FE} {g : FL} (h : f ρ S = .exc c fs S1) : fCons f g ρ S = .exc c fs S1 := by unfold fCons; rw [h]; rfl
theorem xCons2 {f : FE} {g : FL} {d : D} (h : f ρ S = .ok d S1) (h2 : g ρ S1 = .exc c fs S2) : fCons f g ρ S = .exc c fs S2 := by unfold fCons; rw [h, Res.bind_ok, h2]; rfl
theorem xCallF {F : GF} {g : FL} (h : g ρ S = .exc c fs S1) : fCallF F g ρ S = .exc c fs S1 := by unfold fCallF; rw [h]; rfl
theorem xMake {k : Nat} {F : GF} {g : FL} (h : g ρ S = .exc c fs S1) : fMake k F g ρ S = .exc c fs S1 := by unfold fMake; rw [h]; rfl
theorem xTup {g : FL} (h : g ρ S = .exc c fs S1) : fTup g ρ S = .exc c fs S1 := by unfold fTup; rw [h]; rfl
theorem sxExpr {f : FE} (h : f ρ S = .exc c fs S1) : sExpr f ρ S = .exc c fs S1 := by unfold sExpr; rw [h]; rfl
theorem sxRet {f : FE} (h : f ρ S = .exc c fs S1) : sRet f ρ S = .exc c fs S1 := by unfold sRet; rw [h]; rfl
theorem sxNext {f g : FS} (h : f ρ S = .exc c fs S1) : sCons f g ρ S = .exc c fs S1 := by unfold sCons; rw [h]; rfl
theorem sxFor {fi : FI} {p : FG} {body : FS} {ds : List D} {o : Out} (h : fi ρ S = .ok ds S1) (h2 : loopS p body ds ρ S1 = o) : sFor fi p body ρ S = o := stFor h h2
theorem runNx {n m : Nat} {body : FS} {ds : List D} (hl : ds.length = n) (hb : body (start0 m ds) S = .nx ρ1 S1) (hS : S1.take S.length = S2) : runF n m body ds S = .ok .non S2 := by
  unfold runF; rw [if_pos hl, hb]; show Res.ok _ (S1.take S.length) = _; rw [hS]
theorem runX {n m : Nat} {body : FS} {ds : List D} (hl : ds.length = n) (hb : body (start0 m ds) S = .exc c fs S1) (hp : purF fs = true) (hS : S1.take S.length = S2) : runF n m body ds S = .exc c fs S2 := by
  unfold runF; rw [if_pos hl, hb]; show (if purF fs = true then _ else _) = _; rw [if_pos hp, hS]
theorem sRaise_ok {k : Nat} {fids : List Nat} {g : FL} {ds : List D} (h : g ρ S = .ok ds S1) (hl : ds.length = fids.length) : sRaise k fids g ρ S = .exc k (fids.zip ds).reverse S1 := by
  unfold sRaise; rw [h, Res.out_ok, if_pos hl]
/- require_part -/
theorem req_non {p : D} : F_require_part [p, .non] S = .ok .non S := by
  unfold F_require_part
  refine runNx (S1 := S) (ρ1 := [some p, some .non]) rfl ?_ (takeS S)
  exact stIfF (S1 := S) (evB2 (ev2 rfl rfl rfl)) rfl
theorem req_at {p : Str} {k : Int} (hk : 0 ≤ k) : F_require_part [.str p, .int k] S = .exc 0 [(1, .int k), (0, .str p)] S := by
  unfold F_require_part
  refine runX (S1 := S) rfl ?_ rfl (takeS S)
  exact stIfT (S1 := S) (evB2 (ev2 rfl rfl rfl)) (sRaise_ok (ds := [.str p, .int k]) (evCons rfl (evCons (evIfF (evB2 (ev2 rfl rfl (g_eq.trans (by rw [beq_eq_false_iff_ne.mpr (by omega)])))) rfl) evNil)) rfl)
theorem req_no {p : Str} : F_require_part [.str p, .int (-1)] S = .exc 0 [(1, .non), (0, .str p)] S := by
  unfold F_require_part
  refine runX (S1 := S) rfl ?_ rfl (takeS S)
  exact stIfT (S1 := S) (evB2 (ev2 rfl rfl rfl)) (sRaise_ok (ds := [.str p, .non]) (evCons rfl (evCons (evIfT (evB2 (ev2 rfl rfl (g_eq.trans (by rfl)))) rfl) evNil)) rfl)
theorem wrong_number_eq {d : D} {lo hi : Int} (h : ty1 d = true) : F_wrong_number [d, .int lo, .int hi] S = .ok (if withB d lo hi then .non else .int (-1)) S := by
  unfold F_wrong_number
  have e := is_within_eq (S := S) (lo := lo) (hi := hi) h
  cases hw : withB d lo hi with
  | true => rw [hw] at e; exact runRt (S1 := S) rfl (stRet (evIfT (evB2 (evCallF (evCons rfl (evCons rfl (evCons rfl evNil))) e)) rfl)) rfl (takeS S)
  | false => rw [hw] at e; exact runRt (S1 := S) rfl (stRet (evIfF (evB2 (evCallF (evCons rfl (evCons rfl (evCons rfl evNil))) e)) rfl)) rfl (takeS S)
theorem is_year_eq {d a : D} (h : ty1 d = true) : F_is_year [d, a] S = .ok (.bl (withB d 0 1)) S := by
  unfold F_is_year
  exact runRt (S1 := S) rfl (stRet (evCallF (evCons rfl (evCons rfl (evCons rfl evNil))) (is_within_eq h))) rfl (takeS S)
/- first_wrong -/
def fwD : Nat → List D → D
  | _, [] => .non
  | i, d :: ds => if withB d 0 1 then fwD (i + 1) ds else .int i
def bFW : FS := sIf (fNotT (asB (fCallV tab_first_wrong 3 (fCons (fVar 5) (fCons (fSl (fVar 0) oNone (oSome (fVar 4))) fNil))))) (sRet (fVar 4)) sNil
theorem evCallV {tab : Nat → Option GF} {i j : Nat} {g : FL} {F : GF} {ds : List D} {r : Res D} (hv : ρ[i]? = some (some (.fn j))) (ht : tab j = some F) (h1 : g ρ S = .ok ds S1) (h2 : F ds S1 = r) : fCallV tab i g ρ S = r := by
  unfold fCallV; rw [hv]; simp only; rw [ht]; simp only; rw [h1, Res.bind_ok, h2]
theorem fw_loop {D0 : List D} : ∀ (ds : List D) (i : Nat) (e4 e5 : Option D), (∀ d ∈ ds, ty1 d = true) →
    (∃ a b, loopS (pTup 2 (pCons (pName 4) (pCons (pName 5) pNil))) bFW ((enumL i ds).map D.row) [some (.tup D0), some (.int 1), some (.int 40), some (.fn 10), e4, e5] S = .nx [some (.tup D0), some (.int 1), some (.int 40), some (.fn 10), a, b] S ∧ fwD i ds = .non) ∨
    loopS (pTup 2 (pCons (pName 4) (pCons (pName 5) pNil))) bFW ((enumL i ds).map D.row) [some (.tup D0), some (.int 1), some (.int 40), some (.fn 10), e4, e5] S = .rt (fwD i ds) S
  | [], i, e4, e5, _ => .inl ⟨e4, e5, rfl, rfl⟩
  | d :: ds, i, e4, e5, h => by
    have hd := h d List.mem_cons_self
    have nr : notRow d = true := by cases d <;> first | rfl | (cases hd; done)
    have p : pTup 2 (pCons (pName 4) (pCons (pName 5) pNil)) (.row [.int (i : Int), d]) [some (.tup D0), some (.int 1), some (.int 40), some (.fn 10), e4, e5] S = .ok [some (.tup D0), some (.int 1), some (.int 40), some (.fn 10), some (.int (i : Int)), some d] S := by
      simp only [p_prow, List.length_cons, List.length_nil, if_true, p_pcons, p_int, Res.bind_ok, pName_ok nr, p_pnil]
      rfl
    have y := fun a => is_year_eq (S := S) (a := a) hd
    have t : ∀ b, withB d 0 1 = b → fNotT (asB (fCallV tab_first_wrong 3 (fCons (fVar 5) (fCons (fSl (fVar 0) oNone (oSome (fVar 4))) fNil)))) [some (.tup D0), some (.int 1), some (.int 40), some (.fn 10), some (.int (i : Int)), some d] S = .ok (!b) S := fun b hb =>
      evNot (evB2 (evCallV rfl rfl (evCons rfl (evCons (evSl rfl rfl (evSome rfl) rfl) evNil)) ((y _).trans (by rw [hb]))))
    have st : loopS (pTup 2 (pCons (pName 4) (pCons (pName 5) pNil))) bFW ((enumL i (d :: ds)).map D.row) [some (.tup D0), some (.int 1), some (.int 40), some (.fn 10), e4, e5] S = (bFW [some (.tup D0), some (.int 1), some (.int 40), some (.fn 10), some (.int (i : Int)), some d] S).next (loopS (pTup 2 (pCons (pName 4) (pCons (pName 5) pNil))) bFW ((enumL (i + 1) ds).map D.row)) := by
      show ((pTup 2 (pCons (pName 4) (pCons (pName 5) pNil)) (.row [.int (i : Int), d]) [some (.tup D0), some (.int 1), some (.int 40), some (.fn 10), e4, e5] S).out fun ρ1 S1 => bFW ρ1 S1).next _ = _
      rw [p, Res.out_ok]
    cases hw : withB d 0 1 with
    | true =>
      have b1 : bFW [some (.tup D0), some (.int 1), some (.int 40), some (.fn 10), some (.int (i : Int)), some d] S = .nx [some (.tup D0), some (.int 1), some (.int 40), some (.fn 10), some (.int (i : Int)), some d] S := stSkip (t true hw)
      rw [st, b1, Out.next_nx, fwD, if_pos hw]
      exact fw_loop ds (i + 1) _ _ fun x hx => h x (List.mem_cons_of_mem _ hx)
    | false =>
      have b1 : bFW [some (.tup D0), some (.int 1), some (.int 40), some (.fn 10), some (.int (i : Int)), some d] S = .rt (.int (i : Int)) S := stIfT (t false hw) (stRet rfl)
      right
      rw [st, b1, fwD, hw]
      rfl
theorem first_wrong_eq {ds : List D} (h : ∀ d ∈ ds, ty1 d = true) (h1 : 1 ≤ ds.length) (h2 : ds.length ≤ 40) : F_first_wrong [.tup ds, .int 1, .int 40, .fn 10] S = .ok (fwD 0 ds) S := by
  unfold F_first_wrong
  have ln : gLen [.tup ds] S = .ok (.int ds.length) S := rfl
  have c1 : decide ((1 : Int) ≤ (ds.length : Int)) = true := decide_eq_true (by omega)
  have c2 : decide ((ds.length : Int) ≤ 40) = true := decide_eq_true (by omega)
  have pz : pur (fwD 0 ds) = true := by
    generalize 0 = i
    induction ds generalizing i with
    | nil => rfl
    | cons d ds ih =>
      unfold fwD
      split
      · cases ds with
        | nil => rfl
        | cons e es => exact ih (fun x hx => h x (List.mem_cons_of_mem _ hx)) (by simp) (by simp at h2 ⊢; omega) rfl (decide_eq_true (by simp; omega)) (decide_eq_true (by simp at h2 ⊢; omega)) _
      · rfl
  have g : fNotT (asB (f3 gLe gLe (fVar 1) (fCall gLen (fCons (fVar 0) fNil)) (fVar 2))) [some (.tup ds), some (.int 1), some (.int 40), some (.fn 10), none, none] S = .ok false S := by
    refine evNotF (evB2 ?_)
    unfold f3
    rw [show fVar 1 [some (.tup ds), some (.int 1), some (.int 40), some (.fn 10), none, none] S = .ok (.int 1) S from rfl, Res.bind_ok, evCall (evCons rfl evNil) ln, Res.bind_ok, g_le, c1, Res.bind_ok]
    simp only
    rw [show fVar 2 [some (.tup ds), some (.int 1), some (.int 40), some (.fn 10), none, none] S = .ok (.int 40) S from rfl, Res.bind_ok, g_le, c2]
  have e0 : iEn (fVar 0) [some (.tup ds), some (.int 1), some (.int 40), some (.fn 10), none, none] S = .ok ((enumL 0 ds).map D.row) S := rfl
  have pass : ∀ {o}, sCons (sFor (iEn (fVar 0)) (pTup 2 (pCons (pName 4) (pCons (pName 5) pNil))) bFW) (sRet (fC .non)) [some (.tup ds), some (.int 1), some (.int 40), some (.fn 10), none, none] S = o → b_first_wrong [some (.tup ds), some (.int 1), some (.int 40), some (.fn 10), none, none] S = o := fun {o} h => by
    unfold b_first_wrong
    exact stNext (stSkip (evOrF (evNotF (evB2 (evCall (evCons rfl (evCons rfl evNil)) isi_tup_tuple))) g)) h
  rcases fw_loop (S := S) (D0 := ds) ds 0 none none h with ⟨a, b, e, e2⟩ | e
  · rw [e2]
    exact runRt (S1 := S) rfl (pass (stNext (stFor e0 e) (stRet rfl))) rfl (takeS S)
  · exact runRt (S1 := S) rfl (pass (stStop (stFor e0 e))) pz (takeS S)
theorem first_wrong_len {ds : List D} (h1 : ds.length = 0) : F_first_wrong [.tup ds, .int 1, .int 40, .fn 10] S = .ok (.int (-1)) S := by
  have ln : gLen [.tup ds] S = .ok (.int 0) S := by rw [← Int.ofNat_zero, ← h1]; rfl
  unfold F_first_wrong
  refine runRt (S1 := S) rfl ?_ rfl (takeS S)
  unfold b_first_wrong
  refine stStop (stIfT (evOrF (evNotF (evB2 (evCall (evCons rfl (evCons rfl evNil)) isi_tup_tuple))) (evNotT (evB2 ?_))) (stRet rfl))
  unfold f3
  rw [show fVar 1 (start0 6 [.tup ds, .int 1, .int 40, .fn 10]) S = .ok (.int 1) S from rfl, Res.bind_ok, evCall (evCons rfl evNil) ln, Res.bind_ok, g_le]
  rfl
theorem first_wrong_int {i : Int} : F_first_wrong [.int i, .int 1, .int 40, .fn 10] S = .ok (.int (-1)) S := by
  unfold F_first_wrong
  refine runRt (S1 := S) rfl ?_ rfl (takeS S)
  unfold b_first_wrong
  exact stStop (stIfT (evOrT (evNotT (evB2 (evCall (evCons rfl (evCons rfl evNil)) isi_int_tuple)))) (stRet rfl))
end
end KL

set_option Elab.async false
set_option linter.all false
set_option maxRecDepth 4000
set_option maxHeartbeats 4000000
/-! KM10: making calendars: require_parts, __init__, __eq__, with_part, with_year. -/
namespace KL
open PySem PySem.Spec PyProof.Rows L2 DL KA
section
variable {S S1 S2 S3 : Store} {ρ ρ1 : Ev} {ys : List Int} {u : Int} {c : Nat} {fs : List (Nat × D)}
theorem place0 {a b r : D} (h : F_first_wrong [a, .int 1, .int 40, .fn 10] S = .ok r S) (hp : pur r = true) : F_wrong_place [.tup [a, b], .int 0] S = .ok r S := by
  unfold F_wrong_place
  refine runRt (S1 := S) rfl ?_ hp (takeS S)
  exact stStop (stIfT (S1 := S) (evB2 (ev2 rfl rfl (g_eq.trans rfl))) (stRet (evCallF (evCons (ev2 rfl rfl rfl) (evCons rfl (evCons rfl (evCons rfl evNil)))) h)))
theorem place1 {a b : D} (hb : ty1 b = true) : F_wrong_place [.tup [a, b], .int 1] S = .ok (if withB b 0 1600 then .non else .int (-1)) S := by
  unfold F_wrong_place
  refine runRt (S1 := S) rfl ?_ (by split <;> rfl) (takeS S)
  exact stNext (stSkip (S1 := S) (evB2 (ev2 rfl rfl (g_eq.trans rfl)))) (stRet (evCallF (evCons (ev2 rfl rfl rfl) (evCons rfl (evCons rfl evNil))) (wrong_number_eq hb)))
abbrev bRP : FS := sExpr (fCallF F_require_part (fCons (fVar 5) (fCons (fCallV tab_require_parts 3 (fCons (fVar 2) (fCons (fVar 4) fNil))) fNil)))
abbrev pRP : FG := pTup 2 (pCons (pName 4) (pCons (pName 5) pNil))
abbrev eRP (p : D) (o q : Option D) : Ev := [some (.str "calendar"), some (.tup [(.str "years"), (.str "uneven")]), some p, some (.fn 11), o, q]
theorem rp_step {p r : D} {x : D} {i : Int} {w : Str} {o q : Option D} (h1 : F_wrong_place [p, .int i] S = .ok r S) (h2 : F_require_part [.str w, r] S = .ok x S) : bRP (eRP p (some (.int i)) (some (.str w))) S = .nx (eRP p (some (.int i)) (some (.str w))) S :=
  stExpr (evCallF (evCons rfl (evCons (evCallV rfl rfl (evCons rfl (evCons rfl evNil)) h1) evNil)) h2)
theorem rp_stop {p r : D} {i : Int} {w : Str} {o q : Option D} (h1 : F_wrong_place [p, .int i] S = .ok r S) (h2 : F_require_part [.str w, r] S = .exc c fs S) : bRP (eRP p (some (.int i)) (some (.str w))) S = .exc c fs S :=
  sxExpr (evCallF (evCons rfl (evCons (evCallV rfl rfl (evCons rfl (evCons rfl evNil)) h1) evNil)) h2)
theorem lp1 {d : D} {ds : List D} {p : FG} {b : FS} {o : Out} (h1 : p d ρ S = .ok ρ1 S1) (h2 : (b ρ1 S1).next (loopS p b ds) = o) : loopS p b (d :: ds) ρ S = o := by
  unfold loopS; rw [h1, Res.out_ok]; exact h2
theorem rp_head {p : D} {o : Out} (r : F_is_row [p, .int 2] S = .ok (.bl true) S) (h : loopS pRP bRP [.row [.int 0, .str "years"], .row [.int 1, .str "uneven"]] (eRP p none none) S = o) : b_require_parts (eRP p none none) S = o := by
  unfold b_require_parts
  exact stNext (stSkip (S1 := S) (evNotF (evB2 (evCallF (evCons rfl (evCons (evCall (evCons rfl evNil) rfl) evNil)) r)))) (stFor rfl h)
theorem reqp_ok {p : D} (r : F_is_row [p, .int 2] S = .ok (.bl true) S) (h0 : F_wrong_place [p, .int 0] S = .ok .non S) (h1 : F_wrong_place [p, .int 1] S = .ok .non S) : F_require_parts [.str "calendar", .tup [(.str "years"), (.str "uneven")], p, .fn 11] S = .ok .non S := by
  unfold F_require_parts
  refine runNx (S1 := S) (ρ1 := eRP p (some (.int 1)) (some (.str "uneven"))) rfl ?_ (takeS S)
  refine rp_head r (lp1 (ρ1 := eRP p (some (.int 0)) (some (.str "years"))) rfl ?_)
  rw [rp_step (o := none) (q := none) h0 req_non, Out.next_nx]
  refine lp1 (ρ1 := eRP p (some (.int 1)) (some (.str "uneven"))) rfl ?_
  rw [rp_step (o := none) (q := none) h1 req_non]
  rfl
theorem reqp_bad0 {p x : D} (r : F_is_row [p, .int 2] S = .ok (.bl true) S) (h0 : F_wrong_place [p, .int 0] S = .ok x S) (h1 : F_require_part [.str "years", x] S = .exc c fs S) (hf : purF fs = true) : F_require_parts [.str "calendar", .tup [(.str "years"), (.str "uneven")], p, .fn 11] S = .exc c fs S := by
  unfold F_require_parts
  refine runX (S1 := S) rfl ?_ hf (takeS S)
  refine rp_head r (lp1 (ρ1 := eRP p (some (.int 0)) (some (.str "years"))) rfl ?_)
  rw [rp_stop (o := none) (q := none) h0 h1]
  rfl
theorem reqp_bad1 {p x : D} (r : F_is_row [p, .int 2] S = .ok (.bl true) S) (h0 : F_wrong_place [p, .int 0] S = .ok .non S) (h2 : F_wrong_place [p, .int 1] S = .ok x S) (h1 : F_require_part [.str "uneven", x] S = .exc c fs S) (hf : purF fs = true) : F_require_parts [.str "calendar", .tup [(.str "years"), (.str "uneven")], p, .fn 11] S = .exc c fs S := by
  unfold F_require_parts
  refine runX (S1 := S) rfl ?_ hf (takeS S)
  refine rp_head r (lp1 (ρ1 := eRP p (some (.int 0)) (some (.str "years"))) rfl ?_)
  rw [rp_step (o := none) (q := none) h0 req_non, Out.next_nx]
  refine lp1 (ρ1 := eRP p (some (.int 1)) (some (.str "uneven"))) rfl ?_
  rw [rp_stop (o := none) (q := none) h2 h1]
  rfl
theorem reqp_row {p : D} (r : F_is_row [p, .int 2] S = .ok (.bl false) S) : F_require_parts [.str "calendar", .tup [(.str "years"), (.str "uneven")], p, .fn 11] S = .exc 0 [(1, .non), (0, .str "calendar")] S := by
  unfold F_require_parts
  refine runX (S1 := S) rfl ?_ rfl (takeS S)
  unfold b_require_parts
  exact sxNext (stIfT (S1 := S) (evNotT (evB2 (evCallF (evCons rfl (evCons (evCall (evCons rfl evNil) rfl) evNil)) r))) (sxExpr (evCallF (evCons rfl (evCons rfl evNil)) req_no)))
/- __init__ -/
theorem ins_end {S0 : Store} {x : SO} : (S0 ++ [x])[S0.length]? = some x := get_end
theorem pFld_end {S0 : Store} {f : Nat} {d : D} {r : Ev} {fl : List (Nat × D)} (hp : pur d = true) (hl : fl.length < 100) : pFld 0 f (fVar 0) d (some (.obj S0.length) :: r) (S0 ++ [.ins 0 fl]) = .ok (some (.obj S0.length) :: r) (S0 ++ [.ins 0 (putD f d fl)]) := by
  unfold pFld
  rw [show fVar 0 (some (.obj S0.length) :: r) (S0 ++ [.ins 0 fl]) = .ok (.obj S0.length) (S0 ++ [.ins 0 fl]) from rfl, Res.bind_ok]
  have e : gPut 0 f (.obj S0.length) d (S0 ++ [.ins 0 fl]) = some (S0 ++ [.ins 0 (putD f d fl)]) := by
    unfold gPut
    simp only [get_end]
    rw [if_pos ⟨trivial, hp, hl⟩, set_end]
  rw [e]
def insD (a b : D) : D := .ins 0 [(5, .tup [a, b]), (6, a), (7, b)]
theorem init_ok {a b : D} (hp : pur a = true) (hq : pur b = true) (h : ∀ S, F_require_parts [.str "calendar", .tup [(.str "years"), (.str "uneven")], .tup [a, b], .fn 11] S = .ok .non S) : makeD 0 F_Calendar___init__ [.tup [a, b]] S = .ok (insD a b) S := by
  have ppq : pur (.tup [a, b]) = true := by show (pur a && (pur b && true)) = true; rw [hp, hq]; rfl
  have e : F_Calendar___init__ [.obj S.length, .tup [a, b]] (S ++ [.ins 0 []]) = .ok .non (S ++ [.ins 0 [(5, .tup [a, b]), (6, a), (7, b)]]) := by
    unfold F_Calendar___init__
    refine runNx (S1 := S ++ [.ins 0 [(5, .tup [a, b]), (6, a), (7, b)]]) (ρ1 := [some (.obj S.length), some (.tup [a, b])]) rfl ?_ (by rw [List.take_of_length_le]; simp)
    unfold b_Calendar___init__
    refine stNext (stExpr (evCallF (evCons rfl (evCons rfl (evCons rfl (evCons rfl evNil)))) (h _))) ?_
    refine stNext (S1 := S ++ [.ins 0 [(5, .tup [a, b])]]) (ρ1 := [some (.obj S.length), some (.tup [a, b])]) ?_ ?_
    · unfold sAsg
      rw [show fVar 1 (start0 2 [.obj S.length, .tup [a, b]]) (S ++ [.ins 0 []]) = .ok (.tup [a, b]) (S ++ [.ins 0 []]) from rfl, Res.out_ok]
      rw [show start0 2 [.obj S.length, .tup [a, b]] = [some (.obj S.length), some (.tup [a, b])] from rfl, pFld_end ppq (by simp), Res.out_ok]
      rfl
    · unfold sAsg
      rw [show fVar 1 [some (.obj S.length), some (.tup [a, b])] (S ++ [.ins 0 [(5, .tup [a, b])]]) = .ok (.tup [a, b]) (S ++ [.ins 0 [(5, .tup [a, b])]]) from rfl, Res.out_ok]
      rw [p_ptup, if_pos (show [a, b].length = 2 from rfl), p_pcons, pFld_end hp (by simp), Res.bind_ok, p_pcons, pFld_end hq (by simp [putD]), Res.bind_ok, p_pnil, Res.out_ok]
      rfl
  unfold makeD
  rw [e]
  simp only
  rw [get_end]
  simp only
  rw [take_end]
  rfl
theorem init_exc {p : D} (hf : purF fs = true) (h : ∀ S, F_require_parts [.str "calendar", .tup [(.str "years"), (.str "uneven")], p, .fn 11] S = .exc c fs S) : makeD 0 F_Calendar___init__ [p] S = .exc c fs S := by
  have e : F_Calendar___init__ [.obj S.length, p] (S ++ [.ins 0 []]) = .exc c fs (S ++ [.ins 0 []]) := by
    unfold F_Calendar___init__
    refine runX (S1 := S ++ [.ins 0 []]) rfl ?_ hf (by rw [List.take_of_length_le]; simp)
    unfold b_Calendar___init__
    exact sxNext (sxExpr (evCallF (evCons rfl (evCons rfl (evCons rfl (evCons rfl evNil)))) (h _)))
  unfold makeD
  rw [e]
  simp only
  rw [if_pos hf, take_end]
/- the calendars that are met -/
theorem fw_bits : ∀ {ys : List Int} {i : Nat}, (∀ y ∈ ys, y = 0 ∨ y = 1) → fwD i (ys.map D.int) = .non
  | [], _, _ => rfl
  | y :: ys, i, h => by
    have hw : withB (.int y) 0 1 = true := by
      rcases h y List.mem_cons_self with rfl | rfl <;> rfl
    rw [List.map_cons, fwD, if_pos hw]
    exact fw_bits fun z hz => h z (List.mem_cons_of_mem _ hz)
theorem fw_two : ∀ {ys : List Int} {i : Nat} {r : List D}, (∀ y ∈ ys, y = 0 ∨ y = 1) → fwD i (ys.map D.int ++ .int 2 :: r) = .int ((i + ys.length : Nat) : Int)
  | [], _, _, _ => rfl
  | y :: ys, i, r, h => by
    have hw : withB (.int y) 0 1 = true := by
      rcases h y List.mem_cons_self with rfl | rfl <;> rfl
    rw [List.map_cons, List.cons_append, fwD, if_pos hw, fw_two fun z hz => h z (List.mem_cons_of_mem _ hz), List.length_cons, Nat.add_right_comm, Nat.add_assoc]
theorem ty_ints {xs : List Int} : ∀ d ∈ xs.map D.int, ty1 d = true := fun d hd => by obtain ⟨x, _, rfl⟩ := List.mem_map.mp hd; rfl
theorem years_ok (hb : ∀ y ∈ ys, y = 0 ∨ y = 1) (h1 : 1 ≤ ys.length) (h2 : ys.length ≤ 40) {b : D} : F_wrong_place [.tup [.tup (ys.map D.int), b], .int 0] S = .ok .non S := by
  have e := first_wrong_eq (S := S) (ty_ints (xs := ys)) (by rw [List.length_map]; exact h1) (by rw [List.length_map]; exact h2)
  rw [fw_bits hb] at e
  exact place0 e rfl
theorem make_ok (hb : ∀ y ∈ ys, y = 0 ∨ y = 1) (h1 : 1 ≤ ys.length) (h2 : ys.length ≤ 40) (hu : 0 ≤ u ∧ u ≤ 1600) : makeD 0 F_Calendar___init__ [told ys u] S = .ok (cal ys u) S := by
  have hw : withB (.int u) 0 1600 = true := by simp [withB]; omega
  exact init_ok (a := .tup (ys.map D.int)) (b := .int u) (pur_ints ys) rfl fun S => reqp_ok row2 (years_ok hb h1 h2) ((place1 rfl).trans (by rw [if_pos hw]))
theorem make_two {r : List D} {b : D} (hb : ∀ y ∈ ys, y = 0 ∨ y = 1) (hr : ∀ d ∈ r, ty1 d = true) (h2 : ys.length + r.length ≤ 30) : makeD 0 F_Calendar___init__ [.tup [.tup (ys.map D.int ++ .int 2 :: r), b]] S = .exc 0 [(1, .int ys.length), (0, .str "years")] S := by
  refine init_exc rfl fun S => reqp_bad0 (x := .int ys.length) row2 (place0 ?_ rfl) (req_at (by omega)) rfl
  have e := first_wrong_eq (S := S) (ds := ys.map D.int ++ .int 2 :: r) (fun d hd => by
    rcases List.mem_append.mp hd with hd | hd
    · exact ty_ints d hd
    · rcases List.mem_cons.mp hd with rfl | hd
      · rfl
      · exact hr d hd) (by rw [List.length_append, List.length_cons]; omega) (by rw [List.length_append, List.length_cons, List.length_map]; omega)
  rw [fw_two hb, Nat.zero_add] at e
  exact e
theorem make_none {b : D} : makeD 0 F_Calendar___init__ [.tup [.tup [], b]] S = .exc 0 [(1, .non), (0, .str "years")] S :=
  init_exc rfl fun S => reqp_bad0 row2 (place0 (first_wrong_len rfl) rfl) req_no rfl
theorem make_int {i : Int} {b : D} : makeD 0 F_Calendar___init__ [.tup [.int i, b]] S = .exc 0 [(1, .non), (0, .str "years")] S :=
  init_exc rfl fun S => reqp_bad0 row2 (place0 first_wrong_int rfl) req_no rfl
theorem make_uneven {i : Int} (hb : ∀ y ∈ ys, y = 0 ∨ y = 1) (h1 : 1 ≤ ys.length) (h2 : ys.length ≤ 40) (hw : withB (.int i) 0 1600 = false) : makeD 0 F_Calendar___init__ [.tup [.tup (ys.map D.int), .int i]] S = .exc 0 [(1, .non), (0, .str "uneven")] S :=
  init_exc rfl fun S => reqp_bad1 row2 (years_ok hb h1 h2) ((place1 rfl).trans (by rw [hw]; rfl)) req_no rfl
theorem make_row {p : D} (r : ∀ S, F_is_row [p, .int 2] S = .ok (.bl false) S) : makeD 0 F_Calendar___init__ [p] S = .exc 0 [(1, .non), (0, .str "calendar")] S :=
  init_exc rfl fun S => reqp_row (r S)
end
end KL

set_option Elab.async false
set_option linter.all false
set_option maxRecDepth 4000
set_option maxHeartbeats 4000000
/-! KM11: __eq__, replaced, place_of, with_part, with_year, _law_refusal, told. -/
namespace KL
open PySem PySem.Spec PyProof.Rows L2 DL KA
section
variable {S S1 S2 S3 : Store} {ρ ρ1 : Ev} {ys : List Int} {u : Int} {c : Nat} {fs : List (Nat × D)}
theorem deq_told : deq (told ys u) (told ys u) = some true := by
  have e : toPy (told ys u) = some (.tuple [.tuple (ys.map PyData.int), .int u]) := by
    show (match toPy (.tup (ys.map D.int)), toPyL [D.int u] with | some p, some ps => some (p :: ps) | _, _ => none).map PyData.tuple = _
    rw [toPy_tints]
    rfl
  rw [deq_of e e]
  · simp [PyData.eqv, PyData.eqvAll, eqv_ints]
  · simp only [SeqAt.shaped, PyData.canLay0, PyData.canLayAll0, (lay_ints ys).1, PyData.depth, PyData.depthAll, Bool.true_and]
    exact decide_eq_true (by have := (lay_ints ys).2; omega)
  · simp only [SeqAt.shaped, PyData.canLay0, PyData.canLayAll0, (lay_ints ys).1, PyData.depth, PyData.depthAll, Bool.true_and]
    exact decide_eq_true (by have := (lay_ints ys).2; omega)
theorem isi_cal : gIsi [cal ys u, .cl 0] S = .ok (.bl true) S := rfl
theorem isi_told : gIsi [told ys u, .cl 0] S = .ok (.bl false) S := rfl
theorem is_cal : F_is_calendar [cal ys u] S = .ok (.bl true) S := by
  unfold F_is_calendar
  exact runRt (S1 := S) rfl (stRet (evCall (evCons rfl (evCons rfl evNil)) isi_cal)) rfl (takeS S)
theorem is_cal_told : F_is_calendar [told ys u] S = .ok (.bl false) S := by
  unfold F_is_calendar
  exact runRt (S1 := S) rfl (stRet (evCall (evCons rfl (evCons rfl evNil)) isi_told)) rfl (takeS S)
theorem eq_told : gEq (told ys u) (told ys u) S = .ok (.bl true) S := by unfold gEq; rw [deq_told]
theorem eq_cal : gEqO 0 F_Calendar___eq__ (cal ys u) (cal ys u) S = .ok (.bl true) S := by
  have e : F_Calendar___eq__ [cal ys u, cal ys u] S = .ok (.bl true) S := by
    unfold F_Calendar___eq__
    exact runRt (S1 := S) rfl (stRet (evA (evCall (evCons rfl (evCons rfl evNil)) isi_cal) (ev2 (evFld rfl fld5) (evFld rfl fld5) eq_told))) rfl (takeS S)
  unfold gEqO
  show (if (0 : Nat) = 0 ∧ eqRhs 0 (cal ys u) = true then _ else _) = _
  rw [if_pos ⟨rfl, rfl⟩, e]
theorem ne_cal : gEqO 0 F_Calendar___eq__ (cal ys u) (told ys u) S = .ok (.bl false) S := by
  have e : F_Calendar___eq__ [cal ys u, told ys u] S = .ok (.bl false) S := by
    unfold F_Calendar___eq__
    exact runRt (S1 := S) rfl (stRet (evAF (evCall (evCons rfl (evCons rfl evNil)) isi_told))) rfl (takeS S)
  unfold gEqO
  show (if (0 : Nat) = 0 ∧ eqRhs 0 (told ys u) = true then _ else _) = _
  rw [if_pos ⟨rfl, rfl⟩, e]
/- replaced, place_of -/
theorem cut_take {α : Type} (xs : List α) (k : Nat) : cutL xs none (some (k : Int)) = xs.take k := by
  unfold cutL
  rw [HT.sIx_none, HT.sIx_nat, List.drop_zero, Nat.sub_zero]
  by_cases h : k ≤ xs.length
  · rw [Nat.min_eq_left h]
  · rw [Nat.min_eq_right (by omega), List.take_of_length_le (Nat.le_refl _), List.take_of_length_le (by omega)]
theorem add_tup {as es : List D} (h : as.length ≤ 1000) (h' : es.length ≤ 1000) : gAdd (.tup as) (.tup es) S = .ok (.tup (as ++ es)) S := by
  show (if as.length + es.length ≤ lineN then _ else _) = _
  rw [if_pos (by unfold lineN; omega)]
theorem purL_mem' {xs : List D} (h : purL xs = true) : ∀ x ∈ xs, pur x = true := purL_mem h
theorem replaced_eq {ds : List D} {k : Nat} {v : D} (hl : ds.length ≤ 900) (hp : purL ds = true) (hv : pur v = true) : F_replaced [.tup ds, .int k, v] S = .ok (.tup (ds.take k ++ v :: ds.drop (k + 1))) S := by
  unfold F_replaced
  have p : purL (ds.take k ++ [v] ++ ds.drop (k + 1)) = true := purL_of fun d hd => by
    rcases List.mem_append.mp hd with hd | hd
    · rcases List.mem_append.mp hd with hd | hd
      · exact purL_mem hp d (List.mem_of_mem_take hd)
      · rw [List.mem_singleton.mp hd]; exact hv
    · exact purL_mem hp d (List.mem_of_mem_drop hd)
  have e1 : gSl (.tup ds) none (some (k : Int)) S = .ok (.tup (ds.take k)) S := by
    show Res.ok (D.tup (cutL ds none (some (k : Int)))) S = _
    rw [cut_take]
  have e2 : gSl (.tup ds) (some ((k : Int) + 1)) none S = .ok (.tup (ds.drop (k + 1))) S := by
    show Res.ok (D.tup (cutL ds (some ((k : Int) + 1)) none)) S = _
    rw [show (k : Int) + 1 = ((k + 1 : Nat) : Int) by omega, cut_from]
  rw [show ds.take k ++ v :: ds.drop (k + 1) = ds.take k ++ [v] ++ ds.drop (k + 1) by simp]
  refine runRt (S1 := S) rfl ?_ p (takeS S)
  refine stRet (ev2 (ev2 (evSl rfl rfl (evSome rfl) e1) (evTup (evCons rfl evNil) (by simp)) (add_tup (by rw [List.length_take]; omega) (by simp))) (evSl rfl (evSome (ev2 rfl rfl rfl)) rfl e2) (add_tup ?_ (by rw [List.length_drop]; omega)))
  rw [List.length_append, List.length_take]
  simp
  omega
theorem law_at_eq {ds : List D} {k : Nat} {v : D} (hl : ds.length ≤ 900) (hp : purL ds = true) (hv : pur v = true) : F__law_at [.tup ds, .int ((k : Int) + 1), v] S = .ok (.tup (ds.take k ++ v :: ds.drop (k + 1))) S := by
  unfold F__law_at
  have p : purL (ds.take k ++ [v] ++ ds.drop (k + 1)) = true := purL_of fun d hd => by
    rcases List.mem_append.mp hd with hd | hd
    · rcases List.mem_append.mp hd with hd | hd
      · exact purL_mem hp d (List.mem_of_mem_take hd)
      · rw [List.mem_singleton.mp hd]; exact hv
    · exact purL_mem hp d (List.mem_of_mem_drop hd)
  have e1 : gSl (.tup ds) none (some ((k : Int) + 1 - 1)) S = .ok (.tup (ds.take k)) S := by
    show Res.ok (D.tup (cutL ds none (some ((k : Int) + 1 - 1)))) S = _
    rw [show (k : Int) + 1 - 1 = (k : Int) by omega, cut_take]
  have e2 : gSl (.tup ds) (some ((k : Int) + 1)) none S = .ok (.tup (ds.drop (k + 1))) S := by
    show Res.ok (D.tup (cutL ds (some ((k : Int) + 1)) none)) S = _
    rw [show (k : Int) + 1 = ((k + 1 : Nat) : Int) by omega, cut_from]
  rw [show ds.take k ++ v :: ds.drop (k + 1) = ds.take k ++ [v] ++ ds.drop (k + 1) by simp]
  refine runRt (S1 := S) rfl ?_ p (takeS S)
  refine stRet (ev2 (ev2 (evSl rfl rfl (evSome (ev2 rfl rfl rfl)) e1) (evTup (evCons rfl evNil) (by simp)) (add_tup (by rw [List.length_take]; omega) (by simp))) (evSl rfl (evSome rfl) rfl e2) (add_tup ?_ (by rw [List.length_drop]; omega)))
  rw [List.length_append, List.length_take]
  simp
  omega
abbrev wordsD : D := .tup [(.str "years"), (.str "uneven")]
theorem in_years : gIn true (.str "years") wordsD S = .ok (.bl false) S := id rfl
theorem in_uneven : gIn true (.str "uneven") wordsD S = .ok (.bl false) S := id rfl
theorem in_other : gIn true (.str "calendar") wordsD S = .ok (.bl true) S := id rfl
theorem evMthT {g : GM} {fo : FE} {fl : FL} {ds es : List D} {r : Res D} (h : fo ρ S = .ok (.tup es) S1) (h2 : fl ρ S1 = .ok ds S2) (h3 : g (.tup es) ds S2 = r) : fMthT g fo fl ρ S = r := by
  unfold fMthT; rw [h, Res.bind_ok]; simp only; rw [h2, Res.bind_ok, h3]
theorem ix_years : gIndexT wordsD [.str "years"] S = .ok (.int 0) S := id rfl
theorem ix_uneven : gIndexT wordsD [.str "uneven"] S = .ok (.int 1) S := id rfl
theorem place_years {t : D} : F_place_of [wordsD, .str "years", t] S = .ok (.int 0) S := by
  unfold F_place_of
  refine runRt (S1 := S) rfl ?_ rfl (takeS S)
  exact stNext (stSkip (S1 := S) (evOrF (evNotF (evB2 (evCall (evCons rfl (evCons rfl evNil)) isi_str_str))) (evB2 (ev2 rfl rfl in_years)))) (stRet (evMthT rfl (evCons rfl evNil) ix_years))
theorem place_uneven {t : D} : F_place_of [wordsD, .str "uneven", t] S = .ok (.int 1) S := by
  unfold F_place_of
  refine runRt (S1 := S) rfl ?_ rfl (takeS S)
  exact stNext (stSkip (S1 := S) (evOrF (evNotF (evB2 (evCall (evCons rfl (evCons rfl evNil)) isi_str_str))) (evB2 (ev2 rfl rfl in_uneven)))) (stRet (evMthT rfl (evCons rfl evNil) ix_uneven))
theorem place_other : F_place_of [wordsD, .str "calendar", .str "calendar"] S = .exc 0 [(1, .non), (0, .str "calendar")] S := by
  unfold F_place_of
  refine runX (S1 := S) rfl ?_ rfl (takeS S)
  exact sxNext (stIfT (S1 := S) (evOrF (evNotF (evB2 (evCall (evCons rfl (evCons rfl evNil)) isi_str_str))) (evB2 (ev2 rfl rfl in_other))) (sxExpr (evCallF (evCons rfl (evCons rfl evNil)) req_no)))
/- with_part, with_year -/
theorem with_years {d r : D} (hv : pur d = true) (h : makeD 0 F_Calendar___init__ [.tup [d, .int u]] S = .ok r S) (hr : pur r = true) : F_Calendar_with_part [cal ys u, .str "years", d] S = .ok r S := by
  have e := replaced_eq (S := S) (ds := [.tup (ys.map D.int), .int u]) (k := 0) (v := d) (by simp) (by show (pur _ && _) = true; rw [pur_tints]; rfl) hv
  unfold F_Calendar_with_part
  exact runRt (S1 := S) rfl (stRet (evMake (evCons (evCallF (evCons (evFld rfl fld5) (evCons (evCallF (evCons rfl (evCons rfl (evCons rfl evNil))) place_years) (evCons rfl evNil))) e) evNil) h)) hr (takeS S)
theorem with_years_x {d : D} (hv : pur d = true) (h : makeD 0 F_Calendar___init__ [.tup [d, .int u]] S = .exc c fs S) (hf : purF fs = true) : F_Calendar_with_part [cal ys u, .str "years", d] S = .exc c fs S := by
  have e := replaced_eq (S := S) (ds := [.tup (ys.map D.int), .int u]) (k := 0) (v := d) (by simp) (by show (pur _ && _) = true; rw [pur_tints]; rfl) hv
  unfold F_Calendar_with_part
  exact runX (S1 := S) rfl (sxRet (evMake (evCons (evCallF (evCons (evFld rfl fld5) (evCons (evCallF (evCons rfl (evCons rfl (evCons rfl evNil))) place_years) (evCons rfl evNil))) e) evNil) h)) hf (takeS S)
theorem with_uneven_x {i : Int} (h : makeD 0 F_Calendar___init__ [.tup [.tup (ys.map D.int), .int i]] S = .exc c fs S) (hf : purF fs = true) : F_Calendar_with_part [cal ys u, .str "uneven", .int i] S = .exc c fs S := by
  have e := replaced_eq (S := S) (ds := [.tup (ys.map D.int), .int u]) (k := 1) (v := .int i) (by simp) (by show (pur _ && _) = true; rw [pur_tints]; rfl) rfl
  unfold F_Calendar_with_part
  exact runX (S1 := S) rfl (sxRet (evMake (evCons (evCallF (evCons (evFld rfl fld5) (evCons (evCallF (evCons rfl (evCons rfl (evCons rfl evNil))) place_uneven) (evCons rfl evNil))) e) evNil) h)) hf (takeS S)
theorem with_other_x {d : D} : F_Calendar_with_part [cal ys u, .str "calendar", d] S = .exc 0 [(1, .non), (0, .str "calendar")] S := by
  unfold F_Calendar_with_part
  exact runX (S1 := S) rfl (sxRet (xMake (xCons1 (xCallF (xCons2 (evFld rfl fld5) (xCons1 (evCallF (evCons rfl (evCons rfl (evCons rfl evNil))) place_other))))))) rfl (takeS S)
theorem year_out {i : Int} {d : D} (hw : withB (.int i) 1 ys.length = false) : F_Calendar_with_year [cal ys u, .int i, d] S = .exc 2 [(3, .int i)] S := by
  have w := is_within_eq (S := S) (d := .int i) (lo := 1) (hi := ys.length) rfl
  rw [hw] at w
  unfold F_Calendar_with_year
  exact runX (S1 := S) rfl (sxNext (stIfT (S1 := S) (evNotT (evB2 (evCallF (evCons rfl (evCons rfl (evCons (evCall (evCons (evFld rfl fld6) evNil) len_tints) evNil))) w))) (sRaise_ok (ds := [.int i]) (evCons rfl evNil) rfl))) rfl (takeS S)
theorem year_in {k : Nat} {d : D} {r : Res D} (hk : k < ys.length) (hl : ys.length ≤ 900) (hv : pur d = true) (h : F_Calendar_with_part [cal ys u, .str "years", .tup ((ys.map D.int).take k ++ d :: (ys.map D.int).drop (k + 1))] S = r) (hr : ∀ {o}, (match r with | .ok d S' => (pur d = true ∧ S' = S ∧ o = Out.rt d S) | .exc c fs S' => (purF fs = true ∧ S' = S ∧ o = Out.exc c fs S) | .bad => False) → True) (hok : match r with | .ok d S' => pur d = true ∧ S' = S | .exc c fs S' => purF fs = true ∧ S' = S | .bad => False) : F_Calendar_with_year [cal ys u, .int ((k : Int) + 1), d] S = r := by
  have w := is_within_eq (S := S) (d := .int ((k : Int) + 1)) (lo := 1) (hi := ys.length) rfl
  rw [show withB (.int ((k : Int) + 1)) 1 ys.length = true by simp [withB]; omega] at w
  have e := replaced_eq (S := S) (ds := ys.map D.int) (k := k) (v := d) (by rw [List.length_map]; exact hl) (pur_ints ys) hv
  have i1 : f2 DL.gSub (fVar 1) (fC (.int 1)) [some (cal ys u), some (.int ((k : Int) + 1)), some d] S = .ok (.int k) S := ev2 rfl rfl (by show Res.ok (D.int ((k : Int) + 1 - 1)) S = _; rw [show (k : Int) + 1 - 1 = (k : Int) by omega])
  have m : fMeth 0 F_Calendar_with_part (fVar 0) (fCons (fC (.str "years")) (fCons (fCallF F_replaced (fCons (fFld 6 (fVar 0)) (fCons (f2 DL.gSub (fVar 1) (fC (.int 1))) (fCons (fVar 2) fNil)))) fNil)) [some (cal ys u), some (.int ((k : Int) + 1)), some d] S = r :=
    evMeth (fl := [(5, told ys u), (6, .tup (ys.map D.int)), (7, .int u)]) rfl (evCons rfl (evCons (evCallF (evCons (evFld rfl fld6) (evCons i1 (evCons rfl evNil))) e) evNil)) h
  have sk : sIf (fNotT (asB (fCallF F_is_within (fCons (fVar 1) (fCons (fC (.int 1)) (fCons (fCall gLen (fCons (fFld 6 (fVar 0)) fNil)) fNil)))))) (sRaise 2 [3] (fCons (fVar 1) fNil)) sNil [some (cal ys u), some (.int ((k : Int) + 1)), some d] S = .nx [some (cal ys u), some (.int ((k : Int) + 1)), some d] S :=
    stSkip (evNotF (evB2 (evCallF (evCons rfl (evCons rfl (evCons (evCall (evCons (evFld rfl fld6) evNil) len_tints) evNil))) w)))
  unfold F_Calendar_with_year
  cases r with
  | ok d S' => obtain ⟨h1, rfl⟩ := hok; exact runRt (S1 := S') rfl (stNext sk (stRet m)) h1 (takeS _)
  | exc c fs S' => obtain ⟨h1, rfl⟩ := hok; exact runX (S1 := S') rfl (stNext sk (sxRet m)) h1 (takeS _)
  | bad => cases hok
end
end KL

set_option Elab.async false
set_option linter.all false
set_option maxRecDepth 4000
set_option maxHeartbeats 4000000
/-! KM12: _law_refusal and the calls that are told. -/
namespace KL
open PySem PySem.Spec PyProof.Rows L2 DL KA
section
variable {S S1 S2 S3 : Store} {ρ ρ1 : Ev} {ys : List Int} {u : Int} {c : Nat} {fs : List (Nat × D)}
theorem evXf {k : Nat} {f : FE} {v : D} (h : f ρ S = .ok (.xcp c fs) S1) (hl : fs.lookup k = some v) : fXf k f ρ S = .ok v S1 := by
  unfold fXf; rw [h, Res.bind_ok]; simp only; rw [hl]
theorem isx_c {k : Nat} (hc : c < 9) (hk : k < 9) : gIsX ansE basE [.xcp c fs, .fn k] S = .ok (.bl (c == k)) S := by
  unfold gIsX ansE; simp only; rw [if_pos ⟨hc, hk⟩]
theorem isx_v (hc : c < 9) : gIsX ansE basE [.xcp c fs, .ty "ValueError"] S = .ok (.bl true) S := by
  unfold gIsX basE; simp only; rw [if_pos ⟨hc, trivial⟩]
def kindsD : List D := [.str "BadPart", .str "BadNumber", .str "Unknown", .str "BadCourse", .str "BadChange", .str "BadText", .str "BadLine", .str "BadClaim", .str "NothingDone"]
def marksD (c : Nat) : List D := [.bl (c == 0), .bl (c == 1), .bl (c == 2), .bl (c == 3), .bl (c == 4), .bl (c == 5), .bl (c == 6), .bl (c == 7), .bl (c == 8)]
theorem marks_eq {o q r : Option D} (hc : c < 9) : fLst (fCons (fCall (gIsX ansE basE) (fCons (fVar 0) (fCons (fC (.fn 0)) fNil))) (fCons (fCall (gIsX ansE basE) (fCons (fVar 0) (fCons (fC (.fn 1)) fNil))) (fCons (fCall (gIsX ansE basE) (fCons (fVar 0) (fCons (fC (.fn 2)) fNil))) (fCons (fCall (gIsX ansE basE) (fCons (fVar 0) (fCons (fC (.fn 3)) fNil))) (fCons (fCall (gIsX ansE basE) (fCons (fVar 0) (fCons (fC (.fn 4)) fNil))) (fCons (fCall (gIsX ansE basE) (fCons (fVar 0) (fCons (fC (.fn 5)) fNil))) (fCons (fCall (gIsX ansE basE) (fCons (fVar 0) (fCons (fC (.fn 6)) fNil))) (fCons (fCall (gIsX ansE basE) (fCons (fVar 0) (fCons (fC (.fn 7)) fNil))) (fCons (fCall (gIsX ansE basE) (fCons (fVar 0) (fCons (fC (.fn 8)) fNil))) fNil))))))))) [some (.xcp c fs), o, q, r] S = .ok (.lst (marksD c)) S := by
  have i : ∀ {k}, k < 9 → fCall (gIsX ansE basE) (fCons (fVar 0) (fCons (fC (.fn k)) fNil)) [some (.xcp c fs), o, q, r] S = .ok (.bl (c == k)) S := fun {k} hk => evCall (evCons rfl (evCons rfl evNil)) (isx_c hc hk)
  exact evLst (evCons (i (by decide)) (evCons (i (by decide)) (evCons (i (by decide)) (evCons (i (by decide)) (evCons (i (by decide)) (evCons (i (by decide)) (evCons (i (by decide)) (evCons (i (by decide)) (evCons (i (by decide)) evNil))))))))) (Nat.le_of_ble_eq_true rfl)
theorem seq_of {a b : Str} {r : Bool} (h : deq (.str a) (.str b) = some r) : gEq (.str a) (.str b) S = .ok (.bl r) S := by unfold gEq; rw [h]
theorem refuse_head {o : Out} {nm : Str} (hc : c < 9) (h1 : gCntB (.lst (marksD c)) [.bl true] S = .ok (.int 1) S) (h2 : gIdxB (.lst (marksD c)) [.bl true] S = .ok (.int c) S) (h3 : gIx (.lst kindsD) (.int c) S = .ok (.str nm) S)
    (h : (sCons (sIf (asB (f2 gEq (fVar 3) (fC (.str "BadPart")))) (sRet (fTup (fCons (fVar 3) (fCons (fXf 0 (fVar 0)) (fCons (fXf 1 (fVar 0)) fNil))))) sNil)
    (sCons (sIf (asB (f2 gEq (fVar 3) (fC (.str "BadNumber")))) (sRet (fTup (fCons (fVar 3) (fCons (fXf 2 (fVar 0)) fNil)))) sNil)
    (sCons (sIf (asB (f2 gEq (fVar 3) (fC (.str "Unknown")))) (sRet (fTup (fCons (fVar 3) (fCons (fXf 3 (fVar 0)) fNil)))) sNil)
    (sCons (sIf (asB (f2 (gIn false) (fVar 3) (fTup (fCons (fC (.str "BadText")) (fCons (fC (.str "BadLine")) fNil))))) (sRet (fTup (fCons (fVar 3) (fCons (fXf 4 (fVar 0)) fNil)))) sNil)
    (sCons (sIf (asB (f2 (gIn false) (fVar 3) (fTup (fCons (fC (.str "BadClaim")) (fCons (fC (.str "NothingDone")) fNil))))) (sRet (fTup (fCons (fVar 3) fNil))) sNil)
    (sRet (fTup (fCons (fVar 3) (fCons (fXf 1 (fVar 0)) fNil)))))))))  [some (.xcp c fs), some (.lst kindsD), some (.lst (marksD c)), some (.str nm)] S = o) : b__law_refusal [some (.xcp c fs), none, none, none] S = o := by
  unfold b__law_refusal
  refine stNext (stAsg (d := .lst kindsD) (evLst (evCons rfl (evCons rfl (evCons rfl (evCons rfl (evCons rfl (evCons rfl (evCons rfl (evCons rfl (evCons rfl evNil))))))))) (Nat.le_of_ble_eq_true rfl)) rfl) ?_
  refine stNext (stAsg (d := .lst (marksD c)) (marks_eq hc) rfl) ?_
  refine stNext (stSkip (evOrF (evB2 (ev2 (evMthL rfl rfl (evCons rfl evNil) h1) rfl (g_ne.trans rfl))) (evNotF (evB2 (evCall (evCons rfl (evCons rfl evNil)) (isx_v hc)))))) ?_
  refine stNext (stAsg (ev2 rfl (evMthL rfl rfl (evCons rfl evNil) h2) h3) rfl) ?_
  exact h
theorem refuse_part {n p : D} (hn : pur n = true) (hp : pur p = true) : F__law_refusal [.xcp 0 [(1, p), (0, n)]] S = .ok (.tup [.str "BadPart", n, p]) S := by
  unfold F__law_refusal
  refine runRt (S1 := S) rfl (refuse_head (by decide) rfl rfl rfl ?_) (by show (true && (pur n && (pur p && true))) = true; rw [hn, hp]; rfl) (takeS S)
  exact stStop (stIfT (evB2 (ev2 rfl rfl (seq_of (by decide +kernel)))) (stRet (evTup (evCons rfl (evCons (evXf rfl rfl) (evCons (evXf rfl rfl) evNil))) (by simp))))
theorem refuse_number {v : D} (hv : pur v = true) : F__law_refusal [.xcp 1 [(2, v)]] S = .ok (.tup [.str "BadNumber", v]) S := by
  unfold F__law_refusal
  refine runRt (S1 := S) rfl (refuse_head (by decide) rfl rfl rfl ?_) (by show (true && (pur v && true)) = true; rw [hv]; rfl) (takeS S)
  exact stNext (stSkip (evB2 (ev2 rfl rfl (seq_of (by decide +kernel))))) (stStop (stIfT (evB2 (ev2 rfl rfl (seq_of (by decide +kernel)))) (stRet (evTup (evCons rfl (evCons (evXf rfl rfl) evNil)) (by simp)))))
theorem refuse_name {v : D} (hv : pur v = true) : F__law_refusal [.xcp 2 [(3, v)]] S = .ok (.tup [.str "Unknown", v]) S := by
  unfold F__law_refusal
  refine runRt (S1 := S) rfl (refuse_head (by decide) rfl rfl rfl ?_) (by show (true && (pur v && true)) = true; rw [hv]; rfl) (takeS S)
  exact stNext (stSkip (evB2 (ev2 rfl rfl (seq_of (by decide +kernel))))) (stNext (stSkip (evB2 (ev2 rfl rfl (seq_of (by decide +kernel))))) (stStop (stIfT (evB2 (ev2 rfl rfl (seq_of (by decide +kernel)))) (stRet (evTup (evCons rfl (evCons (evXf rfl rfl) evNil)) (by simp))))))
/- told -/
def isJ : D → Bool
  | .junk => true
  | _ => false
def gdO (o : Option D) : Prop := ∀ d, o = some d → isJ d = false ∧ cold d = true
theorem uncap_caps {ρ : Ev} (h : ∀ o ∈ ρ, gdO o) : uncap (capsOf ρ) = ρ := by
  unfold uncap capsOf
  rw [List.map_map]
  induction ρ with
  | nil => rfl
  | cons o ρ ih =>
    rw [List.map_cons, ih fun x hx => h x (List.mem_cons_of_mem _ hx)]
    congr 1
    cases o with
    | none => rfl
    | some d =>
      have := (h _ List.mem_cons_self d rfl).1
      cases d <;> first | rfl | cases this
theorem cold_caps {ρ : Ev} (h : ∀ o ∈ ρ, gdO o) : coldL (capsOf ρ) = true := by
  unfold capsOf
  induction ρ with
  | nil => rfl
  | cons o ρ ih =>
    rw [List.map_cons]
    refine Bool.and_eq_true_iff.mpr ⟨?_, ih fun x hx => h x (List.mem_cons_of_mem _ hx)⟩
    cases o with
    | none => rfl
    | some d => exact (h _ List.mem_cons_self d rfl).2
abbrev wrT : FE → FE := fun f => fTup (fCons (fC (.str "told")) (fCons f fNil))
theorem told_x {own : List Nat} {fl : FE} {d : D} (hg : ∀ o ∈ ρ, gdO o) (he : fl (wipeE ρ own) S = .exc c fs S1) (hi : inE c = true) (hf : coldF fs = true) (hr : ∀ S, F__law_refusal [.xcp c fs] S = .ok d S) (hd : cold d = true) : fTold wrT 2 inE F__law_refusal own fl ρ S = .ok d S1 := by
  have e : fAct own fl [some (.lam (capsOf ρ)), none] S = .exc c fs S1 := by
    unfold fAct
    simp only [List.getElem?_cons_zero]
    rw [if_pos (cold_caps hg), uncap_caps hg, he]
  have e2 : sTold inE F__law_refusal (wrT (fAct own fl)) [some (.lam (capsOf ρ)), none] S = .rt d S1 := by
    unfold sTold
    rw [show wrT (fAct own fl) [some (.lam (capsOf ρ)), none] S = .exc c fs S1 from xTup (xCons2 rfl (xCons1 e))]
    simp only
    rw [if_pos ⟨hi, hf⟩, hr]
    simp only
    rw [if_pos hd]
  unfold fTold
  rw [show start0 2 [D.lam (capsOf ρ)] = [some (.lam (capsOf ρ)), none] from rfl, e2]
  simp only
  rw [if_pos hd]
end
end KL

set_option Elab.async false
set_option linter.all false
set_option maxRecDepth 4000
set_option maxHeartbeats 4000000
/-! KM13: one turn of the law's loop. -/
namespace KL
open PySem PySem.Spec PyProof.Rows L2 DL KA
abbrev wD (ys : List Int) : D := .tup [.int (iMin ys), .int (iMax ys)]
abbrev rD (ys : List Int) : D := .tup ((raised ys).map D.int)
/-- what the turns need to know of a calendar -/
structure Facts (ys : List Int) (t c : D) : Prop where
  n1 : 1 ≤ ys.length
  n2 : ys.length ≤ 12
  bits : ∀ y ∈ ys, y = 0 ∨ y = 1
  exc : ∀ (f s : Nat) (S : Store), f < ys.length → s ≤ 9999 → F_excess_of [c, .int (1 + (f : Int)), .int s] S = .ok (.int (aheadI ys ((f + s) % ys.length) - aheadI ys f)) S
  hs : ∀ v, OkV v → (∃ xs : List Int, v = .tup (xs.map D.int) ∧ xs ≠ [] ∧ 0 ≤ mx xs ∧ (∀ S, F_are_heights [c, v] S = .ok (.bl true) S) ∧ ∀ S, F__law_heighted [t, v] S = .ok (.int (mx xs)) S) ∨
    ((∀ S, F_are_heights [c, v] S = .ok (.bl false) S) ∧ ∀ S, F__law_heighted [t, v] S = .ok (.int (-1)) S)
  ws : ∀ v, OkV v → (∃ a b : Nat, a ≤ ys.length ∧ b ≤ ys.length ∧ v = .tup [.int a, .int b] ∧ (∀ S, F_are_worst [c, v] S = .ok (.bl true) S) ∧ ∀ S, F__law_apart [t, v] S = .ok (.int (aheadI ys a - aheadI ys b).natAbs) S) ∨
    ((∀ S, F_are_worst [c, v] S = .ok (.bl false) S) ∧ ∀ S, F__law_apart [t, v] S = .ok (.int (-1)) S)
  pa : ∀ S, F_calendar_paper [c] S = .ok (.tup [rD ys, wD ys]) S
  ph : ∀ S, F_are_heights [c, rD ys] S = .ok (.bl true) S
  pt : ∀ S, F__law_heighted [t, rD ys] S = .ok (.int (unevenI ys)) S
  pw : ∀ S, F_are_worst [c, wD ys] S = .ok (.bl true) S
  pg : ∀ S, F__law_apart [t, wD ys] S = .ok (.int (unevenI ys)) S
  ap : ∀ (a b : Nat) (S : Store), a ≤ ys.length → b ≤ ys.length → F_apart [c, .tup [.int a, .int b]] S = .ok (.int (aheadI ys b - aheadI ys a).natAbs) S
theorem facts_of {ys : List Int} {u : Int} (n1 : 1 ≤ ys.length) (n2 : ys.length ≤ 12) (hb : ∀ y ∈ ys, y = 0 ∨ y = 1) : Facts ys (told ys u) (cal ys u) := by
  have hn : ys.length ≤ 900 := by omega
  obtain ⟨l1, l2, l3, l4⟩ := lifted_ok (c := 0) hb n2 (by decide) (by decide)
  simp only [← raised_0] at l1 l2 l3 l4
  have hd : (aheadI ys (iMin ys) - aheadI ys (iMax ys)).natAbs = unevenI ys := by
    have := (uneven_b hb n2).1
    rw [at_iMin, at_iMax]
    unfold unevenI at this ⊢
    omega
  refine ⟨n1, n2, hb, fun f s S hf hs => ?_, fun v hv => heights_spec hv hn, fun v hv => law_apart_spec hv hn, fun S => paper_eq hn, fun S => (heights_good hn l1 l2 l3).1, fun S => ?_, fun S => ?_, fun S => ?_, fun a b S ha hb => apart_eq hn ha hb⟩
  · rw [Int.add_comm]
    exact excess_eq hn hf hs
  · rw [(heights_good hn l1 l2 l3).2, l4, Int.add_zero]
  · rw [are_worst_two rfl rfl]
    have := iMin_le ys
    have := iMax_le ys
    congr 2
    simp [withB]
    omega
  · rw [← hd]
    exact law_apart_ok (A0 hn) len_told (iMin_le ys) (iMax_le ys) (aheads_get (iMin_le ys)) (aheads_get (iMax_le ys))
abbrev eT (ns ys : List Int) (t c ev rd : D) (x12 x13 x14 x15 x16 x17 x18 x19 x20 x21 : Option D) : Ev := [some (.scr ns), some (.obj 0), some t, some c, some (.tup (ys.map D.int)), some (.lst ((aheads ys).map D.int)), some (.int (unevenI ys)), some (.int ys.length), some (.int ys.sum), some ev, none, some rd, x12, x13, x14, x15, x16, x17, x18, x19, x20, x21, none, none]
section
variable {S : Store} {ns ys : List Int} {t c ev rd : D} {x12 x13 x14 x15 x16 x17 x18 x19 x20 x21 : Option D}
abbrev t1 : FS := sAsg (fTup (fCons (f2 gAdd (fC (.int 1)) (fCallF F__law_taken (fCons (fVar 1) (fCons (fVar 7) fNil)))) (fCons (fCallF F__law_pick (fCons (fVar 1) (fCons (fLst (fCons (fCallF F__law_taken (fCons (fVar 1) (fCons (fC (.int 30)) fNil))) (fCons (fCallF F__law_taken (fCons (fVar 1) (fCons (fC (.int 10000)) fNil))) fNil))) fNil))) fNil))) (pTup 2 (pCons (pName 14) (pCons (pName 15) pNil)))
theorem turn1 {R : SO} (hR : RowOk R) (h1 : 1 ≤ ys.length) (h2 : ys.length ≤ 12) : ∃ (f s : Nat) (R' : SO), RowOk R' ∧ f < ys.length ∧ s ≤ 9999 ∧ t1 (eT ns ys t c ev rd x12 x13 x14 x15 x16 x17 x18 x19 x20 x21) [R] = .nx (eT ns ys t c ev rd x12 x13 (some (.int (1 + (f : Int)))) (some (.int (s : Int))) x16 x17 x18 x19 x20 x21) [R'] := by
  obtain ⟨a, R1, hR1, a0, a1, e1⟩ := takenR (Z := []) (many := (ys.length : Int)) hR (by omega) (by omega)
  obtain ⟨g, R2, hR2, g0, g1, e2⟩ := takenR (Z := []) (many := 30) hR1 (by decide) (by decide)
  obtain ⟨h, R3, hR3, h0, h1, e3⟩ := takenR (Z := []) (many := 10000) hR2 (by decide) (by decide)
  obtain ⟨x, R4, hR4, hx, e4⟩ := pickR (Z := []) (xs := [.int g, .int h]) hR3 (by simp) (by simp) rfl
  obtain ⟨s, rfl, hs⟩ : ∃ s : Nat, x = .int (s : Int) ∧ s ≤ 9999 := by
    rcases List.mem_cons.mp hx with rfl | hx
    · exact ⟨g.toNat, by congr 1; omega, by omega⟩
    · obtain rfl := List.mem_singleton.mp hx
      exact ⟨h.toNat, by congr 1; omega, by omega⟩
  obtain ⟨f, rfl⟩ : ∃ f : Nat, a = (f : Int) := ⟨a.toNat, by omega⟩
  refine ⟨f, s, R4, hR4, by omega, hs, ?_⟩
  exact stAsgT2 (evTup (evCons (ev2 rfl (evCallF (evCons rfl (evCons rfl evNil)) e1) rfl) (evCons (evCallF (evCons rfl (evCons (evLst (evCons (evCallF (evCons rfl (evCons rfl evNil)) e2) (evCons (evCallF (evCons rfl (evCons rfl evNil)) e3) evNil)) (by simp)) evNil)) e4) evNil)) (by simp)) rfl rfl
abbrev lcF : FE := fLc [12] (iR1 (fCons (f2 gMod (fVar 15) (fVar 7)) fNil)) (cName 12) fYes (f2 gIx (fVar 4) (f2 gMod (f2 gAdd (f2 DL.gSub (fVar 14) (fC (.int 1))) (fVar 12)) (fVar 7)))
abbrev t2 : FS := sAsg (f2 DL.gSub (f2 gMul (fCall DL.gSum (fCons lcF fNil)) (fVar 7)) (f2 gMul (f2 gMod (fVar 15) (fVar 7)) (fVar 8))) (pName 16)
theorem mod_nat {a b : Nat} (hb : 0 < b) : gMod (.int (a : Int)) (.int (b : Int)) S = .ok (.int ((a % b : Nat) : Int)) S := by
  rw [g_mod (by omega)]; rfl
theorem lcF_eq {f s : Nat} (h1 : 1 ≤ ys.length) (h2 : ys.length ≤ 12) (hf : f < ys.length) : lcF (eT ns ys t c ev rd x12 x13 (some (.int (1 + (f : Int)))) (some (.int (s : Int))) x16 x17 x18 x19 x20 x21) S = .ok (.lst (((List.range (s % ys.length)).map fun j => ys[(f + j) % ys.length]?.getD 0).map D.int)) S := by
  have hm : s % ys.length < ys.length := Nat.mod_lt _ (by omega)
  have i1 : iR1 (fCons (f2 gMod (fVar 15) (fVar 7)) fNil) (eT ns ys t c ev rd x12 x13 (some (.int (1 + (f : Int)))) (some (.int (s : Int))) x16 x17 x18 x19 x20 x21) S = .ok (upto 0 (s % ys.length)) S :=
    r1_ok (evCons (ev2 rfl rfl (mod_nat (by omega))) evNil) (by omega)
  have lc := fLc_pure (S0 := S) (vs := [12]) (p := cName 12) (t := fYes) (f := fun d => match d with | .int k => [D.int (ys[(f + k.toNat) % ys.length]?.getD 0)] | _ => []) (e := f2 gIx (fVar 4) (f2 gMod (f2 gAdd (f2 DL.gSub (fVar 14) (fC (.int 1))) (fVar 12)) (fVar 7))) i1 (fun d hd => by
    obtain ⟨k, hk, rfl⟩ := mem_upto hd
    rw [Int.zero_add]
    have hk2 : (f + k) % ys.length < ys.length := Nat.mod_lt _ (by omega)
    refine ⟨_, rfl, fun acc => .inr ⟨rfl, .int (ys[(f + k) % ys.length]), ?_, rfl, ?_⟩⟩
    · have q : (1 + (f : Int)) - 1 + (k : Int) = ((f + k : Nat) : Int) := by omega
      exact ev2 rfl (ev2 (ev2 (ev2 rfl rfl rfl) rfl (by show Res.ok (D.int ((1 + (f : Int)) - 1 + (k : Int))) _ = _; rw [q])) rfl (mod_nat (by omega))) (ix_tints (List.getElem?_eq_getElem hk2))
    · show [D.int (ys[(f + (k : Int).toNat) % ys.length]?.getD 0)] = _
      rw [Int.toNat_natCast, List.getElem?_eq_getElem hk2]
      rfl) (by rw [len_upto]; unfold lineN; omega)
  show fLc _ _ _ _ _ _ _ = _
  rw [lc]
  congr 2
  unfold upto
  rw [List.flatMap_map, List.map_map]
  generalize List.range (s % ys.length) = l
  induction l with
  | nil => rfl
  | cons k l ih =>
    rw [List.flatMap_cons, ih, List.map_cons]
    show [D.int (ys[(f + ((0 : Int) + (k : Int)).toNat) % ys.length]?.getD 0)] ++ _ = _
    rw [Int.zero_add, Int.toNat_natCast]
    rfl
end
end KL

set_option Elab.async false
set_option linter.all false
set_option maxRecDepth 4000
set_option maxHeartbeats 4000000
/-! KM14: the turn, all of it. -/
namespace KL
open PySem PySem.Spec PyProof.Rows L2 DL KA
section
variable {S : Store} {ns ys : List Int} {t c ev rd : D} {x12 x13 x14 x15 x16 x17 x18 x19 x20 x21 : Option D}
theorem turn2 {f s : Nat} (F : Facts ys t c) (hf : f < ys.length) : t2 (eT ns ys t c ev rd x12 x13 (some (.int (1 + (f : Int)))) (some (.int (s : Int))) x16 x17 x18 x19 x20 x21) S = .nx (eT ns ys t c ev rd x12 x13 (some (.int (1 + (f : Int)))) (some (.int (s : Int))) (some (.int (aheadI ys ((f + s) % ys.length) - aheadI ys f))) x17 x18 x19 x20 x21) S := by
  have h1 := F.n1
  have h2 := F.n2
  have hm : s % ys.length < ys.length := Nat.mod_lt _ (by omega)
  rw [← run_mod (by omega) hf s]
  exact stAsg (ev2 (ev2 (evCall (evCons (lcF_eq h1 h2 hf) evNil) sum_lints) rfl (g_mul (mul_small (by omega) (by omega)))) (ev2 (ev2 rfl rfl (mod_nat (by omega))) rfl (g_mul (mul_small' (by omega) (by omega)))) rfl) rfl
abbrev t3 : FS := sIf (fNotT (asB (fCallF (F__law_alike 6) (fCons (fCallF F_excess_of (fCons (fVar 3) (fCons (fVar 14) (fCons (fVar 15) fNil)))) (fCons (fVar 16) fNil))))) (sRet (fC (.bl false))) sNil
theorem turn3 {f s : Nat} (F : Facts ys t c) (hf : f < ys.length) (hs : s ≤ 9999) : t3 (eT ns ys t c ev rd x12 x13 (some (.int (1 + (f : Int)))) (some (.int (s : Int))) (some (.int (aheadI ys ((f + s) % ys.length) - aheadI ys f))) x17 x18 x19 x20 x21) S = .nx (eT ns ys t c ev rd x12 x13 (some (.int (1 + (f : Int)))) (some (.int (s : Int))) (some (.int (aheadI ys ((f + s) % ys.length) - aheadI ys f))) x17 x18 x19 x20 x21) S :=
  stSkip (evNotF (evB2 (evCallF (evCons (evCallF (evCons rfl (evCons rfl (evCons rfl evNil))) (F.exc f s S hf hs)) (evCons rfl evNil)) alike_int)))
abbrev t4 : FS := sAsg (fCallF F__law_pick (fCons (fVar 1) (fCons (fLst (fCons (fCall DL.gTup (fCons (fLc [10] (iSeq (fVar 5)) (cName 10) fYes (f2 DL.gSub (fVar 10) (fCall gMin (fCons (fVar 5) fNil)))) fNil)) (fCons (fCall DL.gTup (fCons (fLc [10] (iSeq (fVar 5)) (cName 10) fYes (f2 gAdd (f2 DL.gSub (fVar 10) (fCall gMin (fCons (fVar 5) fNil))) (fC (.int 3)))) fNil)) (fCons (fTup (fCons (fCallF F__law_taken (fCons (fVar 1) (fCons (f2 gAdd (fVar 7) (fC (.int 1))) fNil))) (fCons (fCallF F__law_taken (fCons (fVar 1) (fCons (f2 gAdd (fVar 7) (fC (.int 1))) fNil))) fNil))) (fCons (fTup (fCons (fC (.int 0)) (fCons (fVar 7) fNil))) fNil))))) fNil))) (pName 17)
theorem turn4 {R : SO} (hR : RowOk R) (F : Facts ys t c) : ∃ (xs : List Int) (R' : SO), RowOk R' ∧ xs.length ≤ 400 ∧ t4 (eT ns ys t c ev rd x12 x13 x14 x15 x16 x17 x18 x19 x20 x21) [R] = .nx (eT ns ys t c ev rd x12 x13 x14 x15 x16 (some (.tup (xs.map D.int))) x18 x19 x20 x21) [R'] := by
  have h1 := F.n1
  have h2 := F.n2
  obtain ⟨a, R1, hR1, a0, a1, e1⟩ := takenR (Z := []) (many := (ys.length : Int) + 1) hR (by omega) (by omega)
  obtain ⟨b, R2, hR2, b0, b1, e2⟩ := takenR (Z := []) (many := (ys.length : Int) + 1) hR1 (by omega) (by omega)
  obtain ⟨x, R3, hR3, hx, e3⟩ := pickR (Z := []) (xs := [.tup (((aheads ys).map fun x => x - mn (aheads ys)).map D.int), .tup (((aheads ys).map fun x => x - mn (aheads ys) + 3).map D.int), .tup [.int a, .int b], .tup [.int 0, .int ys.length]]) hR2 (by simp) (by simp) (purL_of fun d hd => by
    simp only [List.mem_cons, List.not_mem_nil, or_false] at hd
    rcases hd with rfl | rfl | rfl | rfl
    · exact pur_ints _
    · exact pur_ints _
    · rfl
    · rfl)
  obtain ⟨xs, rfl, hl⟩ : ∃ xs : List Int, x = .tup (xs.map D.int) ∧ xs.length ≤ 400 := by
    simp only [List.mem_cons, List.not_mem_nil, or_false] at hx
    rcases hx with rfl | rfl | rfl | rfl
    · exact ⟨_, rfl, by rw [List.length_map, aheads_len]; omega⟩
    · exact ⟨_, rfl, by rw [List.length_map, aheads_len]; omega⟩
    · exact ⟨[a, b], rfl, by simp⟩
    · exact ⟨[0, ys.length], rfl, by simp⟩
  refine ⟨xs, R3, hR3, hl, ?_⟩
  refine stAsg (evCallF (evCons rfl (evCons (evLst (evCons (evCall (evCons (lc_minus (H := []) (j := 0) (m := mn (aheads ys)) rfl ?_ (fun d S => rfl) ?_) evNil) tup_of) (evCons (evCall (evCons (lc_lift (H := []) (j := 0) (m := mn (aheads ys)) rfl ?_ (fun d S => rfl) ?_) evNil) tup_of) (evCons (evTup (evCons (evCallF (evCons rfl (evCons (ev2 rfl rfl rfl) evNil)) e1) (evCons (evCallF (evCons rfl (evCons (ev2 rfl rfl rfl) evNil)) e2) evNil)) (by simp)) (evCons (evTup (evCons rfl (evCons rfl evNil)) (by simp)) evNil)))) (by simp)) evNil)) e3) rfl
  · rw [aheads_len]; omega
  · exact fun d S => evCall (evCons rfl evNil) (min_lints (aheads_ne ys))
  · rw [aheads_len]; omega
  · exact fun d S => evCall (evCons rfl evNil) (min_lints (aheads_ne ys))
abbrev t5 : FS := sFor (iR1 (fCons (fCallF F__law_taken (fCons (fVar 1) (fCons (fC (.int 2)) fNil))) fNil)) (pName 12) (sAsg (fCallF (F__law_spoiled 3) (fCons (fVar 1) (fCons (fVar 17) fNil))) (pName 17))
theorem iR1_of {fs : FL} {ρ : Ev} {S S' : Store} {n : Nat} (h : fs ρ S = .ok [.int (n : Int)] S') (hn : n ≤ 1000000) : iR1 fs ρ S = .ok (upto 0 n) S' := by
  unfold iR1
  rw [h, Res.bind_ok]
  have z : -bigN ≤ (n : Int) ∧ (n : Int) < bigN := ⟨by unfold bigN; omega, by unfold bigN; omega⟩
  simp only [z, and_self, if_true, Int.toNat_natCast]
theorem turn5 {R : SO} {xs : List Int} (hR : RowOk R) (hl : xs.length ≤ 400) (hx : x12.elim True fun d => ∃ i : Int, d = .int i) : ∃ (v : D) (o : Option D) (R' : SO), RowOk R' ∧ OkV v ∧ (o.elim True fun d => ∃ i : Int, d = .int i) ∧ t5 (eT ns ys t c ev rd x12 x13 x14 x15 x16 (some (.tup (xs.map D.int))) x18 x19 x20 x21) [R] = .nx (eT ns ys t c ev rd o x13 x14 x15 x16 (some v) x18 x19 x20 x21) [R'] := by
  obtain ⟨a, R1, hR1, a0, a1, e1⟩ := takenR (Z := []) (many := 2) hR (by decide) (by decide)
  obtain ⟨n, rfl⟩ : ∃ n : Nat, a = (n : Int) := ⟨a.toNat, by omega⟩
  have i1 : iR1 (fCons (fCallF F__law_taken (fCons (fVar 1) (fCons (fC (.int 2)) fNil))) fNil) (eT ns ys t c ev rd x12 x13 x14 x15 x16 (some (.tup (xs.map D.int))) x18 x19 x20 x21) [R] = .ok (upto 0 n) [R1] :=
    iR1_of (evCons (evCallF (evCons rfl (evCons rfl evNil)) e1) evNil) (by omega)
  rcases (by omega : n = 0 ∨ n = 1) with rfl | rfl
  · exact ⟨_, x12, R1, hR1, .inl ⟨_, rfl, (fun d hd => by obtain ⟨x, _, rfl⟩ := List.mem_map.mp hd; rfl), by rw [List.length_map]; omega⟩, hx, stFor i1 rfl⟩
  · obtain ⟨v, R2, hR2, hv, e2⟩ := spoiled_tup (Z := []) (n := 1) (xs := xs) hR1 hl
    have nr : notRow v = true := by rcases hv with ⟨ds, rfl, _⟩ | ⟨xs, rfl⟩ <;> rfl
    refine ⟨v, some (.int 0), R2, hR2, hv, ⟨0, rfl⟩, stFor i1 ?_⟩
    refine lp1 (ρ1 := eT ns ys t c ev rd (some (.int 0)) x13 x14 x15 x16 (some (.tup (xs.map D.int))) x18 x19 x20 x21) rfl ?_
    rw [stAsg (evCallF (evCons rfl (evCons rfl evNil)) e2) nr]
    rfl
/-- the three measures of a value -/
abbrev t6 : FS := sPar3 18 19 20 (fCons (fCallF F__law_heighted (fCons (fVar 2) (fCons (fVar 17) fNil))) (fCons (fCallF F__law_apart (fCons (fVar 2) (fCons (fVar 17) fNil))) (fCons (fCallF F_calendar_paper (fCons (fVar 3) fNil)) fNil)))
theorem turn6 {v : D} {a b : Int} (F : Facts ys t c) (h : F__law_heighted [t, v] S = .ok (.int a) S) (w : F__law_apart [t, v] S = .ok (.int b) S) : t6 (eT ns ys t c ev rd x12 x13 x14 x15 x16 (some v) x18 x19 x20 x21) S = .nx (eT ns ys t c ev rd x12 x13 x14 x15 x16 (some v) (some (.int a)) (some (.int b)) (some (.tup [rD ys, wD ys])) x21) S :=
  stPar3 (evCons (evCallF (evCons rfl (evCons rfl evNil)) h) (evCons (evCallF (evCons rfl (evCons rfl evNil)) w) (evCons (evCallF (evCons rfl evNil) (F.pa S)) evNil)))
theorem alike_two {a b : Bool} : F__law_alike 6 [.tup [.bl a, .bl b], .tup [.bl a, .bl b]] S = .ok (.bl true) S :=
  alike_tup (by simp) fun d hd S => by
    rcases List.mem_cons.mp hd with rfl | hd
    · exact alike_bl
    · rw [List.mem_singleton.mp hd]; exact alike_bl
abbrev t7 : FS := sIf (fNotT (asB (fCallF (F__law_alike 6) (fCons (fTup (fCons (fCallF F_are_heights (fCons (fVar 3) (fCons (fVar 17) fNil))) (fCons (fCallF F_are_worst (fCons (fVar 3) (fCons (fVar 17) fNil))) fNil))) (fCons (fTup (fCons (f2 gGe (fVar 18) (fC (.int 0))) (fCons (f2 gGe (fVar 19) (fC (.int 0))) fNil))) fNil))))) (sRet (fC (.bl false))) sNil
theorem turn7 {v : D} {a b : Int} (h : F_are_heights [c, v] S = .ok (.bl (decide (0 ≤ a))) S) (w : F_are_worst [c, v] S = .ok (.bl (decide (0 ≤ b))) S) : t7 (eT ns ys t c ev rd x12 x13 x14 x15 x16 (some v) (some (.int a)) (some (.int b)) x20 x21) S = .nx (eT ns ys t c ev rd x12 x13 x14 x15 x16 (some v) (some (.int a)) (some (.int b)) x20 x21) S :=
  stSkip (evNotF (evB2 (evCallF (evCons (evTup (evCons (evCallF (evCons rfl (evCons rfl evNil)) h) (evCons (evCallF (evCons rfl (evCons rfl evNil)) w) evNil)) (by simp)) (evCons (evTup (evCons (ev2 rfl rfl rfl) (evCons (ev2 rfl rfl rfl) evNil)) (by simp)) evNil)) alike_two)))
abbrev t8 : FS := sAsg (fTup (fCons (f2 gEq (fVar 18) (fCallF F__law_apart (fCons (fVar 2) (fCons (f2 gIx (fVar 20) (fC (.int 1))) fNil)))) (fCons (f2 gEq (fVar 19) (fCallF F__law_heighted (fCons (fVar 2) (fCons (f2 gIx (fVar 20) (fC (.int 0))) fNil)))) fNil))) (pName 21)
theorem turn8 {a b : Int} (F : Facts ys t c) : t8 (eT ns ys t c ev rd x12 x13 x14 x15 x16 x17 (some (.int a)) (some (.int b)) (some (.tup [rD ys, wD ys])) x21) S = .nx (eT ns ys t c ev rd x12 x13 x14 x15 x16 x17 (some (.int a)) (some (.int b)) (some (.tup [rD ys, wD ys])) (some (.tup [.bl (a == unevenI ys), .bl (b == unevenI ys)]))) S :=
  stAsg (evTup (evCons (ev2 rfl (evCallF (evCons rfl (evCons (ev2 rfl rfl rfl) evNil)) (F.pg S)) g_eq) (evCons (ev2 rfl (evCallF (evCons rfl (evCons (ev2 rfl rfl rfl) evNil)) (F.pt S)) g_eq) evNil)) (by simp)) rfl
abbrev t9 : FS := sIf (fOrT (asB (f2 gNe (fCallF F__law_heighted (fCons (fVar 2) (fCons (f2 gIx (fVar 20) (fC (.int 0))) fNil))) (fVar 6))) (asB (f2 gNe (fCallF F__law_apart (fCons (fVar 2) (fCons (f2 gIx (fVar 20) (fC (.int 1))) fNil))) (fVar 6)))) (sRet (fC (.bl false))) sNil
theorem turn9 (F : Facts ys t c) : t9 (eT ns ys t c ev rd x12 x13 x14 x15 x16 x17 x18 x19 (some (.tup [rD ys, wD ys])) x21) S = .nx (eT ns ys t c ev rd x12 x13 x14 x15 x16 x17 x18 x19 (some (.tup [rD ys, wD ys])) x21) S :=
  stSkip (evOrF (evB2 (ev2 (evCallF (evCons rfl (evCons (ev2 rfl rfl rfl) evNil)) (F.pt S)) rfl (g_ne.trans (by rw [beq_self_eq_true]; rfl)))) (evB2 (ev2 (evCallF (evCons rfl (evCons (ev2 rfl rfl rfl) evNil)) (F.pg S)) rfl (g_ne.trans (by rw [beq_self_eq_true]; rfl)))))
abbrev t10 : FS := sIf (fNotT (asB (fCallF (F__law_alike 6) (fCons (fTup (fCons (fCallF F_is_calendar_paper (fCons (fVar 3) (fCons (fTup (fCons (fVar 17) (fCons (f2 gIx (fVar 20) (fC (.int 1))) fNil))) fNil))) (fCons (fCallF F_is_calendar_paper (fCons (fVar 3) (fCons (fTup (fCons (f2 gIx (fVar 20) (fC (.int 0))) (fCons (fVar 17) fNil))) fNil))) fNil))) (fCons (fVar 21) fNil))))) (sRet (fC (.bl false))) sNil
theorem turn10 {v : D} {a b : Bool} (h : F_is_calendar_paper [c, .tup [v, wD ys]] S = .ok (.bl a) S) (w : F_is_calendar_paper [c, .tup [rD ys, v]] S = .ok (.bl b) S) : t10 (eT ns ys t c ev rd x12 x13 x14 x15 x16 (some v) x18 x19 (some (.tup [rD ys, wD ys])) (some (.tup [.bl a, .bl b]))) S = .nx (eT ns ys t c ev rd x12 x13 x14 x15 x16 (some v) x18 x19 (some (.tup [rD ys, wD ys])) (some (.tup [.bl a, .bl b]))) S :=
  stSkip (evNotF (evB2 (evCallF (evCons (evTup (evCons (evCallF (evCons rfl (evCons (evTup (evCons rfl (evCons (ev2 rfl rfl rfl) evNil)) (by simp)) evNil)) h) (evCons (evCallF (evCons rfl (evCons (evTup (evCons (ev2 rfl rfl rfl) (evCons rfl evNil)) (by simp)) evNil)) w) evNil)) (by simp)) (evCons rfl evNil)) alike_two)))
/-- the body of the loop -/
abbrev tB : FS := sCons t1 (sCons t2 (sCons t3 (sCons t4 (sCons t5 (sCons t6 (sCons t7 (sCons t8 (sCons t9 t10))))))))
def io (o : Option D) : Prop := o.elim True fun d => ∃ i : Int, d = .int i
/-- the entries that a turn leaves -/
structure After (ys : List Int) (x14 x15 x16 x17 x18 x19 x20 x21 : Option D) : Prop where
  i14 : io x14
  i15 : io x15
  i16 : io x16
  i17 : x17.elim True OkV
  i18 : io x18
  i19 : io x19
  i20 : x20.elim True fun d => d = .tup [rD ys, wD ys]
  i21 : x21.elim True fun d => ∃ a b : Bool, d = .tup [.bl a, .bl b]
theorem turn_all {R : SO} (hR : RowOk R) (F : Facts ys t c) (hx : io x12) : ∃ (y12 y14 y15 y16 y17 y18 y19 y20 y21 : Option D) (R' : SO), RowOk R' ∧ io y12 ∧ After ys y14 y15 y16 y17 y18 y19 y20 y21 ∧
    tB (eT ns ys t c ev rd x12 x13 x14 x15 x16 x17 x18 x19 x20 x21) [R] = .nx (eT ns ys t c ev rd y12 x13 y14 y15 y16 y17 y18 y19 y20 y21) [R'] := by
  obtain ⟨f, s, R1, hR1, hf, hs, e1⟩ := turn1 (ns := ns) (t := t) (c := c) (ev := ev) (rd := rd) (x12 := x12) (x13 := x13) (x14 := x14) (x15 := x15) (x16 := x16) (x17 := x17) (x18 := x18) (x19 := x19) (x20 := x20) (x21 := x21) hR F.n1 F.n2
  obtain ⟨xs, R2, hR2, hl, e4⟩ := turn4 (ns := ns) (ev := ev) (rd := rd) (x12 := x12) (x13 := x13) (x14 := some (.int (1 + (f : Int)))) (x15 := some (.int (s : Int))) (x16 := some (.int (aheadI ys ((f + s) % ys.length) - aheadI ys f))) (x17 := x17) (x18 := x18) (x19 := x19) (x20 := x20) (x21 := x21) hR1 F
  obtain ⟨v, o, R3, hR3, hv, ho, e5⟩ := turn5 (ns := ns) (ys := ys) (t := t) (c := c) (ev := ev) (rd := rd) (x12 := x12) (x13 := x13) (x14 := some (.int (1 + (f : Int)))) (x15 := some (.int (s : Int))) (x16 := some (.int (aheadI ys ((f + s) % ys.length) - aheadI ys f))) (x18 := x18) (x19 := x19) (x20 := x20) (x21 := x21) hR2 hl hx
  obtain ⟨a, ha1, ha2, ha3⟩ : ∃ a : Int, (∀ S, F_are_heights [c, v] S = .ok (.bl (decide (0 ≤ a))) S) ∧ (∀ S, F__law_heighted [t, v] S = .ok (.int a) S) ∧ ∀ S, F_is_calendar_paper [c, .tup [v, wD ys]] S = .ok (.bl (a == unevenI ys)) S := by
    rcases F.hs v hv with ⟨zs, rfl, hz, h0, h1, h2⟩ | ⟨h1, h2⟩
    · refine ⟨mx zs, fun S => by rw [h1, decide_eq_true h0], h2, fun S => ?_⟩
      have ap := F.ap (iMin ys) (iMax ys) S (iMin_le ys) (iMax_le ys)
      have hd : ((aheadI ys (iMax ys) - aheadI ys (iMin ys)).natAbs : Int) = unevenI ys := by
        have := (uneven_b F.bits F.n2).1
        rw [at_iMin, at_iMax]
        unfold unevenI at this ⊢
        omega
      rw [hd] at ap
      exact is_paper_ok (h1 S) (F.pw S) (max_tints hz) ap
    · refine ⟨-1, fun S => by rw [h1, show decide ((0 : Int) ≤ -1) = false from by decide], h2, fun S => ?_⟩
      rw [is_paper_h (h1 S), beq_eq_false_iff_ne.mpr (by have := (uneven_b F.bits F.n2).1; omega)]
  obtain ⟨b, hb1, hb2, hb3⟩ : ∃ b : Int, (∀ S, F_are_worst [c, v] S = .ok (.bl (decide (0 ≤ b))) S) ∧ (∀ S, F__law_apart [t, v] S = .ok (.int b) S) ∧ ∀ S, F_is_calendar_paper [c, .tup [rD ys, v]] S = .ok (.bl (b == unevenI ys)) S := by
    rcases F.ws v hv with ⟨i, j, hi, hj, rfl, h1, h2⟩ | ⟨h1, h2⟩
    · refine ⟨(aheadI ys i - aheadI ys j).natAbs, fun S => by rw [h1, decide_eq_true (by omega)], h2, fun S => ?_⟩
      have ap := F.ap i j S hi hj
      obtain ⟨l1, l2, l3, l4⟩ := lifted_ok (c := 0) F.bits F.n2 (by decide) (by decide)
      simp only [← raised_0] at l1 l4
      have m := max_tints (S := S) (ys := raised ys) (by intro q; rw [q] at l1; cases l1)
      rw [l4, Int.add_zero] at m
      rw [is_paper_ok (F.ph S) (h1 S) m ap]
      congr 2
      rw [show (aheadI ys j - aheadI ys i).natAbs = (aheadI ys i - aheadI ys j).natAbs by omega]
      exact Bool.eq_iff_iff.mpr ⟨fun q => beq_iff_eq.mpr (beq_iff_eq.mp q).symm, fun q => beq_iff_eq.mpr (beq_iff_eq.mp q).symm⟩
    · refine ⟨-1, fun S => by rw [h1, show decide ((0 : Int) ≤ -1) = false from by decide], h2, fun S => ?_⟩
      rw [is_paper_w (F.ph S) (h1 S), beq_eq_false_iff_ne.mpr (by have := (uneven_b F.bits F.n2).1; omega)]
  refine ⟨o, some (.int (1 + (f : Int))), some (.int (s : Int)), some (.int (aheadI ys ((f + s) % ys.length) - aheadI ys f)), some v, some (.int a), some (.int b), some (.tup [rD ys, wD ys]), some (.tup [.bl (a == unevenI ys), .bl (b == unevenI ys)]), R3, hR3, ho, ⟨⟨_, rfl⟩, ⟨_, rfl⟩, ⟨_, rfl⟩, hv, ⟨_, rfl⟩, ⟨_, rfl⟩, rfl, ⟨_, _, rfl⟩⟩, ?_⟩
  exact stNext e1 (stNext (turn2 F hf) (stNext (turn3 F hf hs) (stNext e4 (stNext e5 (stNext (turn6 F (ha2 _) (hb2 _)) (stNext (turn7 (ha1 _) (hb1 _)) (stNext (turn8 F) (stNext (turn9 F) (turn10 (ha3 _) (hb3 _))))))))))
end
end KL

set_option Elab.async false
set_option linter.all false
set_option maxRecDepth 4000
set_option maxHeartbeats 4000000
/-! KM15a: what is told can be shown. -/
namespace KL
open PySem PySem.Spec PyProof.Rows L2 DL KA
def oddD (m : Nat) : Nat → D
  | 0 => .int 0
  | 1 => .int ((m : Int) + 1)
  | 2 => .non
  | 3 => .bl true
  | _ => .str "1"
def okS (n : Nat) (x : Str) : Prop := x.length ≤ n ∧ PyData.strOk x = true
theorem okS_app {n m : Nat} {x y : Str} (h : okS n x) (h2 : okS m y) : okS (n + m) (x ++ y) := by
  refine ⟨by rw [strLen_append]; have := h.1; have := h2.1; omega, ?_⟩
  show (x.cps ++ y.cps).all (· < 0x110000) = true
  rw [Array.all_append]
  exact Bool.and_eq_true_iff.mpr ⟨h.2, h2.2⟩
theorem textFrom_ok : ∀ (ts : List Str) (k n : Nat) (acc : Str), okS n acc → (∀ t ∈ ts, okS 100 t) → okS (n + 102 * ts.length) (textFrom k acc ts)
  | [], k, n, acc, h, _ => h
  | t :: ts, k, n, acc, h, ht => by
    have hs : okS 2 ((if k > 0 then ", " else "" : String) : Str) := by
      split
      · exact ⟨by decide +kernel, by decide +kernel⟩
      · exact ⟨by decide +kernel, by decide +kernel⟩
    have h1 := okS_app (okS_app h hs) (ht t List.mem_cons_self)
    have h2 := textFrom_ok ts (k + 1) _ _ h1 fun x hx => ht x (List.mem_cons_of_mem _ hx)
    refine ⟨Nat.le_trans h2.1 ?_, h2.2⟩
    rw [List.length_cons]
    omega
/-- a thing that can be shown in a list -/
def elemOk (p : PyData) : Bool := p.showable && p.canLay0 && decide (p.depth ≤ 50) && decide (p.shown.length ≤ 100) && PyData.strOk p.shown
theorem list_show {ps : List PyData} (h : ∀ p ∈ ps, elemOk p = true) (hl : ps.length ≤ 20) : canShow (.list ps) = true ∧ PyData.strOk (PyData.list ps).shown = true ∧ (PyData.list ps).canLay0 = true ∧ (PyData.list ps).depth ≤ 51 := by
  have e : ∀ p ∈ ps, p.showable = true ∧ p.canLay0 = true ∧ p.depth ≤ 50 ∧ okS 100 p.shown := fun p hp => by
    have := h p hp
    unfold elemOk at this
    simp only [Bool.and_eq_true, decide_eq_true_eq] at this
    exact ⟨this.1.1.1.1, this.1.1.1.2, this.1.1.2, this.1.2, this.2⟩
  have a : PyData.showableAll ps = true ∧ PyData.canLayAll0 ps = true ∧ PyData.depthAll ps ≤ 50 ∧ (∀ t ∈ PyData.shownAll ps, okS 100 t) ∧ (PyData.shownAll ps).length = ps.length := by
    clear h hl
    induction ps with
    | nil => exact ⟨by simp [PyData.showableAll], by simp [PyData.canLayAll0], by simp [PyData.depthAll], (fun t ht => by simp [PyData.shownAll] at ht), by simp [PyData.shownAll]⟩
    | cons p ps ih =>
      obtain ⟨h1, h2, h3, h4, h5⟩ := ih fun x hx => e x (List.mem_cons_of_mem _ hx)
      obtain ⟨g1, g2, g3, g4⟩ := e p List.mem_cons_self
      refine ⟨by simp only [PyData.showableAll, g1, h1, Bool.and_self], by simp only [PyData.canLayAll0, g2, h2, Bool.and_self], by simp only [PyData.depthAll]; exact Nat.max_le.mpr ⟨g3, h3⟩, fun t ht => ?_, by simp only [PyData.shownAll, List.length_cons, h5]⟩
      simp only [PyData.shownAll] at ht
      rcases List.mem_cons.mp ht with rfl | ht
      · exact g4
      · exact h4 t ht
  obtain ⟨h1, h2, h3, h4, h5⟩ := a
  have hc : (PyData.list ps).canLay0 = true := by simp only [PyData.canLay0, h2]
  have hs : okS (1 + 102 * (PyData.shownAll ps).length + 1) (PyData.list ps).shown := by
    simp only [PyData.shown]
    exact okS_app (textFrom_ok _ 0 1 "[" ⟨by decide +kernel, by decide +kernel⟩ h4) ⟨by decide +kernel, by decide +kernel⟩
  refine ⟨?_, hs.2, hc, by simp only [PyData.depth]; omega⟩
  unfold canShow
  simp only [Bool.and_eq_true, Bool.not_eq_true', decide_eq_true_eq]
  refine ⟨⟨⟨by simp only [PyData.showable, h1], PyData.hasDict_of_canLay _ hc⟩, by simp only [PyData.depth]; omega⟩, ?_⟩
  have := hs.1
  unfold lineN
  omega
/-- alike lists that can be shown read alike -/
theorem same_list {S : Store} {ds : List D} {ps : List PyData} (hp : toPyL ds = some ps) (h : ∀ p ∈ ps, elemOk p = true) (hl : ps.length ≤ 20) : F__law_same [.lst ds, .lst ds] S = .ok (.bl true) S := by
  obtain ⟨h1, h2, h3, h4⟩ := list_show h hl
  have r : gRepr [.lst ds] S = .ok (.str (PyData.list ps).shown) S := by
    unfold gRepr
    simp only [toPy, hp, Option.map_some]
    rw [if_pos ⟨rfl, h1⟩]
  have q : SeqAt.shaped (.str (PyData.list ps).shown) = true := by simp only [SeqAt.shaped, PyData.canLay0, h2, PyData.depth]; rfl
  have g : gEq (.str (PyData.list ps).shown) (.str (PyData.list ps).shown) S = .ok (.bl true) S := by
    unfold gEq
    rw [deq_of (p := .str (PyData.list ps).shown) (q := .str (PyData.list ps).shown) rfl rfl q q]
    simp only [PyData.eqv, beq_self_eq_true]
  unfold F__law_same
  exact runRt (S1 := S) rfl (stRet (ev2 (evCall (evCons rfl evNil) r) (evCall (evCons rfl evNil) r) g)) rfl (takeS S)
theorem same_tup {S : Store} {ds : List D} {ps : List PyData} (hp : toPyL ds = some ps) (h : canShow (.tuple ps) = true) (h2 : PyData.strOk (PyData.tuple ps).shown = true) : F__law_same [.tup ds, .tup ds] S = .ok (.bl true) S := by
  have r : gRepr [.tup ds] S = .ok (.str (PyData.tuple ps).shown) S := by
    unfold gRepr
    simp only [toPy, hp, Option.map_some]
    rw [if_pos ⟨rfl, h⟩]
  have q : SeqAt.shaped (.str (PyData.tuple ps).shown) = true := by simp only [SeqAt.shaped, PyData.canLay0, h2, PyData.depth]; rfl
  have g : gEq (.str (PyData.tuple ps).shown) (.str (PyData.tuple ps).shown) S = .ok (.bl true) S := by
    unfold gEq
    rw [deq_of (p := .str (PyData.tuple ps).shown) (q := .str (PyData.tuple ps).shown) rfl rfl q q]
    simp only [PyData.eqv, beq_self_eq_true]
  unfold F__law_same
  exact runRt (S1 := S) rfl (stRet (ev2 (evCall (evCons rfl evNil) r) (evCall (evCons rfl evNil) r) g)) rfl (takeS S)
theorem show_cal : canShow (.tuple [.str "BadPart", .str "calendar", .none]) = true ∧ PyData.strOk (PyData.tuple [.str "BadPart", .str "calendar", .none]).shown = true := by decide +kernel
theorem show_years : canShow (.tuple [.str "BadPart", .str "years", .none]) = true ∧ PyData.strOk (PyData.tuple [.str "BadPart", .str "years", .none]).shown = true := by decide +kernel
theorem n_int : ((List.range 14).all fun i => elemOk (.tuple [.str "BadNumber", .int (i : Int)])) = true := by decide +kernel
theorem n_int2 : elemOk (.tuple [.str "BadNumber", .int (-1)]) = true ∧ elemOk (.tuple [.str "BadNumber", .int 10000]) = true ∧ elemOk (.tuple [.str "BadNumber", .int 41]) = true := by decide +kernel
theorem n_odd : elemOk (.tuple [.str "BadNumber", .none]) = true ∧ elemOk (.tuple [.str "BadNumber", .bool true]) = true ∧ elemOk (.tuple [.str "BadNumber", .str "1"]) = true := by decide +kernel
theorem n_unk : ((List.range 14).all fun i => elemOk (.tuple [.str "Unknown", .int (i : Int)])) = true := by decide +kernel
theorem n_yrs : ((List.range 14).all fun i => elemOk (.tuple [.str "BadPart", .str "years", .int (i : Int)])) = true := by decide +kernel
theorem n_rest : elemOk (.tuple [.str "BadPart", .str "uneven", .none]) = true ∧ elemOk (.tuple [.str "BadPart", .str "calendar", .none]) = true := by decide +kernel
end KL

set_option Elab.async false
set_option linter.all false
set_option maxRecDepth 4000
set_option maxHeartbeats 4000000
/-! KM15: the twelve turns, the rounds, the head of the law. -/
namespace KL
open PySem PySem.Spec PyProof.Rows L2 DL KA
section
variable {S : Store} {ns ys : List Int} {t c ev rd : D} {x12 x13 x14 x15 x16 x17 x18 x19 x20 x21 : Option D}
theorem turns (F : Facts ys t c) : ∀ (is : List Int) (R : SO) (x12 x13 x14 x15 x16 x17 x18 x19 x20 x21 : Option D), RowOk R → io x12 → io x13 → After ys x14 x15 x16 x17 x18 x19 x20 x21 →
    ∃ (y12 y13 y14 y15 y16 y17 y18 y19 y20 y21 : Option D) (R' : SO), RowOk R' ∧ io y12 ∧ io y13 ∧ After ys y14 y15 y16 y17 y18 y19 y20 y21 ∧
    loopS (pName 13) tB (is.map D.int) (eT ns ys t c ev rd x12 x13 x14 x15 x16 x17 x18 x19 x20 x21) [R] = .nx (eT ns ys t c ev rd y12 y13 y14 y15 y16 y17 y18 y19 y20 y21) [R']
  | [], R, x12, x13, x14, x15, x16, x17, x18, x19, x20, x21, hR, h12, h13, hA => ⟨_, _, _, _, _, _, _, _, _, _, R, hR, h12, h13, hA, rfl⟩
  | i :: is, R, x12, x13, x14, x15, x16, x17, x18, x19, x20, x21, hR, h12, h13, hA => by
    obtain ⟨y12, y14, y15, y16, y17, y18, y19, y20, y21, R1, hR1, hy, hA1, e⟩ := turn_all (ns := ns) (ev := ev) (rd := rd) (x12 := x12) (x13 := some (.int i)) (x14 := x14) (x15 := x15) (x16 := x16) (x17 := x17) (x18 := x18) (x19 := x19) (x20 := x20) (x21 := x21) hR F h12
    obtain ⟨z12, z13, z14, z15, z16, z17, z18, z19, z20, z21, R2, hR2, hz, hz3, hA2, e2⟩ := turns F is R1 y12 (some (.int i)) y14 y15 y16 y17 y18 y19 y20 y21 hR1 hy ⟨i, rfl⟩ hA1
    refine ⟨z12, z13, z14, z15, z16, z17, z18, z19, z20, z21, R2, hR2, hz, hz3, hA2, ?_⟩
    rw [List.map_cons]
    refine lp1 (ρ1 := eT ns ys t c ev rd x12 (some (.int i)) x14 x15 x16 x17 x18 x19 x20 x21) rfl ?_
    rw [e, Out.next_nx]
    exact e2
theorem upto_ints (lo : Int) (n : Nat) : upto lo n = ((List.range n).map fun (i : Nat) => lo + (i : Int)).map D.int := by
  unfold upto
  rw [List.map_map]
  rfl
/- the rounds -/
def rndD (k : Nat) : D := .lst ((rndI k).map fun xs => .tup (xs.map D.int))
theorem rndI_len : ∀ k, (rndI k).length = 2 ^ k
  | 0 => rfl
  | k + 1 => by rw [rndI, List.length_append, List.length_map, List.length_map, rndI_len k, Nat.pow_succ]; omega
theorem rndI_each : ∀ (k : Nat), ∀ xs ∈ rndI k, xs.length = k
  | 0, xs, h => by rw [List.mem_singleton.mp h]; rfl
  | k + 1, xs, h => by
    rcases List.mem_append.mp h with h | h <;> obtain ⟨z, hz, rfl⟩ := List.mem_map.mp h <;> rw [List.length_append, rndI_each k z hz] <;> rfl
theorem rnd_lc {k : Nat} {b : Int} {ρ : Ev} (hk : k ≤ 9) (hv : ρ[(11 : Nat)]? = some (some (rndD k))) (hl : ρ.length = 24) : fLc [10] (iSeq (fVar 11)) (cName 10) fYes (f2 gAdd (fVar 10) (fTup (fCons (fC (.int b)) fNil))) ρ S = .ok (.lst (((rndI k).map (· ++ [b])).map fun xs => .tup (xs.map D.int))) S := by
  have i1 : iSeq (fVar 11) ρ S = .ok ((rndI k).map fun xs => .tup (xs.map D.int)) S := by
    unfold iSeq
    rw [evVar hv]
    rfl
  have p2 : (2 : Nat) ^ k ≤ 2 ^ 9 := Nat.pow_le_pow_right (by decide) hk
  have lc := fLc_pure (S0 := S) (vs := [10]) (p := cName 10) (t := fYes) (f := fun d => match d with | .tup ds => [D.tup (ds ++ [.int b])] | _ => []) (e := f2 gAdd (fVar 10) (fTup (fCons (fC (.int b)) fNil))) i1 (fun d hd => by
    obtain ⟨xs, hx, rfl⟩ := List.mem_map.mp hd
    have hxl := rndI_each k xs hx
    refine ⟨_, rfl, fun acc => .inr ⟨rfl, .tup (xs.map D.int ++ [.int b]), ?_, ?_, rfl⟩⟩
    · refine ev2 (evVar ?_) (evTup (evCons rfl evNil) (by simp)) (add_tup (by rw [List.length_map]; omega) (by simp))
      show ((ρ.set 10 none).set 10 (some (.tup (xs.map D.int))))[(10 : Nat)]? = _
      rw [List.getElem?_set_self (by rw [List.length_set]; omega)]
    · refine purL_of fun d hd => ?_
      rcases List.mem_append.mp hd with hd | hd
      · obtain ⟨x, _, rfl⟩ := List.mem_map.mp hd; rfl
      · rw [List.mem_singleton.mp hd]; rfl) (by rw [List.length_map, rndI_len]; unfold lineN; omega)
  rw [lc]
  congr 2
  rw [List.flatMap_map]
  generalize rndI k = l
  induction l with
  | nil => rfl
  | cons x l ih => rw [List.flatMap_cons, ih]; simp
abbrev rB : FS := sAsg (f2 gAdd (fLc [10] (iSeq (fVar 11)) (cName 10) fYes (f2 gAdd (fVar 10) (fTup (fCons (fC (.int 0)) fNil)))) (fLc [10] (iSeq (fVar 11)) (cName 10) fYes (f2 gAdd (fVar 10) (fTup (fCons (fC (.int 1)) fNil))))) (pName 11)
theorem rnd_step {k : Nat} (hk : k ≤ 8) : rB (eT ns ys t c ev (rndD k) x12 x13 x14 x15 x16 x17 x18 x19 x20 x21) S = .nx (eT ns ys t c ev (rndD (k + 1)) x12 x13 x14 x15 x16 x17 x18 x19 x20 x21) S := by
  have p2 : (2 : Nat) ^ k ≤ 2 ^ 8 := Nat.pow_le_pow_right (by decide) hk
  refine stAsg (d := rndD (k + 1)) (ev2 (rnd_lc (k := k) (by omega) rfl rfl) (rnd_lc (k := k) (by omega) rfl rfl) ?_) rfl
  show (if (((rndI k).map (· ++ [(0 : Int)])).map fun xs => D.tup (xs.map D.int)).length + (((rndI k).map (· ++ [(1 : Int)])).map fun xs => D.tup (xs.map D.int)).length ≤ lineN then _ else _) = _
  rw [if_pos (by simp only [List.length_map, rndI_len]; unfold lineN; omega), ← List.map_append]
  rfl
theorem rnd_loop : ∀ (is : List Int) (k : Nat) (x12 : Option D), k + is.length ≤ 9 → io x12 → ∃ y12, io y12 ∧ loopS (pName 12) rB (is.map D.int) (eT ns ys t c ev (rndD k) x12 x13 x14 x15 x16 x17 x18 x19 x20 x21) S = .nx (eT ns ys t c ev (rndD (k + is.length)) y12 x13 x14 x15 x16 x17 x18 x19 x20 x21) S
  | [], k, x12, _, h => ⟨x12, h, rfl⟩
  | i :: is, k, x12, hk, _ => by
    rw [List.length_cons] at hk
    obtain ⟨y, hy, e⟩ := rnd_loop is (k + 1) (some (.int i)) (by omega) ⟨i, rfl⟩
    refine ⟨y, hy, ?_⟩
    rw [List.map_cons]
    refine lp1 (ρ1 := eT ns ys t c ev (rndD k) (some (.int i)) x13 x14 x15 x16 x17 x18 x19 x20 x21) rfl ?_
    rw [rnd_step (by omega), Out.next_nx, e, List.length_cons, Nat.add_right_comm, Nat.add_assoc]
abbrev l12 : FS := sFor (iR1 (fCons (fIf (asB (f2 gLe (fVar 7) (fC (.int 9)))) (fVar 7) (fC (.int 0))) fNil)) (pName 12) rB
theorem rounds_eq (h2 : ys.length ≤ 12) (hx : io x12) : ∃ y12, io y12 ∧ l12 (eT ns ys t c ev (rndD 0) x12 x13 x14 x15 x16 x17 x18 x19 x20 x21) S = .nx (eT ns ys t c ev (rndD (if ys.length ≤ 9 then ys.length else 0)) y12 x13 x14 x15 x16 x17 x18 x19 x20 x21) S := by
  by_cases h : ys.length ≤ 9
  · have q : decide ((ys.length : Int) ≤ 9) = true := decide_eq_true (by omega)
    have i1 : iR1 (fCons (fIf (asB (f2 gLe (fVar 7) (fC (.int 9)))) (fVar 7) (fC (.int 0))) fNil) (eT ns ys t c ev (rndD 0) x12 x13 x14 x15 x16 x17 x18 x19 x20 x21) S = .ok (upto 0 ys.length) S :=
      r1_ok (evCons (evIfT (evB2 (ev2 rfl rfl (g_le.trans (by rw [q])))) rfl) evNil) (by omega)
    rw [upto_ints] at i1
    obtain ⟨y, hy, e⟩ := rnd_loop (S := S) (ns := ns) (ys := ys) (t := t) (c := c) (ev := ev) (x13 := x13) (x14 := x14) (x15 := x15) (x16 := x16) (x17 := x17) (x18 := x18) (x19 := x19) (x20 := x20) (x21 := x21) ((List.range ys.length).map fun (i : Nat) => (0 : Int) + (i : Int)) 0 x12 (by rw [List.length_map, List.length_range]; omega) hx
    rw [List.length_map, List.length_range, Nat.zero_add] at e
    rw [if_pos h]
    exact ⟨y, hy, stFor i1 e⟩
  · have q : decide ((ys.length : Int) ≤ 9) = false := decide_eq_false (by omega)
    have i1 : iR1 (fCons (fIf (asB (f2 gLe (fVar 7) (fC (.int 9)))) (fVar 7) (fC (.int 0))) fNil) (eT ns ys t c ev (rndD 0) x12 x13 x14 x15 x16 x17 x18 x19 x20 x21) S = .ok (upto 0 0) S :=
      r1_ok (n := 0) (evCons (evIfF (evB2 (ev2 rfl rfl (g_le.trans (by rw [q])))) rfl) evNil) (by omega)
    rw [if_neg h]
    exact ⟨x12, hx, stFor i1 rfl⟩
/- the least over all rounds -/
theorem rndU_lc {k : Nat} {l : Int} {ρ : Ev} {l' : Nat} (hl' : l = (l' : Int)) (hk : k ≤ 9) (hv : ρ[(11 : Nat)]? = some (some (rndD k))) (h8 : ρ[(8 : Nat)]? = some (some (.int l))) (hl : ρ.length = 24) :
    fLc [10] (iSeq (fVar 11)) (cName 10) (asB (f2 gEq (fCall DL.gSum (fCons (fVar 10) fNil)) (fVar 8))) (fCallF F__law_uneven (fCons (fTup (fCons (fVar 10) fNil)) fNil)) ρ S = .ok (.lst ((rndU k l').map D.int)) S := by
  have i1 : iSeq (fVar 11) ρ S = .ok ((rndI k).map fun xs => .tup (xs.map D.int)) S := by
    unfold iSeq
    rw [evVar hv]
    rfl
  have p2 : (2 : Nat) ^ k ≤ 2 ^ 9 := Nat.pow_le_pow_right (by decide) hk
  have lc := fLc_pure (S0 := S) (vs := [10]) (p := cName 10) (t := asB (f2 gEq (fCall DL.gSum (fCons (fVar 10) fNil)) (fVar 8))) (f := fun d => match d with | .tup ds => (match intsOf ds with | some xs => if xs.sum = (l' : Int) then [D.int (unevenI xs)] else [] | none => []) | _ => []) (e := fCallF F__law_uneven (fCons (fTup (fCons (fVar 10) fNil)) fNil)) i1 (fun d hd => by
    obtain ⟨xs, hx, rfl⟩ := List.mem_map.mp hd
    have hxl := rndI_each k xs hx
    have v10 : ∀ S, fVar 10 ((wipeE ρ [10]).set 10 (some (.tup (xs.map D.int)))) S = .ok (.tup (xs.map D.int)) S := fun S => by
      refine evVar ?_
      show ((ρ.set 10 none).set 10 (some (.tup (xs.map D.int))))[(10 : Nat)]? = _
      rw [List.getElem?_set_self (by rw [List.length_set]; omega)]
    have v8 : ∀ S, fVar 8 ((wipeE ρ [10]).set 10 (some (.tup (xs.map D.int)))) S = .ok (.int l) S := fun S => by
      refine evVar ?_
      show ((ρ.set 10 none).set 10 (some (.tup (xs.map D.int))))[(8 : Nat)]? = _
      rw [List.getElem?_set_ne (by decide), List.getElem?_set_ne (by decide), h8]
    refine ⟨_, rfl, fun acc => ?_⟩
    have tt := evB2 (ev2 (evCall (evCons (v10 (S ++ [.lst acc])) evNil) sum_tints) (v8 _) g_eq)
    simp only [ints_of]
    by_cases hq : xs.sum = l
    · rw [beq_iff_eq.mpr hq] at tt
      rw [if_pos (hq.trans hl')]
      exact .inr ⟨tt, .int (unevenI xs), evCallF (evCons (evTup (evCons (v10 _) evNil) (by simp)) evNil) (law_uneven_eq (by omega)), rfl, rfl⟩
    · rw [beq_eq_false_iff_ne.mpr hq] at tt
      rw [if_neg fun q => hq (q.trans hl'.symm)]
      exact .inl ⟨tt, rfl⟩) (by rw [List.length_map, rndI_len]; unfold lineN; omega)
  rw [lc]
  congr 2
  unfold rndU
  rw [List.flatMap_map]
  generalize rndI k = r
  induction r with
  | nil => rfl
  | cons x r ih =>
    rw [List.flatMap_cons, ih, List.filter_cons]
    simp only [ints_of]
    by_cases h : x.sum = (l' : Int)
    · rw [if_pos h, if_pos (decide_eq_true h)]; rfl
    · rw [if_neg h, if_neg (by simpa using h)]; rfl
abbrev l13 : FS := sIf (fAndT (asB (f2 gLe (fVar 7) (fC (.int 9)))) (asB (f2 gNe (fCall gMin (fCons (fLc [10] (iSeq (fVar 11)) (cName 10) (asB (f2 gEq (fCall DL.gSum (fCons (fVar 10) fNil)) (fVar 8))) (fCallF F__law_uneven (fCons (fTup (fCons (fVar 10) fNil)) fNil))) fNil)) (fCallF F_least_uneven (fCons (fVar 3) fNil))))) (sRet (fC (.bl false))) sNil
theorem least_ok (h1 : 1 ≤ ys.length) (hb : ∀ y ∈ ys, y = 0 ∨ y = 1) (hL : ∀ S, F_least_uneven [c] S = .ok (.int (ys.length - (Nat.gcd ys.length ys.sum.toNat : Nat))) S) :
    l13 (eT ns ys t c ev (rndD (if ys.length ≤ 9 then ys.length else 0)) x12 x13 x14 x15 x16 x17 x18 x19 x20 x21) S = .nx (eT ns ys t c ev (rndD (if ys.length ≤ 9 then ys.length else 0)) x12 x13 x14 x15 x16 x17 x18 x19 x20 x21) S := by
  have sb := sum_bits hb
  by_cases h : ys.length ≤ 9
  · have q : decide ((ys.length : Int) ≤ 9) = true := decide_eq_true (by omega)
    have ck := rnd_ok (m := ys.length) (l := ys.sum.toNat) h1 h (by omega)
    unfold rndChk at ck
    obtain ⟨c1, c2⟩ := Bool.and_eq_true_iff.mp ck
    have ne : rndU ys.length ys.sum.toNat ≠ [] := fun q => by rw [q] at c1; cases c1
    have m := min_lints (S := S) ne
    rw [of_decide_eq_true c2] at m
    rw [if_pos h]
    exact stSkip (evAndT (evB2 (ev2 rfl rfl (g_le.trans (by rw [q])))) (evB2 (ev2 (evCall (evCons (rndU_lc (k := ys.length) (l := ys.sum) (l' := ys.sum.toNat) (by omega) h rfl rfl rfl) evNil) m) (evCallF (evCons rfl evNil) (hL S)) (g_ne.trans (by rw [beq_self_eq_true]; rfl)))))
  · have q : decide ((ys.length : Int) ≤ 9) = false := decide_eq_false (by omega)
    exact stSkip (evAndF (evB2 (ev2 rfl rfl (g_le.trans (by rw [q])))))
end
end KL

set_option Elab.async false
set_option linter.all false
set_option maxRecDepth 4000
set_option maxHeartbeats 4000000
/-! KM16: the end of the law: the refusals. -/
namespace KL
open PySem PySem.Spec PyProof.Rows L2 DL KA
/-- what the end needs to know -/
structure Ends (ys : List Int) (u : Int) (t : D) (fl : List (Nat × D)) : Prop where
  n1 : 1 ≤ ys.length
  n2 : ys.length ≤ 12
  bits : ∀ y ∈ ys, y = 0 ∨ y = 1
  g0 : ∀ (d : D) (x : Int) (S : Store), ty1 d = true → withB d 1 ys.length = false → pur d = true → F_excess_of [.ins 0 fl, d, .int x] S = .exc 1 [(2, d)] S
  g1 : ∀ (x : Int) (S : Store), withB (.int x) 0 9999 = false → F_excess_of [.ins 0 fl, .int 1, .int x] S = .exc 1 [(2, .int x)] S
  g6 : ∀ S, F_Calendar_with_year [.ins 0 fl, .int ((ys.length : Int) + 1), .int 0] S = .exc 2 [(3, .int ((ys.length : Int) + 1))] S
  g7 : ∀ (k : Nat) (S : Store), k < ys.length → F_Calendar_with_year [.ins 0 fl, .int ((k : Int) + 1), .int 2] S = .exc 0 [(1, .int k), (0, .str "years")] S
  g8 : ∀ (k : Nat) (S : Store), k < ys.length → F_Calendar_with_part [.ins 0 fl, .str "years", .tup ((ys.map D.int).take (k + 1) ++ [.int 2])] S = .exc 0 [(1, .int ((k : Int) + 1)), (0, .str "years")] S
  g9 : ∀ S, F_Calendar_with_part [.ins 0 fl, .str "uneven", .int 1601] S = .exc 0 [(1, .non), (0, .str "uneven")] S
  g10 : ∀ S, F_Calendar_with_part [.ins 0 fl, .str "calendar", .int 1] S = .exc 0 [(1, .non), (0, .str "calendar")] S
  g11 : ∀ S, makeD 0 F_Calendar___init__ [.tup (ys.map D.int)] S = .exc 0 [(1, .non), (0, if ys.length = 2 then .str "years" else .str "calendar")] S
  g12 : ∀ S, F_Calendar_with_part [.ins 0 fl, .str "years", .tup []] S = .exc 0 [(1, .non), (0, .str "years")] S
  g13 : ∀ (k : Nat) (h : k < ys.length) (S : Store), ∃ c2, F_Calendar_with_year [.ins 0 fl, .int ((k : Int) + 1), .int (1 - ys[k])] S = .ok c2 S ∧ makeD 0 F_Calendar___init__ [.tup [.tup ((ys.map D.int).take k ++ .int (1 - ys[k]) :: (ys.map D.int).drop (k + 1)), .int u]] S = .ok c2 S ∧ gEqO 0 F_Calendar___eq__ c2 c2 S = .ok (.bl true) S
  g14 : ∀ S, gIx t (.int 1) S = .ok (.int u) S
theorem bits_take {ys : List Int} (hb : ∀ y ∈ ys, y = 0 ∨ y = 1) (k : Nat) : ∀ y ∈ ys.take k, y = 0 ∨ y = 1 := fun y hy => hb y (List.mem_of_mem_take hy)
theorem ends_of {ys : List Int} {u : Int} (n1 : 1 ≤ ys.length) (n2 : ys.length ≤ 12) (hb : ∀ y ∈ ys, y = 0 ∨ y = 1) (hu : 0 ≤ u ∧ u < 200) : Ends ys u (told ys u) [(5, told ys u), (6, .tup (ys.map D.int)), (7, .int u)] := by
  have hn : ys.length ≤ 900 := by omega
  refine ⟨n1, n2, hb, fun d x S h1 h2 h3 => wrong_excess1 (u := u) h1 h2 h3, fun x S h => wrong_excess2 (u := u) h n1, fun S => year_out (u := u) ?_, fun k S hk => ?_, fun k S hk => ?_, fun S => ?_, fun S => with_other_x (u := u), fun S => ?_, fun S => ?_, fun k hk S => ?_, fun S => id rfl⟩
  · simp [withB]
    omega
  · refine year_in (u := u) hk hn rfl (with_years_x (ys := ys) (u := u) ?_ ?_ rfl) (fun _ => trivial) ⟨rfl, rfl⟩
    · refine purL_of fun d hd => ?_
      rcases List.mem_append.mp hd with hd | hd
      · exact purL_mem (pur_ints ys) d (List.mem_of_mem_take hd)
      · rcases List.mem_cons.mp hd with rfl | hd
        · rfl
        · exact purL_mem (pur_ints ys) d (List.mem_of_mem_drop hd)
    · have := make_two (S := S) (ys := ys.take k) (r := (ys.map D.int).drop (k + 1)) (b := .int u) (bits_take hb k) (fun d hd => ty_ints d (List.mem_of_mem_drop hd)) (by rw [List.length_take, List.length_drop, List.length_map]; omega)
      rw [List.length_take, Nat.min_eq_left (by omega), List.map_take] at this
      exact this
  · refine with_years_x (ys := ys) (u := u) ?_ ?_ rfl
    · refine purL_of fun d hd => ?_
      rcases List.mem_append.mp hd with hd | hd
      · exact purL_mem (pur_ints ys) d (List.mem_of_mem_take hd)
      · rw [List.mem_singleton.mp hd]; rfl
    · have := make_two (S := S) (ys := ys.take (k + 1)) (r := []) (b := .int u) (bits_take hb (k + 1)) (fun d hd => by cases hd) (by rw [List.length_take, List.length_nil]; omega)
      rw [List.length_take, Nat.min_eq_left (by omega), List.map_take] at this
      exact this
  · exact with_uneven_x (ys := ys) (u := u) (make_uneven hb n1 (by omega) rfl) rfl
  · by_cases h : ys.length = 2
    · rw [if_pos h]
      match ys, h with
      | [a, b], _ => exact make_int
    · rw [if_neg h]
      refine make_row fun S => ?_
      rw [is_row_eq rfl, show rowB (.tup (ys.map D.int)) 2 = false from rowB_len (n := 2) (by rw [List.length_map]; exact h)]
  · exact with_years_x (ys := ys) (u := u) rfl make_none rfl
  · have e : (ys.map D.int).take k ++ D.int (1 - ys[k]) :: (ys.map D.int).drop (k + 1) = (ys.take k ++ (1 - ys[k]) :: ys.drop (k + 1)).map D.int := by
      rw [List.map_append, List.map_cons, List.map_take, List.map_drop]
    have hb' : ∀ y ∈ ys.take k ++ (1 - ys[k]) :: ys.drop (k + 1), y = 0 ∨ y = 1 := fun y hy => by
      rcases List.mem_append.mp hy with hy | hy
      · exact hb y (List.mem_of_mem_take hy)
      · rcases List.mem_cons.mp hy with rfl | hy
        · rcases hb _ (List.getElem_mem hk) with h | h <;> rw [h]
          · exact .inr rfl
          · exact .inl rfl
        · exact hb y (List.mem_of_mem_drop hy)
    have hl' : (ys.take k ++ (1 - ys[k]) :: ys.drop (k + 1)).length = ys.length := by
      rw [List.length_append, List.length_cons, List.length_take, List.length_drop]
      omega
    have mk := make_ok (S := S) (ys := ys.take k ++ (1 - ys[k]) :: ys.drop (k + 1)) (u := u) hb' (by omega) (by omega) (by omega)
    rw [e]
    have pc : pur (cal (ys.take k ++ (1 - ys[k]) :: ys.drop (k + 1)) u) = true := by
      show (pur (told _ u) && (pur (.tup _) && (true && true))) = true
      rw [pur_tints]
      show ((pur (.tup _) && (true && true)) && _) = true
      rw [pur_tints]
      rfl
    refine ⟨cal (ys.take k ++ (1 - ys[k]) :: ys.drop (k + 1)) u, ?_, mk, eq_cal⟩
    refine year_in (u := u) hk hn rfl (with_years (ys := ys) (u := u) ?_ ?_ pc) (fun _ => trivial) ⟨pc, rfl⟩
    · rw [e]; exact pur_tints _
    · rw [e]; exact mk
abbrev eZ (ns ys : List Int) (t c ev rd : D) (x12 x13 x14 x15 x16 x17 x18 x19 x20 x21 : Option D) (o a : D) : Ev := [some (.scr ns), some (.obj 0), some t, some c, some (.tup (ys.map D.int)), some (.lst ((aheads ys).map D.int)), some (.int (unevenI ys)), some (.int ys.length), some (.int ys.sum), some ev, none, some rd, x12, x13, x14, x15, x16, x17, x18, x19, x20, x21, some o, some a]
section
variable {S : Store} {ns ys : List Int} {u : Int} {t ev rd o : D} {fl : List (Nat × D)} {x12 x13 x14 x15 x16 x17 x18 x19 x20 x21 : Option D}
abbrev l15 : FS := sAsg (fTup (fCons (fCallF F__law_pick (fCons (fVar 1) (fCons (fLst (fCons (fC (.int 0)) (fCons (f2 gAdd (fVar 7) (fC (.int 1))) (fCons (fC .non) (fCons (fC (.bl true)) (fCons (fC (.str "1")) fNil)))))) fNil))) (fCons (f2 gAdd (fC (.int 1)) (fCallF F__law_taken (fCons (fVar 1) (fCons (fVar 7) fNil)))) fNil))) (pTup 2 (pCons (pName 22) (pCons (pName 23) pNil)))
/-- what is drawn as odd -/
structure Odd (n : Nat) (o : D) : Prop where
  ty : ty1 o = true
  pu : pur o = true
  wi : withB o 1 n = false
  ro : rowB o 2 = false
  nr : notRow o = true
  nj : isJ o = false
  py : ∃ p, toPy o = some p ∧ elemOk (.tuple [.str "BadNumber", p]) = true
theorem odd_of {n : Nat} (hn : n ≤ 12) {o : D} (h : o ∈ [D.int 0, .int ((n : Int) + 1), .non, .bl true, .str "1"]) : Odd n o := by
  simp only [List.mem_cons, List.not_mem_nil, or_false] at h
  rcases h with rfl | rfl | rfl | rfl | rfl
  · exact ⟨rfl, rfl, rfl, rfl, rfl, rfl, _, rfl, List.all_eq_true.mp n_int 0 (by decide)⟩
  · refine ⟨rfl, rfl, ?_, rfl, rfl, rfl, _, rfl, List.all_eq_true.mp n_int (n + 1) (List.mem_range.mpr (by omega))⟩
    simp only [withB, Bool.and_eq_false_iff, decide_eq_false_iff_not]
    omega
  · exact ⟨rfl, rfl, rfl, rfl, rfl, rfl, _, rfl, n_odd.1⟩
  · exact ⟨rfl, rfl, rfl, rfl, rfl, rfl, _, rfl, n_odd.2.1⟩
  · exact ⟨rfl, rfl, rfl, rfl, rfl, rfl, _, rfl, n_odd.2.2⟩
theorem end15 {R : SO} {c : D} (hR : RowOk R) (h1 : 1 ≤ ys.length) (h2 : ys.length ≤ 12) : ∃ (o : D) (k : Nat) (R' : SO), RowOk R' ∧ k < ys.length ∧ Odd ys.length o ∧ l15 (eT ns ys t c ev rd x12 x13 x14 x15 x16 x17 x18 x19 x20 x21) [R] = .nx (eZ ns ys t c ev rd x12 x13 x14 x15 x16 x17 x18 x19 x20 x21 o (.int ((k : Int) + 1))) [R'] := by
  obtain ⟨x, R1, hR1, hx, e1⟩ := pickR (Z := []) (xs := [.int 0, .int ((ys.length : Int) + 1), .non, .bl true, .str "1"]) hR (by simp) (by simp) rfl
  obtain ⟨a, R2, hR2, a0, a1, e2⟩ := takenR (Z := []) (many := (ys.length : Int)) hR1 (by omega) (by omega)
  obtain ⟨k, rfl⟩ : ∃ k : Nat, a = (k : Int) := ⟨a.toNat, by omega⟩
  have ho := odd_of h2 hx
  refine ⟨x, k, R2, hR2, by omega, ho, ?_⟩
  exact stAsgT2 (evTup (evCons (evCallF (evCons rfl (evCons (evLst (evCons rfl (evCons (ev2 rfl rfl rfl) (evCons rfl (evCons rfl (evCons rfl evNil))))) (by simp)) evNil)) e1) (evCons (ev2 rfl (evCallF (evCons rfl (evCons rfl evNil)) e2) (by show Res.ok (D.int (1 + (k : Int))) _ = _; rw [Int.add_comm])) evNil)) (by simp)) ho.nr rfl
end
end KL

set_option Elab.async false
set_option linter.all false
set_option maxRecDepth 4000
set_option maxHeartbeats 4000000
/-! KM17: the refusals told. -/
namespace KL
open PySem PySem.Spec PyProof.Rows L2 DL KA
theorem gd_none : gdO none := fun d h => by cases h
theorem gd_some {d : D} (h : isJ d = false) (hp : pur d = true) : gdO (some d) := fun e q => by cases q; exact ⟨h, cold_of hp⟩
theorem gd_obj {l : Nat} : gdO (some (.obj l)) := fun e q => by cases q; exact ⟨rfl, rfl⟩
theorem gd_cons {o : Option D} {ρ : Ev} (h : gdO o) (h2 : ∀ x ∈ ρ, gdO x) : ∀ x ∈ o :: ρ, gdO x := fun x hx => by
  rcases List.mem_cons.mp hx with rfl | hx
  · exact h
  · exact h2 x hx
theorem gd_nil : ∀ x ∈ ([] : Ev), gdO x := fun x hx => by cases hx
theorem gd_io {o : Option D} (h : io o) : gdO o := by
  cases o with
  | none => exact gd_none
  | some d => obtain ⟨i, rfl⟩ := h; exact gd_some rfl rfl
section
variable {S : Store} {ns ys : List Int} {u : Int} {t ev rd o : D} {fl : List (Nat × D)} {x12 x13 x14 x15 x16 x17 x18 x19 x20 x21 : Option D}
/-- the entries can be caught by a lambda -/
structure Caps (ys : List Int) (t ev rd : D) (fl : List (Nat × D)) : Prop where
  t : isJ t = false ∧ pur t = true
  c : purF fl = true
  ev : isJ ev = false ∧ pur ev = true
  rd : isJ rd = false ∧ pur rd = true
theorem caps_env {a : D} (C : Caps ys t ev rd fl) (h12 : io x12) (h13 : io x13) (A : After ys x14 x15 x16 x17 x18 x19 x20 x21) (O : Odd ys.length o) (ha : isJ a = false ∧ pur a = true) : ∀ x ∈ eZ ns ys t (.ins 0 fl) ev rd x12 x13 x14 x15 x16 x17 x18 x19 x20 x21 o a, gdO x := by
  have g17 : gdO x17 := by
    have := A.i17
    cases x17 with
    | none => exact gd_none
    | some d =>
      have hv : OkV d := this
      refine gd_some ?_ (okV_pur hv)
      rcases hv with ⟨ds, rfl, _⟩ | ⟨xs, rfl⟩ <;> rfl
  have g20 : gdO x20 := by
    have := A.i20
    cases x20 with
    | none => exact gd_none
    | some d =>
      have hv : d = .tup [rD ys, wD ys] := this
      rw [hv]
      refine gd_some rfl ?_
      show (pur (.tup _) && _) = true
      rw [pur_tints]
      rfl
  have g21 : gdO x21 := by
    have := A.i21
    cases x21 with
    | none => exact gd_none
    | some d => obtain ⟨a, b, rfl⟩ := this; exact gd_some rfl rfl
  exact gd_cons (gd_some rfl rfl) (gd_cons gd_obj (gd_cons (gd_some C.t.1 C.t.2) (gd_cons (gd_some rfl C.c) (gd_cons (gd_some rfl (pur_tints _)) (gd_cons (gd_some rfl (pur_lints _)) (gd_cons (gd_some rfl rfl) (gd_cons (gd_some rfl rfl) (gd_cons (gd_some rfl rfl) (gd_cons (gd_some C.ev.1 C.ev.2) (gd_cons gd_none (gd_cons (gd_some C.rd.1 C.rd.2) (gd_cons (gd_io h12) (gd_cons (gd_io h13) (gd_cons (gd_io A.i14) (gd_cons (gd_io A.i15) (gd_cons (gd_io A.i16) (gd_cons g17 (gd_cons (gd_io A.i18) (gd_cons (gd_io A.i19) (gd_cons g20 (gd_cons g21 (gd_cons (gd_some O.nj O.pu) (gd_cons (gd_some ha.1 ha.2) gd_nil)))))))))))))))))))))))
abbrev fT (own : List Nat) (f : FE) : FE := fTold (fun f => fTup (fCons (fC (.str "told")) (fCons f fNil))) 2 inE F__law_refusal own f
abbrev q0 : FE := fCallF F_excess_of (fCons (fVar 3) (fCons (fVar 22) (fCons (fNeg (fC (.int 1))) fNil)))
abbrev q1 : FE := fCallF F_excess_of (fCons (fVar 3) (fCons (fC (.int 1)) (fCons (fNeg (fC (.int 1))) fNil)))
abbrev q2 : FE := fCallF F_excess_of (fCons (fVar 3) (fCons (fC (.int 1)) (fCons (fC (.int 10000)) fNil)))
abbrev q3 : FE := fCallF F_evenest (fCons (fCallF F__law_pick (fCons (fVar 1) (fCons (fLst (fCons (fC (.int 0)) fNil)) fNil))) (fCons (fC (.int 41)) fNil))
abbrev q4 : FE := fCallF F_evenest (fCons (fC (.int 41)) (fCons (fC (.int 0)) fNil))
abbrev q5 : FE := fCallF F_evenest (fCons (fC (.int 5)) (fCons (fC (.int 6)) fNil))
abbrev q6 : FE := fMeth 0 F_Calendar_with_year (fVar 3) (fCons (f2 gAdd (fVar 7) (fC (.int 1))) (fCons (fC (.int 0)) fNil))
abbrev q7 : FE := fMeth 0 F_Calendar_with_year (fVar 3) (fCons (fVar 23) (fCons (fC (.int 2)) fNil))
abbrev q8 : FE := fMeth 0 F_Calendar_with_part (fVar 3) (fCons (fC (.str "years")) (fCons (f2 gAdd (fSl (fVar 4) oNone (oSome (fVar 23))) (fTup (fCons (fC (.int 2)) fNil))) fNil))
abbrev q9 : FE := fMeth 0 F_Calendar_with_part (fVar 3) (fCons (fC (.str "uneven")) (fCons (fC (.int 1601)) fNil))
abbrev q10 : FE := fMeth 0 F_Calendar_with_part (fVar 3) (fCons (fC (.str "calendar")) (fCons (fC (.int 1)) fNil))
abbrev q11 : FE := fMake 0 F_Calendar___init__ (fCons (fVar 4) fNil)
abbrev q12 : FE := fMeth 0 F_Calendar_with_part (fVar 3) (fCons (fC (.str "years")) (fCons (fTup fNil) fNil))
/-- the first eleven refusals -/
def dueL (o : D) (n k : Int) : List D := [.tup [.str "BadNumber", o], .tup [.str "BadNumber", .int (-1)], .tup [.str "BadNumber", .int 10000], .tup [.str "BadNumber", .int 0], .tup [.str "BadNumber", .int 41], .tup [.str "BadNumber", .int 6], .tup [.str "Unknown", .int (n + 1)], .tup [.str "BadPart", .str "years", .int k], .tup [.str "BadPart", .str "years", .int (k + 1)], .tup [.str "BadPart", .str "uneven", .non], .tup [.str "BadPart", .str "calendar", .non]]
def f11 (n : Nat) : D := .tup [.str "BadPart", if n = 2 then .str "years" else .str "calendar", .non]
theorem f11_pur {n : Nat} : pur (if n = 2 then D.str "years" else .str "calendar") = true := by split <;> rfl
abbrev l16 : FS := sAsg (fLst (fCons (fT [] q0) (fCons (fT [] q1) (fCons (fT [] q2) (fCons (fT [] q3) (fCons (fT [] q4) (fCons (fT [] q5) (fCons (fT [] q6) (fCons (fT [] q7) (fCons (fT [] q8) (fCons (fT [] q9) (fCons (fT [12] q10) (fCons (fT [] q11) fNil))))))))))))) (pName 16)
theorem end16 {R : SO} {k : Nat} (hR : RowOk R) (E : Ends ys u t fl) (C : Caps ys t ev rd fl) (h12 : io x12) (h13 : io x13) (A : After ys x14 x15 x16 x17 x18 x19 x20 x21) (O : Odd ys.length o) (hk : k < ys.length) :
    ∃ R', RowOk R' ∧ l16 (eZ ns ys t (.ins 0 fl) ev rd x12 x13 x14 x15 x16 x17 x18 x19 x20 x21 o (.int ((k : Int) + 1))) [R] = .nx (eZ ns ys t (.ins 0 fl) ev rd x12 x13 x14 x15 (some (.lst (dueL o ys.length k ++ [f11 ys.length]))) x17 x18 x19 x20 x21 o (.int ((k : Int) + 1))) [R'] := by
  have hg := caps_env (ns := ns) (a := .int ((k : Int) + 1)) C h12 h13 A O ⟨rfl, rfl⟩
  obtain ⟨x, R1, hR1, hx, e3⟩ := pickR (Z := []) (xs := [.int 0]) hR (by simp) (by simp) rfl
  obtain rfl := List.mem_singleton.mp hx
  refine ⟨R1, hR1, ?_⟩
  have a0 := told_x (S := [R]) (own := []) (fl := q0) hg (evCallF (evCons rfl (evCons rfl (evCons rfl evNil))) (E.g0 o (-1) [R] O.ty O.wi O.pu)) rfl (by show (cold o && true) = true; rw [cold_of O.pu]; rfl) (fun S => refuse_number O.pu) (by show (true && (cold o && true)) = true; rw [cold_of O.pu]; rfl)
  have a1 := told_x (S := [R]) (own := []) (fl := q1) hg (evCallF (evCons rfl (evCons rfl (evCons rfl evNil))) (E.g1 (-1) [R] rfl)) rfl rfl (fun S => refuse_number rfl) rfl
  have a2 := told_x (S := [R]) (own := []) (fl := q2) hg (evCallF (evCons rfl (evCons rfl (evCons rfl evNil))) (E.g1 10000 [R] rfl)) rfl rfl (fun S => refuse_number rfl) rfl
  have a3 := told_x (S := [R]) (own := []) (fl := q3) hg (evCallF (evCons (evCallF (evCons rfl (evCons (evLst (evCons rfl evNil) (by simp)) evNil)) e3) (evCons rfl evNil)) (wrong_even1 (S := [R1]) (x := 0) (y := 41) rfl)) rfl rfl (fun S => refuse_number rfl) rfl
  have a4 := told_x (S := [R1]) (own := []) (fl := q4) hg (evCallF (evCons rfl (evCons rfl evNil)) (wrong_even1 (S := [R1]) (x := 41) (y := 0) rfl)) rfl rfl (fun S => refuse_number rfl) rfl
  have a5 := told_x (S := [R1]) (own := []) (fl := q5) hg (evCallF (evCons rfl (evCons rfl evNil)) (wrong_even2 (S := [R1]) (x := 5) (y := 6) rfl rfl)) rfl rfl (fun S => refuse_number rfl) rfl
  have a6 := told_x (S := [R1]) (own := []) (fl := q6) hg (evMeth rfl (evCons (ev2 rfl rfl rfl) (evCons rfl evNil)) (E.g6 [R1])) rfl rfl (fun S => refuse_name rfl) rfl
  have a7 := told_x (S := [R1]) (own := []) (fl := q7) hg (evMeth rfl (evCons rfl (evCons rfl evNil)) (E.g7 k [R1] hk)) rfl rfl (fun S => refuse_part rfl rfl) rfl
  have s8 : fSl (fVar 4) oNone (oSome (fVar 23)) (wipeE (eZ ns ys t (.ins 0 fl) ev rd x12 x13 x14 x15 x16 x17 x18 x19 x20 x21 o (.int ((k : Int) + 1))) []) [R1] = .ok (.tup ((ys.map D.int).take (k + 1))) [R1] :=
    evSl rfl rfl (evSome rfl) (by show Res.ok (D.tup (cutL (ys.map D.int) none (some ((k : Int) + 1)))) _ = _; rw [show (k : Int) + 1 = ((k + 1 : Nat) : Int) by omega, cut_take])
  have hn2 := E.n2
  have a8 := told_x (S := [R1]) (own := []) (fl := q8) hg (evMeth rfl (evCons rfl (evCons (ev2 s8 (evTup (evCons rfl evNil) (by simp)) (add_tup (by rw [List.length_take, List.length_map]; omega) (by simp))) evNil)) (E.g8 k [R1] hk)) rfl rfl (fun S => refuse_part rfl rfl) rfl
  have a9 := told_x (S := [R1]) (own := []) (fl := q9) hg (evMeth rfl (evCons rfl (evCons rfl evNil)) (E.g9 [R1])) rfl rfl (fun S => refuse_part rfl rfl) rfl
  have a10 := told_x (S := [R1]) (own := [12]) (fl := q10) hg (evMeth rfl (evCons rfl (evCons rfl evNil)) (E.g10 [R1])) rfl rfl (fun S => refuse_part rfl rfl) rfl
  have a11 := told_x (S := [R1]) (own := []) (fl := q11) hg (evMake (evCons rfl evNil) (E.g11 [R1])) rfl (by show (true && (cold _ && true)) = true; rw [cold_of f11_pur]; rfl) (fun S => refuse_part f11_pur rfl) (by show (true && (cold _ && (true && true))) = true; rw [cold_of f11_pur]; rfl)
  exact stAsg (evLst (evCons a0 (evCons a1 (evCons a2 (evCons a3 (evCons a4 (evCons a5 (evCons a6 (evCons a7 (evCons a8 (evCons a9 (evCons a10 (evCons a11 evNil)))))))))))) (Nat.le_of_ble_eq_true rfl)) rfl
end
end KL

set_option Elab.async false
set_option linter.all false
set_option maxRecDepth 4000
set_option maxHeartbeats 4000000
/-! KM18: the end of the law. -/
namespace KL
open PySem PySem.Spec PyProof.Rows L2 DL KA
theorem add_lst {a b : List D} {S : Store} (h : a.length + b.length ≤ 1000) : gAdd (.lst a) (.lst b) S = .ok (.lst (a ++ b)) S := by
  show (if a.length + b.length ≤ lineN then _ else _) = _
  rw [if_pos (by unfold lineN; omega)]
section
variable {S : Store} {ns ys : List Int} {u : Int} {t c ev rd o : D} {fl : List (Nat × D)} {x12 x13 x14 x15 x16 x17 x18 x19 x20 x21 : Option D}
abbrev l17 : FS := sAsg (fLst (fCons (fTup (fCons (fC (.str "BadNumber")) (fCons (fVar 22) fNil))) (fCons (fTup (fCons (fC (.str "BadNumber")) (fCons (fNeg (fC (.int 1))) fNil))) (fCons (fTup (fCons (fC (.str "BadNumber")) (fCons (fC (.int 10000)) fNil))) (fCons (fTup (fCons (fC (.str "BadNumber")) (fCons (fC (.int 0)) fNil))) (fCons (fTup (fCons (fC (.str "BadNumber")) (fCons (fC (.int 41)) fNil))) fNil)))))) (pName 21)
abbrev l18 : FS := sAsg (f2 gAdd (fVar 21) (fLst (fCons (fTup (fCons (fC (.str "BadNumber")) (fCons (fC (.int 6)) fNil))) (fCons (fTup (fCons (fC (.str "Unknown")) (fCons (f2 gAdd (fVar 7) (fC (.int 1))) fNil))) (fCons (fTup (fCons (fC (.str "BadPart")) (fCons (fC (.str "years")) (fCons (f2 DL.gSub (fVar 23) (fC (.int 1))) fNil)))) (fCons (fTup (fCons (fC (.str "BadPart")) (fCons (fC (.str "years")) (fCons (fVar 23) fNil)))) fNil)))))) (pName 21)
abbrev l19 : FS := sAsg (f2 gAdd (fVar 21) (fLst (fCons (fTup (fCons (fC (.str "BadPart")) (fCons (fC (.str "uneven")) (fCons (fC .non) fNil)))) (fCons (fTup (fCons (fC (.str "BadPart")) (fCons (fC (.str "calendar")) (fCons (fC .non) fNil)))) (fCons (fTup (fCons (fC (.str "BadPart")) (fCons (fC (.str "calendar")) (fCons (fC .non) fNil)))) fNil))))) (pName 21)
abbrev calT : D := .tup [.str "BadPart", .str "calendar", .non]
theorem due_end {k : Nat} {f : FS} {out : Out} (h : f (eZ ns ys t c ev rd x12 x13 x14 x15 x16 x17 x18 x19 x20 (some (.lst (dueL o ys.length k ++ [calT]))) o (.int ((k : Int) + 1))) S = out) : sCons l17 (sCons l18 (sCons l19 f)) (eZ ns ys t c ev rd x12 x13 x14 x15 x16 x17 x18 x19 x20 x21 o (.int ((k : Int) + 1))) S = out := by
  have q : f2 DL.gSub (fVar 23) (fC (.int 1)) (eZ ns ys t c ev rd x12 x13 x14 x15 x16 x17 x18 x19 x20 (some (.lst [.tup [.str "BadNumber", o], .tup [.str "BadNumber", .int (-1)], .tup [.str "BadNumber", .int 10000], .tup [.str "BadNumber", .int 0], .tup [.str "BadNumber", .int 41]])) o (.int ((k : Int) + 1))) S = .ok (.int (k : Int)) S :=
    ev2 rfl rfl (by show Res.ok (D.int ((k : Int) + 1 - 1)) S = _; rw [show (k : Int) + 1 - 1 = (k : Int) by omega])
  refine stNext (ρ1 := eZ ns ys t c ev rd x12 x13 x14 x15 x16 x17 x18 x19 x20 (some (.lst [.tup [.str "BadNumber", o], .tup [.str "BadNumber", .int (-1)], .tup [.str "BadNumber", .int 10000], .tup [.str "BadNumber", .int 0], .tup [.str "BadNumber", .int 41]])) o (.int ((k : Int) + 1))) (S1 := S) ?_ ?_
  · exact stAsg (evLst (evCons (evTup (evCons rfl (evCons rfl evNil)) (by simp)) (evCons (evTup (evCons rfl (evCons rfl evNil)) (by simp)) (evCons (evTup (evCons rfl (evCons rfl evNil)) (by simp)) (evCons (evTup (evCons rfl (evCons rfl evNil)) (by simp)) (evCons (evTup (evCons rfl (evCons rfl evNil)) (by simp)) evNil))))) (by simp)) rfl
  refine stNext (ρ1 := eZ ns ys t c ev rd x12 x13 x14 x15 x16 x17 x18 x19 x20 (some (.lst [.tup [.str "BadNumber", o], .tup [.str "BadNumber", .int (-1)], .tup [.str "BadNumber", .int 10000], .tup [.str "BadNumber", .int 0], .tup [.str "BadNumber", .int 41], .tup [.str "BadNumber", .int 6], .tup [.str "Unknown", .int ((ys.length : Int) + 1)], .tup [.str "BadPart", .str "years", .int k], .tup [.str "BadPart", .str "years", .int ((k : Int) + 1)]])) o (.int ((k : Int) + 1))) (S1 := S) ?_ ?_
  · exact stAsg (ev2 rfl (evLst (evCons (evTup (evCons rfl (evCons rfl evNil)) (by simp)) (evCons (evTup (evCons rfl (evCons (ev2 rfl rfl rfl) evNil)) (by simp)) (evCons (evTup (evCons rfl (evCons rfl (evCons q evNil))) (by simp)) (evCons (evTup (evCons rfl (evCons rfl (evCons rfl evNil))) (by simp)) evNil)))) (by simp)) (add_lst (by simp))) rfl
  refine stNext (S1 := S) ?_ h
  exact stAsg (ev2 rfl (evLst (evCons (evTup (evCons rfl (evCons rfl (evCons rfl evNil))) (by simp)) (evCons (evTup (evCons rfl (evCons rfl (evCons rfl evNil))) (by simp)) (evCons (evTup (evCons rfl (evCons rfl (evCons rfl evNil))) (by simp)) evNil))) (by simp)) (add_lst (by simp))) rfl
theorem due_py {n k : Nat} (hn : n ≤ 12) (hk : k < n) (O : Odd n o) : ∃ ps, toPyL (dueL o n k) = some ps ∧ (∀ p ∈ ps, elemOk p = true) ∧ ps.length ≤ 20 := by
  obtain ⟨p, hp, he⟩ := O.py
  refine ⟨[.tuple [.str "BadNumber", p], .tuple [.str "BadNumber", .int (-1)], .tuple [.str "BadNumber", .int 10000], .tuple [.str "BadNumber", .int 0], .tuple [.str "BadNumber", .int 41], .tuple [.str "BadNumber", .int 6], .tuple [.str "Unknown", .int ((n : Int) + 1)], .tuple [.str "BadPart", .str "years", .int k], .tuple [.str "BadPart", .str "years", .int ((k : Int) + 1)], .tuple [.str "BadPart", .str "uneven", .none], .tuple [.str "BadPart", .str "calendar", .none]], ?_, fun x hx => ?_, by simp⟩
  · unfold dueL
    simp only [toPyL, toPy, hp, Option.map_some]
  · simp only [List.mem_cons, List.not_mem_nil, or_false] at hx
    rcases hx with rfl | rfl | rfl | rfl | rfl | rfl | rfl | rfl | rfl | rfl | rfl
    · exact he
    · exact n_int2.1
    · exact n_int2.2.1
    · exact List.all_eq_true.mp n_int 0 (by decide)
    · exact n_int2.2.2
    · exact List.all_eq_true.mp n_int 6 (by decide)
    · exact List.all_eq_true.mp n_unk (n + 1) (List.mem_range.mpr (by omega))
    · exact List.all_eq_true.mp n_yrs k (List.mem_range.mpr (by omega))
    · exact List.all_eq_true.mp n_yrs (k + 1) (List.mem_range.mpr (by omega))
    · exact n_rest.1
    · exact n_rest.2
theorem cut11 {n k : Int} {x : D} : gSl (.lst (dueL o n k ++ [x])) none (some 11) S = .ok (.lst (dueL o n k)) S := by
  show Res.ok (D.lst (cutL (dueL o n k ++ [x]) none (some ((11 : Nat) : Int)))) S = _
  rw [cut_take]
  rfl
theorem ix11 {n k : Int} {x : D} : gIx (.lst (dueL o n k ++ [x])) (.int 11) S = .ok x S := ix_lst (k := 11) rfl
theorem same_cal : F__law_same [calT, calT] S = .ok (.bl true) S := same_tup (ps := [.str "BadPart", .str "calendar", .none]) rfl show_cal.1 show_cal.2
theorem same_years : F__law_same [.tup [.str "BadPart", .str "years", .non], .tup [.str "BadPart", .str "years", .non]] S = .ok (.bl true) S := same_tup (ps := [.str "BadPart", .str "years", .none]) rfl show_years.1 show_years.2
abbrev l20 : FS := sIf (fOrT (fNotT (asB (fCallF F__law_same (fCons (fSl (fVar 16) oNone (oSome (fC (.int 11)))) (fCons (fSl (fVar 21) oNone (oSome (fC (.int 11)))) fNil))))) (fOrT (fAndT (asB (f2 gNe (fVar 7) (fC (.int 2)))) (fNotT (asB (fCallF F__law_same (fCons (f2 gIx (fVar 16) (fC (.int 11))) (fCons (f2 gIx (fVar 21) (fC (.int 11))) fNil)))))) (asB (fCallF F_is_calendar_paper (fCons (fVar 3) (fCons (fVar 22) fNil)))))) (sRet (fC (.bl false))) sNil
theorem end20 {k : Nat} {a : D} (h2 : ys.length ≤ 12) (hk : k < ys.length) (O : Odd ys.length o) : l20 (eZ ns ys t c ev rd x12 x13 x14 x15 (some (.lst (dueL o ys.length k ++ [f11 ys.length]))) x17 x18 x19 x20 (some (.lst (dueL o ys.length k ++ [calT]))) o a) S = .nx (eZ ns ys t c ev rd x12 x13 x14 x15 (some (.lst (dueL o ys.length k ++ [f11 ys.length]))) x17 x18 x19 x20 (some (.lst (dueL o ys.length k ++ [calT]))) o a) S := by
  obtain ⟨ps, p1, p2, p3⟩ := due_py h2 hk O
  have r : F_is_row [o, .int 2] S = .ok (.bl false) S := by rw [is_row_eq O.ty, O.ro]
  refine stSkip (evOrF (evNotF (evB2 (evCallF (evCons (evSl rfl rfl (evSome rfl) cut11) (evCons (evSl rfl rfl (evSome rfl) cut11) evNil)) (same_list p1 p2 p3)))) (evOrF ?_ (evB2 (evCallF (evCons rfl (evCons rfl evNil)) (is_paper_row r)))))
  by_cases h : ys.length = 2
  · have q : ((ys.length : Int) == 2) = true := beq_iff_eq.mpr (by omega)
    exact evAndF (evB2 (ev2 rfl rfl (g_ne.trans (by rw [q]; rfl))))
  · have q : ((ys.length : Int) == 2) = false := beq_eq_false_iff_ne.mpr (by omega)
    have f : f11 ys.length = calT := by unfold f11; rw [if_neg h]
    rw [f]
    exact evAndT (evB2 (ev2 rfl rfl (g_ne.trans (by rw [q]; rfl)))) (evNotF (evB2 (evCallF (evCons (ev2 rfl rfl ix11) (evCons (ev2 rfl rfl ix11) evNil)) same_cal)))
abbrev l21 : FS := sIf (fNotT (asB (f2 (gEqO 0 F_Calendar___eq__) (fMeth 0 F_Calendar_with_year (fVar 3) (fCons (fVar 23) (fCons (f2 DL.gSub (fC (.int 1)) (f2 gIx (fVar 4) (f2 DL.gSub (fVar 23) (fC (.int 1))))) fNil))) (fMake 0 F_Calendar___init__ (fCons (fTup (fCons (fCallF F__law_at (fCons (fVar 4) (fCons (fVar 23) (fCons (f2 DL.gSub (fC (.int 1)) (f2 gIx (fVar 4) (f2 DL.gSub (fVar 23) (fC (.int 1))))) fNil)))) (fCons (f2 gIx (fVar 2) (fC (.int 1))) fNil))) fNil))))) (sRet (fC (.bl false))) sNil
theorem end21 {k : Nat} (E : Ends ys u t fl) (hk : k < ys.length) : l21 (eZ ns ys t (.ins 0 fl) ev rd x12 x13 x14 x15 x16 x17 x18 x19 x20 x21 o (.int ((k : Int) + 1))) S = .nx (eZ ns ys t (.ins 0 fl) ev rd x12 x13 x14 x15 x16 x17 x18 x19 x20 x21 o (.int ((k : Int) + 1))) S := by
  obtain ⟨c2, h1, h2, h3⟩ := E.g13 k hk S
  have hn := E.n2
  have y : f2 DL.gSub (fC (.int 1)) (f2 gIx (fVar 4) (f2 DL.gSub (fVar 23) (fC (.int 1)))) (eZ ns ys t (.ins 0 fl) ev rd x12 x13 x14 x15 x16 x17 x18 x19 x20 x21 o (.int ((k : Int) + 1))) S = .ok (.int (1 - ys[k])) S :=
    ev2 rfl (ev2 rfl (ev2 rfl rfl (by show Res.ok (D.int ((k : Int) + 1 - 1)) S = _; rw [show (k : Int) + 1 - 1 = (k : Int) by omega])) (ix_tints (List.getElem?_eq_getElem hk))) rfl
  have at' := law_at_eq (S := S) (ds := ys.map D.int) (k := k) (v := .int (1 - ys[k])) (by rw [List.length_map]; omega) (pur_ints ys) rfl
  exact stSkip (evNotF (evB2 (ev2 (evMeth rfl (evCons rfl (evCons y evNil)) h1) (evMake (evCons (evTup (evCons (evCallF (evCons rfl (evCons rfl (evCons y evNil))) at') (evCons (ev2 rfl rfl (E.g14 S)) evNil)) (by simp)) evNil) h2) h3)))
abbrev l22 : FS := sRet (fCallF F__law_same (fCons (fT [] q12) (fCons (fTup (fCons (fC (.str "BadPart")) (fCons (fC (.str "years")) (fCons (fC .non) fNil)))) fNil)))
theorem end22 {ρ : Ev} (hg : ∀ x ∈ ρ, gdO x) (h3 : ρ[(3 : Nat)]? = some (some (.ins 0 fl))) (E : Ends ys u t fl) : l22 ρ S = .rt (.bl true) S := by
  have a := told_x (S := S) (own := []) (fl := q12) hg (evMeth (evVar h3) (evCons rfl (evCons evTup0 evNil)) (E.g12 S)) rfl rfl (fun S => refuse_part rfl rfl) rfl
  exact stRet (evCallF (evCons a (evCons (evTup (evCons rfl (evCons rfl (evCons rfl evNil))) (by simp)) evNil)) same_years)
end
end KL

set_option Elab.async false
set_option linter.all false
set_option maxRecDepth 4000
set_option maxHeartbeats 4000000
/-! KM19: the head of the law, and the whole. -/
namespace KL
open PySem PySem.Spec PyProof.Rows L2 DL KA
theorem evNew {g : FL} {ρ : Ev} {S S1 : Store} {ds : List D} (h : g ρ S = .ok ds S1) (hl : ds.length ≤ 1000) (hp : purL ds = true) : fNew g ρ S = .ok (.obj S1.length) (S1 ++ [.lst ds]) := by
  unfold fNew; rw [h, Res.bind_ok, if_pos ⟨by unfold lineN; omega, hp⟩]
theorem stAsgT4 {f : FE} {i j k l : Nat} {x y z w : D} {ρ : Ev} {S S1 : Store} (h : f ρ S = .ok (.tup [x, y, z, w]) S1) (hx : notRow x = true) (hy : notRow y = true) (hz : notRow z = true) (hw : notRow w = true) : sAsg f (pTup 4 (pCons (pName i) (pCons (pName j) (pCons (pName k) (pCons (pName l) pNil))))) ρ S = .nx ((((ρ.set i (some x)).set j (some y)).set k (some z)).set l (some w)) S1 := by
  unfold sAsg
  rw [h, Res.out_ok]
  simp only [p_ptup, List.length_cons, List.length_nil, if_true, p_pcons, pName_ok hx, pName_ok hy, pName_ok hz, pName_ok hw, Res.bind_ok, p_pnil, Res.out_ok]
abbrev eH (ns : List Int) (x2 x3 x4 x5 x6 x7 x8 x9 x11 : Option D) : Ev := [some (.scr ns), some (.obj 0), x2, x3, x4, x5, x6, x7, x8, x9, none, x11, none, none, none, none, none, none, none, none, none, none, none, none]
/-- what the head needs to know -/
structure Head (ys : List Int) (u : Int) (t c : D) : Prop where
  mkc : ∀ S, makeD 0 F_Calendar___init__ [t] S = .ok c S
  t0 : ∀ S, gIx t (.int 0) S = .ok (.tup (ys.map D.int)) S
  t1 : ∀ S, gIx t (.int 1) S = .ok (.int u) S
  ah : ∀ S, F__law_ahead [t] S = .ok (.lst ((aheads ys).map D.int)) S
  un : ∀ S, F__law_uneven [t] S = .ok (.int (unevenI ys)) S
  f5 : ∀ S, gFld 5 c S = .ok t S
  f6 : ∀ S, gFld 6 c S = .ok (.tup (ys.map D.int)) S
  f7 : ∀ S, gFld 7 c S = .ok (.int u) S
  uv : ∀ S, F_unevenness [c] S = .ok (.int (unevenI ys)) S
  ie : ∀ S, F_is_even [c] S = .ok (.bl (decide (unevenI ys ≤ u))) S
  ta : ∀ S, gAdd (.tup [t]) t S = .ok (.tup [t, .tup (ys.map D.int), .int u]) S
  al : ∀ n S, F__law_alike (n + 3) [t, t] S = .ok (.bl true) S
  ic : ∀ S, F_is_calendar [c] S = .ok (.bl true) S
  it : ∀ S, F_is_calendar [t] S = .ok (.bl false) S
  ne : ∀ S, gEqO 0 F_Calendar___eq__ c t S = .ok (.bl false) S
  eq : ∀ S, gEqO 0 F_Calendar___eq__ c c S = .ok (.bl true) S
  wy : ∀ S, F_worst_years [c] S = .ok (wD ys) S
  le : ∀ S, F_least_uneven [c] S = .ok (.int (ys.length - (Nat.gcd ys.length ys.sum.toNat : Nat))) S
  nt : notRow t = true
  nc : notRow c = true
theorem head_of {ys : List Int} {u : Int} (n1 : 1 ≤ ys.length) (n2 : ys.length ≤ 12) (hb : ∀ y ∈ ys, y = 0 ∨ y = 1) (hu : 0 ≤ u ∧ u < 200) : Head ys u (told ys u) (cal ys u) := by
  have hn : ys.length ≤ 900 := by omega
  refine ⟨fun S => make_ok hb n1 (by omega) (by omega), fun S => fld_told, fun S => id rfl, fun S => A0 hn, fun S => ?_, fun S => fld5, fun S => fld6, fun S => fld7, fun S => uneven_eq hn, fun S => is_even_eq hn, fun S => ?_, fun n S => ?_, fun S => is_cal, fun S => is_cal_told, fun S => ne_cal, fun S => eq_cal, fun S => worst_eq hn, fun S => least_eq hb, rfl, rfl⟩
  · rw [show told ys u = .tup [.tup (ys.map D.int), .int u] from rfl]
    exact law_uneven_eq hn
  · rw [show told ys u = .tup [.tup (ys.map D.int), .int u] from rfl]
    exact add_tup (by simp) (by simp)
  · rw [show told ys u = .tup [.tup (ys.map D.int), .int u] from rfl]
    refine alike_tup (by simp) fun d hd S => ?_
    rcases List.mem_cons.mp hd with rfl | hd
    · exact alike_ints (by omega)
    · rw [List.mem_singleton.mp hd]; exact alike_int
section
variable {S : Store} {ns ys : List Int} {u : Int} {t c ev rd o : D} {fl : List (Nat × D)} {x2 x3 x4 x5 x6 x7 x8 x9 x11 : Option D}
abbrev h3 : FS := sAsg (fTup (fCons (fMake 0 F_Calendar___init__ (fCons (fVar 2) fNil)) (fCons (f2 gIx (fVar 2) (fC (.int 0))) (fCons (fCallF F__law_ahead (fCons (fVar 2) fNil)) (fCons (fCallF F__law_uneven (fCons (fVar 2) fNil)) fNil))))) (pTup 4 (pCons (pName 3) (pCons (pName 4) (pCons (pName 5) (pCons (pName 6) pNil)))))
theorem head3 (H : Head ys u t c) : h3 (eH ns (some t) none none none none none none none none) S = .nx (eH ns (some t) (some c) (some (.tup (ys.map D.int))) (some (.lst ((aheads ys).map D.int))) (some (.int (unevenI ys))) none none none none) S :=
  stAsgT4 (evTup (evCons (evMake (evCons rfl evNil) (H.mkc S)) (evCons (ev2 rfl rfl (H.t0 S)) (evCons (evCallF (evCons rfl evNil) (H.ah S)) (evCons (evCallF (evCons rfl evNil) (H.un S)) evNil)))) (by simp)) H.nc rfl rfl rfl
abbrev h4 : FS := sAsg (fTup (fCons (fCall gLen (fCons (fVar 4) fNil)) (fCons (fCall DL.gSum (fCons (fVar 4) fNil)) fNil))) (pTup 2 (pCons (pName 7) (pCons (pName 8) pNil)))
theorem head4 : h4 (eH ns x2 x3 (some (.tup (ys.map D.int))) x5 x6 none none x9 x11) S = .nx (eH ns x2 x3 (some (.tup (ys.map D.int))) x5 x6 (some (.int ys.length)) (some (.int ys.sum)) x9 x11) S :=
  stAsgT2 (evTup (evCons (evCall (evCons rfl evNil) len_tints) (evCons (evCall (evCons rfl evNil) sum_tints) evNil)) (by simp)) rfl rfl
abbrev h5 : FS := sIf (fNotT (asB (fCallF (F__law_alike 6) (fCons (fTup (fCons (fFld 5 (fVar 3)) (fCons (fFld 6 (fVar 3)) (fCons (fFld 7 (fVar 3)) (fCons (fCallF F_unevenness (fCons (fVar 3) fNil)) (fCons (fCallF F_is_even (fCons (fVar 3) fNil)) fNil)))))) (fCons (f2 gAdd (f2 gAdd (fTup (fCons (fVar 2) fNil)) (fVar 2)) (fTup (fCons (fVar 6) (fCons (f2 gLe (fVar 6) (f2 gIx (fVar 2) (fC (.int 1)))) fNil)))) fNil))))) (sRet (fC (.bl false))) sNil
theorem head5 (H : Head ys u t c) (n2 : ys.length ≤ 12) : h5 (eH ns (some t) (some c) x4 x5 (some (.int (unevenI ys))) x7 x8 x9 x11) S = .nx (eH ns (some t) (some c) x4 x5 (some (.int (unevenI ys))) x7 x8 x9 x11) S := by
  have al : F__law_alike 6 [.tup [t, .tup (ys.map D.int), .int u, .int (unevenI ys), .bl (decide (unevenI ys ≤ u))], .tup [t, .tup (ys.map D.int), .int u, .int (unevenI ys), .bl (decide (unevenI ys ≤ u))]] S = .ok (.bl true) S :=
    alike_tup (by simp) fun d hd S => by
      simp only [List.mem_cons, List.not_mem_nil, or_false] at hd
      rcases hd with rfl | rfl | rfl | rfl | rfl
      · exact H.al 2 S
      · exact alike_ints (by omega)
      · exact alike_int
      · exact alike_int
      · exact alike_bl
  exact stSkip (evNotF (evB2 (evCallF (evCons (evTup (evCons (evFld rfl (H.f5 S)) (evCons (evFld rfl (H.f6 S)) (evCons (evFld rfl (H.f7 S)) (evCons (evCallF (evCons rfl evNil) (H.uv S)) (evCons (evCallF (evCons rfl evNil) (H.ie S)) evNil))))) (by simp)) (evCons (ev2 (ev2 (evTup (evCons rfl evNil) (by simp)) rfl (H.ta S)) (evTup (evCons rfl (evCons (ev2 rfl (ev2 rfl rfl (H.t1 S)) rfl) evNil)) (by simp)) (add_tup (by simp) (by simp))) evNil)) al)))
abbrev h6 : FS := sIf (fOrT (asB (f2 gNotB (fCallF F_is_calendar (fCons (fVar 3) fNil)) (fC (.bl true)))) (fOrT (asB (fCallF F_is_calendar (fCons (fVar 2) fNil))) (fOrT (asB (f2 (gEqO 0 F_Calendar___eq__) (fVar 3) (fVar 2))) (fNotT (asB (f2 (gEqO 0 F_Calendar___eq__) (fVar 3) (fMake 0 F_Calendar___init__ (fCons (fVar 2) fNil)))))))) (sRet (fC (.bl false))) sNil
theorem head6 (H : Head ys u t c) : h6 (eH ns (some t) (some c) x4 x5 x6 x7 x8 x9 x11) S = .nx (eH ns (some t) (some c) x4 x5 x6 x7 x8 x9 x11) S :=
  stSkip (evOrF (evB2 (ev2 (evCallF (evCons rfl evNil) (H.ic S)) rfl rfl)) (evOrF (evB2 (evCallF (evCons rfl evNil) (H.it S))) (evOrF (evB2 (ev2 rfl rfl (H.ne S))) (evNotF (evB2 (ev2 rfl (evMake (evCons rfl evNil) (H.mkc S)) (H.eq S)))))))
abbrev h7 : FS := sIf (fNotT (asB (fCallF (F__law_alike 6) (fCons (fCall DL.gTup (fCons (fCallF F_worst_years (fCons (fVar 3) fNil)) fNil)) (fCons (fTup (fCons (fMthL gIndexL (fVar 5) (fCons (fCall gMin (fCons (fVar 5) fNil)) fNil)) (fCons (fMthL gIndexL (fVar 5) (fCons (fCall gMax (fCons (fVar 5) fNil)) fNil)) fNil))) fNil))))) (sRet (fC (.bl false))) sNil
theorem head7 (H : Head ys u t c) : h7 (eH ns x2 (some c) x4 (some (.lst ((aheads ys).map D.int))) x6 x7 x8 x9 x11) S = .nx (eH ns x2 (some c) x4 (some (.lst ((aheads ys).map D.int))) x6 x7 x8 x9 x11) S := by
  have al : F__law_alike 6 [wD ys, wD ys] S = .ok (.bl true) S := alike_ints (n := 4) (xs := [(iMin ys : Int), (iMax ys : Int)]) (by simp)
  exact stSkip (evNotF (evB2 (evCallF (evCons (evCall (evCons (evCallF (evCons rfl evNil) (H.wy S)) evNil) rfl) (evCons (evTup (evCons (evMthL rfl rfl (evCons (evCall (evCons rfl evNil) (min_lints (aheads_ne ys))) evNil) (idxL (mn_mem (aheads_ne ys)))) (evCons (evMthL rfl rfl (evCons (evCall (evCons rfl evNil) (max_lints (aheads_ne ys))) evNil) (idxL (mx_mem (aheads_ne ys)))) evNil)) (by simp)) evNil)) al)))
abbrev h8 : FS := sAsg (fCallF F_evenest (fCons (fVar 7) (fCons (fVar 8) fNil))) (pName 9)
abbrev evD (ys : List Int) : D := .tup ((evenI ys.length ys.sum.toNat).map D.int)
theorem head8 (n1 : 1 ≤ ys.length) (n2 : ys.length ≤ 12) (hb : ∀ y ∈ ys, y = 0 ∨ y = 1) : h8 (eH ns x2 x3 x4 x5 x6 (some (.int ys.length)) (some (.int ys.sum)) none x11) S = .nx (eH ns x2 x3 x4 x5 x6 (some (.int ys.length)) (some (.int ys.sum)) (some (evD ys)) x11) S := by
  have sb := sum_bits hb
  have e := evenest_eq (S := S) (m := ys.length) (l := ys.sum.toNat) (by omega) (by omega) (by omega)
  rw [Int.toNat_of_nonneg sb.1] at e
  exact stAsg (evCallF (evCons rfl (evCons rfl evNil)) e) rfl
abbrev h9 : FS := sIf (fOrT (fNotT (asB (fCall gIsi (fCons (fVar 9) (fCons (fC (.ty "tuple")) fNil))))) (asB (f2 gNe (fCall gLen (fCons (fVar 9) fNil)) (fVar 7)))) (sRet (fC (.bl false))) sNil
theorem even_len (m l : Nat) : (evenI m l).length = m := by unfold evenI; rw [List.length_map, List.length_range]
theorem head9 : h9 (eH ns x2 x3 x4 x5 x6 (some (.int ys.length)) x8 (some (evD ys)) x11) S = .nx (eH ns x2 x3 x4 x5 x6 (some (.int ys.length)) x8 (some (evD ys)) x11) S := by
  have ln := len_tints (S := S) (ys := evenI ys.length ys.sum.toNat)
  rw [even_len] at ln
  exact stSkip (evOrF (evNotF (evB2 (evCall (evCons rfl (evCons rfl evNil)) isi_tup_tuple))) (evB2 (ev2 (evCall (evCons rfl evNil) ln) rfl (g_ne.trans (by rw [beq_self_eq_true]; rfl)))))
abbrev h10 : FS := sIf (fOrT (asB (f2 gNe (fLc [10] (iSeq (fVar 9)) (cName 10) (fNotT (asB (fCallF F__law_whole (fCons (fVar 10) (fCons (fC (.int 0)) (fCons (fC (.int 1)) fNil)))))) (fVar 10)) (fLst fNil))) (fOrT (asB (f2 gNe (fCall DL.gSum (fCons (fVar 9) fNil)) (fVar 8))) (asB (f2 gNe (fCallF F__law_uneven (fCons (fTup (fCons (fVar 9) fNil)) fNil)) (fCallF F_least_uneven (fCons (fVar 3) fNil)))))) (sRet (fC (.bl false))) sNil
theorem head10 (H : Head ys u t c) (n1 : 1 ≤ ys.length) (n2 : ys.length ≤ 12) (hb : ∀ y ∈ ys, y = 0 ∨ y = 1) : h10 (eH ns x2 (some c) x4 x5 x6 x7 (some (.int ys.sum)) (some (evD ys)) x11) S = .nx (eH ns x2 (some c) x4 x5 x6 x7 (some (.int ys.sum)) (some (evD ys)) x11) S := by
  have sb := sum_bits hb
  have ck := even_ok (m := ys.length) (l := ys.sum.toNat) n1 n2 (by omega)
  unfold evenChk at ck
  simp only [Bool.and_eq_true, decide_eq_true_eq] at ck
  obtain ⟨⟨c1, c2⟩, c3⟩ := ck
  have el := even_len ys.length ys.sum.toNat
  rw [Int.toNat_of_nonneg sb.1] at c1
  have hE : ∀ d ∈ (evenI ys.length ys.sum.toNat).map D.int, okE d = true := fun d hd => by obtain ⟨x, _, rfl⟩ := List.mem_map.mp hd; rfl
  have dn := ne_nil (S := S) (outs_ok (lo := 0) (hi := 1) hE)
  have hw : (((evenI ys.length ys.sum.toNat).map D.int).all fun d => withB d 0 1) = true := List.all_eq_true.mpr fun d hd => by
    obtain ⟨x, hx, rfl⟩ := List.mem_map.mp hd
    have := List.all_eq_true.mp c3 x hx
    simp only [Bool.or_eq_true, decide_eq_true_eq] at this
    rcases this with rfl | rfl <;> rfl
  rw [outs_empty, hw] at dn
  have un := law_uneven_eq (S := S) (ys := evenI ys.length ys.sum.toNat) (rest := []) (by rw [el]; omega)
  rw [c2] at un
  have sm := sum_tints (S := S) (ys := evenI ys.length ys.sum.toNat)
  rw [c1] at sm
  exact stSkip (evOrF (evB2 (ev2 (lc_outs (hi := 1) rfl hE (by rw [List.length_map, el]; omega) (fun d S => rfl) (fun d S => rfl)) evLst0 dn)) (evOrF (evB2 (ev2 (evCall (evCons rfl evNil) sm) rfl (g_ne.trans (by rw [beq_self_eq_true]; rfl)))) (evB2 (ev2 (evCallF (evCons (evTup (evCons rfl evNil) (by simp)) evNil) un) (evCallF (evCons rfl evNil) (H.le S)) (g_ne.trans (by rw [beq_self_eq_true]; rfl))))))
abbrev h11 : FS := sAsg (fLst (fCons (fTup fNil) fNil)) (pName 11)
theorem head11 : h11 (eH ns x2 x3 x4 x5 x6 x7 x8 x9 none) S = .nx (eH ns x2 x3 x4 x5 x6 x7 x8 x9 (some (rndD 0))) S :=
  stAsg (d := rndD 0) (evLst (evCons evTup0 evNil) (Nat.le_of_ble_eq_true rfl)) rfl
abbrev l14 : FS := sFor (iR1 (fCons (fC (.int 12)) fNil)) (pName 13) tB
end
theorem caps_of {ys : List Int} {u : Int} {k : Nat} : Caps ys (told ys u) (evD ys) (rndD k) [(5, told ys u), (6, .tup (ys.map D.int)), (7, .int u)] := by
  have pt : pur (told ys u) = true := by show (pur (.tup _) && (true && true)) = true; rw [pur_tints]; rfl
  refine ⟨⟨rfl, pt⟩, ?_, ⟨rfl, pur_tints _⟩, rfl, ?_⟩
  · show (pur (told ys u) && (pur (.tup _) && (true && true))) = true
    rw [pt, pur_tints]
    rfl
  · refine purL_of fun d hd => ?_
    obtain ⟨x, _, rfl⟩ := List.mem_map.mp hd
    exact pur_tints _
theorem law_true (ns : List Int) : ∃ S', F_law [.scr ns] [] = .ok (.bl true) S' := by
  have hR0 : RowOk (rw_ ns 0 9014 0) := ⟨ns, 0, 9014, 0, rfl, by decide, by decide, by decide⟩
  obtain ⟨ys, u, R1, hR1, n1, n2, hb, u0, u1, ec⟩ := calR (Z := []) hR0
  have H := head_of (u := u) n1 n2 hb ⟨u0, u1⟩
  have F := facts_of (u := u) n1 n2 hb
  have E := ends_of (u := u) n1 n2 hb ⟨u0, u1⟩
  obtain ⟨y12, hy12, er⟩ := rounds_eq (S := [R1]) (ns := ns) (t := told ys u) (c := cal ys u) (ev := evD ys) (x12 := none) (x13 := none) (x14 := none) (x15 := none) (x16 := none) (x17 := none) (x18 := none) (x19 := none) (x20 := none) (x21 := none) n2 trivial
  have el := least_ok (S := [R1]) (ns := ns) (ys := ys) (t := told ys u) (c := cal ys u) (ev := evD ys) (x12 := y12) (x13 := none) (x14 := none) (x15 := none) (x16 := none) (x17 := none) (x18 := none) (x19 := none) (x20 := none) (x21 := none) n1 hb H.le
  obtain ⟨z12, z13, z14, z15, z16, z17, z18, z19, z20, z21, R2, hR2, hz12, hz13, hA, et⟩ := turns (ns := ns) (ev := evD ys) (rd := rndD (if ys.length ≤ 9 then ys.length else 0)) F ((List.range 12).map fun (i : Nat) => (0 : Int) + (i : Int)) R1 y12 none none none none none none none none none hR1 hy12 trivial ⟨trivial, trivial, trivial, trivial, trivial, trivial, trivial, trivial⟩
  rw [← upto_ints] at et
  obtain ⟨o, k, R3, hR3, hk, O, e15⟩ := end15 (ns := ns) (t := told ys u) (c := cal ys u) (ev := evD ys) (rd := rndD (if ys.length ≤ 9 then ys.length else 0)) (x12 := z12) (x13 := z13) (x14 := z14) (x15 := z15) (x16 := z16) (x17 := z17) (x18 := z18) (x19 := z19) (x20 := z20) (x21 := z21) hR2 n1 n2
  have C := caps_of (ys := ys) (u := u) (k := if ys.length ≤ 9 then ys.length else 0)
  obtain ⟨R4, hR4, e16⟩ := end16 (ns := ns) hR3 E C hz12 hz13 hA O hk
  have hA' : After ys z14 z15 (some (.int 0)) z17 z18 z19 z20 none := ⟨hA.i14, hA.i15, ⟨0, rfl⟩, hA.i17, hA.i18, hA.i19, hA.i20, trivial⟩
  have hg : ∀ x ∈ eZ ns ys (told ys u) (cal ys u) (evD ys) (rndD (if ys.length ≤ 9 then ys.length else 0)) z12 z13 z14 z15 (some (.lst (dueL o ys.length k ++ [f11 ys.length]))) z17 z18 z19 z20 (some (.lst (dueL o ys.length k ++ [calT]))) o (.int ((k : Int) + 1)), gdO x := by
    have g0 := caps_env (ns := ns) (a := .int ((k : Int) + 1)) C hz12 hz13 hA' O ⟨rfl, rfl⟩
    have pd : ∀ x, pur x = true → gdO (some (.lst (dueL o ys.length k ++ [x]))) := fun x hx => by
      refine gd_some rfl (purL_of fun d hd => ?_)
      rcases List.mem_append.mp hd with hd | hd
      · unfold dueL at hd
        simp only [List.mem_cons, List.not_mem_nil, or_false] at hd
        rcases hd with rfl | rfl | rfl | rfl | rfl | rfl | rfl | rfl | rfl | rfl | rfl
        · show (true && (pur o && true)) = true
          rw [O.pu]
          rfl
        all_goals rfl
      · rw [List.mem_singleton.mp hd]; exact hx
    intro x hx
    rcases List.mem_iff_getElem?.mp hx with ⟨i, hi⟩
    by_cases h16 : i = 16
    · subst h16
      obtain rfl := Option.some.inj hi
      exact pd _ (by show (true && (pur _ && (true && true))) = true; rw [f11_pur]; rfl)
    · by_cases h21 : i = 21
      · subst h21
        obtain rfl := Option.some.inj hi
        exact pd _ rfl
      · refine g0 x (List.mem_iff_getElem?.mpr ⟨i, ?_⟩)
        rw [← hi]
        match i, h16, h21 with
        | 0, _, _ => rfl | 1, _, _ => rfl | 2, _, _ => rfl | 3, _, _ => rfl | 4, _, _ => rfl | 5, _, _ => rfl | 6, _, _ => rfl | 7, _, _ => rfl | 8, _, _ => rfl | 9, _, _ => rfl
        | 10, _, _ => rfl | 11, _, _ => rfl | 12, _, _ => rfl | 13, _, _ => rfl | 14, _, _ => rfl | 15, _, _ => rfl | 17, _, _ => rfl | 18, _, _ => rfl | 19, _, _ => rfl | 20, _, _ => rfl
        | 22, _, _ => rfl | 23, _, _ => rfl
        | 16, h, _ => exact absurd rfl h
        | 21, _, h => exact absurd rfl h
        | i + 24, _, _ => rfl
  refine ⟨[], ?_⟩
  have e0 : fNew (fCons (fVar 0) (fCons (fC (.int 0)) (fCons (fC (.int 9014)) (fCons (fC (.int 0)) fNil)))) (start0 24 [.scr ns]) [] = .ok (.obj 0) [rw_ ns 0 9014 0] :=
    evNew (S1 := []) (ds := [.scr ns, .int 0, .int 9014, .int 0]) (evCons rfl (evCons rfl (evCons rfl (evCons rfl evNil)))) (by simp) rfl
  unfold F_law
  refine runRt (S1 := [R4]) rfl ?_ rfl rfl
  unfold b_law
  refine stNext (ρ1 := eH ns none none none none none none none none none) (S1 := [rw_ ns 0 9014 0]) (stAsg (d := .obj 0) e0 rfl) ?_
  refine stNext (ρ1 := eH ns (some (told ys u)) none none none none none none none none) (S1 := [R1]) (stAsg (evCallF (evCons rfl evNil) ec) rfl) ?_
  refine stNext (head3 H) (stNext head4 (stNext (head5 H n2) (stNext (head6 H) (stNext (head7 H) (stNext (head8 n1 n2 hb) (stNext head9 (stNext (head10 H n1 n2 hb) (stNext head11 ?_))))))))
  refine stNext er (stNext el (stNext (stFor (ds := upto 0 12) rfl et) (stNext e15 (stNext e16 ?_))))
  refine due_end (stNext (end20 n2 hk O) (stNext (end21 E hk) (end22 hg rfl E)))
end KL

set_option Elab.async false
set_option linter.all false
set_option maxRecDepth 100000
set_option maxHeartbeats 4000000
namespace KA
open PySem PySem.Spec PyProof.Rows L2 DL
abbrev Fr := PySem.W.Frag
/-- a def of the top -/
def IsDef (K : Fr) (x : Str) (st : Stmt) (f : Addr) : Prop := PySem.W.nsIn K mainGlobals x = some (some (.ref f)) ∧ ∃ fd, Fun K x x st f fd
theorem def_mk {K : Fr} {x : Str} {st : Stmt} {f : Addr} {oc : Value} {od an : Option Addr} {osl : Array (Option Value)} {kV doc pm cdv ct : Value} (a : PySem.W.nsIn K mainGlobals x = some (some (.ref f)))
    (l : K.lookup f = some ⟨oc, od, .func (PySem.W.fnOf x x (defArgs st) (defBody st) (defScope st) .none kV doc pm an cdv ct), osl⟩) (c : PySem.W.codeIn K cdv x = true) (k : PySem.W.keepIn K (.ref f) = true) : IsDef K x st f := ⟨a, _, fun_mk l c k⟩
/-- a method of the class at C -/
def IsMeth (K : Fr) (C : Addr) (x q : Str) (st : Stmt) (f : Addr) : Prop := PySem.W.findIn K (.ref C) x = some (some (.ref f)) ∧ PySem.W.isFn K (.ref f) = true ∧ ∃ fd, Fun K x q st f fd
theorem meth_mk {K : Fr} {C : Addr} {x q : Str} {st : Stmt} {f : Addr} {oc : Value} {od an : Option Addr} {osl : Array (Option Value)} {kV doc pm cdv ct : Value} (a : PySem.W.findIn K (.ref C) x = some (some (.ref f))) (i : PySem.W.isFn K (.ref f) = true)
    (l : K.lookup f = some ⟨oc, od, .func (PySem.W.fnOf x q (defArgs st) (defBody st) (defScope st) .none kV doc pm an cdv ct), osl⟩) (c : PySem.W.codeIn K cdv q = true) (k : PySem.W.keepIn K (.ref f) = true) : IsMeth K C x q st f := ⟨a, i, _, fun_mk l c k⟩
/-- an own error at C, its init -/
def IsErr (P : Program) (K : Fr) (mg : Str → Option Value) (C : Addr) (q : Str) (st : Stmt) (ns : List Str) : Prop := ∃ (f cc cda : Addr) (dV kV doc pm ct : Value) (an : Option Addr), PySem.W.findIn K (.ref C) "__init__" = some (some (.ref f)) ∧ PySem.W.typeIn K (.ref f) = some (.type "function") ∧
  PySem.W.codeIn K (.ref cda) q = true ∧ SupF P K mg C f cc cda (PySem.W.ksFn "__init__" q (defArgs st) (defBody st) (defScope st) .none kV doc pm an (.ref cda) ct cc) "self" ∧ ∀ n, n ∈ ns → PySem.W.findIn K (.ref C) n = some none
theorem er_BadPart {P : Program} {w : World} {K : Fr} {mg : Str → Option Value} {base : Heap} {C : Addr} (hm : mg "BadPart" = some (.ref C)) (h : IsErr P K mg C "BadPart.__init__" ((clsB (top 2)).getD 0 (.Pass ⟨0, 0, 0, 0⟩)) ["part", "place"]) : ErrD P w K mg base "BadPart" C (([0, 1] : List Nat).map nmF) 1 := by
  obtain ⟨f, cc, cda, dV, kV, doc, pm, ct, an, iC, tI, hcd, S, nf⟩ := h
  refine ⟨S.ox, hm, f, _, ["self", "part", "place"], iC, tI, (fun s us _ hl => ?_), fn_super (k := 0) (N := ["self", "part", "place"]) ⟨rfl, rfl, rfl, by decide +kernel, rfl, by decide +kernel, by decide +kernel, by decide +kernel, rfl, rfl⟩ rfl S hcd (spE_len rfl) (fun env => rfl) fun A outer s H vs Q E h => err_rest2 rfl S.ox (nf _ (by simp)) (nf _ (by simp)) (pss_cons (ps_ost (pv 0) (pv 1)) (pss_one (ps_ost (pv 0) (pv 2)))) h⟩
  rw [List.append_nil] at hl ⊢
  match us, hl with
  | [_, _, _], _ => exact BindsTo.of_eq rfl
theorem er_BadNumber {P : Program} {w : World} {K : Fr} {mg : Str → Option Value} {base : Heap} {C : Addr} (hm : mg "BadNumber" = some (.ref C)) (h : IsErr P K mg C "BadNumber.__init__" ((clsB (top 3)).getD 0 (.Pass ⟨0, 0, 0, 0⟩)) ["value"]) : ErrD P w K mg base "BadNumber" C (([2] : List Nat).map nmF) 1 := by
  obtain ⟨f, cc, cda, dV, kV, doc, pm, ct, an, iC, tI, hcd, S, nf⟩ := h
  refine ⟨S.ox, hm, f, _, ["self", "value"], iC, tI, (fun s us _ hl => ?_), fn_super (k := 0) (N := ["self", "value"]) ⟨rfl, rfl, rfl, by decide +kernel, rfl, by decide +kernel, by decide +kernel, by decide +kernel, rfl, rfl⟩ rfl S hcd (spE_len rfl) (fun env => rfl) fun A outer s H vs Q E h => err_rest1 rfl S.ox (nf _ (by simp)) (pss_one (ps_ost (pv 0) (pv 1))) h⟩
  rw [List.append_nil] at hl ⊢
  match us, hl with
  | [_, _], _ => exact BindsTo.of_eq rfl
theorem er_Unknown {P : Program} {w : World} {K : Fr} {mg : Str → Option Value} {base : Heap} {C : Addr} (hm : mg "Unknown" = some (.ref C)) (h : IsErr P K mg C "Unknown.__init__" ((clsB (top 4)).getD 0 (.Pass ⟨0, 0, 0, 0⟩)) ["name"]) : ErrD P w K mg base "Unknown" C (([3] : List Nat).map nmF) 1 := by
  obtain ⟨f, cc, cda, dV, kV, doc, pm, ct, an, iC, tI, hcd, S, nf⟩ := h
  refine ⟨S.ox, hm, f, _, ["self", "name"], iC, tI, (fun s us _ hl => ?_), fn_super (k := 0) (N := ["self", "name"]) ⟨rfl, rfl, rfl, by decide +kernel, rfl, by decide +kernel, by decide +kernel, by decide +kernel, rfl, rfl⟩ rfl S hcd (spE_len rfl) (fun env => rfl) fun A outer s H vs Q E h => err_rest1 rfl S.ox (nf _ (by simp)) (pss_one (ps_ost (pv 0) (pv 1))) h⟩
  rw [List.append_nil] at hl ⊢
  match us, hl with
  | [_, _], _ => exact BindsTo.of_eq rfl
theorem err_mk {P : Program} {K : Fr} {h : Heap} {mg : Str → Option Value} (X : K.In h) (G : h.Ns mainGlobals mg) {C f cc cda : Addr} {q : Str} {st : Stmt} {ns : List Str}
    {nm q0 N bs bm sn sub0 ab col dd k0 k1 k2 k3 k5} (lC : K.lookup C = some (excClassObj nm q0 C N bs bm true sn sub0 ab col dd k0 k1 k2 k3 k5 "ValueError.__new__")) (rv : PySem.HandSPX.refsVE bm = true) (sa : PySem.W.findIn K (.ref C) "__setattr__" = some (some (.builtin "object.__setattr__")))
    (exC : PySem.W.subIn K (.ref C) (.type "BaseException") = some true) (tyC : PySem.W.typeIn K (.ref C) = some (.type "type")) (kC : PySem.W.keepIn K (.ref C) = true) (iC : PySem.W.findIn K (.ref C) "__init__" = some (some (.ref f))) (tI : PySem.W.typeIn K (.ref f) = some (.type "function"))
    {kV doc pm ct oc : Value} {an od : Option Addr} {osl : Array (Option Value)} (lf : K.lookup f = some ⟨oc, od, .func (PySem.W.ksFn "__init__" q (defArgs st) (defBody st) (defScope st) .none kV doc pm an (.ref cda) ct cc), osl⟩) (hcd : PySem.W.codeIn K (.ref cda) q = true)
    {ccl : Value} {cdd : Option Addr} {vs : Array Value} {ccs : Array (Option Value)} {file : Str} {tf : Tok} (lcd : K.lookup cda = some ⟨ccl, cdd, .fields vs, ccs⟩) (v2 : vs[2]? = some (.str file tf)) (pf : ((P.main.file : Str) == file) = true)
    {cl : Value} {cld : Option Addr} {csl : Array (Option Value)} (lcc : K.lookup cc = some ⟨cl, cld, .cell (some (.ref C)), csl⟩) (sub : PySem.W.mroIn K C (.ref C) = some true) (sup : PySem.W.ks_superIn K C C "__init__" = some (some (.builtin "ValueError.__init__")))
    (ve : PySem.W.subIn K (.ref C) (.type "ValueError") = some true) (any : PySem.W.nsIn K cStatics "thirdparty.any" = some none) (zs : PySem.W.nsIn K mainGlobals "super" = some none) (top : (P.main.scope.names.lookup ("super" : Str)).isSome = false)
    (par : ∃ ar : Arg, ((defArgs st).posonlyargs ++ (defArgs st).args).head? = some ar ∧ ar.arg = "self") (nf : (ns.all fun n => PySem.W.findIn K (.ref C) n == some none) = true) : IsErr P K mg C q st ns :=
  ⟨f, cc, cda, .none, kV, doc, pm, ct, an, iC, tI, hcd, ⟨⟨⟨nm, q0, N, bs, bm, sn, sub0, ab, col, dd, k0, k1, k2, k3, k5, lC, rv⟩, sa, exC, tyC, kC⟩, ⟨_, _, _, lf⟩, par, ⟨_, _, _, _, _, _, lcd, v2, pf⟩, ⟨_, _, _, lcc⟩, sub, sup, ve, any, PySem.W.mg_none_of X G zs, top⟩, fun n hn => eq_of_beq (List.all_eq_true.mp nf n hn)⟩
theorem allR {n : Nat} {p : Nat → Bool} (h : (List.range n).all p = true) : ∀ i, i < n → p i = true := fun i hi => List.all_eq_true.mp h i (List.mem_range.mpr hi)
theorem gc_int {T : Tb} {mg : Str → Option Value} {x : Str} {i : Int} {t : Tok} (h : mg x = some (.int i t)) : GcD T mg x (.int i) := ⟨.int i, _, h, ⟨t, rfl⟩, fun _ _ => .int i⟩
inductive Strs : List Value → List Str → Prop
  | nil : Strs [] []
  | cons {x : Str} {t : Tok} {us : List Value} {xs : List Str} : Strs us xs → Strs (.str x t :: us) (x :: xs)
theorem strs_vals {us : List Value} {xs : List Str} (h : Strs us xs) : Vals (xs.map V.str) us := by
  induction h with
  | nil => exact .nil
  | cons _ ih => exact .cons ⟨_, rfl⟩ ih
theorem strs_dvs {T : Tb} {μ : List Addr} {H : Hp} : ∀ xs : List Str, DVs T μ H (xs.map V.str) (xs.map D.str)
  | [] => .nil
  | x :: xs => .cons (.str x) (strs_dvs xs)
theorem gc_strs {T : Tb} {mg : Str → Option Value} {x : Str} {xs : List Str} {a : Addr} {us : List Value} {n : Nat} {sl : Array (Option Value)} (h : mg x = some (.ref a)) (l : T.K.lookup a = some ⟨.type "tuple", none, .seq us.toArray n, sl⟩) (hs : Strs us xs) (hz : us.length ≤ sizeLine) : GcD T mg x (.tup (xs.map D.str)) :=
  ⟨.ref a, _, h, rfl, fun μ H => .tup (.inr ⟨_, _, _, l, rfl, rfl, rfl, by rw [List.size_toArray]; exact hz, by simpa using strs_vals hs⟩) (strs_dvs xs)⟩
/-- the law's own def, its code object, its table -/
def IsLaw (K : Fr) (st : Stmt) (f cc tP : Addr) : Prop := PySem.W.nsIn K mainGlobals "law" = some (some (.ref f)) ∧ (∃ (fd : FuncData) (oc : Value) (od : Option Addr) (osl : Array (Option Value)), K.lookup f = some ⟨oc, od, .func fd, osl⟩ ∧ Fun K "law" "law" st f fd ∧ fd.code = .ref cc) ∧
  (∃ (dd : Option Addr) (vs : Array Value) (sl : Array (Option Value)) (file : Str) (tf : Tok) (flags : Int) (tg : Tok) (inF : Bool) (text : Int) (tt : Tok), K.lookup cc = some ⟨.type "code", dd, .fields vs, sl⟩ ∧ vs[11]? = some (.ref tP) ∧ vs.getD 11 .none = .ref tP ∧ vs.getD 18 .none = .str file tf ∧ vs.getD 7 .none = .int flags tg ∧ vs.getD 9 .none = .bool inF ∧ vs.getD 10 .none = .int text tt) ∧
  cc ≠ tP ∧ K.lookup tP = none
theorem law_mk {K : Fr} {st : Stmt} {f cc tP : Addr} {oc kV doc pm ct : Value} {od an dd : Option Addr} {osl sl : Array (Option Value)} {vs : Array Value} {file : Str} {flags text : Int} {tf tg tt : Tok} {inF : Bool} (a : PySem.W.nsIn K mainGlobals "law" = some (some (.ref f)))
    (l : K.lookup f = some ⟨oc, od, .func (PySem.W.fnOf "law" "law" (defArgs st) (defBody st) (defScope st) .none kV doc pm an (.ref cc) ct), osl⟩) (c : PySem.W.codeIn K (.ref cc) "law" = true) (k : PySem.W.keepIn K (.ref f) = true)
    (lc : K.lookup cc = some ⟨.type "code", dd, .fields vs, sl⟩) (v11 : vs[11]? = some (.ref tP)) (g11 : vs.getD 11 .none = .ref tP) (g18 : vs.getD 18 .none = .str file tf) (g7 : vs.getD 7 .none = .int flags tg) (g9 : vs.getD 9 .none = .bool inF) (g10 : vs.getD 10 .none = .int text tt) (ne : cc ≠ tP) (out : K.lookup tP = none) : IsLaw K st f cc tP :=
  ⟨a, ⟨_, _, _, _, l, fun_mk l c k, rfl⟩, ⟨_, _, _, _, _, _, _, _, _, _, lc, v11, g11, g18, g7, g9, g10⟩, ne, out⟩
theorem onetab_of {K : Fr} {st : Stmt} {f cc tP : Addr} {h : Heap} (X : K.In h) (L : IsLaw K st f cc tP) (own : LamX.OwnTab K f h) : OneTab K cc tP h := by
  obtain ⟨_, ⟨fd, oc, od, osl, l, F, hc⟩, ⟨dd, vs, sl, file, tf, flags, tg, inF, text, tt, lc, v11, g11, g18, g7, g9, g10⟩, ne, out⟩ := L
  exact ⟨own cc tP _ _ _ _ _ _ l rfl hc lc v11, out, ⟨_, vs, file, tf, flags, tg, inF, text, tt, X _ _ lc, rfl, rfl, v11, g11, g18, g7, g9, g10, ne⟩⟩
end KA

set_option Elab.async false
set_option linter.all false
set_option maxRecDepth 100000
set_option maxHeartbeats 4000000
namespace KA
open PySem PySem.Spec PyProof.Rows L2 DL
theorem mx_of {K : Fr} {h : Heap} {mg : Str → Option Value} (KX : K.In h) (G : h.Ns mainGlobals mg) {C0 e0 e1 e2 e3 e4 e5 e6 e7 e8 e9 e10 e11 tP : Addr} {t_PARTS0 t_PARTS1 : Tok} {a_PARTS n_PARTS : Nat} {sl_PARTS : Array (Option Value)} {t_MOST_YEARS : Tok} {t_MOST_UNEVEN : Tok}
    (aC0 : PySem.W.nsIn K mainGlobals "Calendar" = some (some (.ref C0)))
    (aE0 : PySem.W.nsIn K mainGlobals "BadPart" = some (some (.ref e0)))
    (aE1 : PySem.W.nsIn K mainGlobals "BadNumber" = some (some (.ref e1)))
    (aE2 : PySem.W.nsIn K mainGlobals "Unknown" = some (some (.ref e2)))
    (aE3 : PySem.W.nsIn K mainGlobals "BadCourse" = some (some (.ref e3)))
    (aE4 : PySem.W.nsIn K mainGlobals "BadChange" = some (some (.ref e4)))
    (aE5 : PySem.W.nsIn K mainGlobals "BadText" = some (some (.ref e5)))
    (aE6 : PySem.W.nsIn K mainGlobals "BadLine" = some (some (.ref e6)))
    (aE7 : PySem.W.nsIn K mainGlobals "BadClaim" = some (some (.ref e7)))
    (aE8 : PySem.W.nsIn K mainGlobals "NothingDone" = some (some (.ref e8)))
    (aE9 : PySem.W.nsIn K mainGlobals "ClockError" = some (some (.ref e9)))
    (aK_PARTS : PySem.W.nsIn K mainGlobals "PARTS" = some (some (.ref a_PARTS)))
    (lK_PARTS : K.lookup a_PARTS = some ⟨.type "tuple", none, .seq ([.str "years" t_PARTS0, .str "uneven" t_PARTS1] : List Value).toArray n_PARTS, sl_PARTS⟩)
    (aK_MOST_YEARS : PySem.W.nsIn K mainGlobals "MOST_YEARS" = some (some (.int 40 t_MOST_YEARS)))
    (aK_MOST_UNEVEN : PySem.W.nsIn K mainGlobals "MOST_UNEVEN" = some (some (.int 1600 t_MOST_UNEVEN)))
    (z_len : PySem.W.nsIn K mainGlobals "len" = some none)
    (z_isinstance : PySem.W.nsIn K mainGlobals "isinstance" = some none)
    (z_int : PySem.W.nsIn K mainGlobals "int" = some none)
    (z_abs : PySem.W.nsIn K mainGlobals "abs" = some none)
    (z_sum : PySem.W.nsIn K mainGlobals "sum" = some none)
    (z_max : PySem.W.nsIn K mainGlobals "max" = some none)
    (z_min : PySem.W.nsIn K mainGlobals "min" = some none)
    (z_all : PySem.W.nsIn K mainGlobals "all" = some none)
    (z_tuple : PySem.W.nsIn K mainGlobals "tuple" = some none)
    (z_list : PySem.W.nsIn K mainGlobals "list" = some none)
    (z_range : PySem.W.nsIn K mainGlobals "range" = some none)
    (z_enumerate : PySem.W.nsIn K mainGlobals "enumerate" = some none)
    (z_zip : PySem.W.nsIn K mainGlobals "zip" = some none)
    (z_repr : PySem.W.nsIn K mainGlobals "repr" = some none)
    (z_bool : PySem.W.nsIn K mainGlobals "bool" = some none)
    (z_str : PySem.W.nsIn K mainGlobals "str" = some none)
    (z_ValueError : PySem.W.nsIn K mainGlobals "ValueError" = some none)
    (z_super : PySem.W.nsIn K mainGlobals "super" = some none)
    (cl0 : Cls K C0)
    (b1 : ((List.range 1).all fun c => (flF c).all fun f => PySem.W.findIn K (.ref ((fun i : Nat => ([C0] : List Addr).getD i 0) c)) (nmF f) == some none) = true)
    (b2 : ((List.range 1).all fun c => PySem.W.findIn K (.ref ((fun i : Nat => ([C0] : List Addr).getD i 0) c)) "__class__" == some (some (.builtin "object.__class__"))) = true)
    (b3 : PySem.W.specialIn K (.builtin "object.__class__") "__get__" = some (some (.builtin "getset_descriptor.__get__")))
    (b4 : PySem.W.takesIn K (.builtin "object.__class__") = some true)
    (b5 : ((List.range 1).all fun c => PySem.W.mroIn K ((fun i : Nat => ([C0] : List Addr).getD i 0) c) (.type "object") == some true) = true)
    (b6 : ((List.range 1).all fun c => (["int", "bool", "str", "tuple", "list"] : List String).all fun b => PySem.W.kitOne K (.ref ((fun i : Nat => ([C0] : List Addr).getD i 0) c)) (.type b) == some false) = true)
    (b7 : ((List.range 1).all fun c => (["NoneType", "bool", "int", "str", "tuple", "list"] : List String).all fun b => PySem.W.kitOne K (.type b) (.ref ((fun i : Nat => ([C0] : List Addr).getD i 0) c)) == some false) = true)
    (b8 : ((List.range 1).all fun c => (List.range 1).all fun d => PySem.W.kitOne K (.ref ((fun i : Nat => ([C0] : List Addr).getD i 0) c)) (.ref ((fun i : Nat => ([C0] : List Addr).getD i 0) d)) == some (c == d)) = true)
    (x1 : ((List.range 9).all fun c => (PySem.W.clsIn K ((fun i : Nat => ([e0, e1, e2, e3, e4, e5, e6, e7, e8, e9, e10, e11] : List Addr).getD i 0) c)).isSome) = true)
    (x2 : ((List.range 9).all fun c => PySem.W.findIn K (.ref ((fun i : Nat => ([e0, e1, e2, e3, e4, e5, e6, e7, e8, e9, e10, e11] : List Addr).getD i 0) c)) "__getattribute__" == some (some (.builtin "BaseException.__getattribute__"))) = true)
    (x3 : ((List.range 9).all fun c => PySem.W.findIn K (.ref ((fun i : Nat => ([e0, e1, e2, e3, e4, e5, e6, e7, e8, e9, e10, e11] : List Addr).getD i 0) c)) "__getattr__" == some none) = true)
    (x4 : ((List.range 9).all fun c => PySem.W.subIn K (.ref ((fun i : Nat => ([e0, e1, e2, e3, e4, e5, e6, e7, e8, e9, e10, e11] : List Addr).getD i 0) c)) (.type "BaseException") == some true) = true)
    (x5 : ((List.range 9).all fun c => PySem.W.hasDictIn K ((fun i : Nat => ([e0, e1, e2, e3, e4, e5, e6, e7, e8, e9, e10, e11] : List Addr).getD i 0) c)) = true)
    (x6 : ((List.range 9).all fun c => PySem.W.findIn K (.ref ((fun i : Nat => ([e0, e1, e2, e3, e4, e5, e6, e7, e8, e9, e10, e11] : List Addr).getD i 0) c)) "__class__" == some (some (.builtin "object.__class__"))) = true)
    (x7 : ((List.range 9).all fun c => PySem.W.mroIn K ((fun i : Nat => ([e0, e1, e2, e3, e4, e5, e6, e7, e8, e9, e10, e11] : List Addr).getD i 0) c) (.type "object") == some true) = true)
    (x8 : ((List.range 9).all fun c => (List.range 9).all fun d => PySem.W.kitOne K (.ref ((fun i : Nat => ([e0, e1, e2, e3, e4, e5, e6, e7, e8, e9, e10, e11] : List Addr).getD i 0) c)) (.ref ((fun i : Nat => ([e0, e1, e2, e3, e4, e5, e6, e7, e8, e9, e10, e11] : List Addr).getD i 0) d)) == some (c == d)) = true)
    (x9 : ((List.range 9).all fun c => PySem.W.kitOne K (.ref ((fun i : Nat => ([e0, e1, e2, e3, e4, e5, e6, e7, e8, e9, e10, e11] : List Addr).getD i 0) c)) (.type "ValueError") == some true) = true)
    (x10 : ((List.range 9).all fun c => nmL.all fun n => PySem.W.findIn K (.ref ((fun i : Nat => ([e0, e1, e2, e3, e4, e5, e6, e7, e8, e9, e10, e11] : List Addr).getD i 0) c)) n == some none) = true)
    (x11 : ((List.range 9).all fun c => PySem.W.exmOne K (.ref ((fun i : Nat => ([e0, e1, e2, e3, e4, e5, e6, e7, e8, e9, e10, e11] : List Addr).getD i 0) c)) (.ref ((fun i : Nat => ([e0, e1, e2, e3, e4, e5, e6, e7, e8, e9, e10, e11] : List Addr).getD i 0) 9)) == some true) = true)
    (aV10 : PySem.W.nsIn K mainGlobals "is_year" = some (some (.ref e10)))
    (aV11 : PySem.W.nsIn K mainGlobals "wrong_place" = some (some (.ref e11))) : Mx K mg (tb K (fun i : Nat => ([C0] : List Addr).getD i 0) (fun i : Nat => ([e0, e1, e2, e3, e4, e5, e6, e7, e8, e9, e10, e11] : List Addr).getD i 0) tP qlaw) :=
  { bn := { len := PySem.W.mg_none_of KX G z_len, isinstance := PySem.W.mg_none_of KX G z_isinstance, int := PySem.W.mg_none_of KX G z_int, abs := PySem.W.mg_none_of KX G z_abs, sum := PySem.W.mg_none_of KX G z_sum, max := PySem.W.mg_none_of KX G z_max, min := PySem.W.mg_none_of KX G z_min, all := PySem.W.mg_none_of KX G z_all, tuple := PySem.W.mg_none_of KX G z_tuple, list := PySem.W.mg_none_of KX G z_list, range := PySem.W.mg_none_of KX G z_range, enumerate := PySem.W.mg_none_of KX G z_enumerate, zip := PySem.W.mg_none_of KX G z_zip, repr := PySem.W.mg_none_of KX G z_repr, bool := PySem.W.mg_none_of KX G z_bool, str := PySem.W.mg_none_of KX G z_str }
    cf := ⟨fun c hc => (match c, hc with | 0, _ => cl0 | n + 1, hc => absurd (show n + 1 < 1 from hc) (by omega)), fun c hc f hf => eq_of_beq (List.all_eq_true.mp (allR b1 c hc) f hf), (show ∀ c, c < 1 → ∀ f ∈ flF c, f < 8 from by decide +kernel), fun c hc => eq_of_beq (allR b2 c hc), b3, b4, fun c hc => eq_of_beq (allR b5 c hc),
      fun c hc b hb => eq_of_beq (List.all_eq_true.mp (allR b6 c hc) b hb), fun c hc b hb => eq_of_beq (List.all_eq_true.mp (allR b7 c hc) b hb), fun c hc d hd => eq_of_beq (allR (allR b8 c hc) d hd)⟩
    c_PARTS := gc_strs (xs := ["years", "uneven"]) (us := [.str "years" t_PARTS0, .str "uneven" t_PARTS1]) (PySem.W.mg_of KX G aK_PARTS) lK_PARTS (.cons (.cons .nil)) (by show 2 ≤ sizeLine; decide)
    c_MOST_YEARS := gc_int (PySem.W.mg_of KX G aK_MOST_YEARS)
    c_MOST_UNEVEN := gc_int (PySem.W.mg_of KX G aK_MOST_UNEVEN)
    e_BadPart := PySem.W.mg_of KX G aE0
    e_BadNumber := PySem.W.mg_of KX G aE1
    e_Unknown := PySem.W.mg_of KX G aE2
    e_BadCourse := PySem.W.mg_of KX G aE3
    e_BadChange := PySem.W.mg_of KX G aE4
    e_BadText := PySem.W.mg_of KX G aE5
    e_BadLine := PySem.W.mg_of KX G aE6
    e_BadClaim := PySem.W.mg_of KX G aE7
    e_NothingDone := PySem.W.mg_of KX G aE8
    e_ClockError := PySem.W.mg_of KX G aE9
    v_is_year := PySem.W.mg_of KX G aV10
    v_wrong_place := PySem.W.mg_of KX G aV11
    k_Calendar := PySem.W.mg_of KX G aC0
    nVE := PySem.W.mg_none_of KX G z_ValueError
    nRp := PySem.W.mg_none_of KX G z_repr
    xC := fun c hc => eq_of_beq (allR x11 c (of_decide_eq_true hc))
    xE := fun c hc => ⟨allR x1 c hc, eq_of_beq (allR x2 c hc), eq_of_beq (allR x3 c hc), eq_of_beq (allR x4 c hc), allR x5 c hc, eq_of_beq (allR x6 c hc), b3, b4, eq_of_beq (allR x7 c hc)⟩
    xK := fun c hc k hk => eq_of_beq (allR (allR x8 c hc) k hk)
    xV := fun c hc => eq_of_beq (allR x9 c hc)
    xF := fun c hc n hn => eq_of_beq (List.all_eq_true.mp (allR x10 c hc) n hn) }
theorem top_mk {w : World} {K : Fr} {h : Heap} {mg : Str → Option Value} {fa : Addr} (KX : K.In h) (G : h.Ns mainGlobals mg) (hmg : mg "law" = some (.ref fa)) (own : LamX.OwnTab K fa h) (keeps : Keeps 63 F_law) {C0 e0 e1 e2 e3 e4 e5 e6 e7 e8 e9 e10 e11 tP cc fL f_is_whole f_is_within f_is_row f_wrong_number f_require_part f_first_wrong f_require_parts f_replaced f_place_of f_is_calendar f_heights_of f_unevenness f_is_even f_excess_of f_worst_years f_are_worst f_apart f_are_heights f_raised_heights f_common f_evenest f_least_uneven f_calendar_paper f_is_calendar_paper f__law_taken f__law_pick f__law_at f__law_whole f__law_calendar f__law_ahead f__law_uneven f__law_heighted f__law_apart f__law_alike f__law_spoiled f__law_refusal f__law_same f__law_told f_Calendar___init__ f_Calendar_with_part f_Calendar_with_year f_Calendar___eq__ : Addr} {t_PARTS0 t_PARTS1 : Tok} {a_PARTS n_PARTS : Nat} {sl_PARTS : Array (Option Value)} {t_MOST_YEARS : Tok} {t_MOST_UNEVEN : Tok}
    (aC0 : PySem.W.nsIn K mainGlobals "Calendar" = some (some (.ref C0)))
    (aE0 : PySem.W.nsIn K mainGlobals "BadPart" = some (some (.ref e0)))
    (aE1 : PySem.W.nsIn K mainGlobals "BadNumber" = some (some (.ref e1)))
    (aE2 : PySem.W.nsIn K mainGlobals "Unknown" = some (some (.ref e2)))
    (aE3 : PySem.W.nsIn K mainGlobals "BadCourse" = some (some (.ref e3)))
    (aE4 : PySem.W.nsIn K mainGlobals "BadChange" = some (some (.ref e4)))
    (aE5 : PySem.W.nsIn K mainGlobals "BadText" = some (some (.ref e5)))
    (aE6 : PySem.W.nsIn K mainGlobals "BadLine" = some (some (.ref e6)))
    (aE7 : PySem.W.nsIn K mainGlobals "BadClaim" = some (some (.ref e7)))
    (aE8 : PySem.W.nsIn K mainGlobals "NothingDone" = some (some (.ref e8)))
    (aE9 : PySem.W.nsIn K mainGlobals "ClockError" = some (some (.ref e9)))
    (aK_PARTS : PySem.W.nsIn K mainGlobals "PARTS" = some (some (.ref a_PARTS)))
    (lK_PARTS : K.lookup a_PARTS = some ⟨.type "tuple", none, .seq ([.str "years" t_PARTS0, .str "uneven" t_PARTS1] : List Value).toArray n_PARTS, sl_PARTS⟩)
    (aK_MOST_YEARS : PySem.W.nsIn K mainGlobals "MOST_YEARS" = some (some (.int 40 t_MOST_YEARS)))
    (aK_MOST_UNEVEN : PySem.W.nsIn K mainGlobals "MOST_UNEVEN" = some (some (.int 1600 t_MOST_UNEVEN)))
    (z_len : PySem.W.nsIn K mainGlobals "len" = some none)
    (z_isinstance : PySem.W.nsIn K mainGlobals "isinstance" = some none)
    (z_int : PySem.W.nsIn K mainGlobals "int" = some none)
    (z_abs : PySem.W.nsIn K mainGlobals "abs" = some none)
    (z_sum : PySem.W.nsIn K mainGlobals "sum" = some none)
    (z_max : PySem.W.nsIn K mainGlobals "max" = some none)
    (z_min : PySem.W.nsIn K mainGlobals "min" = some none)
    (z_all : PySem.W.nsIn K mainGlobals "all" = some none)
    (z_tuple : PySem.W.nsIn K mainGlobals "tuple" = some none)
    (z_list : PySem.W.nsIn K mainGlobals "list" = some none)
    (z_range : PySem.W.nsIn K mainGlobals "range" = some none)
    (z_enumerate : PySem.W.nsIn K mainGlobals "enumerate" = some none)
    (z_zip : PySem.W.nsIn K mainGlobals "zip" = some none)
    (z_repr : PySem.W.nsIn K mainGlobals "repr" = some none)
    (z_bool : PySem.W.nsIn K mainGlobals "bool" = some none)
    (z_str : PySem.W.nsIn K mainGlobals "str" = some none)
    (z_ValueError : PySem.W.nsIn K mainGlobals "ValueError" = some none)
    (z_super : PySem.W.nsIn K mainGlobals "super" = some none)
    (d_is_whole : IsDef K "is_whole" (top 12) f_is_whole)
    (d_is_within : IsDef K "is_within" (top 13) f_is_within)
    (d_is_row : IsDef K "is_row" (top 14) f_is_row)
    (d_wrong_number : IsDef K "wrong_number" (top 17) f_wrong_number)
    (d_is_year : IsDef K "is_year" (top 25) e10)
    (d_require_part : IsDef K "require_part" (top 16) f_require_part)
    (d_first_wrong : IsDef K "first_wrong" (top 15) f_first_wrong)
    (d_wrong_place : IsDef K "wrong_place" (top 26) e11)
    (d_require_parts : IsDef K "require_parts" (top 18) f_require_parts)
    (d_replaced : IsDef K "replaced" (top 19) f_replaced)
    (d_place_of : IsDef K "place_of" (top 20) f_place_of)
    (d_is_calendar : IsDef K "is_calendar" (top 28) f_is_calendar)
    (d_heights_of : IsDef K "heights_of" (top 29) f_heights_of)
    (d_unevenness : IsDef K "unevenness" (top 31) f_unevenness)
    (d_is_even : IsDef K "is_even" (top 32) f_is_even)
    (d_excess_of : IsDef K "excess_of" (top 30) f_excess_of)
    (d_worst_years : IsDef K "worst_years" (top 33) f_worst_years)
    (d_are_worst : IsDef K "are_worst" (top 34) f_are_worst)
    (d_apart : IsDef K "apart" (top 35) f_apart)
    (d_are_heights : IsDef K "are_heights" (top 36) f_are_heights)
    (d_raised_heights : IsDef K "raised_heights" (top 37) f_raised_heights)
    (d_common : IsDef K "common" (top 38) f_common)
    (d_evenest : IsDef K "evenest" (top 39) f_evenest)
    (d_least_uneven : IsDef K "least_uneven" (top 40) f_least_uneven)
    (d_calendar_paper : IsDef K "calendar_paper" (top 41) f_calendar_paper)
    (d_is_calendar_paper : IsDef K "is_calendar_paper" (top 42) f_is_calendar_paper)
    (d__law_taken : IsDef K "_law_taken" (top 44) f__law_taken)
    (d__law_pick : IsDef K "_law_pick" (top 45) f__law_pick)
    (d__law_at : IsDef K "_law_at" (top 51) f__law_at)
    (d__law_whole : IsDef K "_law_whole" (top 52) f__law_whole)
    (d__law_calendar : IsDef K "_law_calendar" (top 53) f__law_calendar)
    (d__law_ahead : IsDef K "_law_ahead" (top 54) f__law_ahead)
    (d__law_uneven : IsDef K "_law_uneven" (top 55) f__law_uneven)
    (d__law_heighted : IsDef K "_law_heighted" (top 56) f__law_heighted)
    (d__law_apart : IsDef K "_law_apart" (top 57) f__law_apart)
    (d__law_alike : IsDef K "_law_alike" (top 46) f__law_alike)
    (d__law_spoiled : IsDef K "_law_spoiled" (top 50) f__law_spoiled)
    (d__law_refusal : IsDef K "_law_refusal" (top 48) f__law_refusal)
    (d__law_same : IsDef K "_law_same" (top 47) f__law_same)
    (d__law_told : IsDef K "_law_told" (top 49) f__law_told)
    (dL : IsLaw K (top 58) fL cc tP)
    (d_Calendar___init__ : IsMeth K C0 "__init__" "Calendar.__init__" ((clsB (top 27)).getD 0 (.Pass ⟨0, 0, 0, 0⟩)) f_Calendar___init__)
    (d_Calendar_with_part : IsMeth K C0 "with_part" "Calendar.with_part" ((clsB (top 27)).getD 1 (.Pass ⟨0, 0, 0, 0⟩)) f_Calendar_with_part)
    (d_Calendar_with_year : IsMeth K C0 "with_year" "Calendar.with_year" ((clsB (top 27)).getD 2 (.Pass ⟨0, 0, 0, 0⟩)) f_Calendar_with_year)
    (d_Calendar___eq__ : IsMeth K C0 "__eq__" "Calendar.__eq__" ((clsB (top 27)).getD 3 (.Pass ⟨0, 0, 0, 0⟩)) f_Calendar___eq__)
    (cl0 : Cls K C0)
    (mk0 : PySem.W.makesIn K C0 = true)
    (kp0 : PySem.W.keepIn K (.ref C0) = true)
    (err_BadPart : IsErr prg K mg e0 "BadPart.__init__" ((clsB (top 2)).getD 0 (.Pass ⟨0, 0, 0, 0⟩)) ["part", "place"])
    (err_BadNumber : IsErr prg K mg e1 "BadNumber.__init__" ((clsB (top 3)).getD 0 (.Pass ⟨0, 0, 0, 0⟩)) ["value"])
    (err_Unknown : IsErr prg K mg e2 "Unknown.__init__" ((clsB (top 4)).getD 0 (.Pass ⟨0, 0, 0, 0⟩)) ["name"])
    (b1 : ((List.range 1).all fun c => (flF c).all fun f => PySem.W.findIn K (.ref ((fun i : Nat => ([C0] : List Addr).getD i 0) c)) (nmF f) == some none) = true)
    (b2 : ((List.range 1).all fun c => PySem.W.findIn K (.ref ((fun i : Nat => ([C0] : List Addr).getD i 0) c)) "__class__" == some (some (.builtin "object.__class__"))) = true)
    (b3 : PySem.W.specialIn K (.builtin "object.__class__") "__get__" = some (some (.builtin "getset_descriptor.__get__")))
    (b4 : PySem.W.takesIn K (.builtin "object.__class__") = some true)
    (b5 : ((List.range 1).all fun c => PySem.W.mroIn K ((fun i : Nat => ([C0] : List Addr).getD i 0) c) (.type "object") == some true) = true)
    (b6 : ((List.range 1).all fun c => (["int", "bool", "str", "tuple", "list"] : List String).all fun b => PySem.W.kitOne K (.ref ((fun i : Nat => ([C0] : List Addr).getD i 0) c)) (.type b) == some false) = true)
    (b7 : ((List.range 1).all fun c => (["NoneType", "bool", "int", "str", "tuple", "list"] : List String).all fun b => PySem.W.kitOne K (.type b) (.ref ((fun i : Nat => ([C0] : List Addr).getD i 0) c)) == some false) = true)
    (b8 : ((List.range 1).all fun c => (List.range 1).all fun d => PySem.W.kitOne K (.ref ((fun i : Nat => ([C0] : List Addr).getD i 0) c)) (.ref ((fun i : Nat => ([C0] : List Addr).getD i 0) d)) == some (c == d)) = true)
    (x1 : ((List.range 9).all fun c => (PySem.W.clsIn K ((fun i : Nat => ([e0, e1, e2, e3, e4, e5, e6, e7, e8, e9, e10, e11] : List Addr).getD i 0) c)).isSome) = true)
    (x2 : ((List.range 9).all fun c => PySem.W.findIn K (.ref ((fun i : Nat => ([e0, e1, e2, e3, e4, e5, e6, e7, e8, e9, e10, e11] : List Addr).getD i 0) c)) "__getattribute__" == some (some (.builtin "BaseException.__getattribute__"))) = true)
    (x3 : ((List.range 9).all fun c => PySem.W.findIn K (.ref ((fun i : Nat => ([e0, e1, e2, e3, e4, e5, e6, e7, e8, e9, e10, e11] : List Addr).getD i 0) c)) "__getattr__" == some none) = true)
    (x4 : ((List.range 9).all fun c => PySem.W.subIn K (.ref ((fun i : Nat => ([e0, e1, e2, e3, e4, e5, e6, e7, e8, e9, e10, e11] : List Addr).getD i 0) c)) (.type "BaseException") == some true) = true)
    (x5 : ((List.range 9).all fun c => PySem.W.hasDictIn K ((fun i : Nat => ([e0, e1, e2, e3, e4, e5, e6, e7, e8, e9, e10, e11] : List Addr).getD i 0) c)) = true)
    (x6 : ((List.range 9).all fun c => PySem.W.findIn K (.ref ((fun i : Nat => ([e0, e1, e2, e3, e4, e5, e6, e7, e8, e9, e10, e11] : List Addr).getD i 0) c)) "__class__" == some (some (.builtin "object.__class__"))) = true)
    (x7 : ((List.range 9).all fun c => PySem.W.mroIn K ((fun i : Nat => ([e0, e1, e2, e3, e4, e5, e6, e7, e8, e9, e10, e11] : List Addr).getD i 0) c) (.type "object") == some true) = true)
    (x8 : ((List.range 9).all fun c => (List.range 9).all fun d => PySem.W.kitOne K (.ref ((fun i : Nat => ([e0, e1, e2, e3, e4, e5, e6, e7, e8, e9, e10, e11] : List Addr).getD i 0) c)) (.ref ((fun i : Nat => ([e0, e1, e2, e3, e4, e5, e6, e7, e8, e9, e10, e11] : List Addr).getD i 0) d)) == some (c == d)) = true)
    (x9 : ((List.range 9).all fun c => PySem.W.kitOne K (.ref ((fun i : Nat => ([e0, e1, e2, e3, e4, e5, e6, e7, e8, e9, e10, e11] : List Addr).getD i 0) c)) (.type "ValueError") == some true) = true)
    (x10 : ((List.range 9).all fun c => nmL.all fun n => PySem.W.findIn K (.ref ((fun i : Nat => ([e0, e1, e2, e3, e4, e5, e6, e7, e8, e9, e10, e11] : List Addr).getD i 0) c)) n == some none) = true)
    (x11 : ((List.range 9).all fun c => PySem.W.exmOne K (.ref ((fun i : Nat => ([e0, e1, e2, e3, e4, e5, e6, e7, e8, e9, e10, e11] : List Addr).getD i 0) c)) (.ref ((fun i : Nat => ([e0, e1, e2, e3, e4, e5, e6, e7, e8, e9, e10, e11] : List Addr).getD i 0) 9)) == some true) = true)
    (b9 : ((List.range 1).all fun c => PySem.W.subIn K (.type "tuple") (.ref ((fun i : Nat => ([C0] : List Addr).getD i 0) c)) == some false) = true) : TopG PySem.Challenge.rw_waterhours_k14_whole_calendars w K 14 63 "script" mg fa h := by
  have m := mx_of (tP := tP) KX G aC0 aE0 aE1 aE2 aE3 aE4 aE5 aE6 aE7 aE8 aE9 aK_PARTS lK_PARTS aK_MOST_YEARS aK_MOST_UNEVEN z_len z_isinstance z_int z_abs z_sum z_max z_min z_all z_tuple z_list z_range z_enumerate z_zip z_repr z_bool z_str z_ValueError z_super cl0 b1 b2 b3 b4 b5 b6 b7 b8 x1 x2 x3 x4 x5 x6 x7 x8 x9 x10 x11 d_is_year.1 d_wrong_place.1
  obtain rfl : fa = fL := by
    have z := hmg.symm.trans (PySem.W.mg_of KX G dL.1)
    cases z
    rfl
  have tab := onetab_of KX dL own
  obtain ⟨_, ⟨fd, oc, od, osl, lkL, FL, hcode⟩, _⟩ := dL
  refine ⟨fd, cc, tP, (tb K (fun i : Nat => ([C0] : List Addr).getD i 0) (fun i : Nat => ([e0, e1, e2, e3, e4, e5, e6, e7, e8, e9, e10, e11] : List Addr).getD i 0) tP qlaw), qlaw, F_law, tab, rfl, rfl, (fun s u => by obtain ⟨_, _, _, _, _, _, _, _, _, rfl, _, _⟩ := FL.ex; exact BindsTo.of_eq rfl), keeps, fun base b1 b2 TB => ?_⟩
  have er_BadPart := er_BadPart (P := prg) (w := w) (base := base) (PySem.W.mg_of KX G aE0) err_BadPart
  have er_BadNumber := er_BadNumber (P := prg) (w := w) (base := base) (PySem.W.mg_of KX G aE1) err_BadNumber
  have er_Unknown := er_Unknown (P := prg) (w := w) (base := base) (PySem.W.mg_of KX G aE2) err_Unknown
  have f_is_whole : DefD (tb K (fun i : Nat => ([C0] : List Addr).getD i 0) (fun i : Nat => ([e0, e1, e2, e3, e4, e5, e6, e7, e8, e9, e10, e11] : List Addr).getD i 0) tP qlaw) prg w K mg base "is_whole" 2 F_is_whole := by
    obtain ⟨a, fd, F⟩ := d_is_whole
    exact ⟨_, fd, ["value"], PySem.W.mg_of KX G a, F.kp, F.binds (ps := ["value"]) fun _ _ _ _ _ _ us hl => match us, hl with | [_], _ => rfl, ok_is_whole m  F⟩
  have f_is_within : DefD (tb K (fun i : Nat => ([C0] : List Addr).getD i 0) (fun i : Nat => ([e0, e1, e2, e3, e4, e5, e6, e7, e8, e9, e10, e11] : List Addr).getD i 0) tP qlaw) prg w K mg base "is_within" 3 F_is_within := by
    obtain ⟨a, fd, F⟩ := d_is_within
    exact ⟨_, fd, ["value", "least", "most"], PySem.W.mg_of KX G a, F.kp, F.binds (ps := ["value", "least", "most"]) fun _ _ _ _ _ _ us hl => match us, hl with | [_, _, _], _ => rfl, ok_is_within m f_is_whole F⟩
  have f_is_row : DefD (tb K (fun i : Nat => ([C0] : List Addr).getD i 0) (fun i : Nat => ([e0, e1, e2, e3, e4, e5, e6, e7, e8, e9, e10, e11] : List Addr).getD i 0) tP qlaw) prg w K mg base "is_row" 2 F_is_row := by
    obtain ⟨a, fd, F⟩ := d_is_row
    exact ⟨_, fd, ["value", "size"], PySem.W.mg_of KX G a, F.kp, F.binds (ps := ["value", "size"]) fun _ _ _ _ _ _ us hl => match us, hl with | [_, _], _ => rfl, ok_is_row m  F⟩
  have f_wrong_number : DefD (tb K (fun i : Nat => ([C0] : List Addr).getD i 0) (fun i : Nat => ([e0, e1, e2, e3, e4, e5, e6, e7, e8, e9, e10, e11] : List Addr).getD i 0) tP qlaw) prg w K mg base "wrong_number" 4 F_wrong_number := by
    obtain ⟨a, fd, F⟩ := d_wrong_number
    exact ⟨_, fd, ["value", "least", "most"], PySem.W.mg_of KX G a, F.kp, F.binds (ps := ["value", "least", "most"]) fun _ _ _ _ _ _ us hl => match us, hl with | [_, _, _], _ => rfl, ok_wrong_number m f_is_within F⟩
  have f_is_year : DefD (tb K (fun i : Nat => ([C0] : List Addr).getD i 0) (fun i : Nat => ([e0, e1, e2, e3, e4, e5, e6, e7, e8, e9, e10, e11] : List Addr).getD i 0) tP qlaw) prg w K mg base "is_year" 4 F_is_year := by
    obtain ⟨a, fd, F⟩ := d_is_year
    exact ⟨_, fd, ["row", "ahead"], PySem.W.mg_of KX G a, F.kp, F.binds (ps := ["row", "ahead"]) fun _ _ _ _ _ _ us hl => match us, hl with | [_, _], _ => rfl, ok_is_year m f_is_within F⟩
  have f_require_part : DefD (tb K (fun i : Nat => ([C0] : List Addr).getD i 0) (fun i : Nat => ([e0, e1, e2, e3, e4, e5, e6, e7, e8, e9, e10, e11] : List Addr).getD i 0) tP qlaw) prg w K mg base "require_part" 3 F_require_part := by
    obtain ⟨a, fd, F⟩ := d_require_part
    exact ⟨_, fd, ["part", "place"], PySem.W.mg_of KX G a, F.kp, F.binds (ps := ["part", "place"]) fun _ _ _ _ _ _ us hl => match us, hl with | [_, _], _ => rfl, ok_require_part m er_BadPart F⟩
  have vt : ∀ j F, tab_first_wrong j = some F → FnAt (tb K (fun i : Nat => ([C0] : List Addr).getD i 0) (fun i : Nat => ([e0, e1, e2, e3, e4, e5, e6, e7, e8, e9, e10, e11] : List Addr).getD i 0) tP qlaw) prg w K mg base j 4 F := fun j F hF => by
    unfold tab_first_wrong at hF
    split at hF
    · rename_i hj
      subst hj
      cases hF
      obtain ⟨a, fd, F⟩ := d_is_year
      exact ⟨F.kp, fd, _, F.binds (ps := ["row", "ahead"]) fun _ _ _ _ _ _ us hl => match us, hl with | [_, _], _ => rfl, (ok_is_year m f_is_within F).mono (by decide)⟩
    cases hF
  have f_first_wrong : DefD (tb K (fun i : Nat => ([C0] : List Addr).getD i 0) (fun i : Nat => ([e0, e1, e2, e3, e4, e5, e6, e7, e8, e9, e10, e11] : List Addr).getD i 0) tP qlaw) prg w K mg base "first_wrong" 5 F_first_wrong := by
    obtain ⟨a, fd, F⟩ := d_first_wrong
    exact ⟨_, fd, ["value", "least", "most", "judge"], PySem.W.mg_of KX G a, F.kp, F.binds (ps := ["value", "least", "most", "judge"]) fun _ _ _ _ _ _ us hl => match us, hl with | [_, _, _, _], _ => rfl, ok_first_wrong m vt F⟩
  have f_wrong_place : DefD (tb K (fun i : Nat => ([C0] : List Addr).getD i 0) (fun i : Nat => ([e0, e1, e2, e3, e4, e5, e6, e7, e8, e9, e10, e11] : List Addr).getD i 0) tP qlaw) prg w K mg base "wrong_place" 6 F_wrong_place := by
    obtain ⟨a, fd, F⟩ := d_wrong_place
    exact ⟨_, fd, ["parts", "place"], PySem.W.mg_of KX G a, F.kp, F.binds (ps := ["parts", "place"]) fun _ _ _ _ _ _ us hl => match us, hl with | [_, _], _ => rfl, ok_wrong_place m f_wrong_number f_first_wrong F⟩
  have vt : ∀ j F, tab_require_parts j = some F → FnAt (tb K (fun i : Nat => ([C0] : List Addr).getD i 0) (fun i : Nat => ([e0, e1, e2, e3, e4, e5, e6, e7, e8, e9, e10, e11] : List Addr).getD i 0) tP qlaw) prg w K mg base j 6 F := fun j F hF => by
    unfold tab_require_parts at hF
    split at hF
    · rename_i hj
      subst hj
      cases hF
      obtain ⟨a, fd, F⟩ := d_wrong_place
      exact ⟨F.kp, fd, _, F.binds (ps := ["parts", "place"]) fun _ _ _ _ _ _ us hl => match us, hl with | [_, _], _ => rfl, (ok_wrong_place m f_wrong_number f_first_wrong F).mono (by decide)⟩
    cases hF
  have f_require_parts : DefD (tb K (fun i : Nat => ([C0] : List Addr).getD i 0) (fun i : Nat => ([e0, e1, e2, e3, e4, e5, e6, e7, e8, e9, e10, e11] : List Addr).getD i 0) tP qlaw) prg w K mg base "require_parts" 7 F_require_parts := by
    obtain ⟨a, fd, F⟩ := d_require_parts
    exact ⟨_, fd, ["thing", "words", "parts", "judge"], PySem.W.mg_of KX G a, F.kp, F.binds (ps := ["thing", "words", "parts", "judge"]) fun _ _ _ _ _ _ us hl => match us, hl with | [_, _, _, _], _ => rfl, ok_require_parts m f_require_part vt f_is_row F⟩
  have f_replaced : DefD (tb K (fun i : Nat => ([C0] : List Addr).getD i 0) (fun i : Nat => ([e0, e1, e2, e3, e4, e5, e6, e7, e8, e9, e10, e11] : List Addr).getD i 0) tP qlaw) prg w K mg base "replaced" 2 F_replaced := by
    obtain ⟨a, fd, F⟩ := d_replaced
    exact ⟨_, fd, ["parts", "place", "value"], PySem.W.mg_of KX G a, F.kp, F.binds (ps := ["parts", "place", "value"]) fun _ _ _ _ _ _ us hl => match us, hl with | [_, _, _], _ => rfl, ok_replaced m  F⟩
  have f_place_of : DefD (tb K (fun i : Nat => ([C0] : List Addr).getD i 0) (fun i : Nat => ([e0, e1, e2, e3, e4, e5, e6, e7, e8, e9, e10, e11] : List Addr).getD i 0) tP qlaw) prg w K mg base "place_of" 4 F_place_of := by
    obtain ⟨a, fd, F⟩ := d_place_of
    exact ⟨_, fd, ["words", "word", "thing"], PySem.W.mg_of KX G a, F.kp, F.binds (ps := ["words", "word", "thing"]) fun _ _ _ _ _ _ us hl => match us, hl with | [_, _, _], _ => rfl, ok_place_of m f_require_part F⟩
  have mk_Calendar : MakeD (tb K (fun i : Nat => ([C0] : List Addr).getD i 0) (fun i : Nat => ([e0, e1, e2, e3, e4, e5, e6, e7, e8, e9, e10, e11] : List Addr).getD i 0) tP qlaw) prg w K mg base "Calendar" 0 8 F_Calendar___init__ := by
    obtain ⟨a, i, fd, F⟩ := d_Calendar___init__
    exact ⟨by show 0 < 1; decide, PySem.W.mg_of KX G aC0, _, fd, ["self", "parts"], ⟨mk0, a, i, kp0⟩, F.binds (ps := ["self", "parts"]) fun _ _ _ _ _ _ us hl => match us, hl with | [_, _], _ => rfl, ok_Calendar___init__ m f_require_parts F⟩
  have f_is_calendar : DefD (tb K (fun i : Nat => ([C0] : List Addr).getD i 0) (fun i : Nat => ([e0, e1, e2, e3, e4, e5, e6, e7, e8, e9, e10, e11] : List Addr).getD i 0) tP qlaw) prg w K mg base "is_calendar" 2 F_is_calendar := by
    obtain ⟨a, fd, F⟩ := d_is_calendar
    exact ⟨_, fd, ["value"], PySem.W.mg_of KX G a, F.kp, F.binds (ps := ["value"]) fun _ _ _ _ _ _ us hl => match us, hl with | [_], _ => rfl, ok_is_calendar m  F⟩
  have f_heights_of : DefD (tb K (fun i : Nat => ([C0] : List Addr).getD i 0) (fun i : Nat => ([e0, e1, e2, e3, e4, e5, e6, e7, e8, e9, e10, e11] : List Addr).getD i 0) tP qlaw) prg w K mg base "heights_of" 2 F_heights_of := by
    obtain ⟨a, fd, F⟩ := d_heights_of
    exact ⟨_, fd, ["calendar"], PySem.W.mg_of KX G a, F.kp, F.binds (ps := ["calendar"]) fun _ _ _ _ _ _ us hl => match us, hl with | [_], _ => rfl, ok_heights_of m  F⟩
  have f_unevenness : DefD (tb K (fun i : Nat => ([C0] : List Addr).getD i 0) (fun i : Nat => ([e0, e1, e2, e3, e4, e5, e6, e7, e8, e9, e10, e11] : List Addr).getD i 0) tP qlaw) prg w K mg base "unevenness" 3 F_unevenness := by
    obtain ⟨a, fd, F⟩ := d_unevenness
    exact ⟨_, fd, ["calendar"], PySem.W.mg_of KX G a, F.kp, F.binds (ps := ["calendar"]) fun _ _ _ _ _ _ us hl => match us, hl with | [_], _ => rfl, ok_unevenness m f_heights_of F⟩
  have f_is_even : DefD (tb K (fun i : Nat => ([C0] : List Addr).getD i 0) (fun i : Nat => ([e0, e1, e2, e3, e4, e5, e6, e7, e8, e9, e10, e11] : List Addr).getD i 0) tP qlaw) prg w K mg base "is_even" 4 F_is_even := by
    obtain ⟨a, fd, F⟩ := d_is_even
    exact ⟨_, fd, ["calendar"], PySem.W.mg_of KX G a, F.kp, F.binds (ps := ["calendar"]) fun _ _ _ _ _ _ us hl => match us, hl with | [_], _ => rfl, ok_is_even m f_unevenness F⟩
  have f_excess_of : DefD (tb K (fun i : Nat => ([C0] : List Addr).getD i 0) (fun i : Nat => ([e0, e1, e2, e3, e4, e5, e6, e7, e8, e9, e10, e11] : List Addr).getD i 0) tP qlaw) prg w K mg base "excess_of" 4 F_excess_of := by
    obtain ⟨a, fd, F⟩ := d_excess_of
    exact ⟨_, fd, ["calendar", "first", "years"], PySem.W.mg_of KX G a, F.kp, F.binds (ps := ["calendar", "first", "years"]) fun _ _ _ _ _ _ us hl => match us, hl with | [_, _, _], _ => rfl, ok_excess_of m f_heights_of f_is_within er_BadNumber F⟩
  have f_worst_years : DefD (tb K (fun i : Nat => ([C0] : List Addr).getD i 0) (fun i : Nat => ([e0, e1, e2, e3, e4, e5, e6, e7, e8, e9, e10, e11] : List Addr).getD i 0) tP qlaw) prg w K mg base "worst_years" 3 F_worst_years := by
    obtain ⟨a, fd, F⟩ := d_worst_years
    exact ⟨_, fd, ["calendar"], PySem.W.mg_of KX G a, F.kp, F.binds (ps := ["calendar"]) fun _ _ _ _ _ _ us hl => match us, hl with | [_], _ => rfl, ok_worst_years m f_heights_of F⟩
  have f_are_worst : DefD (tb K (fun i : Nat => ([C0] : List Addr).getD i 0) (fun i : Nat => ([e0, e1, e2, e3, e4, e5, e6, e7, e8, e9, e10, e11] : List Addr).getD i 0) tP qlaw) prg w K mg base "are_worst" 4 F_are_worst := by
    obtain ⟨a, fd, F⟩ := d_are_worst
    exact ⟨_, fd, ["calendar", "value"], PySem.W.mg_of KX G a, F.kp, F.binds (ps := ["calendar", "value"]) fun _ _ _ _ _ _ us hl => match us, hl with | [_, _], _ => rfl, ok_are_worst m f_is_row f_is_within F⟩
  have f_apart : DefD (tb K (fun i : Nat => ([C0] : List Addr).getD i 0) (fun i : Nat => ([e0, e1, e2, e3, e4, e5, e6, e7, e8, e9, e10, e11] : List Addr).getD i 0) tP qlaw) prg w K mg base "apart" 3 F_apart := by
    obtain ⟨a, fd, F⟩ := d_apart
    exact ⟨_, fd, ["calendar", "value"], PySem.W.mg_of KX G a, F.kp, F.binds (ps := ["calendar", "value"]) fun _ _ _ _ _ _ us hl => match us, hl with | [_, _], _ => rfl, ok_apart m f_heights_of F⟩
  have f_are_heights : DefD (tb K (fun i : Nat => ([C0] : List Addr).getD i 0) (fun i : Nat => ([e0, e1, e2, e3, e4, e5, e6, e7, e8, e9, e10, e11] : List Addr).getD i 0) tP qlaw) prg w K mg base "are_heights" 4 F_are_heights := by
    obtain ⟨a, fd, F⟩ := d_are_heights
    exact ⟨_, fd, ["calendar", "value"], PySem.W.mg_of KX G a, F.kp, F.binds (ps := ["calendar", "value"]) fun _ _ _ _ _ _ us hl => match us, hl with | [_, _], _ => rfl, ok_are_heights m f_is_row f_is_within F⟩
  have f_raised_heights : DefD (tb K (fun i : Nat => ([C0] : List Addr).getD i 0) (fun i : Nat => ([e0, e1, e2, e3, e4, e5, e6, e7, e8, e9, e10, e11] : List Addr).getD i 0) tP qlaw) prg w K mg base "raised_heights" 3 F_raised_heights := by
    obtain ⟨a, fd, F⟩ := d_raised_heights
    exact ⟨_, fd, ["calendar"], PySem.W.mg_of KX G a, F.kp, F.binds (ps := ["calendar"]) fun _ _ _ _ _ _ us hl => match us, hl with | [_], _ => rfl, ok_raised_heights m f_heights_of F⟩
  have f_common : DefD (tb K (fun i : Nat => ([C0] : List Addr).getD i 0) (fun i : Nat => ([e0, e1, e2, e3, e4, e5, e6, e7, e8, e9, e10, e11] : List Addr).getD i 0) tP qlaw) prg w K mg base "common" 2 F_common := by
    obtain ⟨a, fd, F⟩ := d_common
    exact ⟨_, fd, ["one", "other"], PySem.W.mg_of KX G a, F.kp, F.binds (ps := ["one", "other"]) fun _ _ _ _ _ _ us hl => match us, hl with | [_, _], _ => rfl, ok_common m  F⟩
  have f_evenest : DefD (tb K (fun i : Nat => ([C0] : List Addr).getD i 0) (fun i : Nat => ([e0, e1, e2, e3, e4, e5, e6, e7, e8, e9, e10, e11] : List Addr).getD i 0) tP qlaw) prg w K mg base "evenest" 4 F_evenest := by
    obtain ⟨a, fd, F⟩ := d_evenest
    exact ⟨_, fd, ["many", "leaps"], PySem.W.mg_of KX G a, F.kp, F.binds (ps := ["many", "leaps"]) fun _ _ _ _ _ _ us hl => match us, hl with | [_, _], _ => rfl, ok_evenest m f_is_within er_BadNumber F⟩
  have f_least_uneven : DefD (tb K (fun i : Nat => ([C0] : List Addr).getD i 0) (fun i : Nat => ([e0, e1, e2, e3, e4, e5, e6, e7, e8, e9, e10, e11] : List Addr).getD i 0) tP qlaw) prg w K mg base "least_uneven" 3 F_least_uneven := by
    obtain ⟨a, fd, F⟩ := d_least_uneven
    exact ⟨_, fd, ["calendar"], PySem.W.mg_of KX G a, F.kp, F.binds (ps := ["calendar"]) fun _ _ _ _ _ _ us hl => match us, hl with | [_], _ => rfl, ok_least_uneven m f_common F⟩
  have f_calendar_paper : DefD (tb K (fun i : Nat => ([C0] : List Addr).getD i 0) (fun i : Nat => ([e0, e1, e2, e3, e4, e5, e6, e7, e8, e9, e10, e11] : List Addr).getD i 0) tP qlaw) prg w K mg base "calendar_paper" 4 F_calendar_paper := by
    obtain ⟨a, fd, F⟩ := d_calendar_paper
    exact ⟨_, fd, ["calendar"], PySem.W.mg_of KX G a, F.kp, F.binds (ps := ["calendar"]) fun _ _ _ _ _ _ us hl => match us, hl with | [_], _ => rfl, ok_calendar_paper m f_worst_years f_raised_heights F⟩
  have f_is_calendar_paper : DefD (tb K (fun i : Nat => ([C0] : List Addr).getD i 0) (fun i : Nat => ([e0, e1, e2, e3, e4, e5, e6, e7, e8, e9, e10, e11] : List Addr).getD i 0) tP qlaw) prg w K mg base "is_calendar_paper" 5 F_is_calendar_paper := by
    obtain ⟨a, fd, F⟩ := d_is_calendar_paper
    exact ⟨_, fd, ["calendar", "value"], PySem.W.mg_of KX G a, F.kp, F.binds (ps := ["calendar", "value"]) fun _ _ _ _ _ _ us hl => match us, hl with | [_, _], _ => rfl, ok_is_calendar_paper m f_apart f_is_row f_are_heights f_are_worst F⟩
  have f__law_taken : DefD (tb K (fun i : Nat => ([C0] : List Addr).getD i 0) (fun i : Nat => ([e0, e1, e2, e3, e4, e5, e6, e7, e8, e9, e10, e11] : List Addr).getD i 0) tP qlaw) prg w K mg base "_law_taken" 2 F__law_taken := by
    obtain ⟨a, fd, F⟩ := d__law_taken
    exact ⟨_, fd, ["row", "many"], PySem.W.mg_of KX G a, F.kp, F.binds (ps := ["row", "many"]) fun _ _ _ _ _ _ us hl => match us, hl with | [_, _], _ => rfl, ok__law_taken m  F⟩
  have f__law_pick : DefD (tb K (fun i : Nat => ([C0] : List Addr).getD i 0) (fun i : Nat => ([e0, e1, e2, e3, e4, e5, e6, e7, e8, e9, e10, e11] : List Addr).getD i 0) tP qlaw) prg w K mg base "_law_pick" 3 F__law_pick := by
    obtain ⟨a, fd, F⟩ := d__law_pick
    exact ⟨_, fd, ["row", "things"], PySem.W.mg_of KX G a, F.kp, F.binds (ps := ["row", "things"]) fun _ _ _ _ _ _ us hl => match us, hl with | [_, _], _ => rfl, ok__law_pick m f__law_taken F⟩
  have f__law_at : DefD (tb K (fun i : Nat => ([C0] : List Addr).getD i 0) (fun i : Nat => ([e0, e1, e2, e3, e4, e5, e6, e7, e8, e9, e10, e11] : List Addr).getD i 0) tP qlaw) prg w K mg base "_law_at" 2 F__law_at := by
    obtain ⟨a, fd, F⟩ := d__law_at
    exact ⟨_, fd, ["rows", "number", "value"], PySem.W.mg_of KX G a, F.kp, F.binds (ps := ["rows", "number", "value"]) fun _ _ _ _ _ _ us hl => match us, hl with | [_, _, _], _ => rfl, ok__law_at m  F⟩
  have f__law_whole : DefD (tb K (fun i : Nat => ([C0] : List Addr).getD i 0) (fun i : Nat => ([e0, e1, e2, e3, e4, e5, e6, e7, e8, e9, e10, e11] : List Addr).getD i 0) tP qlaw) prg w K mg base "_law_whole" 2 F__law_whole := by
    obtain ⟨a, fd, F⟩ := d__law_whole
    exact ⟨_, fd, ["value", "least", "most"], PySem.W.mg_of KX G a, F.kp, F.binds (ps := ["value", "least", "most"]) fun _ _ _ _ _ _ us hl => match us, hl with | [_, _, _], _ => rfl, ok__law_whole m  F⟩
  have f__law_calendar : DefD (tb K (fun i : Nat => ([C0] : List Addr).getD i 0) (fun i : Nat => ([e0, e1, e2, e3, e4, e5, e6, e7, e8, e9, e10, e11] : List Addr).getD i 0) tP qlaw) prg w K mg base "_law_calendar" 4 F__law_calendar := by
    obtain ⟨a, fd, F⟩ := d__law_calendar
    exact ⟨_, fd, ["row"], PySem.W.mg_of KX G a, F.kp, F.binds (ps := ["row"]) fun _ _ _ _ _ _ us hl => match us, hl with | [_], _ => rfl, ok__law_calendar m f__law_pick f__law_taken F⟩
  have f__law_ahead : DefD (tb K (fun i : Nat => ([C0] : List Addr).getD i 0) (fun i : Nat => ([e0, e1, e2, e3, e4, e5, e6, e7, e8, e9, e10, e11] : List Addr).getD i 0) tP qlaw) prg w K mg base "_law_ahead" 2 F__law_ahead := by
    obtain ⟨a, fd, F⟩ := d__law_ahead
    exact ⟨_, fd, ["told"], PySem.W.mg_of KX G a, F.kp, F.binds (ps := ["told"]) fun _ _ _ _ _ _ us hl => match us, hl with | [_], _ => rfl, ok__law_ahead m  F⟩
  have f__law_uneven : DefD (tb K (fun i : Nat => ([C0] : List Addr).getD i 0) (fun i : Nat => ([e0, e1, e2, e3, e4, e5, e6, e7, e8, e9, e10, e11] : List Addr).getD i 0) tP qlaw) prg w K mg base "_law_uneven" 3 F__law_uneven := by
    obtain ⟨a, fd, F⟩ := d__law_uneven
    exact ⟨_, fd, ["told"], PySem.W.mg_of KX G a, F.kp, F.binds (ps := ["told"]) fun _ _ _ _ _ _ us hl => match us, hl with | [_], _ => rfl, ok__law_uneven m f__law_ahead F⟩
  have f__law_heighted : DefD (tb K (fun i : Nat => ([C0] : List Addr).getD i 0) (fun i : Nat => ([e0, e1, e2, e3, e4, e5, e6, e7, e8, e9, e10, e11] : List Addr).getD i 0) tP qlaw) prg w K mg base "_law_heighted" 3 F__law_heighted := by
    obtain ⟨a, fd, F⟩ := d__law_heighted
    exact ⟨_, fd, ["told", "value"], PySem.W.mg_of KX G a, F.kp, F.binds (ps := ["told", "value"]) fun _ _ _ _ _ _ us hl => match us, hl with | [_, _], _ => rfl, ok__law_heighted m f__law_whole f__law_ahead F⟩
  have f__law_apart : DefD (tb K (fun i : Nat => ([C0] : List Addr).getD i 0) (fun i : Nat => ([e0, e1, e2, e3, e4, e5, e6, e7, e8, e9, e10, e11] : List Addr).getD i 0) tP qlaw) prg w K mg base "_law_apart" 3 F__law_apart := by
    obtain ⟨a, fd, F⟩ := d__law_apart
    exact ⟨_, fd, ["told", "value"], PySem.W.mg_of KX G a, F.kp, F.binds (ps := ["told", "value"]) fun _ _ _ _ _ _ us hl => match us, hl with | [_, _], _ => rfl, ok__law_apart m f__law_whole f__law_ahead F⟩
  have m_Calendar_with_part : MethD (tb K (fun i : Nat => ([C0] : List Addr).getD i 0) (fun i : Nat => ([e0, e1, e2, e3, e4, e5, e6, e7, e8, e9, e10, e11] : List Addr).getD i 0) tP qlaw) prg w K mg base 0 "with_part" 10 F_Calendar_with_part := by
    obtain ⟨a, i, fd, F⟩ := d_Calendar_with_part
    exact ⟨by show 0 < 1; decide, (by show ∀ j, j < 8 → nmF j ≠ "with_part"; decide +kernel), _, fd, ["self", "word", "value"], ⟨a, i, F.kp⟩, F.binds (ps := ["self", "word", "value"]) fun _ _ _ _ _ _ us hl => match us, hl with | [_, _, _], _ => rfl, ok_Calendar_with_part m mk_Calendar f_replaced f_place_of F⟩
  have m_Calendar_with_year : MethD (tb K (fun i : Nat => ([C0] : List Addr).getD i 0) (fun i : Nat => ([e0, e1, e2, e3, e4, e5, e6, e7, e8, e9, e10, e11] : List Addr).getD i 0) tP qlaw) prg w K mg base 0 "with_year" 11 F_Calendar_with_year := by
    obtain ⟨a, i, fd, F⟩ := d_Calendar_with_year
    exact ⟨by show 0 < 1; decide, (by show ∀ j, j < 8 → nmF j ≠ "with_year"; decide +kernel), _, fd, ["self", "number", "leap"], ⟨a, i, F.kp⟩, F.binds (ps := ["self", "number", "leap"]) fun _ _ _ _ _ _ us hl => match us, hl with | [_, _, _], _ => rfl, ok_Calendar_with_year m f_replaced m_Calendar_with_part f_is_within er_Unknown F⟩
  have eq_Calendar : EqD (tb K (fun i : Nat => ([C0] : List Addr).getD i 0) (fun i : Nat => ([e0, e1, e2, e3, e4, e5, e6, e7, e8, e9, e10, e11] : List Addr).getD i 0) tP qlaw) prg w K mg base 0 2 F_Calendar___eq__ := by
    obtain ⟨a, i, fd, F⟩ := d_Calendar___eq__
    exact ⟨by show 0 < 1; decide, eq_of_beq (allR b9 0 (by decide)), _, fd, ["self", "other"], a, i, F.binds (ps := ["self", "other"]) fun _ _ _ _ _ _ us hl => match us, hl with | [_, _], _ => rfl, ok_Calendar___eq__ m  F⟩
  have f__law_alike : DefD (tb K (fun i : Nat => ([C0] : List Addr).getD i 0) (fun i : Nat => ([e0, e1, e2, e3, e4, e5, e6, e7, e8, e9, e10, e11] : List Addr).getD i 0) tP qlaw) prg w K mg base "_law_alike" 8 (F__law_alike 6) := by
    obtain ⟨a, fd, F⟩ := d__law_alike
    have bb : Binds K fd ["found", "due"] [] := F.binds (ps := ["found", "due"]) fun _ _ _ _ _ _ us hl => match us, hl with | [_, _], _ => rfl
    exact ⟨_, fd, ["found", "due"], PySem.W.mg_of KX G a, F.kp, bb, ok__law_alike m  F (PySem.W.mg_of KX G a) F.kp bb 6⟩
  have f__law_spoiled : DefD (tb K (fun i : Nat => ([C0] : List Addr).getD i 0) (fun i : Nat => ([e0, e1, e2, e3, e4, e5, e6, e7, e8, e9, e10, e11] : List Addr).getD i 0) tP qlaw) prg w K mg base "_law_spoiled" 7 (F__law_spoiled 3) := by
    obtain ⟨a, fd, F⟩ := d__law_spoiled
    have bb : Binds K fd ["row", "value"] [] := F.binds (ps := ["row", "value"]) fun _ _ _ _ _ _ us hl => match us, hl with | [_, _], _ => rfl
    exact ⟨_, fd, ["row", "value"], PySem.W.mg_of KX G a, F.kp, bb, ok__law_spoiled m f__law_taken f__law_pick F (PySem.W.mg_of KX G a) F.kp bb 3⟩
  have fr_refusal : DefR (tb K (fun i : Nat => ([C0] : List Addr).getD i 0) (fun i : Nat => ([e0, e1, e2, e3, e4, e5, e6, e7, e8, e9, e10, e11] : List Addr).getD i 0) tP qlaw) prg w K mg base "_law_refusal" 11 inE F__law_refusal := by
    obtain ⟨a, fd, F⟩ := d__law_refusal
    exact ⟨_, fd, ["e"], PySem.W.mg_of KX G a, F.kp, F.binds (ps := ["e"]) fun _ _ _ _ _ _ us hl => match us, hl with | [_], _ => rfl, (ok__law_refusal m  F).mono (by decide)⟩
  have g__law_same : DefG (tb K (fun i : Nat => ([C0] : List Addr).getD i 0) (fun i : Nat => ([e0, e1, e2, e3, e4, e5, e6, e7, e8, e9, e10, e11] : List Addr).getD i 0) tP qlaw) prg w K mg base "_law_same" 2 F__law_same := by
    obtain ⟨a, fd, F⟩ := d__law_same
    exact ⟨_, fd, ["found", "due"], PySem.W.mg_of KX G a, F.kp, F.binds (ps := ["found", "due"]) fun _ _ _ _ _ _ us hl => match us, hl with | [_, _], _ => rfl, ok__law_same m  F⟩
  obtain ⟨_, fdT, FT⟩ := id d__law_told
  have bT : Binds K fdT ["call"] [] := FT.binds (ps := ["call"]) fun _ _ _ _ _ _ us hl => match us, hl with | [_], _ => rfl
  exact ok_law m fr_refusal ⟨PySem.W.mg_of KX G d__law_told.1, FT, bT⟩ m_Calendar_with_part g__law_same m_Calendar_with_year mk_Calendar f__law_at eq_Calendar f_is_calendar_paper f_evenest f__law_pick f_excess_of f__law_taken f__law_alike f__law_heighted f__law_apart f_are_worst f_are_heights f_calendar_paper f__law_spoiled f__law_uneven f_least_uneven f__law_whole f_worst_years f_is_calendar f_is_even f_unevenness f__law_ahead f__law_calendar FL hcode TB
end KA

set_option Elab.async false
set_option linter.all false
set_option maxRecDepth 100000
open PySem PySem.W PyProof.Rows in
set_option maxRecDepth 100000 in
set_option maxHeartbeats 0 in
set_option pp.maxSteps 300 in
theorem PySem.Challenge.cw_waterhours_k14_whole_calendars_holds : PySem.Challenge.rw_waterhours_k14_whole_calendars.Holds := by
  w_on; o_law; k_head; (case hw => w_witness2)
  k_fill
  refine DL.walk_G (l := PySem.Challenge.rw_waterhours_k14_whole_calendars) (n := 63) (k := 14) (x := "script") ?g1 ?g2 ?g3 ?g4 ?g5 (fun w h Y => PySem.W.km_in_of Y) ?F
  case g1 => rfl
  case g2 => decide
  case g3 => rfl
  case g4 => exact ⟨rfl, by decide, by decide⟩
  case g5 => first | rfl | decide +kernel | kernel_rfl
  case F =>
    intro w mg fa h KX G hmg own
    refine' KA.top_mk KX G hmg own ?keeps ?aC0 ?aE0 ?aE1 ?aE2 ?aE3 ?aE4 ?aE5 ?aE6 ?aE7 ?aE8 ?aE9 ?aK_PARTS ?lK_PARTS ?aK_MOST_YEARS ?aK_MOST_UNEVEN ?z_len ?z_isinstance ?z_int ?z_abs ?z_sum ?z_max ?z_min ?z_all ?z_tuple ?z_list ?z_range ?z_enumerate ?z_zip ?z_repr ?z_bool ?z_str ?z_ValueError ?z_super ?d_is_whole ?d_is_within ?d_is_row ?d_wrong_number ?d_is_year ?d_require_part ?d_first_wrong ?d_wrong_place ?d_require_parts ?d_replaced ?d_place_of ?d_is_calendar ?d_heights_of ?d_unevenness ?d_is_even ?d_excess_of ?d_worst_years ?d_are_worst ?d_apart ?d_are_heights ?d_raised_heights ?d_common ?d_evenest ?d_least_uneven ?d_calendar_paper ?d_is_calendar_paper ?d__law_taken ?d__law_pick ?d__law_at ?d__law_whole ?d__law_calendar ?d__law_ahead ?d__law_uneven ?d__law_heighted ?d__law_apart ?d__law_alike ?d__law_spoiled ?d__law_refusal ?d__law_same ?d__law_told ?dL ?d_Calendar___init__ ?d_Calendar_with_part ?d_Calendar_with_year ?d_Calendar___eq__ ?cl0 ?mk0 ?kp0 ?err_BadPart ?err_BadNumber ?err_Unknown ?b1 ?b2 ?b3 ?b4 ?b5 ?b6 ?b7 ?b8 ?x1 ?x2 ?x3 ?x4 ?x5 ?x6 ?x7 ?x8 ?x9 ?x10 ?x11 ?b9
    (case keeps => exact fun ns _ _ => KL.law_true ns)
    (case aC0 => (k_is))
    (case aE0 => (k_is))
    (case aE1 => (k_is))
    (case aE2 => (k_is))
    (case aE3 => (k_is))
    (case aE4 => (k_is))
    (case aE5 => (k_is))
    (case aE6 => (k_is))
    (case aE7 => (k_is))
    (case aE8 => (k_is))
    (case aE9 => (k_is))
    (case aK_PARTS => (k_is))
    (case lK_PARTS => (k_is))
    (case aK_MOST_YEARS => (k_is))
    (case aK_MOST_UNEVEN => (k_is))
    (case z_len => (k_is))
    (case z_isinstance => (k_is))
    (case z_int => (k_is))
    (case z_abs => (k_is))
    (case z_sum => (k_is))
    (case z_max => (k_is))
    (case z_min => (k_is))
    (case z_all => (k_is))
    (case z_tuple => (k_is))
    (case z_list => (k_is))
    (case z_range => (k_is))
    (case z_enumerate => (k_is))
    (case z_zip => (k_is))
    (case z_repr => (k_is))
    (case z_bool => (k_is))
    (case z_str => (k_is))
    (case z_ValueError => (k_is))
    (case z_super => (k_is))
    (case d_is_whole => (refine' KA.def_mk ?a ?l ?c ?k; (case a => k_is); (case l => k_is); (case c => k_is); (case k => k_is)))
    (case d_is_within => (refine' KA.def_mk ?a ?l ?c ?k; (case a => k_is); (case l => k_is); (case c => k_is); (case k => k_is)))
    (case d_is_row => (refine' KA.def_mk ?a ?l ?c ?k; (case a => k_is); (case l => k_is); (case c => k_is); (case k => k_is)))
    (case d_wrong_number => (refine' KA.def_mk ?a ?l ?c ?k; (case a => k_is); (case l => k_is); (case c => k_is); (case k => k_is)))
    (case d_is_year => (refine' KA.def_mk ?a ?l ?c ?k; (case a => k_is); (case l => k_is); (case c => k_is); (case k => k_is)))
    (case d_require_part => (refine' KA.def_mk ?a ?l ?c ?k; (case a => k_is); (case l => k_is); (case c => k_is); (case k => k_is)))
    (case d_first_wrong => (refine' KA.def_mk ?a ?l ?c ?k; (case a => k_is); (case l => k_is); (case c => k_is); (case k => k_is)))
    (case d_wrong_place => (refine' KA.def_mk ?a ?l ?c ?k; (case a => k_is); (case l => k_is); (case c => k_is); (case k => k_is)))
    (case d_require_parts => (refine' KA.def_mk ?a ?l ?c ?k; (case a => k_is); (case l => k_is); (case c => k_is); (case k => k_is)))
    (case d_replaced => (refine' KA.def_mk ?a ?l ?c ?k; (case a => k_is); (case l => k_is); (case c => k_is); (case k => k_is)))
    (case d_place_of => (refine' KA.def_mk ?a ?l ?c ?k; (case a => k_is); (case l => k_is); (case c => k_is); (case k => k_is)))
    (case d_is_calendar => (refine' KA.def_mk ?a ?l ?c ?k; (case a => k_is); (case l => k_is); (case c => k_is); (case k => k_is)))
    (case d_heights_of => (refine' KA.def_mk ?a ?l ?c ?k; (case a => k_is); (case l => k_is); (case c => k_is); (case k => k_is)))
    (case d_unevenness => (refine' KA.def_mk ?a ?l ?c ?k; (case a => k_is); (case l => k_is); (case c => k_is); (case k => k_is)))
    (case d_is_even => (refine' KA.def_mk ?a ?l ?c ?k; (case a => k_is); (case l => k_is); (case c => k_is); (case k => k_is)))
    (case d_excess_of => (refine' KA.def_mk ?a ?l ?c ?k; (case a => k_is); (case l => k_is); (case c => k_is); (case k => k_is)))
    (case d_worst_years => (refine' KA.def_mk ?a ?l ?c ?k; (case a => k_is); (case l => k_is); (case c => k_is); (case k => k_is)))
    (case d_are_worst => (refine' KA.def_mk ?a ?l ?c ?k; (case a => k_is); (case l => k_is); (case c => k_is); (case k => k_is)))
    (case d_apart => (refine' KA.def_mk ?a ?l ?c ?k; (case a => k_is); (case l => k_is); (case c => k_is); (case k => k_is)))
    (case d_are_heights => (refine' KA.def_mk ?a ?l ?c ?k; (case a => k_is); (case l => k_is); (case c => k_is); (case k => k_is)))
    (case d_raised_heights => (refine' KA.def_mk ?a ?l ?c ?k; (case a => k_is); (case l => k_is); (case c => k_is); (case k => k_is)))
    (case d_common => (refine' KA.def_mk ?a ?l ?c ?k; (case a => k_is); (case l => k_is); (case c => k_is); (case k => k_is)))
    (case d_evenest => (refine' KA.def_mk ?a ?l ?c ?k; (case a => k_is); (case l => k_is); (case c => k_is); (case k => k_is)))
    (case d_least_uneven => (refine' KA.def_mk ?a ?l ?c ?k; (case a => k_is); (case l => k_is); (case c => k_is); (case k => k_is)))
    (case d_calendar_paper => (refine' KA.def_mk ?a ?l ?c ?k; (case a => k_is); (case l => k_is); (case c => k_is); (case k => k_is)))
    (case d_is_calendar_paper => (refine' KA.def_mk ?a ?l ?c ?k; (case a => k_is); (case l => k_is); (case c => k_is); (case k => k_is)))
    (case d__law_taken => (refine' KA.def_mk ?a ?l ?c ?k; (case a => k_is); (case l => k_is); (case c => k_is); (case k => k_is)))
    (case d__law_pick => (refine' KA.def_mk ?a ?l ?c ?k; (case a => k_is); (case l => k_is); (case c => k_is); (case k => k_is)))
    (case d__law_at => (refine' KA.def_mk ?a ?l ?c ?k; (case a => k_is); (case l => k_is); (case c => k_is); (case k => k_is)))
    (case d__law_whole => (refine' KA.def_mk ?a ?l ?c ?k; (case a => k_is); (case l => k_is); (case c => k_is); (case k => k_is)))
    (case d__law_calendar => (refine' KA.def_mk ?a ?l ?c ?k; (case a => k_is); (case l => k_is); (case c => k_is); (case k => k_is)))
    (case d__law_ahead => (refine' KA.def_mk ?a ?l ?c ?k; (case a => k_is); (case l => k_is); (case c => k_is); (case k => k_is)))
    (case d__law_uneven => (refine' KA.def_mk ?a ?l ?c ?k; (case a => k_is); (case l => k_is); (case c => k_is); (case k => k_is)))
    (case d__law_heighted => (refine' KA.def_mk ?a ?l ?c ?k; (case a => k_is); (case l => k_is); (case c => k_is); (case k => k_is)))
    (case d__law_apart => (refine' KA.def_mk ?a ?l ?c ?k; (case a => k_is); (case l => k_is); (case c => k_is); (case k => k_is)))
    (case d__law_alike => (refine' KA.def_mk ?a ?l ?c ?k; (case a => k_is); (case l => k_is); (case c => k_is); (case k => k_is)))
    (case d__law_spoiled => (refine' KA.def_mk ?a ?l ?c ?k; (case a => k_is); (case l => k_is); (case c => k_is); (case k => k_is)))
    (case d__law_refusal => (refine' KA.def_mk ?a ?l ?c ?k; (case a => k_is); (case l => k_is); (case c => k_is); (case k => k_is)))
    (case d__law_same => (refine' KA.def_mk ?a ?l ?c ?k; (case a => k_is); (case l => k_is); (case c => k_is); (case k => k_is)))
    (case d__law_told => (refine' KA.def_mk ?a ?l ?c ?k; (case a => k_is); (case l => k_is); (case c => k_is); (case k => k_is)))
    (case dL => (refine' KA.law_mk ?a ?l ?c ?k ?lc ?v11 ?g11 ?g18 ?g7 ?g9 ?g10 ?ne ?out; (case a => k_is); (case l => k_is); (case c => k_is); (case k => k_is); (case lc => k_is); (case v11 => rfl); (case g11 => rfl); (case g18 => rfl); (case g7 => rfl); (case g9 => rfl); (case g10 => rfl); (case ne => decide); (case out => kernel_rfl)))
    (case d_Calendar___init__ => (refine' KA.meth_mk ?a ?i ?l ?c ?k; (case a => k_is); (case i => k_is); (case l => k_is); (case c => k_is); (case k => k_is)))
    (case d_Calendar_with_part => (refine' KA.meth_mk ?a ?i ?l ?c ?k; (case a => k_is); (case i => k_is); (case l => k_is); (case c => k_is); (case k => k_is)))
    (case d_Calendar_with_year => (refine' KA.meth_mk ?a ?i ?l ?c ?k; (case a => k_is); (case i => k_is); (case l => k_is); (case c => k_is); (case k => k_is)))
    (case d_Calendar___eq__ => (refine' KA.meth_mk ?a ?i ?l ?c ?k; (case a => k_is); (case i => k_is); (case l => k_is); (case c => k_is); (case k => k_is)))
    (case cl0 => (refine' L2.Cls.mk ?a ?b ?c ?d; (case a => k_is); (case b => k_is); (case c => k_is); (case d => k_is)))
    (case mk0 => (k_is))
    (case kp0 => (k_is))
    (case err_BadPart => (refine' KA.err_mk KX G ?lC ?rv ?sa ?exC ?tyC ?kC ?iC ?tI ?lf ?hcd ?lcd ?v2 ?pf ?lcc ?sub ?sup ?ve ?any ?zs ?top ?par ?nf; (case lC => k_is); (case rv => kernel_rfl); (case sa => k_is); (case exC => k_is); (case tyC => k_is); (case kC => k_is); (case iC => k_is); (case tI => k_is); (case lf => k_is); (case hcd => k_is); (case lcd => k_is); (case v2 => rfl); (case pf => kernel_rfl); (case lcc => k_is); (case sub => k_is); (case sup => kernel_rfl); (case ve => k_is); (case any => k_is); (case zs => k_is); (case top => kernel_rfl); (case par => exact ⟨_, rfl, rfl⟩); (case nf => kernel_rfl)))
    (case err_BadNumber => (refine' KA.err_mk KX G ?lC ?rv ?sa ?exC ?tyC ?kC ?iC ?tI ?lf ?hcd ?lcd ?v2 ?pf ?lcc ?sub ?sup ?ve ?any ?zs ?top ?par ?nf; (case lC => k_is); (case rv => kernel_rfl); (case sa => k_is); (case exC => k_is); (case tyC => k_is); (case kC => k_is); (case iC => k_is); (case tI => k_is); (case lf => k_is); (case hcd => k_is); (case lcd => k_is); (case v2 => rfl); (case pf => kernel_rfl); (case lcc => k_is); (case sub => k_is); (case sup => kernel_rfl); (case ve => k_is); (case any => k_is); (case zs => k_is); (case top => kernel_rfl); (case par => exact ⟨_, rfl, rfl⟩); (case nf => kernel_rfl)))
    (case err_Unknown => (refine' KA.err_mk KX G ?lC ?rv ?sa ?exC ?tyC ?kC ?iC ?tI ?lf ?hcd ?lcd ?v2 ?pf ?lcc ?sub ?sup ?ve ?any ?zs ?top ?par ?nf; (case lC => k_is); (case rv => kernel_rfl); (case sa => k_is); (case exC => k_is); (case tyC => k_is); (case kC => k_is); (case iC => k_is); (case tI => k_is); (case lf => k_is); (case hcd => k_is); (case lcd => k_is); (case v2 => rfl); (case pf => kernel_rfl); (case lcc => k_is); (case sub => k_is); (case sup => kernel_rfl); (case ve => k_is); (case any => k_is); (case zs => k_is); (case top => kernel_rfl); (case par => exact ⟨_, rfl, rfl⟩); (case nf => kernel_rfl)))
    (case b1 => (kernel_rfl))
    (case b2 => (kernel_rfl))
    (case b3 => (kernel_rfl))
    (case b4 => (kernel_rfl))
    (case b5 => (kernel_rfl))
    (case b6 => (kernel_rfl))
    (case b7 => (kernel_rfl))
    (case b8 => (kernel_rfl))
    (case x1 => (kernel_rfl))
    (case x2 => (kernel_rfl))
    (case x3 => (kernel_rfl))
    (case x4 => (kernel_rfl))
    (case x5 => (kernel_rfl))
    (case x6 => (kernel_rfl))
    (case x7 => (kernel_rfl))
    (case x8 => (kernel_rfl))
    (case x9 => (kernel_rfl))
    (case x10 => (kernel_rfl))
    (case x11 => (kernel_rfl))
    (case b9 => (kernel_rfl))

