import PyProof.Rows.All
import Wide.All
import OpenK.AllK
import Wide.FinOn
import HandS.ForMost
import HandS.More
import HandS.Defaults
import HandS.HeadHook1
import HandS.Deep
import HandS.SortInts
import HandS.SortRule
import HandS.IsInst
import HandS.Wide
import HandS.Style
import KE.IntTextLaws
import HandS.SetFor
import HandS.Replace
import HandS.Conv
import HandS.Zip
import HandS.RaiseMore
import HandS.Small
import KE.KDictZip
import KE.KDictList
import KE.DataMinMax
import HandS.TupLen
import KE.KDictSum
import HandS.Comp
import HandS.TryOnly
import HandS.Head0
import HandS.Head1
import HandS.Head2
import HandS.HeadEnd
import HandS.HeadHook2
import HandS.HeadHook4
import KE.KIntText
import PySem.Challenge.RW_twostamps_k39_moves_told
set_option Elab.async false
set_option linter.all false
set_option maxRecDepth 100000
set_option maxHeartbeats 0
set_option autoImplicit false
/-! Data above the hand layer: what a slot holds is a tree of data; what is written to is a cell. -/
namespace L3
open PySem PySem.Spec PyProof.Rows L2

/-- data: bad is anything; lst o: a list that nobody writes to (o: perhaps one that stood at the def's entry); ptr: a cell -/
inductive D where
  | bad | non | bl (b : Bool) | int (i : Int) | str (s : Str)
  | lst (o : Bool) (xs : List D) | tup (xs : List D)
  | dk (o : Bool) (ks : List Key) (xs : List D) | dt (o : Bool) (ks : List (List Key)) (xs : List D)
  | obj (nm : Str) (ns : List Str) (xs : List D)
  | ptr (k : Nat)
  deriving Inhabited

/-- what is written to -/
inductive Cell where
  | lst (xs : List D) | dk (ks : List Key) (xs : List D) | dt (ks : List (List Key)) (xs : List D)
  | ins (C : Str) (ns : List Str) (xs : List D) | dead
  deriving Inhabited

abbrev Slots := List (Option D)
abbrev Store := List Cell
abbrev Ads := List (Option Addr)
abbrev Av := Addr → Prop

/-- a list, a tuple that may be read: tracked and not avoided, or of the written part -/
def LstA (av : Av) (H : Hp) (a : Addr) (vs : List V) : Prop := Rd H a (.lst vs) ∧ ¬ av a
def TupA (av : Av) (H : Hp) (a : Addr) (vs : List V) : Prop := H a = some (.tup vs) ∧ ¬ av a
theorem LstA.sq {K : PySem.W.Frag} {av : Av} {H : Hp} {a : Addr} {vs : List V} (h : LstA av H a vs) : SqL K H a vs := .inl h.1
theorem TupA.sq {K : PySem.W.Frag} {av : Av} {H : Hp} {a : Addr} {vs : List V} (h : TupA av H a vs) : SqT K H a vs := .inl (.inl h.1)
mutual
inductive Den (K : PySem.W.Frag) (H0 : Hp) (av : Av) (ad : Ads) (H : Hp) : V → D → Prop
  | bad {v : V} : Den K H0 av ad H v .bad
  | non : Den K H0 av ad H .non .non
  | bl {b : Bool} : Den K H0 av ad H (.bl b) (.bl b)
  | int {i : Int} : Den K H0 av ad H (.int i) (.int i)
  | str {s : Str} : Den K H0 av ad H (.str s) (.str s)
  | lst {a : Addr} {vs : List V} {o : Bool} {ds : List D} : LstA av H a vs → (o = false → H0 a = none ∧ H a = some (.lst vs)) → DenAll K H0 av ad H vs ds → Den K H0 av ad H (.ref a) (.lst o ds)
  | tup {a : Addr} {vs : List V} {ds : List D} : TupA av H a vs → DenAll K H0 av ad H vs ds → Den K H0 av ad H (.ref a) (.tup ds)
  | dk {a : Addr} {kvs : List (Key × V)} {o : Bool} {ks : List Key} {ds : List D} : Rd H a (.dK kvs) → ¬ av a → (o = false → H0 a = none) → kvs.map (·.1) = ks → DenAll K H0 av ad H (kvs.map (·.2)) ds → Den K H0 av ad H (.ref a) (.dk o ks ds)
  | dt {a : Addr} {kvs : List (List Key × V)} {o : Bool} {ks : List (List Key)} {ds : List D} : Rd H a (.dT kvs) → ¬ av a → (o = false → H0 a = none) → kvs.map (·.1) = ks → DenAll K H0 av ad H (kvs.map (·.2)) ds → Den K H0 av ad H (.ref a) (.dt o ks ds)
  | obj {a dx : Addr} {nm : Str} {fs : List (Str × V)} {ns : List Str} {ds : List D} : H a = some (.ins (He.ga K nm) dx fs) → ¬ av a → fs.map (·.1) = ns → DenAll K H0 av ad H (fs.map (·.2)) ds → Den K H0 av ad H (.ref a) (.obj nm ns ds)
  | ptr {a : Addr} {k : Nat} : ad[k]? = some (some a) → Den K H0 av ad H (.ref a) (.ptr k)
inductive DenAll (K : PySem.W.Frag) (H0 : Hp) (av : Av) (ad : Ads) (H : Hp) : List V → List D → Prop
  | nil : DenAll K H0 av ad H [] []
  | cons {v : V} {vs : List V} {d : D} {ds : List D} : Den K H0 av ad H v d → DenAll K H0 av ad H vs ds → DenAll K H0 av ad H (v :: vs) (d :: ds)
end

/-- what is not avoided stays, and is not avoided -/
def Fz (av : Av) (H : Hp) (av' : Av) (H' : Hp) : Prop := ∀ a o, H a = some o → ¬ av a → H' a = some o ∧ ¬ av' a
theorem Fz.refl {av : Av} {H : Hp} : Fz av H av H := fun _ _ h n => ⟨h, n⟩
theorem Fz.trans {av av1 av2 : Av} {H H1 H2 : Hp} (x : Fz av H av1 H1) (y : Fz av1 H1 av2 H2) : Fz av H av2 H2 := fun a o h n => y a o (x a o h n).1 (x a o h n).2
theorem Fz.same {av : Av} {H H' : Hp} (x : ∀ a o, H a = some o → H' a = some o) : Fz av H av H' := fun a o h n => ⟨x a o h, n⟩
theorem Fz.rd {av av' : Av} {H H' : Hp} {a : Addr} {u : HO} (x : Fz av H av' H') (h : Rd H a u) (n : ¬ av a) : Rd H' a u ∧ ¬ av' a := by
  rcases h with h | ⟨o, h⟩
  · exact ⟨.inl (x _ _ h n).1, (x _ _ h n).2⟩
  · exact ⟨.inr ⟨o, (x _ _ h n).1⟩, (x _ _ h n).2⟩
theorem Fz.lst {av av' : Av} {H H' : Hp} {a : Addr} {vs : List V} (x : Fz av H av' H') (h : LstA av H a vs) : LstA av' H' a vs := x.rd h.1 h.2
theorem Fz.tup {av av' : Av} {H H' : Hp} {a : Addr} {vs : List V} (x : Fz av H av' H') (h : TupA av H a vs) : TupA av' H' a vs := x _ _ h.1 h.2
/-- the cells stay where they are -/
def Pre (ad ad' : Ads) : Prop := ∀ (k : Nat) (a : Addr), ad[k]? = some (some a) → ad'[k]? = some (some a)
theorem Pre.refl {ad : Ads} : Pre ad ad := fun _ _ h => h
theorem Pre.trans {ad ad1 ad2 : Ads} (x : Pre ad ad1) (y : Pre ad1 ad2) : Pre ad ad2 := fun k a h => y k a (x k a h)

section
variable {K : PySem.W.Frag} {H0 : Hp} {av av' : Av} {ad ad' : Ads} {H H' : Hp}
mutual
theorem Den.mono (f : Fz av H av' H') (p : Pre ad ad') : ∀ {v : V} {d : D}, Den K H0 av ad H v d → Den K H0 av' ad' H' v d
  | _, _, .bad => .bad
  | _, _, .non => .non
  | _, _, .bl => .bl
  | _, _, .int => .int
  | _, _, .str => .str
  | _, _, .lst r o x => .lst (f.lst r) (fun z => ⟨(o z).1, (f _ _ (o z).2 r.2).1⟩) (DenAll.mono f p x)
  | _, _, .tup r x => .tup (f.tup r) (DenAll.mono f p x)
  | _, _, .dk r n o k x => .dk (f.rd r n).1 (f.rd r n).2 o k (DenAll.mono f p x)
  | _, _, .dt r n o k x => .dt (f.rd r n).1 (f.rd r n).2 o k (DenAll.mono f p x)
  | _, _, .obj r n k x => .obj (f _ _ r n).1 (f _ _ r n).2 k (DenAll.mono f p x)
  | _, _, .ptr h => .ptr (p _ _ h)
theorem DenAll.mono (f : Fz av H av' H') (p : Pre ad ad') : ∀ {vs : List V} {ds : List D}, DenAll K H0 av ad H vs ds → DenAll K H0 av' ad' H' vs ds
  | _, _, .nil => .nil
  | _, _, .cons a b => .cons (Den.mono f p a) (DenAll.mono f p b)
end
theorem DenAll.length : ∀ {vs : List V} {ds : List D}, DenAll K H0 av ad H vs ds → vs.length = ds.length
  | _, _, .nil => rfl
  | _, _, .cons _ t => congrArg (· + 1) t.length
theorem DenAll.get : ∀ {vs : List V} {ds : List D} {i : Nat} {d : D}, DenAll K H0 av ad H vs ds → ds[i]? = some d → ∃ v, vs[i]? = some v ∧ Den K H0 av ad H v d
  | _, _, _, _, .nil, e => by simp at e
  | _, _, 0, _, .cons r _, e => by simp at e; subst e; exact ⟨_, rfl, r⟩
  | _, _, i + 1, d, .cons _ t, e => by
    obtain ⟨u, h1, h2⟩ := DenAll.get (i := i) (d := d) t (by simpa using e)
    exact ⟨u, by simpa using h1, h2⟩
theorem DenAll.get' : ∀ {vs : List V} {ds : List D} {i : Nat} {v : V}, DenAll K H0 av ad H vs ds → vs[i]? = some v → ∃ d, ds[i]? = some d ∧ Den K H0 av ad H v d
  | _, _, _, _, .nil, e => by simp at e
  | _, _, 0, _, .cons r _, e => by simp at e; subst e; exact ⟨_, rfl, r⟩
  | _, _, i + 1, d, .cons _ t, e => by
    obtain ⟨u, h1, h2⟩ := DenAll.get' (i := i) t (by simpa using e)
    exact ⟨u, by simpa using h1, h2⟩
theorem DenAll.append : ∀ {vs us : List V} {ds es : List D}, DenAll K H0 av ad H vs ds → DenAll K H0 av ad H us es → DenAll K H0 av ad H (vs ++ us) (ds ++ es)
  | _, _, _, _, .nil, s => s
  | _, _, _, _, .cons r t, s => .cons r (t.append s)
theorem DenAll.set {v : V} {d : D} (r : Den K H0 av ad H v d) : ∀ {vs : List V} {ds : List D} (i : Nat), DenAll K H0 av ad H vs ds → DenAll K H0 av ad H (vs.set i v) (ds.set i d)
  | _, _, _, .nil => .nil
  | _, _, 0, .cons _ t => .cons r t
  | _, _, i + 1, .cons q t => .cons q (DenAll.set r i t)
theorem DenAll.take : ∀ {vs : List V} {ds : List D} (n : Nat), DenAll K H0 av ad H vs ds → DenAll K H0 av ad H (vs.take n) (ds.take n)
  | _, _, 0, _ => .nil
  | _, _, _ + 1, .nil => .nil
  | _, _, n + 1, .cons r t => .cons r (t.take n)
theorem DenAll.drop : ∀ {vs : List V} {ds : List D} (n : Nat), DenAll K H0 av ad H vs ds → DenAll K H0 av ad H (vs.drop n) (ds.drop n)
  | _, _, 0, r => r
  | _, _, _ + 1, .nil => .nil
  | _, _, n + 1, .cons _ t => t.drop n
theorem DenAll.reverse {vs : List V} {ds : List D} (x : DenAll K H0 av ad H vs ds) : DenAll K H0 av ad H vs.reverse ds.reverse := by
  induction vs generalizing ds with
  | nil => cases x; exact .nil
  | cons v vs ih =>
    cases x with
    | cons a b => rw [List.reverse_cons, List.reverse_cons]; exact (ih b).append (.cons a .nil)
theorem DenAll.erase : ∀ {vs : List V} {ds : List D} (n : Nat), DenAll K H0 av ad H vs ds → DenAll K H0 av ad H (vs.eraseIdx n) (ds.eraseIdx n)
  | _, _, _, .nil => .nil
  | _, _, 0, .cons _ t => t
  | _, _, n + 1, .cons r t => .cons r (t.erase n)
theorem DenAll.dropLast {vs : List V} {ds : List D} (x : DenAll K H0 av ad H vs ds) : DenAll K H0 av ad H vs.dropLast ds.dropLast := by
  rw [List.dropLast_eq_take, List.dropLast_eq_take, x.length]
  exact x.take _
theorem DenAll.flat {α : Type} {f : α → List V} {g : α → List D} : ∀ l : List α, (∀ x ∈ l, DenAll K H0 av ad H (f x) (g x)) → DenAll K H0 av ad H (l.flatMap f) (l.flatMap g)
  | [], _ => .nil
  | x :: l, h => by
    rw [List.flatMap_cons, List.flatMap_cons]
    exact (h x (List.mem_cons_self ..)).append (DenAll.flat l fun y hy => h y (List.mem_cons_of_mem _ hy))
end

def CellOk (K : PySem.W.Frag) (H0 : Hp) (av : Av) (ad : Ads) (H : Hp) (a : Addr) : Cell → Prop
  | .lst xs => ∃ vs, H a = some (.lst vs) ∧ DenAll K H0 av ad H vs xs
  | .dk ks xs => ∃ kvs : List (Key × V), H a = some (.dK kvs) ∧ kvs.map (·.1) = ks ∧ DenAll K H0 av ad H (kvs.map (·.2)) xs
  | .dt ks xs => ∃ kvs : List (List Key × V), H a = some (.dT kvs) ∧ kvs.map (·.1) = ks ∧ DenAll K H0 av ad H (kvs.map (·.2)) xs
  | .ins C ns xs => ∃ dx, ∃ fs : List (Str × V), H a = some (.ins (He.ga K C) dx fs) ∧ fs.map (·.1) = ns ∧ DenAll K H0 av ad H (fs.map (·.2)) xs
  | .dead => False
theorem CellOk.there {K : PySem.W.Frag} {H0 : Hp} {av : Av} {ad : Ads} {H : Hp} {a : Addr} {c : Cell} (x : CellOk K H0 av ad H a c) : H a ≠ none := by
  intro e
  cases c with
  | lst _ => obtain ⟨_, h, _⟩ := x; rw [h] at e; cases e
  | dk _ _ => obtain ⟨_, h, _⟩ := x; rw [h] at e; cases e
  | dt _ _ => obtain ⟨_, h, _⟩ := x; rw [h] at e; cases e
  | ins _ _ _ => obtain ⟨_, _, h, _⟩ := x; rw [h] at e; cases e
  | dead => exact x
/-- the cell's own object as it was, the rest may have changed where it is written to -/
theorem CellOk.mono {K : PySem.W.Frag} {H0 : Hp} {av av' : Av} {ad ad' : Ads} {H H' : Hp} {a : Addr} {c : Cell} (f : Fz av H av' H') (p : Pre ad ad') (h : H' a = H a) (x : CellOk K H0 av ad H a c) : CellOk K H0 av' ad' H' a c := by
  cases c with
  | lst _ => obtain ⟨vs, e, r⟩ := x; exact ⟨vs, h.trans e, r.mono f p⟩
  | dk _ _ => obtain ⟨vs, e, k, r⟩ := x; exact ⟨vs, h.trans e, k, r.mono f p⟩
  | dt _ _ => obtain ⟨vs, e, k, r⟩ := x; exact ⟨vs, h.trans e, k, r.mono f p⟩
  | ins _ _ _ => obtain ⟨dx, vs, e, k, r⟩ := x; exact ⟨dx, vs, h.trans e, k, r.mono f p⟩
  | dead => exact x

/-- a def's run: H0 the heap at its entry, A0 the cells that were handed in; av: what data keep clear of; ad: where the cells stand -/
structure Rep (K : PySem.W.Frag) (H0 : Hp) (A0 : List Addr) (av : Av) (ad : Ads) (Γ : Slots) (C : Store) (σ : L2.St) (H : Hp) : Prop where
  sub : ∀ a, some a ∈ ad → av a
  dom : ∀ a, av a → H a ≠ none
  avt : ∀ a xs, av a → H a = some (.tup xs) → False
  nd : ∀ (i j : Nat) (a : Addr), ad[i]? = some (some a) → ad[j]? = some (some a) → i = j
  len : ad.length = C.length
  pre : ∀ (i : Nat) (a : Addr), A0[i]? = some a → ad[i]? = some (some a)
  loc : ∀ (i : Nat) (a : Addr), ad[i]? = some (some a) → A0.length ≤ i → H0 a = none
  keep : ∀ a o, H0 a = some o → a ∉ A0 → H a = some o
  there : ∀ a, H a = none → H0 a = none
  gone : ∀ (i : Nat), ad[i]? = some none → C[i]? = some .dead
  cells : ∀ (i : Nat) (a : Addr) (c : Cell), ad[i]? = some (some a) → C[i]? = some c → CellOk K H0 av ad H a c
  slen : σ.length = Γ.length
  slot : ∀ (i : Nat) d, Γ[i]? = some (some d) → ∃ v, σ[i]? = some (some v) ∧ Den K H0 av ad H v d

section
variable {K : PySem.W.Frag} {H0 : Hp} {A0 : List Addr} {av av' : Av} {ad ad' : Ads} {Γ : Slots} {C : Store} {σ : L2.St} {H H' : Hp}
theorem mem_ads {ad : Ads} {k : Nat} {a : Addr} (h : ad[k]? = some (some a)) : some a ∈ ad := List.mem_of_getElem? h
theorem Rep.av_of (R : Rep K H0 A0 av ad Γ C σ H) {k : Nat} {a : Addr} (h : ad[k]? = some (some a)) : av a := R.sub a (mem_ads h)
/-- the heap grew -/
theorem Rep.same (R : Rep K H0 A0 av ad Γ C σ H) (s : ∀ a o, H a = some o → H' a = some o) : Rep K H0 A0 av ad Γ C σ H' where
  sub := R.sub
  dom := fun a h e => by
    cases q : H a with
    | none => exact R.dom a h q
    | some o => rw [s a o q] at e; cases e
  avt := fun a xs h r => by
    cases q : H a with
    | none => exact R.dom a h q
    | some o =>
      have q' := s a o q
      rw [r] at q'; cases q'; exact R.avt a xs h q
  nd := R.nd
  len := R.len
  pre := R.pre
  loc := R.loc
  keep := fun a o h n => s a o (R.keep a o h n)
  there := fun a e => R.there a (by
    cases q : H a with
    | none => rfl
    | some o => rw [s a o q] at e; cases e)
  gone := R.gone
  cells := fun i a c h1 h2 => by
    refine (R.cells i a c h1 h2).mono (Fz.same s) Pre.refl ?_
    cases q : H a with
    | none => exact absurd q (R.dom a (R.av_of h1))
    | some o => exact s a o q
  slen := R.slen
  slot := fun i d h => by
    obtain ⟨v, h1, h2⟩ := R.slot i d h
    exact ⟨v, h1, h2.mono (Fz.same s) Pre.refl⟩
theorem same_upd {H : Hp} {p : Addr} {o : HO} (n : H p = none) : ∀ a u, H a = some u → upd H p o a = some u := fun a u h => by
  rw [upd_ne (ne_of_none h n)]
  exact h
theorem Rep.new (R : Rep K H0 A0 av ad Γ C σ H) {p : Addr} {o : HO} (n : H p = none) : Rep K H0 A0 av ad Γ C σ (upd H p o) := R.same (same_upd n)
theorem Rep.nav (R : Rep K H0 A0 av ad Γ C σ H) {p : Addr} (n : H p = none) : ¬ av p := fun h => R.dom p h n
/-- more is avoided: an object that H does not know -/
theorem Rep.ban (R : Rep K H0 A0 av ad Γ C σ H) {p : Addr} {o : HO} (n : H p = none) (no : ∀ xs, o ≠ .tup xs) : Rep K H0 A0 (fun a => av a ∨ a = p) ad Γ C σ (upd H p o) := by
  have f : Fz av H (fun a => av a ∨ a = p) (upd H p o) := fun a u h na => ⟨same_upd n a u h, fun z => z.elim na fun e => ne_of_none h n e⟩
  have R' : Rep K H0 A0 av ad Γ C σ (upd H p o) := R.new n
  exact { R' with
    sub := fun a h => .inl (R.sub a h)
    dom := fun a h => h.elim (R'.dom a) fun e => by rw [e, upd_same]; exact fun z => by cases z
    avt := fun a xs h r => by
      rcases h with h | h
      · exact R'.avt a xs h r
      · subst h
        rw [upd_same] at r; exact no xs (Option.some.inj r)
    cells := fun i a c h1 h2 => (R.cells i a c h1 h2).mono f Pre.refl (upd_ne fun e => R.dom a (R.av_of h1) (by rw [e]; exact n))
    slot := fun i d h => by
      obtain ⟨v, h1, h2⟩ := R.slot i d h
      exact ⟨v, h1, h2.mono f Pre.refl⟩ }
/-- less is avoided -/
theorem Rep.unban (R : Rep K H0 A0 av ad Γ C σ H) (h : ∀ a, av' a → av a) (s : ∀ a, some a ∈ ad → av' a) : Rep K H0 A0 av' ad Γ C σ H := by
  have f : Fz av H av' H := fun a u h1 na => ⟨h1, fun z => na (h a z)⟩
  exact { R with
    sub := s
    dom := fun a z => R.dom a (h a z)
    avt := fun a xs z => R.avt a xs (h a z)
    cells := fun i a c h1 h2 => (R.cells i a c h1 h2).mono f Pre.refl rfl
    slot := fun i d h1 => by
      obtain ⟨v, h2, h3⟩ := R.slot i d h1
      exact ⟨v, h2, h3.mono f Pre.refl⟩ }
/-- a slot stored -/
theorem Rep.store (R : Rep K H0 A0 av ad Γ C σ H) {v : V} {d : D} (i : Nat) (x : Den K H0 av ad H v d) : Rep K H0 A0 av ad (Γ.set i (some d)) C (σ.set i (some v)) H :=
  { R with
    slen := by simpa using R.slen
    slot := fun j e h => by
      by_cases hj : i = j
      · subst hj
        have hlt : i < Γ.length := by
          have := (List.getElem?_eq_some_iff.mp h).1
          simpa using this
        rw [List.getElem?_set_self hlt] at h
        cases h
        exact ⟨v, by rw [List.getElem?_set_self (by rw [R.slen]; exact hlt)], x⟩
      · rw [List.getElem?_set_ne hj] at h
        obtain ⟨u, h1, h2⟩ := R.slot j e h
        exact ⟨u, by rw [List.getElem?_set_ne hj]; exact h1, h2⟩ }
/-- slots forgotten -/
theorem Rep.slots (R : Rep K H0 A0 av ad Γ C σ H) {Γ' : Slots} {σ' : L2.St} (hl : σ'.length = Γ'.length) (h : ∀ (i : Nat) d, Γ'[i]? = some (some d) → ∃ v, σ'[i]? = some (some v) ∧ Den K H0 av ad H v d) : Rep K H0 A0 av ad Γ' C σ' H :=
  { R with slen := hl, slot := h }
/-- a list that was just made becomes a cell -/
theorem Rep.push {p : Addr} (R : Rep K H0 A0 (fun a => av a ∨ a = p) ad Γ C σ H) {c : Cell} (n0 : H0 p = none) (np : some p ∉ ad) (sub : ∀ a, some a ∈ ad → av a)
    (ok : CellOk K H0 (fun a => av a ∨ a = p) ad H p c) : Rep K H0 A0 (fun a => av a ∨ a = p) (ad ++ [some p]) Γ (C ++ [c]) σ H := by
  have pr : Pre ad (ad ++ [some p]) := fun k a h => by
    have hlt : k < ad.length := (List.getElem?_eq_some_iff.mp h).1
    rw [List.getElem?_append_left hlt]; exact h
  have back : ∀ k a, (ad ++ [some p])[k]? = some (some a) → ad[k]? = some (some a) ∨ (k = ad.length ∧ a = p) := fun k a h => by
    by_cases hk : k < ad.length
    · rw [List.getElem?_append_left hk] at h; exact .inl h
    · rw [List.getElem?_append_right (Nat.le_of_not_lt hk)] at h
      have : k - ad.length = 0 := by
        have := (List.getElem?_eq_some_iff.mp h).1
        simp at this
        omega
      rw [this] at h
      simp at h
      exact .inr ⟨by omega, h.symm⟩
  have f : Fz (fun a => av a ∨ a = p) H (fun a => av a ∨ a = p) H := Fz.refl
  exact { R with
    sub := fun a h => by
      rcases List.mem_append.mp h with h | h
      · exact .inl (sub a h)
      · simp at h; exact .inr h
    nd := fun i j a h1 h2 => by
      rcases back i a h1 with g1 | ⟨g1, e1⟩ <;> rcases back j a h2 with g2 | ⟨g2, e2⟩
      · exact R.nd i j a g1 g2
      · rw [e2] at g1; exact (np (mem_ads g1)).elim
      · rw [e1] at g2; exact (np (mem_ads g2)).elim
      · omega
    len := by simp [R.len]
    pre := fun i a h => pr i a (R.pre i a h)
    loc := fun i a h hi => by
      rcases back i a h with h | ⟨_, e⟩
      · exact R.loc i a h hi
      · rw [e]; exact n0
    gone := fun i h => by
      by_cases hk : i < ad.length
      · rw [List.getElem?_append_left hk] at h
        rw [List.getElem?_append_left (by rw [← R.len]; exact hk)]
        exact R.gone i h
      · rw [List.getElem?_append_right (Nat.le_of_not_lt hk)] at h
        cases q : i - ad.length with
        | zero => rw [q] at h; simp at h
        | succ n => rw [q] at h; simp at h
    cells := fun i a c' h1 h2 => by
      rcases back i a h1 with h | ⟨e1, e2⟩
      · have hlt : i < C.length := by rw [← R.len]; exact (List.getElem?_eq_some_iff.mp h).1
        rw [List.getElem?_append_left hlt] at h2
        exact (R.cells i a c' h h2).mono f pr rfl
      · subst e2
        rw [e1, R.len, List.getElem?_append_right (Nat.le_refl _)] at h2
        simp at h2
        subst h2
        exact ok.mono f pr rfl
    slot := fun i d h => by
      obtain ⟨v, h1, h2⟩ := R.slot i d h
      exact ⟨v, h1, h2.mono f pr⟩ }
/-- a cell is written to -/
theorem Rep.write (R : Rep K H0 A0 av ad Γ C σ H) {k : Nat} {a : Addr} {o : HO} {c : Cell} (ha : ad[k]? = some (some a)) (hc : k < C.length)
    (no : ∀ xs, o ≠ .tup xs) (ok : ∀ (f : Fz av H av (upd H a o)), CellOk K H0 av ad (upd H a o) a c) : Rep K H0 A0 av ad Γ (C.set k c) σ (upd H a o) := by
  have f : Fz av H av (upd H a o) := fun b u h n => ⟨by
    rw [upd_ne (fun e => n (by rw [e]; exact R.av_of ha))]
    exact h, n⟩
  exact { R with
    dom := fun b h e => by
      by_cases q : b = a
      · subst q; rw [upd_same] at e; cases e
      · rw [upd_ne q] at e; exact R.dom b h e
    avt := fun b xs h r => by
      by_cases q : b = a
      · subst q
        rw [upd_same] at r; exact no xs (Option.some.inj r)
      · rw [upd_ne q] at r; exact R.avt b xs h r
    len := by simpa using R.len
    keep := fun b u h n => by
      have q : b ≠ a := fun e => by
        subst e
        by_cases hk : k < A0.length
        · have e2 := R.pre k _ (List.getElem?_eq_getElem hk)
          rw [ha] at e2
          cases e2
          exact n (List.getElem_mem ..)
        · rw [R.loc k _ ha (Nat.le_of_not_lt hk)] at h; cases h
      rw [upd_ne q]; exact R.keep b u h n
    there := fun b e => by
      by_cases q : b = a
      · subst q; rw [upd_same] at e; cases e
      · rw [upd_ne q] at e; exact R.there b e
    gone := fun i h => by
      have q : k ≠ i := fun e => by subst e; rw [ha] at h; cases h
      rw [List.getElem?_set_ne q]
      exact R.gone i h
    cells := fun i b c' h1 h2 => by
      by_cases hi : i = k
      · subst hi
        rw [ha] at h1; cases h1
        rw [List.getElem?_set_self hc] at h2; cases h2
        exact ok f
      · have q : b ≠ a := fun e => hi (R.nd i k a (by rw [← e]; exact h1) ha)
        rw [List.getElem?_set_ne (Ne.symm hi)] at h2
        exact (R.cells i b c' h1 h2).mono f Pre.refl (upd_ne q)
    slot := fun i d h => by
      obtain ⟨v, h1, h2⟩ := R.slot i d h
      exact ⟨v, h1, h2.mono f Pre.refl⟩ }
end

/-- from one state of a run to a later one -/
structure Le (av : Av) (ad : Ads) (H : Hp) (av' : Av) (ad' : Ads) (H' : Hp) : Prop where
  fz : Fz av H av' H'
  pre : Pre ad ad'
  there : ∀ a, H' a = none → H a = none
  avm : ∀ a, av a → av' a
  adn : ∀ a, some a ∈ ad' → some a ∈ ad ∨ H a = none
  kp : ∀ a o, H a = some o → some a ∉ ad → H' a = some o
theorem Le.refl {av : Av} {ad : Ads} {H : Hp} : Le av ad H av ad H := ⟨Fz.refl, Pre.refl, fun _ h => h, fun _ h => h, fun _ h => .inl h, fun _ _ h _ => h⟩
theorem Le.trans {av av1 av2 : Av} {ad ad1 ad2 : Ads} {H H1 H2 : Hp} (x : Le av ad H av1 ad1 H1) (y : Le av1 ad1 H1 av2 ad2 H2) : Le av ad H av2 ad2 H2 :=
  ⟨x.fz.trans y.fz, x.pre.trans y.pre, fun a h => x.there a (y.there a h), fun a h => y.avm a (x.avm a h), fun a h => (y.adn a h).elim (x.adn a) fun z => .inr (x.there a z), fun a o h n => y.kp a o (x.kp a o h n) fun z => (x.adn a z).elim n fun e => by rw [h] at e; cases e⟩
theorem Le.same {av : Av} {ad : Ads} {H H' : Hp} (s : ∀ a o, H a = some o → H' a = some o) : Le av ad H av ad H' := ⟨Fz.same s, Pre.refl, (fun a e => by
  cases q : H a with
  | none => rfl
  | some o => (rw [s a o q] at e; cases e)), fun _ h => h, fun _ h => .inl h, fun a o h _ => s a o h⟩
theorem Le.new {av : Av} {ad : Ads} {H : Hp} {p : Addr} {o : HO} (n : H p = none) : Le av ad H av ad (upd H p o) := Le.same (same_upd n)
theorem Den.le {K : PySem.W.Frag} {H0 : Hp} {av av' : Av} {ad ad' : Ads} {H H' : Hp} {v : V} {d : D} (x : Den K H0 av ad H v d) (l : Le av ad H av' ad' H') : Den K H0 av' ad' H' v d := x.mono l.fz l.pre
theorem DenAll.le {K : PySem.W.Frag} {H0 : Hp} {av av' : Av} {ad ad' : Ads} {H H' : Hp} {v : List V} {d : List D} (x : DenAll K H0 av ad H v d) (l : Le av ad H av' ad' H') : DenAll K H0 av' ad' H' v d := x.mono l.fz l.pre
end L3

namespace L3
open PySem PySem.Spec PyProof.Rows L2

abbrev EV := Slots → Store → (D → Store → Prop) → Prop
abbrev BV := Slots → Store → (Bool → Store → Prop) → Prop
abbrev AV := Slots → Store → (List D → Store → Prop) → Prop
/-- a new object: what it holds -/
abbrev FV := Slots → Store → (Cell → Store → Prop) → Prop

section
variable (K : PySem.W.Frag)
def SimE (t : TE) (E : EV) : Prop := ∀ (H0 : Hp) (A0 : List Addr) (av : Av) (ad : Ads) (Γ : Slots) (C : Store) (σ : L2.St) (H : Hp) (Q3 : D → Store → Prop) (Q : VK), Rep K H0 A0 av ad Γ C σ H → E Γ C Q3 →
  (∀ (v : V) (H' : Hp) (av' : Av) (ad' : Ads) (d : D) (C' : Store), Rep K H0 A0 av' ad' Γ C' σ H' → Le av ad H av' ad' H' → Den K H0 av' ad' H' v d → Q3 d C' → Q v H') → t σ H Q
def SimT (t : TT) (E : BV) : Prop := ∀ (H0 : Hp) (A0 : List Addr) (av : Av) (ad : Ads) (Γ : Slots) (C : Store) (σ : L2.St) (H : Hp) (Q3 : Bool → Store → Prop) (Q : Bool → Hp → Prop), Rep K H0 A0 av ad Γ C σ H → E Γ C Q3 →
  (∀ (b : Bool) (H' : Hp) (av' : Av) (ad' : Ads) (C' : Store), Rep K H0 A0 av' ad' Γ C' σ H' → Le av ad H av' ad' H' → Q3 b C' → Q b H') → t σ H Q
def SimA (t : TA) (E : AV) : Prop := ∀ (H0 : Hp) (A0 : List Addr) (av : Av) (ad : Ads) (Γ : Slots) (C : Store) (σ : L2.St) (H : Hp) (Q3 : List D → Store → Prop) (Q : List V → Hp → Prop), Rep K H0 A0 av ad Γ C σ H → E Γ C Q3 →
  (∀ (vs : List V) (H' : Hp) (av' : Av) (ad' : Ads) (ds : List D) (C' : Store), Rep K H0 A0 av' ad' Γ C' σ H' → Le av ad H av' ad' H' → DenAll K H0 av' ad' H' vs ds → Q3 ds C' → Q vs H') → t σ H Q
/-- the new object at a is kept clear of by all else -/
def SimF (t : TE) (E : FV) : Prop := ∀ (H0 : Hp) (A0 : List Addr) (av : Av) (ad : Ads) (Γ : Slots) (C : Store) (σ : L2.St) (H : Hp) (Q3 : Cell → Store → Prop) (Q : VK), Rep K H0 A0 av ad Γ C σ H → E Γ C Q3 →
  (∀ (a : Addr) (H' : Hp) (av' : Av) (ad' : Ads) (c : Cell) (C' : Store), Rep K H0 A0 (fun b => av' b ∨ b = a) ad' Γ C' σ H' → (∀ b, some b ∈ ad' → av' b) → ¬ av' a → H a = none → Le av ad H (fun b => av' b ∨ b = a) ad' H' →
    CellOk K H0 (fun b => av' b ∨ b = a) ad' H' a c → Q3 c C' → Q (.ref a) H') → t σ H Q
structure VE (X : Cx) (e : Expr) (t : TE) (E : EV) : Prop where
  pe : PE X e t
  sim : SimE K t E
structure VF (X : Cx) (e : Expr) (t : TE) (E : FV) : Prop where
  pe : PE X e t
  sim : SimF K t E
structure VT (X : Cx) (e : Expr) (t : TT) (E : BV) : Prop where
  pt : PT X e t
  sim : SimT K t E
structure VW (X : Cx) (e : Expr) (t : TT) (E : BV) : Prop where
  pw : PW X e t
  sim : SimT K t E
structure VA (X : Cx) (es : List Expr) (t : TA) (E : AV) : Prop where
  pa : PA X es t
  sim : SimA K t E
end

/-- as data that nobody writes to -/
def Cell.frz : Cell → D
  | .lst xs => .lst false xs
  | .dk ks xs => .dk false ks xs
  | .dt ks xs => .dt false ks xs
  | _ => .bad
def eFrz (F : FV) : EV := fun Γ C Q => F Γ C fun c C' => Q c.frz C'
def eCell (F : FV) : EV := fun Γ C Q => F Γ C fun c C' => Q (.ptr C'.length) (C' ++ [c])

section
variable {K : PySem.W.Frag} {X : Cx} {e a b : Expr} {es : List Expr} {t ta tb te : TE} {tt tu : TT} {E Ea Eb : EV} {F : FV} {B B' : BV} {pos : Pos}

theorem CellOk.frz {H0 : Hp} {av : Av} {ad : Ads} {H : Hp} {p : Addr} {c : Cell} (n0 : H0 p = none) (nav : ¬ av p) (x : CellOk K H0 av ad H p c) : Den K H0 av ad H (.ref p) c.frz := by
  cases c with
  | lst xs => obtain ⟨vs, e, r⟩ := x; exact .lst ⟨.inl e, nav⟩ (fun _ => ⟨n0, e⟩) r
  | dk ks xs => obtain ⟨vs, e, k, r⟩ := x; exact .dk (.inl e) nav (fun _ => n0) k r
  | dt ks xs => obtain ⟨vs, e, k, r⟩ := x; exact .dt (.inl e) nav (fun _ => n0) k r
  | ins _ _ _ => exact .bad
  | dead => exact .bad
theorem Fz.less {av av' : Av} {H : Hp} (h : ∀ a, av' a → av a) : Fz av H av' H := fun a u h1 na => ⟨h1, fun z => na (h a z)⟩
theorem VF.frz (h : VF K X e t F) : VE K X e t (eFrz F) := by
  refine ⟨h.pe, fun H0 A0 av ad Γ C σ H Q3 Q R hE q => ?_⟩
  refine h.sim H0 A0 av ad Γ C σ H _ Q R hE fun p H' av' ad' c C' R' sub np hn l ok q3 => ?_
  have R2 : Rep K H0 A0 av' ad' Γ C' σ H' := R'.unban (fun _ z => .inl z) sub
  have f2 : Fz (fun b => av' b ∨ b = p) H' av' H' := Fz.less fun _ z => .inl z
  refine q _ _ av' ad' _ C' R2 ⟨l.fz.trans f2, l.pre, l.there, fun b h => (l.avm b h).elim (fun z => z) (fun e => by subst e; exact absurd hn (R.dom _ h)), l.adn, l.kp⟩ ?_ q3
  exact (ok.mono f2 Pre.refl rfl).frz (R.there p hn) np
theorem VF.cell (h : VF K X e t F) : VE K X e t (eCell F) := by
  refine ⟨h.pe, fun H0 A0 av ad Γ C σ H Q3 Q R hE q => ?_⟩
  refine h.sim H0 A0 av ad Γ C σ H _ Q R hE fun p H' av' ad' c C' R' sub np hn l ok q3 => ?_
  have R2 := R'.push (R.there p hn) (fun z => np (sub p z)) sub ok
  have pr : Pre ad' (ad' ++ [some p]) := fun k a h => by
    have hlt : k < ad'.length := (List.getElem?_eq_some_iff.mp h).1
    rw [List.getElem?_append_left hlt]; exact h
  refine q _ _ _ _ _ _ R2 ⟨l.fz, l.pre.trans pr, l.there, l.avm, fun b h => (List.mem_append.mp h).elim (l.adn b) (fun z => by simp at z; subst z; exact .inr hn), l.kp⟩ (.ptr ?_) q3
  rw [← R'.len, List.getElem?_append_right (Nat.le_refl _), Nat.sub_self]
  rfl

/-! ### names, constants -/
def eVar (i : Nat) : EV := fun Γ C Q => ∃ d, Γ[i]? = some (some d) ∧ Q d C
def eC (d : D) : EV := fun _ C Q => Q d C
theorem sim_var {i : Nat} : SimE K (tVar i) (eVar i) := fun H0 A0 av ad Γ C σ H Q3 Q R ⟨d, e, q3⟩ q => by
  obtain ⟨v, h1, h2⟩ := R.slot i d e
  exact ⟨v, h1, q v H av ad d C R Le.refl h2 q3⟩
theorem ve_var (i : Nat) {x : Str} {pos : Pos} (hN : X.N[i]? = some x := by rfl) (hv : Vis X.env.scope x := by first | exact Or.inl rfl | exact Or.inr (Or.inl rfl) | exact Or.inr (Or.inr rfl)) (hd : (x == ("__debug__" : Str)) = false := by decide)
    (hcd : (x == ("__classdict__" : Str)) = false := by decide) : VE K X (.Name x pos) (tVar i) (eVar i) := ⟨pe_var hN hv hd hcd, sim_var⟩
theorem sim_c {v : V} {d : D} (h : ∀ H0 av ad H, Den K H0 av ad H v d) : SimE K (tC v) (eC d) := fun H0 A0 av ad Γ C σ H Q3 Q R q3 q => q v H av ad d C R Le.refl (h H0 av ad H) q3
theorem ve_int {i : Int} {j pos} : VE K X (.Constant (.int i) j pos) (tC (.int i)) (eC (.int i)) := ⟨pe_int, sim_c fun _ _ _ _ => .int⟩
theorem ve_bl {b : Bool} {j pos} : VE K X (.Constant (.bool b) j pos) (tC (.bl b)) (eC (.bl b)) := ⟨pe_bl, sim_c fun _ _ _ _ => .bl⟩
theorem ve_non {j pos} : VE K X (.Constant .none j pos) (tC .non) (eC .non) := ⟨pe_non, sim_c fun _ _ _ _ => .non⟩
theorem ve_str {x : Str} {j pos} : VE K X (.Constant (.str x) j pos) (tC (.str x)) (eC (.str x)) := ⟨pe_str, sim_c fun _ _ _ _ => .str⟩
/-- a module's constant -/
theorem ve_gint {x : Str} {i : Int} {pos : Pos} (hm : ∃ t, X.mg x = some (.int i t)) (hg : Gl X x := by rfl) (hd : (x == ("__debug__" : Str)) = false := by decide) : VE K X (.Name x pos) (tC (.int i)) (eC (.int i)) := by
  obtain ⟨t, e⟩ := hm
  exact ⟨pe_glob hg e ⟨t, rfl⟩ hd, sim_c fun _ _ _ _ => .int⟩
theorem ve_gstr {x z : Str} {pos : Pos} (hm : ∃ t, X.mg x = some (.str z t)) (hg : Gl X x := by rfl) (hd : (x == ("__debug__" : Str)) = false := by decide) : VE K X (.Name x pos) (tC (.str z)) (eC (.str z)) := by
  obtain ⟨t, e⟩ := hm
  exact ⟨pe_glob hg e ⟨t, rfl⟩ hd, sim_c fun _ _ _ _ => .str⟩

/-! ### operators -/
abbrev O2 := Store → D → D → (D → Prop) → Prop
abbrev O1 := Store → D → (D → Prop) → Prop
abbrev ON := Store → List D → (D → Prop) → Prop
/-- a new list or so -/
abbrev N2 := Store → D → D → (Cell → Prop) → Prop
abbrev NN := Store → List D → (Cell → Prop) → Prop
def eBin (f : O2) (Ea Eb : EV) : EV := fun Γ C Q => Ea Γ C fun x C1 => Eb Γ C1 fun y C2 => f C2 x y fun z => Q z C2
def fBin (f : N2) (Ea Eb : EV) : FV := fun Γ C Q => Ea Γ C fun x C1 => Eb Γ C1 fun y C2 => f C2 x y fun z => Q z C2
def eUn (f : O1) (Ea : EV) : EV := fun Γ C Q => Ea Γ C fun x C1 => f C1 x fun z => Q z C1
def SimR (K : PySem.W.Frag) (r : R2) (f : O2) : Prop := ∀ (H0 : Hp) (A0 : List Addr) (av : Av) (ad : Ads) (Γ : Slots) (C : Store) (σ : L2.St) (H : Hp) (x y : V) (dx dy : D) (Q3 : D → Prop) (Q : VK), Rep K H0 A0 av ad Γ C σ H →
  Den K H0 av ad H x dx → Den K H0 av ad H y dy → f C dx dy Q3 → (∀ v H' d, (∀ a o, H a = some o → H' a = some o) → Den K H0 av ad H' v d → Q3 d → Q v H') → r x y H Q
def SimU (K : PySem.W.Frag) (r : V → Hp → VK → Prop) (f : O1) : Prop := ∀ (H0 : Hp) (A0 : List Addr) (av : Av) (ad : Ads) (Γ : Slots) (C : Store) (σ : L2.St) (H : Hp) (x : V) (dx : D) (Q3 : D → Prop) (Q : VK), Rep K H0 A0 av ad Γ C σ H →
  Den K H0 av ad H x dx → f C dx Q3 → (∀ v H' d, (∀ a o, H a = some o → H' a = some o) → Den K H0 av ad H' v d → Q3 d → Q v H') → r x H Q
def SimC (K : PySem.W.Frag) (r : List V → Hp → VK → Prop) (f : ON) : Prop := ∀ (H0 : Hp) (A0 : List Addr) (av : Av) (ad : Ads) (Γ : Slots) (C : Store) (σ : L2.St) (H : Hp) (xs : List V) (ds : List D) (Q3 : D → Prop) (Q : VK), Rep K H0 A0 av ad Γ C σ H →
  DenAll K H0 av ad H xs ds → f C ds Q3 → (∀ v H' d, (∀ a o, H a = some o → H' a = some o) → Den K H0 av ad H' v d → Q3 d → Q v H') → r xs H Q
def NoTup (o : HO) : Prop := ∀ xs, o ≠ .tup xs
/-- what an object holds, ahead of its being laid -/
def Holds (K : PySem.W.Frag) (H0 : Hp) (av : Av) (ad : Ads) (H : Hp) : HO → Cell → Prop
  | .lst vs, .lst xs => DenAll K H0 av ad H vs xs
  | .dK kvs, .dk ks xs => kvs.map (·.1) = ks ∧ DenAll K H0 av ad H (kvs.map (·.2)) xs
  | .dT kvs, .dt ks xs => kvs.map (·.1) = ks ∧ DenAll K H0 av ad H (kvs.map (·.2)) xs
  | _, _ => False
theorem Holds.cell {K : PySem.W.Frag} {H0 : Hp} {av av' : Av} {ad ad' : Ads} {H H' : Hp} {o : HO} {c : Cell} {a : Addr} (f : Fz av H av' H') (p : Pre ad ad') (e : H' a = some o) (x : Holds K H0 av ad H o c) : CellOk K H0 av' ad' H' a c := by
  cases o <;> cases c <;> first
    | exact x.elim
    | exact ⟨_, e, x.mono f p⟩
    | exact ⟨_, e, x.1, x.2.mono f p⟩
/-- a new object is laid -/
def SimRF (K : PySem.W.Frag) (r : R2) (f : N2) : Prop := ∀ (H0 : Hp) (A0 : List Addr) (av : Av) (ad : Ads) (Γ : Slots) (C : Store) (σ : L2.St) (H : Hp) (x y : V) (dx dy : D) (Q3 : Cell → Prop) (Q : VK), Rep K H0 A0 av ad Γ C σ H →
  Den K H0 av ad H x dx → Den K H0 av ad H y dy → f C dx dy Q3 → (∀ H1 p o c, (∀ a o, H a = some o → H1 a = some o) → H1 p = none → NoTup o → Holds K H0 av ad H1 o c → Q3 c → Q (.ref p) (upd H1 p o)) → r x y H Q
def SimCF (K : PySem.W.Frag) (r : List V → Hp → VK → Prop) (f : NN) : Prop := ∀ (H0 : Hp) (A0 : List Addr) (av : Av) (ad : Ads) (Γ : Slots) (C : Store) (σ : L2.St) (H : Hp) (xs : List V) (ds : List D) (Q3 : Cell → Prop) (Q : VK), Rep K H0 A0 av ad Γ C σ H →
  DenAll K H0 av ad H xs ds → f C ds Q3 → (∀ H1 p o c, (∀ a o, H a = some o → H1 a = some o) → H1 p = none → NoTup o → Holds K H0 av ad H1 o c → Q3 c → Q (.ref p) (upd H1 p o)) → r xs H Q
theorem noTup_lst {xs : List V} : NoTup (.lst xs) := fun _ z => nomatch z
theorem noTup_dk {xs : List (Key × V)} : NoTup (.dK xs) := fun _ z => nomatch z
theorem noTup_dt {xs : List (List Key × V)} : NoTup (.dT xs) := fun _ z => nomatch z
/-- the end of a new object -/
theorem fin_new {H0 : Hp} {A0 : List Addr} {av av1 : Av} {ad ad1 : Ads} {Γ : Slots} {C' : Store} {σ : L2.St} {H H1 H2 : Hp} {p : Addr} {o : HO} {c : Cell} {Q3 : Cell → Store → Prop} {Q : VK}
    (R : Rep K H0 A0 av1 ad1 Γ C' σ H1) (l : Le av ad H av1 ad1 H1) (s : ∀ a o, H1 a = some o → H2 a = some o) (n : H2 p = none) (nt : NoTup o) (ok : Holds K H0 av1 ad1 H2 o c) (q3 : Q3 c C')
    (q : ∀ (a : Addr) (H' : Hp) (av' : Av) (ad' : Ads) (c : Cell) (C' : Store), Rep K H0 A0 (fun b => av' b ∨ b = a) ad' Γ C' σ H' → (∀ b, some b ∈ ad' → av' b) → ¬ av' a → H a = none → Le av ad H (fun b => av' b ∨ b = a) ad' H' →
      CellOk K H0 (fun b => av' b ∨ b = a) ad' H' a c → Q3 c C' → Q (.ref a) H') : Q (.ref p) (upd H2 p o) := by
  have R2 := R.same s
  have f : Fz av1 H2 (fun b => av1 b ∨ b = p) (upd H2 p o) := fun a u h na => ⟨same_upd n a u h, fun z => z.elim na fun e => ne_of_none h n e⟩
  have s2 : Le av1 ad1 H1 av1 ad1 H2 := Le.same s
  have l2 : Le av ad H (fun b => av1 b ∨ b = p) ad1 (upd H2 p o) := (l.trans s2).trans ⟨f, Pre.refl, (fun a e => by
    by_cases h : a = p
    · subst h; exact n
    · rw [upd_ne h] at e; exact e), fun _ h => .inl h, fun _ h => .inl h, fun a u h _ => same_upd n a u h⟩
  exact q p _ av1 ad1 c C' (R2.ban n nt) R2.sub (R2.nav n) ((l.trans s2).there p n) l2 (ok.cell f Pre.refl upd_same) q3
theorem sim_bin {r : R2} {f : O2} (hr : SimR K r f) (ha : SimE K ta Ea) (hb : SimE K tb Eb) : SimE K (tOp r ta tb) (eBin f Ea Eb) := fun H0 A0 av ad Γ C σ H Q3 Q R h q =>
  ha H0 A0 av ad Γ C σ H _ _ R h fun x H1 av1 ad1 dx C1 R1 l1 d1 h1 =>
    hb H0 A0 av1 ad1 Γ C1 σ H1 _ _ R1 h1 fun y H2 av2 ad2 dy C2 R2 l2 d2 h2 =>
      hr H0 A0 av2 ad2 Γ C2 σ H2 x y dx dy _ Q R2 (d1.le l2) d2 h2 fun v H3 d s d3 h3 => q v H3 av2 ad2 d C2 (R2.same s) ((l1.trans l2).trans (Le.same s)) d3 h3
theorem sim_binF {r : R2} {f : N2} (hr : SimRF K r f) (ha : SimE K ta Ea) (hb : SimE K tb Eb) : SimF K (tOp r ta tb) (fBin f Ea Eb) := fun H0 A0 av ad Γ C σ H Q3 Q R h q =>
  ha H0 A0 av ad Γ C σ H _ _ R h fun x H1 av1 ad1 dx C1 R1 l1 d1 h1 =>
    hb H0 A0 av1 ad1 Γ C1 σ H1 _ _ R1 h1 fun y H2 av2 ad2 dy C2 R2 l2 d2 h2 =>
      hr H0 A0 av2 ad2 Γ C2 σ H2 x y dx dy _ Q R2 (d1.le l2) d2 h2 fun H3 p o c s n nt ok h3 => fin_new R2 (l1.trans l2) s n nt ok h3 q
theorem sim_un {r : V → Hp → VK → Prop} {f : O1} (hr : SimU K r f) (ha : SimE K ta Ea) : SimE K (tUn r ta) (eUn f Ea) := fun H0 A0 av ad Γ C σ H Q3 Q R h q =>
  ha H0 A0 av ad Γ C σ H _ _ R h fun x H1 av1 ad1 dx C1 R1 l1 d1 h1 =>
      hr H0 A0 av1 ad1 Γ C1 σ H1 x dx _ Q R1 d1 h1 fun v H3 d s d3 h3 => q v H3 av1 ad1 d C1 (R1.same s) (l1.trans (Le.same s)) d3 h3
end
end L3

namespace L3
open PySem PySem.Spec PyProof.Rows L2

/-! ### data as the library's data -/
mutual
def pyW (g : Nat → Option PyData) : D → Option PyData
  | .non => some .none
  | .bl b => some (.bool b)
  | .int i => some (.int i)
  | .str s => some (.str s)
  | .lst _ xs => (pyWs g xs).map .list
  | .tup xs => (pyWs g xs).map .tuple
  | .ptr k => g k
  | _ => none
def pyWs (g : Nat → Option PyData) : List D → Option (List PyData)
  | [] => some []
  | x :: xs => (pyW g x).bind fun p => (pyWs g xs).map (p :: ·)
end
def pyG (C : Store) : Nat → Nat → Option PyData
  | 0, _ => none
  | n + 1, k => match C[k]? with
    | some (.lst xs) => (pyWs (pyG C n) xs).map .list
    | _ => none
def pyD (C : Store) (d : D) : Option PyData := pyW (pyG C 2) d

section
variable {K : PySem.W.Frag} {H0 : Hp} {A0 : List Addr} {av : Av} {ad : Ads} {Γ : Slots} {C : Store} {σ : L2.St} {H : Hp}
mutual
theorem dp_of {g : Nat → Option PyData} (hg : ∀ k a p, ad[k]? = some (some a) → g k = some p → Dp K H (.ref a) p) : ∀ {d : D} {v : V} {p : PyData}, Den K H0 av ad H v d → pyW g d = some p → Dp K H v p
  | .non, _, _, .non, e => by simp only [pyW] at e; cases e; exact .non
  | .bl _, _, _, .bl, e => by simp only [pyW] at e; cases e; exact .bl _
  | .int _, _, _, .int, e => by simp only [pyW] at e; cases e; exact .int _
  | .str _, _, _, .str, e => by simp only [pyW] at e; cases e; exact .str _
  | .lst _ xs, _, _, .lst r _ x, e => by
    simp only [pyW] at e
    cases q : pyWs g xs with
    | none => rw [q] at e; cases e
    | some ps => rw [q] at e; cases e; exact .lst r.sq (dps_of hg x q)
  | .tup xs, _, _, .tup r x, e => by
    simp only [pyW] at e
    cases q : pyWs g xs with
    | none => rw [q] at e; cases e
    | some ps => rw [q] at e; cases e; exact .tup r.sq (dps_of hg x q)
  | .ptr k, _, _, .ptr h, e => by simp only [pyW] at e; exact hg k _ _ h e
  | .bad, _, _, _, e => by simp [pyW] at e
  | .dk _ _ _, _, _, _, e => by simp [pyW] at e
  | .dt _ _ _, _, _, _, e => by simp [pyW] at e
  | .obj _ _ _, _, _, _, e => by simp [pyW] at e
theorem dps_of {g : Nat → Option PyData} (hg : ∀ k a p, ad[k]? = some (some a) → g k = some p → Dp K H (.ref a) p) : ∀ {ds : List D} {vs : List V} {ps : List PyData}, DenAll K H0 av ad H vs ds → pyWs g ds = some ps → DpAll K H vs ps
  | [], _, _, .nil, e => by simp only [pyWs] at e; cases e; exact .nil
  | d :: ds, _, _, .cons a b, e => by
    simp only [pyWs] at e
    cases q : pyW g d with
    | none => rw [q] at e; cases e
    | some p =>
      rw [q] at e
      cases q2 : pyWs g ds with
      | none => rw [q2] at e; cases e
      | some ps => rw [q2] at e; cases e; exact .cons (dp_of hg a q) (dps_of hg b q2)
end
theorem dp_g (R : Rep K H0 A0 av ad Γ C σ H) : ∀ (n k : Nat) (a : Addr) (p : PyData), ad[k]? = some (some a) → pyG C n k = some p → Dp K H (.ref a) p
  | 0, _, _, _, _, e => by cases e
  | n + 1, k, a, p, h, e => by
    simp only [pyG] at e
    cases q : C[k]? with
    | none => rw [q] at e; cases e
    | some c =>
      rw [q] at e
      cases c with
      | lst xs =>
        simp only at e
        obtain ⟨vs, e1, r⟩ := R.cells k a _ h q
        cases q2 : pyWs (pyG C n) xs with
        | none => rw [q2] at e; cases e
        | some ps =>
          rw [q2] at e; cases e
          exact .lst (SqL.of e1) (dps_of (dp_g R n) r q2)
      | dk _ _ => cases e
      | dt _ _ => cases e
      | ins _ _ _ => cases e
      | dead => cases e
theorem Rep.dp (R : Rep K H0 A0 av ad Γ C σ H) {v : V} {d : D} {p : PyData} (x : Den K H0 av ad H v d) (e : pyD C d = some p) : Dp K H v p := dp_of (dp_g R 2) x e
theorem Rep.dps (R : Rep K H0 A0 av ad Γ C σ H) {v : List V} {d : List D} {p : List PyData} (x : DenAll K H0 av ad H v d) (e : pyWs (pyG C 2) d = some p) : DpAll K H v p := dps_of (dp_g R 2) x e

/-! ### lists and tuples read -/
def lstOf (C : Store) : D → Option (List D)
  | .lst _ xs => some xs
  | .ptr k => match C[k]? with
    | some (.lst xs) => some xs
    | _ => none
  | _ => none
def seqOf (C : Store) : D → Option (List D)
  | .tup xs => some xs
  | d => lstOf C d
theorem Rep.lst (R : Rep K H0 A0 av ad Γ C σ H) {v : V} {d : D} {xs : List D} (x : Den K H0 av ad H v d) (e : lstOf C d = some xs) : ∃ a vs, v = .ref a ∧ Rd H a (.lst vs) ∧ DenAll K H0 av ad H vs xs := by
  cases x with
  | lst l ho r => simp only [lstOf] at e; cases e; exact ⟨_, _, rfl, l.1, r⟩
  | bad => cases e
  | non => cases e
  | bl => cases e
  | int => cases e
  | str => cases e
  | tup _ _ => cases e
  | dk _ _ _ _ _ => cases e
  | dt _ _ _ _ _ => cases e
  | obj _ _ _ _ => cases e
  | @ptr a k h =>
    simp only [lstOf] at e
    cases q : C[k]? with
    | none => rw [q] at e; cases e
    | some c =>
      rw [q] at e
      cases c with
      | lst ys =>
        cases e
        obtain ⟨vs, e1, r⟩ := R.cells k a _ h q
        exact ⟨a, vs, rfl, .inl e1, r⟩
      | dk _ _ => cases e
      | dt _ _ => cases e
      | ins _ _ _ => cases e
      | dead => cases e
theorem Rep.tup (R : Rep K H0 A0 av ad Γ C σ H) {v : V} {xs : List D} (x : Den K H0 av ad H v (.tup xs)) : ∃ a vs, v = .ref a ∧ SqT K H a vs ∧ DenAll K H0 av ad H vs xs := by
  cases x with
  | tup l r => exact ⟨_, _, rfl, l.sq, r⟩
theorem Rep.seq (R : Rep K H0 A0 av ad Γ C σ H) {v : V} {d : D} {xs : List D} (x : Den K H0 av ad H v d) (e : seqOf C d = some xs) : ∃ a vs, v = .ref a ∧ (SqL K H a vs ∨ SqT K H a vs) ∧ DenAll K H0 av ad H vs xs := by
  by_cases h : ∃ ys, d = .tup ys
  · obtain ⟨ys, rfl⟩ := h
    simp only [seqOf] at e; cases e
    obtain ⟨a, vs, h1, h2, h3⟩ := R.tup x
    exact ⟨a, vs, h1, .inr h2, h3⟩
  · have e2 : lstOf C d = some xs := by
      cases d <;> first
        | exact e
        | exact absurd ⟨_, rfl⟩ h
    obtain ⟨a, vs, h1, h2, h3⟩ := R.lst x e2
    exact ⟨a, vs, h1, .inl (.inl h2), h3⟩
theorem den_int {v : V} {i : Int} (x : Den K H0 av ad H v (.int i)) : v = .int i := by cases x; rfl
theorem den_bl {v : V} {b : Bool} (x : Den K H0 av ad H v (.bl b)) : v = .bl b := by cases x; rfl
theorem den_str {v : V} {s : Str} (x : Den K H0 av ad H v (.str s)) : v = .str s := by cases x; rfl
theorem den_non {v : V} (x : Den K H0 av ad H v .non) : v = .non := by cases x; rfl
theorem den_ints : ∀ {vs : List V} {is : List Int}, DenAll K H0 av ad H vs (is.map .int) → vs = is.map V.int
  | _, [], x => by cases x; rfl
  | _, i :: is, x => by
    cases x with
    | cons a b => rw [den_int a, den_ints b]; rfl
theorem den_bls : ∀ {vs : List V} {is : List Bool}, DenAll K H0 av ad H vs (is.map .bl) → vs = is.map V.bl
  | _, [], x => by cases x; rfl
  | _, i :: is, x => by
    cases x with
    | cons a b => rw [den_bl a, den_bls b]; rfl
theorem den_strs : ∀ {vs : List V} {is : List Str}, DenAll K H0 av ad H vs (is.map .str) → vs = is.map V.str
  | _, [], x => by cases x; rfl
  | _, i :: is, x => by
    cases x with
    | cons a b => rw [den_str a, den_strs b]; rfl
theorem ints_den : ∀ {is : List Int}, DenAll K H0 av ad H (is.map V.int) (is.map .int)
  | [] => .nil
  | i :: is => .cons .int (ints_den (is := is))
theorem strs_den : ∀ {is : List Str}, DenAll K H0 av ad H (is.map V.str) (is.map .str)
  | [] => .nil
  | i :: is => .cons .str (strs_den (is := is))
end

/-! ### ints -/
def oI (g : Int → Int → D) : O2 := fun _ x y Q => ∃ i j, x = .int i ∧ y = .int j ∧ Q (g i j)
def oIc (c : Int → Int → Prop) (g : Int → Int → D) : O2 := fun _ x y Q => ∃ i j, x = .int i ∧ y = .int j ∧ c i j ∧ Q (g i j)
section
variable {K : PySem.W.Frag} {X : Cx} {e a b : Expr} {es : List Expr} {t ta tb te : TE} {tt tu : TT} {E Ea Eb : EV} {F : FV} {B B' : BV} {pos : Pos}
theorem sr_I {g : Int → Int → V} {g3 : Int → Int → D} (h : ∀ i j H0 av ad H, Den K H0 av ad H (g i j) (g3 i j)) : SimR K (rI0 g) (oI g3) := by
  intro H0 A0 av ad Γ C σ H x y dx dy Q3 Q R d1 d2 h3 q
  obtain ⟨i, j, rfl, rfl, q3⟩ := h3
  exact ⟨i, j, den_int d1, den_int d2, q _ H _ (fun _ _ h => h) (h i j H0 av ad H) q3⟩
theorem sr_Ic {c : Int → Int → Prop} {g : Int → Int → V} {g3 : Int → Int → D} (h : ∀ i j H0 av ad H, Den K H0 av ad H (g i j) (g3 i j)) : SimR K (rI c g) (oIc c g3) := by
  intro H0 A0 av ad Γ C σ H x y dx dy Q3 Q R d1 d2 h3 q
  obtain ⟨i, j, rfl, rfl, hc, q3⟩ := h3
  exact ⟨i, j, den_int d1, den_int d2, hc, q _ H _ (fun _ _ h => h) (h i j H0 av ad H) q3⟩
theorem ve_op {op : Operator} {r : R2} {f : O2} (ho : OpR X (binaryOp op) r) (hs : SimR K r f) (ha : VE K X a ta Ea) (hb : VE K X b tb Eb) : VE K X (.BinOp a op b pos) (tOp r ta tb) (eBin f Ea Eb) :=
  ⟨pe_op ho ha.pe hb.pe, sim_bin hs ha.sim hb.sim⟩
theorem vf_op {op : Operator} {r : R2} {f : N2} (ho : OpR X (binaryOp op) r) (hs : SimRF K r f) (ha : VE K X a ta Ea) (hb : VE K X b tb Eb) : VF K X (.BinOp a op b pos) (tOp r ta tb) (fBin f Ea Eb) :=
  ⟨pe_op ho ha.pe hb.pe, sim_binF hs ha.sim hb.sim⟩
theorem ve_cmp {op : CmpOp} {r : R2} {f : O2} (ho : OpR X (compareOp op) r) (hs : SimR K r f) (ha : VE K X a ta Ea) (hb : VE K X b tb Eb) (hm : behindInMarks op b = false) : VE K X (.Compare a [op] [b] pos) (tOp r ta tb) (eBin f Ea Eb) :=
  ⟨pe_cmpR ho ha.pe hb.pe hm, sim_bin hs ha.sim hb.sim⟩
abbrev oAdd : O2 := oI fun i j => .int (i + j)
abbrev oSub : O2 := oI fun i j => .int (i - j)
abbrev oMul : O2 := oIc CMul fun i j => .int (i * j)
abbrev oMod : O2 := oIc (fun _ j => 0 < j) fun i j => .int (i % j)
abbrev oDiv : O2 := oIc CDiv fun i j => .int (i / j)
abbrev oPow : O2 := oIc CPow fun i j => .int (i ^ j.toNat)
abbrev oLt : O2 := oI fun i j => .bl (decide (i < j))
abbrev oLe : O2 := oI fun i j => .bl (decide (i ≤ j))
abbrev oGt : O2 := oI fun i j => .bl (decide (j < i))
abbrev oGe : O2 := oI fun i j => .bl (decide (j ≤ i))
theorem sr_add : SimR K (rI0 fun i j => .int (i + j)) oAdd := sr_I fun _ _ _ _ _ _ => .int
theorem sr_sub : SimR K (rI0 fun i j => .int (i - j)) oSub := sr_I fun _ _ _ _ _ _ => .int
theorem sr_mul : SimR K (rI CMul fun i j => .int (i * j)) oMul := sr_Ic fun _ _ _ _ _ _ => .int
theorem sr_mod : SimR K (rI (fun _ j => 0 < j) fun i j => .int (i % j)) oMod := sr_Ic fun _ _ _ _ _ _ => .int
theorem sr_div : SimR K (rI CDiv fun i j => .int (i / j)) oDiv := sr_Ic fun _ _ _ _ _ _ => .int
theorem sr_pow : SimR K (rI CPow fun i j => .int (i ^ j.toNat)) oPow := sr_Ic fun _ _ _ _ _ _ => .int
theorem sr_lt : SimR K (rI0 fun i j => .bl (decide (i < j))) oLt := sr_I fun _ _ _ _ _ _ => .bl
theorem sr_le : SimR K (rI0 fun i j => .bl (decide (i ≤ j))) oLe := sr_I fun _ _ _ _ _ _ => .bl
theorem sr_gt : SimR K (rI0 fun i j => .bl (decide (j < i))) oGt := sr_I fun _ _ _ _ _ _ => .bl
theorem sr_ge : SimR K (rI0 fun i j => .bl (decide (j ≤ i))) oGe := sr_I fun _ _ _ _ _ _ => .bl
def oNeg : O1 := fun _ x Q => ∃ i, x = .int i ∧ Q (.int (-i))
theorem ve_un {op : UnaryOp} {r : V → Hp → VK → Prop} {f : O1} (ho : UnR X (unaryOp op) r) (hs : SimU K r f) (ha : VE K X a ta Ea) : VE K X (.UnaryOp op a pos) (tUn r ta) (eUn f Ea) := ⟨pe_un ho ha.pe, sim_un hs ha.sim⟩
theorem su_neg : SimU K (rU fun i => .int (-i)) oNeg := fun H0 A0 av ad Γ C σ H x dx Q3 Q R d1 ⟨i, e, q3⟩ q => by
  subst e
  exact ⟨i, den_int d1, q _ H _ (fun _ _ h => h) .int q3⟩

/-! ### equality of anything -/
def oEq (neg : Bool) : O2 := fun C x y Q => match x, y with
  | .int i, .int j => Q (.bl (neg != decide (i = j)))
  | .str s, .str t => Q (.bl (neg != decide (s = t)))
  | .bl i, .bl j => Q (.bl (neg != decide (i = j)))
  | _, _ => ∃ p r, pyD C x = some p ∧ pyD C y = some r ∧ SeqAt.shaped p = true ∧ SeqAt.shaped r = true ∧ Q (.bl (neg != PyData.eqv p r))
theorem eqN {b : Bool} : (false != b) = b := by cases b <;> rfl
theorem eqP {b : Bool} : (true != b) = !b := by cases b <;> rfl
theorem dec_i {i j : Int} : decide (V.int i = V.int j) = decide (i = j) := by simp
theorem dec_s {i j : Str} : decide (V.str i = V.str j) = decide (i = j) := by simp
theorem dec_b {i j : Bool} : decide (V.bl i = V.bl j) = decide (i = j) := by simp
theorem sr_eq : SimR K (fun x y H Q => rEq x y H Q ∨ rEqD K x y H Q) (oEq false) := by
  intro H0 A0 av ad Γ C σ H x y dx dy Q3 Q R d1 d2 h3 q
  unfold oEq at h3
  split at h3
  · refine .inl ?_
    rw [den_int d1, den_int d2]
    rw [eqN] at h3
    exact ⟨rfl, q _ H _ (fun _ _ h => h) .bl (by rw [dec_i]; exact h3)⟩
  · refine .inl ?_
    rw [den_str d1, den_str d2]
    rw [eqN] at h3
    exact ⟨rfl, q _ H _ (fun _ _ h => h) .bl (by rw [dec_s]; exact h3)⟩
  · refine .inl ?_
    rw [den_bl d1, den_bl d2]
    rw [eqN] at h3
    exact ⟨rfl, q _ H _ (fun _ _ h => h) .bl (by rw [dec_b]; exact h3)⟩
  · obtain ⟨p, r, e1, e2, s1, s2, q3⟩ := h3
    rw [eqN] at q3
    exact .inr ⟨p, r, R.dp d1 e1, R.dp d2 e2, s1, s2, q _ H _ (fun _ _ h => h) .bl q3⟩
theorem sr_ne : SimR K (fun x y H Q => rNe x y H Q ∨ rNeD K x y H Q) (oEq true) := by
  intro H0 A0 av ad Γ C σ H x y dx dy Q3 Q R d1 d2 h3 q
  unfold oEq at h3
  split at h3
  · refine .inl ?_
    rw [den_int d1, den_int d2]
    rw [eqP] at h3
    exact ⟨rfl, q _ H _ (fun _ _ h => h) .bl (by rw [dec_i]; exact h3)⟩
  · refine .inl ?_
    rw [den_str d1, den_str d2]
    rw [eqP] at h3
    exact ⟨rfl, q _ H _ (fun _ _ h => h) .bl (by rw [dec_s]; exact h3)⟩
  · refine .inl ?_
    rw [den_bl d1, den_bl d2]
    rw [eqP] at h3
    exact ⟨rfl, q _ H _ (fun _ _ h => h) .bl (by rw [dec_b]; exact h3)⟩
  · obtain ⟨p, r, e1, e2, s1, s2, q3⟩ := h3
    rw [eqP] at q3
    exact .inr ⟨p, r, R.dp d1 e1, R.dp d2 e2, s1, s2, q _ H _ (fun _ _ h => h) .bl q3⟩
theorem op_eqA (hK : X.K = K) (hu : X.A.units + 64 < cLine) : OpR X (compareOp .Eq) (fun x y H Q => rEq x y H Q ∨ rEqD K x y H Q) := by
  subst hK
  exact op_eq.or (op_eqD hu)
theorem op_neA (hK : X.K = K) (hu : X.A.units + 64 < cLine) : OpR X (compareOp .NotEq) (fun x y H Q => rNe x y H Q ∨ rNeD K x y H Q) := by
  subst hK
  exact op_ne.or (op_neD hu)
/-! ### is None -/
def isNon : D → Option Bool
  | .non => some true
  | .bad => none
  | _ => some false
def oIsN (neg : Bool) : O2 := fun _ x y Q => y = .non ∧ ∃ b, isNon x = some b ∧ Q (.bl (neg != b))
theorem isNon_of {H0 : Hp} {av : Av} {ad : Ads} {H : Hp} {v : V} {d : D} {b : Bool} (x : Den K H0 av ad H v d) (e : isNon d = some b) : decide (v = .non) = b := by
  cases x <;> simp only [isNon] at e <;> cases e <;> simp
theorem sr_isN : SimR K (fun x y H Q => y = .non ∧ Q (.bl (decide (x = .non))) H) (oIsN false) := by
  intro H0 A0 av ad Γ C σ H x y dx dy Q3 Q R d1 d2 ⟨e, b, hb, q3⟩ q
  subst e
  rw [eqN] at q3
  exact ⟨den_non d2, q _ H _ (fun _ _ h => h) .bl (by rw [isNon_of d1 hb]; exact q3)⟩
theorem sr_notN : SimR K (fun x y H Q => y = .non ∧ Q (.bl (!decide (x = .non))) H) (oIsN true) := by
  intro H0 A0 av ad Γ C σ H x y dx dy Q3 Q R d1 d2 ⟨e, b, hb, q3⟩ q
  subst e
  rw [eqP] at q3
  exact ⟨den_non d2, q _ H _ (fun _ _ h => h) .bl (by rw [isNon_of d1 hb]; exact q3)⟩
end
end L3

namespace L3
open PySem PySem.Spec PyProof.Rows L2
section
variable {K : PySem.W.Frag} {X : Cx} {e a b c o : Expr} {es rest : List Expr} {t ta tb tc te : TE} {tt tu tA : TT} {E Ea Eb Ec : EV} {F : FV} {B B' : BV} {tl : TA} {L : AV} {pos p : Pos} {x : Str}

/-! ### great numbers -/
def CPowW (i j : Int) : Prop := 0 ≤ j ∧ (Builtin.Int.intBits i : Int) * j ≤ 2 ^ 27
theorem op_powW : OpR X (binaryOp .Pow) (rI CPowW fun i j => .int (i ^ j.toNat)) := opI fun _ _ _ _ _ _ _ hc q => pow_int hc.1 hc.2 q
theorem cpow_of {i j : Int} {n : Nat} (h0 : 0 ≤ j) (hi : i.natAbs < 2 ^ n) (h : (n : Int) * j ≤ 2 ^ 27 - 10 * j) : CPowW i j := by
  refine ⟨h0, ?_⟩
  have hb : Builtin.Int.intBits i ≤ n + 1 := by
    unfold Builtin.Int.intBits
    split
    · omega
    · rename_i hz
      have : i.natAbs.log2 < n := by
        rw [Nat.log2_lt (by
          intro z
          exact hz (by simp at z ⊢; omega))]
        exact hi
      omega
  have : (Builtin.Int.intBits i : Int) * j ≤ ((n : Int) + 1) * j := Int.mul_le_mul_of_nonneg_right (by omega) h0
  have e : ((n : Int) + 1) * j = n * j + j := by rw [Int.add_mul, Int.one_mul]
  omega
abbrev oMulW : O2 := oIc CMulW fun i j => .int (i * j)
abbrev oDivW : O2 := oIc CDivW fun i j => .int (i / j)
abbrev oPowW : O2 := oIc CPowW fun i j => .int (i ^ j.toNat)
theorem sr_mulW : SimR K (rI CMulW fun i j => .int (i * j)) oMulW := sr_Ic fun _ _ _ _ _ _ => .int
theorem sr_divW : SimR K (rI CDivW fun i j => .int (i / j)) oDivW := sr_Ic fun _ _ _ _ _ _ => .int
theorem sr_powW : SimR K (rI CPowW fun i j => .int (i ^ j.toNat)) oPowW := sr_Ic fun _ _ _ _ _ _ => .int
/-! ### texts -/
def oCatS : O2 := fun _ x y Q => ∃ i j, x = .str i ∧ y = .str j ∧ i.length + j.length ≤ sizeLine ∧ Q (.str (i ++ j))
theorem sr_catS : SimR K (fun x y H Q => ∃ i j, x = .str i ∧ y = .str j ∧ i.length + j.length ≤ sizeLine ∧ Q (.str (i ++ j)) H) oCatS := by
  intro H0 A0 av ad Γ C σ H x y dx dy Q3 Q R d1 d2 h3 q
  obtain ⟨i, j, rfl, rfl, hc, q3⟩ := h3
  exact ⟨i, j, den_str d1, den_str d2, hc, q _ H _ (fun _ _ h => h) .str q3⟩
/-! ### in -/
def oIn (neg : Bool) : O2 := fun C x y Q => match x, y with
  | .str i, .str j => Q (.bl (neg != !(Builtin.Str.occurrences j i 0 j.length 1).isEmpty))
  | _, _ => ∃ q rs, pyD C x = some q ∧ pyD C y = some (.list rs) ∧ SeqAt.shaped q = true ∧ SeqAt.shaped (.list rs) = true ∧ Q (.bl (neg != rs.any fun z => PyData.eqv z q))
def rInStr : R2 := fun x y H Q => ∃ i j, x = .str i ∧ y = .str j ∧ Q (.bl (!(Builtin.Str.occurrences j i 0 j.length 1).isEmpty)) H
def rNiStr : R2 := fun x y H Q => ∃ i j, x = .str i ∧ y = .str j ∧ Q (.bl (!(!(Builtin.Str.occurrences j i 0 j.length 1).isEmpty))) H
theorem sr_in : SimR K (fun x y H Q => rInStr x y H Q ∨ rInD K x y H Q) (oIn false) := by
  intro H0 A0 av ad Γ C σ H x y dx dy Q3 Q R d1 d2 h3 q
  unfold oIn at h3
  split at h3
  · rw [eqN] at h3
    exact .inl ⟨_, _, den_str d1, den_str d2, q _ H _ (fun _ _ h => h) .bl h3⟩
  · obtain ⟨p, r, e1, e2, s1, s2, q3⟩ := h3
    rw [eqN] at q3
    exact .inr ⟨p, r, R.dp d1 e1, R.dp d2 e2, s1, s2, q _ H _ (fun _ _ h => h) .bl q3⟩
theorem sr_notIn : SimR K (fun x y H Q => rNiStr x y H Q ∨ rNotInD K x y H Q) (oIn true) := by
  intro H0 A0 av ad Γ C σ H x y dx dy Q3 Q R d1 d2 h3 q
  unfold oIn at h3
  split at h3
  · rw [eqP] at h3
    exact .inl ⟨_, _, den_str d1, den_str d2, q _ H _ (fun _ _ h => h) .bl h3⟩
  · obtain ⟨p, r, e1, e2, s1, s2, q3⟩ := h3
    rw [eqP] at q3
    exact .inr ⟨p, r, R.dp d1 e1, R.dp d2 e2, s1, s2, q _ H _ (fun _ _ h => h) .bl q3⟩
theorem op_inA (hK : X.K = K) (hu : X.A.units + 65 < cLine) : OpR X (compareOp .In) (fun x y H Q => rInStr x y H Q ∨ rInD K x y H Q) := by
  subst hK
  exact OpR.or (r := rInStr) op_in_str (op_inD hu)
theorem op_notInA (hK : X.K = K) (hu : X.A.units + 65 < cLine) : OpR X (compareOp .NotIn) (fun x y H Q => rNiStr x y H Q ∨ rNotInD K x y H Q) := by
  subst hK
  exact OpR.or (r := rNiStr) op_notIn_str (op_notInD hu)
/-! ### the order of tuples of ints -/
def oLtT : O2 := fun _ x y Q => ∃ ns ms : List Int, x = .tup (ns.map .int) ∧ y = .tup (ms.map .int) ∧ Q (.bl (HT.lexLt ns ms))
theorem sr_ltT : SimR K (rLtT K) oLtT := by
  intro H0 A0 av ad Γ C σ H x y dx dy Q3 Q R d1 d2 h3 q
  obtain ⟨ns, ms, rfl, rfl, q3⟩ := h3
  obtain ⟨a, vs, rfl, h1, r1⟩ := R.tup d1
  obtain ⟨b, us, rfl, h2, r2⟩ := R.tup d2
  rw [den_ints r1] at h1
  rw [den_ints r2] at h2
  exact ⟨a, b, ns, ms, rfl, rfl, h1, h2, q _ H _ (fun _ _ h => h) .bl q3⟩
theorem op_ltTA (hK : X.K = K) (hu : X.A.units < cLine) : OpR X (compareOp .Lt) (rLtT K) := by
  subst hK
  exact op_ltT hu
/-! ### and, or, not, tests -/
def bB (E : EV) : BV := fun Γ C Q => E Γ C fun d C' => ∃ k, d = .bl k ∧ Q k C'
def bAnd (A B : BV) : BV := fun Γ C Q => A Γ C fun k C' => if k = true then B Γ C' Q else Q false C'
def bOr (A B : BV) : BV := fun Γ C Q => A Γ C fun k C' => if k = true then Q true C' else B Γ C' Q
def bNot (A : BV) : BV := fun Γ C Q => A Γ C fun k C' => Q (!k) C'
def eAnd (A B : EV) : EV := fun Γ C Q => A Γ C fun d C' => ∃ k, d = .bl k ∧ if k = true then B Γ C' Q else Q (.bl false) C'
def eOr (A B : EV) : EV := fun Γ C Q => A Γ C fun d C' => ∃ k, d = .bl k ∧ if k = true then Q (.bl true) C' else B Γ C' Q
def eNot (A : EV) : EV := fun Γ C Q => A Γ C fun d C' => ∃ k, d = .bl k ∧ Q (.bl (!k)) C'
def eIf (T : BV) (A B : EV) : EV := fun Γ C Q => T Γ C fun k C' => if k = true then A Γ C' Q else B Γ C' Q
theorem sim_b (h : SimE K t E) : SimT K (tB t) (bB E) := fun H0 A0 av ad Γ C σ H Q3 Q R h3 q =>
  h H0 A0 av ad Γ C σ H _ _ R h3 fun v H' av' ad' d C' R' l d1 ⟨k, e, q3⟩ => ⟨k, den_bl (e ▸ d1), q k H' av' ad' C' R' l q3⟩
theorem vt_val (h : VE K X e t E) (he : ∀ whole, isTrue e X.env whole = (do let v ← whole; standAt e.pos; holding [v] (truthy v)) := by intro _; rfl) : VT K X e (tB t) (bB E) := ⟨pt_val h.pe he, sim_b h.sim⟩
theorem vt_cmp {op : CmpOp} {r : R2} {f : O2} (ho : OpR X (compareOp op) r) (hs : SimR K r f) (ha : VE K X a ta Ea) (hb : VE K X b tb Eb) (hm : behindInMarks op b = false) : VT K X (.Compare a [op] [b] pos) (tTest (tOp r ta tb)) (bB (eBin f Ea Eb)) :=
  ⟨pt_cmpR ho ha.pe hb.pe hm, sim_b (sim_bin hs ha.sim hb.sim)⟩
theorem sim_and (h : SimT K tt B) (h' : SimT K tu B') : SimT K (tAnd tt tu) (bAnd B B') := fun H0 A0 av ad Γ C σ H Q3 Q R h3 q =>
  h H0 A0 av ad Γ C σ H _ _ R h3 fun k H' av' ad' C' R' l q3 => by
    cases k with
    | true => exact h' H0 A0 av' ad' Γ C' σ H' _ _ R' q3 fun k H2 av2 ad2 C2 R2 l2 q4 => q k H2 av2 ad2 C2 R2 (l.trans l2) q4
    | false => exact q false H' av' ad' C' R' l q3
theorem sim_or (h : SimT K tt B) (h' : SimT K tu B') : SimT K (tOr tt tu) (bOr B B') := fun H0 A0 av ad Γ C σ H Q3 Q R h3 q =>
  h H0 A0 av ad Γ C σ H _ _ R h3 fun k H' av' ad' C' R' l q3 => by
    cases k with
    | false => exact h' H0 A0 av' ad' Γ C' σ H' _ _ R' q3 fun k H2 av2 ad2 C2 R2 l2 q4 => q k H2 av2 ad2 C2 R2 (l.trans l2) q4
    | true => exact q true H' av' ad' C' R' l q3
theorem vw_and1 (h : VT K X a tt B) : VW K X (.BoolOp .And [a] pos) tt B := ⟨pw_and1 h.pt, h.sim⟩
theorem vw_or1 (h : VT K X a tt B) : VW K X (.BoolOp .Or [a] pos) tt B := ⟨pw_or1 h.pt, h.sim⟩
theorem vw_and (h : VT K X a tt B) (h' : VW K X (.BoolOp .And (b :: rest) pos) tu B') : VW K X (.BoolOp .And (a :: b :: rest) pos) (tAnd tt tu) (bAnd B B') := ⟨pw_and h.pt h'.pw, sim_and h.sim h'.sim⟩
theorem vw_or (h : VT K X a tt B) (h' : VW K X (.BoolOp .Or (b :: rest) pos) tu B') : VW K X (.BoolOp .Or (a :: b :: rest) pos) (tOr tt tu) (bOr B B') := ⟨pw_or h.pt h'.pw, sim_or h.sim h'.sim⟩
theorem VW.vt (h : VW K X a tt B) : VT K X a tt B := ⟨h.pw.pt, h.sim⟩
theorem vt_not (h : VT K X a tt B) : VT K X (.UnaryOp .Not a pos) (tNot tt) (bNot B) := ⟨pt_not h.pt, fun H0 A0 av ad Γ C σ H Q3 Q R h3 q =>
  h.sim H0 A0 av ad Γ C σ H _ _ R h3 fun k H' av' ad' C' R' l q3 => q (!k) H' av' ad' C' R' l q3⟩
theorem ve_one {op} (h : VE K X a t E) : VE K X (.BoolOp op [a] pos) t E := ⟨pe_one h.pe, h.sim⟩
theorem ve_and (h : VE K X a ta Ea) (h' : VE K X (.BoolOp .And (b :: rest) pos) tb Eb) : VE K X (.BoolOp .And (a :: b :: rest) pos) (tAndV ta tb) (eAnd Ea Eb) := ⟨pe_and h.pe h'.pe, fun H0 A0 av ad Γ C σ H Q3 Q R h3 q =>
  h.sim H0 A0 av ad Γ C σ H _ _ R h3 fun v H' av' ad' d C' R' l d1 ⟨k, e, q3⟩ => ⟨k, den_bl (e ▸ d1), by
    cases k with
    | true => exact h'.sim H0 A0 av' ad' Γ C' σ H' _ _ R' q3 fun v2 H2 av2 ad2 d2 C2 R2 l2 dd q4 => q v2 H2 av2 ad2 d2 C2 R2 (l.trans l2) dd q4
    | false => exact q _ H' av' ad' _ C' R' l .bl q3⟩⟩
theorem ve_or (h : VE K X a ta Ea) (h' : VE K X (.BoolOp .Or (b :: rest) pos) tb Eb) : VE K X (.BoolOp .Or (a :: b :: rest) pos) (tOrV ta tb) (eOr Ea Eb) := ⟨pe_or h.pe h'.pe, fun H0 A0 av ad Γ C σ H Q3 Q R h3 q =>
  h.sim H0 A0 av ad Γ C σ H _ _ R h3 fun v H' av' ad' d C' R' l d1 ⟨k, e, q3⟩ => ⟨k, den_bl (e ▸ d1), by
    cases k with
    | false => exact h'.sim H0 A0 av' ad' Γ C' σ H' _ _ R' q3 fun v2 H2 av2 ad2 d2 C2 R2 l2 dd q4 => q v2 H2 av2 ad2 d2 C2 R2 (l.trans l2) dd q4
    | true => exact q _ H' av' ad' _ C' R' l .bl q3⟩⟩
theorem ve_not (h : VE K X a ta Ea) : VE K X (.UnaryOp .Not a pos) (tNotV ta) (eNot Ea) := ⟨pe_not h.pe, fun H0 A0 av ad Γ C σ H Q3 Q R h3 q =>
  h.sim H0 A0 av ad Γ C σ H _ _ R h3 fun v H' av' ad' d C' R' l d1 ⟨k, e, q3⟩ => ⟨k, den_bl (e ▸ d1), q _ H' av' ad' _ C' R' l .bl q3⟩⟩
theorem ve_ifExp (hc : VT K X c tA B) (ha : VE K X a ta Ea) (hb : VE K X b tb Eb) : VE K X (.IfExp c a b pos) (tIf tA ta tb) (eIf B Ea Eb) := ⟨pe_ifExp hc.pt ha.pe hb.pe, fun H0 A0 av ad Γ C σ H Q3 Q R h3 q =>
  hc.sim H0 A0 av ad Γ C σ H _ _ R h3 fun k H' av' ad' C' R' l q3 => by
    cases k with
    | true => exact ha.sim H0 A0 av' ad' Γ C' σ H' _ _ R' q3 fun v2 H2 av2 ad2 d2 C2 R2 l2 dd q4 => q v2 H2 av2 ad2 d2 C2 R2 (l.trans l2) dd q4
    | false => exact hb.sim H0 A0 av' ad' Γ C' σ H' _ _ R' q3 fun v2 H2 av2 ad2 d2 C2 R2 l2 dd q4 => q v2 H2 av2 ad2 d2 C2 R2 (l.trans l2) dd q4⟩
/-- a op b op c -/
def eChain (f f' : O2) (Ea Eb Ec : EV) : EV := fun Γ C Q => Ea Γ C fun x C1 => Eb Γ C1 fun y C2 => f C2 x y fun z => ∃ k, z = .bl k ∧ if k = true then Ec Γ C2 fun w C3 => f' C3 y w fun u => Q u C3 else Q (.bl false) C2
theorem sim_chain {r r' : R2} {f f' : O2} (hr : SimR K r f) (hr' : SimR K r' f') (ha : SimE K ta Ea) (hb : SimE K tb Eb) (hc : SimE K tc Ec) : SimE K (tChain r r' ta tb tc) (eChain f f' Ea Eb Ec) := fun H0 A0 av ad Γ C σ H Q3 Q R h q =>
  ha H0 A0 av ad Γ C σ H _ _ R h fun x H1 av1 ad1 dx C1 R1 l1 d1 h1 =>
    hb H0 A0 av1 ad1 Γ C1 σ H1 _ _ R1 h1 fun y H2 av2 ad2 dy C2 R2 l2 d2 h2 =>
      hr H0 A0 av2 ad2 Γ C2 σ H2 x y dx dy _ _ R2 (d1.le l2) d2 h2 fun v H3 d s d3 ⟨k, e, h3⟩ => ⟨k, den_bl (e ▸ d3), by
        have l3 : Le av ad H av2 ad2 H3 := (l1.trans l2).trans (Le.same s)
        cases k with
        | false => exact q _ H3 av2 ad2 _ C2 (R2.same s) l3 .bl h3
        | true =>
          exact hc H0 A0 av2 ad2 Γ C2 σ H3 _ _ (R2.same s) h3 fun w H4 av4 ad4 dw C4 R4 l4 d4 h4 =>
            hr' H0 A0 av4 ad4 Γ C4 σ H4 y w dy dw _ Q R4 ((d2.le (Le.same s)).le l4) d4 h4 fun u H5 du s5 d5 h5 => q u H5 av4 ad4 du C4 (R4.same s5) ((l3.trans l4).trans (Le.same s5)) d5 h5⟩
theorem ve_chain {op op' : CmpOp} {r r' : R2} {f f' : O2} (ho : OpR X (compareOp op) r) (hs : SimR K r f) (ho' : OpR X (compareOp op') r') (hs' : SimR K r' f') (ha : VE K X a ta Ea) (hb : VE K X b tb Eb) (hc : VE K X c tc Ec)
    (hm : lastMarks [op, op'] [b, c] = false := by with_unfolding_all rfl) : VE K X (.Compare a [op, op'] [b, c] pos) (tChain r r' ta tb tc) (eChain f f' Ea Eb Ec) := ⟨pe_chain ho ho' ha.pe hb.pe hc.pe hm, sim_chain hs hs' ha.sim hb.sim hc.sim⟩
theorem vt_chain {op op' : CmpOp} {r r' : R2} {f f' : O2} (ho : OpR X (compareOp op) r) (hs : SimR K r f) (ho' : OpR X (compareOp op') r') (hs' : SimR K r' f') (ha : VE K X a ta Ea) (hb : VE K X b tb Eb) (hc : VE K X c tc Ec)
    (hm : lastMarks [op, op'] [b, c] = false := by with_unfolding_all rfl) : VT K X (.Compare a [op, op'] [b, c] pos) (tTest (tChain r r' ta tb tc)) (bB (eChain f f' Ea Eb Ec)) := ⟨pt_chain ho ho' ha.pe hb.pe hc.pe hm, sim_b (sim_chain hs hs' ha.sim hb.sim hc.sim)⟩

/-! ### arguments, displays -/
def aNil : AV := fun _ C Q => Q [] C
def aCons (E : EV) (L : AV) : AV := fun Γ C Q => E Γ C fun d C1 => L Γ C1 fun ds C2 => Q (d :: ds) C2
theorem va_nil : VA K X [] tNil aNil := ⟨pa_nil, fun H0 A0 av ad Γ C σ H Q3 Q R h q => q [] H av ad [] C R Le.refl .nil h⟩
theorem va_cons (h : VE K X e te E) (hr : VA K X es tl L) (hs : starEach (e :: es) X.env = (false, eval e X.env) :: starEach es X.env := by rfl) : VA K X (e :: es) (tCons te tl) (aCons E L) := ⟨pa_cons h.pe hr.pa hs, fun H0 A0 av ad Γ C σ H Q3 Q R h3 q =>
  h.sim H0 A0 av ad Γ C σ H _ _ R h3 fun v H1 av1 ad1 d C1 R1 l1 d1 h4 =>
    hr.sim H0 A0 av1 ad1 Γ C1 σ H1 _ _ R1 h4 fun vs H2 av2 ad2 ds C2 R2 l2 d2 h5 => q (v :: vs) H2 av2 ad2 (d :: ds) C2 R2 (l1.trans l2) (.cons (d1.le l2) d2) h5⟩
def eTup (L : AV) : EV := fun Γ C Q => L Γ C fun ds C1 => ds.length ≤ sizeLine ∧ Q (.tup ds) C1
def fLst (L : AV) : FV := fun Γ C Q => L Γ C fun ds C1 => ds.length ≤ sizeLine ∧ Q (.lst ds) C1
theorem ve_tup {x1} (h : VA K X es tl L) : VE K X (.Tuple es x1 pos) (tTup tl) (eTup L) := ⟨pe_tup h.pa, fun H0 A0 av ad Γ C σ H Q3 Q R h3 q =>
  h.sim H0 A0 av ad Γ C σ H _ _ R h3 fun vs H1 av1 ad1 ds C1 R1 l1 d1 ⟨hl, q3⟩ => ⟨by rw [d1.length]; exact hl, fun p np => q _ _ av1 ad1 _ C1 (R1.new np) (l1.trans (Le.new np)) (.tup ⟨upd_same, R1.nav np⟩ (d1.le (Le.new np))) q3⟩⟩
theorem vf_lst (h : VA K X es tl L) : VF K X (.List es pos) (tLst tl) (fLst L) := ⟨pe_lst h.pa, fun H0 A0 av ad Γ C σ H Q3 Q R h3 q =>
  h.sim H0 A0 av ad Γ C σ H _ _ R h3 fun vs H1 av1 ad1 ds C1 R1 l1 d1 ⟨hl, q3⟩ => ⟨by rw [d1.length]; exact hl, fun p np => fin_new R1 l1 (fun _ _ h => h) np noTup_lst (c := .lst ds) d1 q3 q⟩⟩
/-! ### subscripts -/
def oIxL : O2 := fun C x y Q => ∃ xs i d, lstOf C x = some xs ∧ y = .int i ∧ atI xs i = some d ∧ Q d
def oIxT : O2 := fun C x y Q => ∃ xs i d, x = .tup xs ∧ y = .int i ∧ atI xs i = some d ∧ Q d
def oIxS : O2 := fun C x y Q => ∃ z i k, x = .str z ∧ y = .int i ∧ z.length ≤ sizeLine ∧ atI z.cps.toList i = some k ∧ Q (.str ⟨#[k]⟩)
theorem den_at {H0 : Hp} {av : Av} {ad : Ads} {H : Hp} {vs : List V} {ds : List D} {i : Int} {d : D} (x : DenAll K H0 av ad H vs ds) (e : atI ds i = some d) : ∃ v, atI vs i = some v ∧ Den K H0 av ad H v d := by
  unfold atI at e ⊢
  rw [x.length]
  cases q : ixN ds.length i with
  | none => rw [q] at e; cases e
  | some j => rw [q] at e; exact x.get e
theorem sr_ixL : SimR K (rIxL K) oIxL := by
  intro H0 A0 av ad Γ C σ H x y dx dy Q3 Q R d1 d2 ⟨xs, i, d, e1, e2, e3, q3⟩ q
  subst e2
  obtain ⟨p, vs, rfl, h1, r1⟩ := R.lst d1 e1
  obtain ⟨v, h2, r2⟩ := den_at r1 e3
  exact ⟨p, vs, i, v, rfl, den_int d2, .inl h1, h2, q v H d (fun _ _ h => h) r2 q3⟩
theorem sr_ixT : SimR K (rIxT K) oIxT := by
  intro H0 A0 av ad Γ C σ H x y dx dy Q3 Q R d1 d2 ⟨xs, i, d, e1, e2, e3, q3⟩ q
  subst e1 e2
  obtain ⟨p, vs, rfl, h1, r1⟩ := R.tup d1
  obtain ⟨v, h2, r2⟩ := den_at r1 e3
  exact ⟨p, vs, i, v, rfl, den_int d2, h1, h2, q v H d (fun _ _ h => h) r2 q3⟩
theorem sr_ixS : SimR K rIxS oIxS := by
  intro H0 A0 av ad Γ C σ H x y dx dy Q3 Q R d1 d2 ⟨z, i, k, e1, e2, e3, e4, q3⟩ q
  subst e1 e2
  exact ⟨z, i, k, den_str d1, den_int d2, e3, e4, q _ H _ (fun _ _ h => h) .str q3⟩
theorem ve_ix {r : R2} {f : O2} (hr : IxR X r) (hs : SimR K r f) (ha : VE K X a ta Ea) (hb : VE K X b tb Eb) (hp : PlainIx b := by exact fun _ _ => rfl) : VE K X (.Subscript a b pos) (tOp r ta tb) (eBin f Ea Eb) := ⟨pe_ix hr ha.pe hb.pe hp, sim_bin hs ha.sim hb.sim⟩
theorem ix_listA (hK : X.K = K) : IxR X (rIxL K) := by subst hK; exact ix_list
theorem ix_tupA (hK : X.K = K) : IxR X (rIxT K) := by subst hK; exact ix_tup
end
end L3

namespace L3
open PySem PySem.Spec PyProof.Rows L2
section
variable {K : PySem.W.Frag} {X : Cx} {e a b c o : Expr} {es rest : List Expr} {t ta tb tc te to : TE} {tt tu tA : TT} {E Ea Eb Ec Eo : EV} {F : FV} {B B' : BV} {tl : TA} {L : AV} {pos p apos : Pos} {x : Str} {id T : String}
/-! ### built-ins called -/
def eCB (f : ON) (L : AV) : EV := fun Γ C Q => L Γ C fun ds C1 => f C1 ds fun z => Q z C1
def fCB (f : NN) (L : AV) : FV := fun Γ C Q => L Γ C fun ds C1 => f C1 ds fun z => Q z C1
theorem sim_cb {r : List V → Hp → VK → Prop} {f : ON} (hr : SimC K r f) (ha : SimA K tl L) : SimE K (tCB r tl) (eCB f L) := fun H0 A0 av ad Γ C σ H Q3 Q R h q =>
  ha H0 A0 av ad Γ C σ H _ _ R h fun vs H1 av1 ad1 ds C1 R1 l1 d1 h1 =>
      hr H0 A0 av1 ad1 Γ C1 σ H1 vs ds _ Q R1 d1 h1 fun v H3 d s d3 h3 => q v H3 av1 ad1 d C1 (R1.same s) (l1.trans (Le.same s)) d3 h3
theorem sim_cbF {r : List V → Hp → VK → Prop} {f : NN} (hr : SimCF K r f) (ha : SimA K tl L) : SimF K (tCB r tl) (fCB f L) := fun H0 A0 av ad Γ C σ H Q3 Q R h q =>
  ha H0 A0 av ad Γ C σ H _ _ R h fun vs H1 av1 ad1 ds C1 R1 l1 d1 h1 =>
      hr H0 A0 av1 ad1 Γ C1 σ H1 vs ds _ Q R1 d1 h1 fun H3 p o c s n nt ok h3 => fin_new R1 l1 s n nt ok h3 q
theorem ve_callB {r : List V → Hp → VK → Prop} {f : ON} (hc : CallR X (.builtin id) r) (hs : SimC K r f) (hm : X.mg x = none) (ha : VA K X (e :: es) tl L) (hg : Gl X x := by rfl) (hv : bootBuiltins x = some (.builtin id) := by decide +kernel) (hn : x ≠ "__name__" := by decide) (hdb : (x == ("__debug__" : Str)) = false := by decide)
    (he : starEach (e :: es) X.env = (false, eval e X.env) :: starEach es X.env := by rfl) (hpl : (backTo pos (starEach es X.env)).any (·.1) = false := by rfl) : VE K X (.Call (.Name x p) (e :: es) [] pos) (tCB r tl) (eCB f L) :=
  ⟨pe_callB hc hg hm hv ha.pa hn hdb he hpl, sim_cb hs ha.sim⟩
theorem ve_callTy {r : List V → Hp → VK → Prop} {f : ON} (hc : CallR X (.type T) r) (hs : SimC K r f) (hm : X.mg x = none) (ha : VA K X (e :: es) tl L) (hg : Gl X x := by rfl) (hv : bootBuiltins x = some (.type T) := by decide +kernel) (hn : x ≠ "__name__" := by decide) (hdb : (x == ("__debug__" : Str)) = false := by decide)
    (he : starEach (e :: es) X.env = (false, eval e X.env) :: starEach es X.env := by rfl) (hpl : (backTo pos (starEach es X.env)).any (·.1) = false := by rfl) : VE K X (.Call (.Name x p) (e :: es) [] pos) (tCB r tl) (eCB f L) :=
  ⟨pe_callTy hc hg hm hv ha.pa hn hdb he hpl, sim_cb hs ha.sim⟩
theorem vf_callB {r : List V → Hp → VK → Prop} {f : NN} (hc : CallR X (.builtin id) r) (hs : SimCF K r f) (hm : X.mg x = none) (ha : VA K X (e :: es) tl L) (hg : Gl X x := by rfl) (hv : bootBuiltins x = some (.builtin id) := by decide +kernel) (hn : x ≠ "__name__" := by decide) (hdb : (x == ("__debug__" : Str)) = false := by decide)
    (he : starEach (e :: es) X.env = (false, eval e X.env) :: starEach es X.env := by rfl) (hpl : (backTo pos (starEach es X.env)).any (·.1) = false := by rfl) : VF K X (.Call (.Name x p) (e :: es) [] pos) (tCB r tl) (fCB f L) :=
  ⟨pe_callB hc hg hm hv ha.pa hn hdb he hpl, sim_cbF hs ha.sim⟩
theorem vf_callTy {r : List V → Hp → VK → Prop} {f : NN} (hc : CallR X (.type T) r) (hs : SimCF K r f) (hm : X.mg x = none) (ha : VA K X (e :: es) tl L) (hg : Gl X x := by rfl) (hv : bootBuiltins x = some (.type T) := by decide +kernel) (hn : x ≠ "__name__" := by decide) (hdb : (x == ("__debug__" : Str)) = false := by decide)
    (he : starEach (e :: es) X.env = (false, eval e X.env) :: starEach es X.env := by rfl) (hpl : (backTo pos (starEach es X.env)).any (·.1) = false := by rfl) : VF K X (.Call (.Name x p) (e :: es) [] pos) (tCB r tl) (fCB f L) :=
  ⟨pe_callTy hc hg hm hv ha.pa hn hdb he hpl, sim_cbF hs ha.sim⟩
theorem den1 {H0 : Hp} {av : Av} {ad : Ads} {H : Hp} {vs : List V} {d : D} (x : DenAll K H0 av ad H vs [d]) : ∃ v, vs = [v] ∧ Den K H0 av ad H v d := by
  cases x with
  | cons a b => cases b; exact ⟨_, rfl, a⟩
theorem den2 {H0 : Hp} {av : Av} {ad : Ads} {H : Hp} {vs : List V} {d d' : D} (x : DenAll K H0 av ad H vs [d, d']) : ∃ v v', vs = [v, v'] ∧ Den K H0 av ad H v d ∧ Den K H0 av ad H v' d' := by
  cases x with
  | cons a b => obtain ⟨v, rfl, r⟩ := den1 b; exact ⟨_, v, rfl, a, r⟩
/-- len -/
def oLen : ON := fun C ds Q => ∃ d xs, ds = [d] ∧ seqOf C d = some xs ∧ Q (.int xs.length)
theorem sc_len : SimC K (fun xs H Q => ∃ p ys, xs = [.ref p] ∧ (SqL K H p ys ∨ SqT K H p ys) ∧ Q (.int ys.length) H) oLen := by
  intro H0 A0 av ad Γ C σ H vs ds Q3 Q R d1 ⟨d, xs, e1, e2, q3⟩ q
  subst e1
  obtain ⟨v, rfl, r⟩ := den1 d1
  obtain ⟨p, us, rfl, h1, r1⟩ := R.seq r e2
  exact ⟨p, us, rfl, h1, q _ H _ (fun _ _ h => h) .int (by rw [r1.length]; exact q3)⟩
theorem call_lenA (hK : X.K = K) : CallR X (.builtin "len") (fun xs H Q => ∃ p ys, xs = [.ref p] ∧ (SqL K H p ys ∨ SqT K H p ys) ∧ Q (.int ys.length) H) := by subst hK; exact call_len_seq
def oLenS : ON := fun _ ds Q => ∃ z, ds = [.str z] ∧ z.length ≤ sizeLine ∧ Q (.int z.length)
theorem sc_lenS : SimC K (fun xs H Q => ∃ z, xs = [.str z] ∧ z.length ≤ sizeLine ∧ Q (.int z.length) H) oLenS := by
  intro H0 A0 av ad Γ C σ H vs ds Q3 Q R d1 ⟨z, e1, e2, q3⟩ q
  subst e1
  obtain ⟨v, rfl, r⟩ := den1 d1
  exact ⟨z, by rw [den_str r], e2, q _ H _ (fun _ _ h => h) .int q3⟩
/-- len of anything that has one -/
def oLenA : ON := fun C ds Q => match ds with
  | [.str z] => z.length ≤ sizeLine ∧ Q (.int z.length)
  | _ => oLen C ds Q
def rLenSq (K : PySem.W.Frag) : List V → Hp → VK → Prop := fun xs H Q => ∃ p ys, xs = [.ref p] ∧ (SqL K H p ys ∨ SqT K H p ys) ∧ Q (.int ys.length) H
def rLenSt : List V → Hp → VK → Prop := fun xs H Q => ∃ z, xs = [.str z] ∧ z.length ≤ sizeLine ∧ Q (.int z.length) H
theorem sc_lenA : SimC K (fun xs H Q => rLenSq K xs H Q ∨ rLenSt xs H Q) oLenA := by
  intro H0 A0 av ad Γ C σ H vs ds Q3 Q R d1 h q
  unfold oLenA at h
  split at h
  · exact .inr (sc_lenS H0 A0 av ad Γ C σ H vs _ Q3 Q R d1 ⟨_, rfl, h.1, h.2⟩ q)
  · exact .inl (sc_len H0 A0 av ad Γ C σ H vs ds Q3 Q R d1 h q)
theorem call_lenAA (hK : X.K = K) : CallR X (.builtin "len") (fun xs H Q => rLenSq K xs H Q ∨ rLenSt xs H Q) := by
  subst hK
  exact CallR.or (r := rLenSq X.K) (r' := rLenSt) call_len_seq call_len_str
/-- abs, max and min of two, int, str -/
def oAbs : ON := fun _ ds Q => ∃ i, ds = [.int i] ∧ Q (.int (if i < 0 then -i else i))
theorem sc_abs : SimC K (fun xs H Q => ∃ i, xs = [.int i] ∧ Q (.int (if i < 0 then -i else i)) H) oAbs := by
  intro H0 A0 av ad Γ C σ H vs ds Q3 Q R d1 ⟨z, e1, q3⟩ q
  subst e1
  obtain ⟨v, rfl, r⟩ := den1 d1
  exact ⟨z, by rw [den_int r], q _ H _ (fun _ _ h => h) .int q3⟩
def oMax2 : ON := fun _ ds Q => ∃ i j, ds = [.int i, .int j] ∧ Q (.int (max i j))
def oMin2 : ON := fun _ ds Q => ∃ i j, ds = [.int i, .int j] ∧ Q (.int (min i j))
theorem sc_max2 : SimC K (fun xs H Q => ∃ i j, xs = [.int i, .int j] ∧ Q (.int (if j > i then j else i)) H) oMax2 := by
  intro H0 A0 av ad Γ C σ H vs ds Q3 Q R d1 ⟨i, j, e1, q3⟩ q
  subst e1
  obtain ⟨v, u, rfl, r1, r2⟩ := den2 d1
  refine ⟨i, j, by rw [den_int r1, den_int r2], ?_⟩
  have e : (if j > i then j else i) = max i j := by split <;> omega
  rw [e]
  exact q _ H _ (fun _ _ h => h) .int q3
theorem sc_min2 : SimC K (fun xs H Q => ∃ i j, xs = [.int i, .int j] ∧ Q (.int (if j < i then j else i)) H) oMin2 := by
  intro H0 A0 av ad Γ C σ H vs ds Q3 Q R d1 ⟨i, j, e1, q3⟩ q
  subst e1
  obtain ⟨v, u, rfl, r1, r2⟩ := den2 d1
  refine ⟨i, j, by rw [den_int r1, den_int r2], ?_⟩
  have e : (if j < i then j else i) = min i j := by split <;> omega
  rw [e]
  exact q _ H _ (fun _ _ h => h) .int q3
def oInt : ON := fun _ ds Q => match ds with
  | [.int i] => Q (.int i)
  | [.bl k] => Q (.int (if k then 1 else 0))
  | _ => False
theorem sc_int : SimC K (fun xs H Q => (∃ i, xs = [.int i] ∧ Q (.int i) H) ∨ ∃ k, xs = [.bl k] ∧ Q (.int (if k then 1 else 0)) H) oInt := by
  intro H0 A0 av ad Γ C σ H vs ds Q3 Q R d1 h q
  unfold oInt at h
  split at h
  · obtain ⟨v, rfl, r⟩ := den1 d1
    exact .inl ⟨_, by rw [den_int r], q _ H _ (fun _ _ h => h) .int h⟩
  · obtain ⟨v, rfl, r⟩ := den1 d1
    exact .inr ⟨_, by rw [den_bl r], q _ H _ (fun _ _ h => h) .int h⟩
  · exact h.elim
def oStrI : ON := fun _ ds Q => ∃ i, ds = [.int i] ∧ i.natAbs.log2 < 1920 ∧ Q (.str (toString i))
theorem sc_strI : SimC K (fun xs H Q => ∃ i, xs = [.int i] ∧ i.natAbs.log2 < 1920 ∧ Q (.str (toString i)) H) oStrI := by
  intro H0 A0 av ad Γ C σ H vs ds Q3 Q R d1 ⟨z, e1, e2, q3⟩ q
  subst e1
  obtain ⟨v, rfl, r⟩ := den1 d1
  exact ⟨z, by rw [den_int r], e2, q _ H _ (fun _ _ h => h) .str q3⟩
/-- int(text) -/
def oIntS : ON := fun _ ds Q => ∃ a n, ds = [.str a] ∧ PySem.intText? a = some n ∧ a.length ≤ 640 ∧ Q (.int n)
theorem sc_intS : SimC K (fun xs H Q => ∃ a n, xs = [.str a] ∧ PySem.intText? a = some n ∧ a.length ≤ 640 ∧ Q (.int n) H) oIntS := by
  intro H0 A0 av ad Γ C σ H vs ds Q3 Q R d1 ⟨z, n, e1, e2, e3, q3⟩ q
  subst e1
  obtain ⟨v, rfl, r⟩ := den1 d1
  exact ⟨z, n, by rw [den_str r], e2, e3, q _ H _ (fun _ _ h => h) .int q3⟩
/-- sum, max, min, all, any of a list -/
def oSum : ON := fun C ds Q => ∃ (d : D) (ns : List Int), ds = [d] ∧ lstOf C d = some (ns.map .int) ∧ Q (.int ns.sum)
theorem sc_sum : SimC K (rSum K) oSum := by
  intro H0 A0 av ad Γ C σ H vs ds Q3 Q R d1 ⟨d, ns, e1, e2, q3⟩ q
  subst e1
  obtain ⟨v, rfl, r⟩ := den1 d1
  obtain ⟨p, us, rfl, h1, r1⟩ := R.lst r e2
  rw [den_ints r1] at h1
  exact ⟨p, ns, rfl, .inl h1, q _ H _ (fun _ _ h => h) .int q3⟩
theorem call_sum (hK : X.K = K) (hc : X.calm = true) : CallR X (.builtin "sum") (rSum K) := by subst hK; exact cr_sum hc
def oMaxL : ON := fun C ds Q => ∃ (d : D) (ns : List Int), ds = [d] ∧ lstOf C d = some (ns.map .int) ∧ 0 < ns.length ∧ ∀ m, m ∈ ns → (∀ y, y ∈ ns → y ≤ m) → Q (.int m)
def oMinL : ON := fun C ds Q => ∃ (d : D) (ns : List Int), ds = [d] ∧ lstOf C d = some (ns.map .int) ∧ 0 < ns.length ∧ ∀ m, m ∈ ns → (∀ y, y ∈ ns → m ≤ y) → Q (.int m)
theorem sc_maxL : SimC K (rMax K) oMaxL := by
  intro H0 A0 av ad Γ C σ H vs ds Q3 Q R d1 ⟨d, ns, e1, e2, h0, q3⟩ q
  subst e1
  obtain ⟨v, rfl, r⟩ := den1 d1
  obtain ⟨p, us, rfl, h1, r1⟩ := R.lst r e2
  rw [den_ints r1] at h1
  exact ⟨p, ns, rfl, .inl h1, h0, fun m a b => q _ H _ (fun _ _ h => h) .int (q3 m a b)⟩
theorem sc_minL : SimC K (rMin K) oMinL := by
  intro H0 A0 av ad Γ C σ H vs ds Q3 Q R d1 ⟨d, ns, e1, e2, h0, q3⟩ q
  subst e1
  obtain ⟨v, rfl, r⟩ := den1 d1
  obtain ⟨p, us, rfl, h1, r1⟩ := R.lst r e2
  rw [den_ints r1] at h1
  exact ⟨p, ns, rfl, .inl h1, h0, fun m a b => q _ H _ (fun _ _ h => h) .int (q3 m a b)⟩
theorem call_maxL (hK : X.K = K) (hc : X.calm = true) : CallR X (.builtin "max") (rMax K) := by subst hK; exact cr_max hc
theorem call_minL (hK : X.K = K) (hc : X.calm = true) : CallR X (.builtin "min") (rMin K) := by subst hK; exact cr_min hc
def oAll : ON := fun C ds Q => ∃ (d : D) (bs : List Bool), ds = [d] ∧ lstOf C d = some (bs.map .bl) ∧ Q (.bl (bs.all fun b => b))
def oAny : ON := fun C ds Q => ∃ (d : D) (bs : List Bool), ds = [d] ∧ lstOf C d = some (bs.map .bl) ∧ Q (.bl (bs.any fun b => b))
theorem sc_all : SimC K (rAll K) oAll := by
  intro H0 A0 av ad Γ C σ H vs ds Q3 Q R d1 ⟨d, ns, e1, e2, q3⟩ q
  subst e1
  obtain ⟨v, rfl, r⟩ := den1 d1
  obtain ⟨p, us, rfl, h1, r1⟩ := R.lst r e2
  rw [den_bls r1] at h1
  exact ⟨p, ns, rfl, .inl h1, q _ H _ (fun _ _ h => h) .bl q3⟩
theorem sc_any : SimC K (rAny K) oAny := by
  intro H0 A0 av ad Γ C σ H vs ds Q3 Q R d1 ⟨d, ns, e1, e2, q3⟩ q
  subst e1
  obtain ⟨v, rfl, r⟩ := den1 d1
  obtain ⟨p, us, rfl, h1, r1⟩ := R.lst r e2
  rw [den_bls r1] at h1
  exact ⟨p, ns, rfl, .inl h1, q _ H _ (fun _ _ h => h) .bl q3⟩
theorem call_all (hK : X.K = K) (hc : X.calm = true) : CallR X (.builtin "all") (rAll K) := by subst hK; exact cr_all hc
theorem call_any (hK : X.K = K) (hc : X.calm = true) : CallR X (.builtin "any") (rAny K) := by subst hK; exact cr_any hc
/-! ### new lists from calls -/
/-- list(xs) -/
def nList : NN := fun C ds Q => ∃ d xs, ds = [d] ∧ seqOf C d = some xs ∧ Q (.lst xs)
theorem sf_list : SimCF K (fun xs H Q => ∃ p ys, xs = [.ref p] ∧ (SqL K H p ys ∨ SqT K H p ys) ∧ ∀ l, H l = none → Q (.ref l) (upd H l (.lst ys))) nList := by
  intro H0 A0 av ad Γ C σ H vs ds Q3 Q R d1 ⟨d, xs, e1, e2, q3⟩ q
  subst e1
  obtain ⟨v, rfl, r⟩ := den1 d1
  obtain ⟨p, us, rfl, h1, r1⟩ := R.seq r e2
  exact ⟨p, us, rfl, h1, fun l nl => q H l _ (.lst xs) (fun _ _ h => h) nl noTup_lst r1 q3⟩
theorem call_listA (hK : X.K = K) : CallR X (.type "list") (fun xs H Q => ∃ p ys, xs = [.ref p] ∧ (SqL K H p ys ∨ SqT K H p ys) ∧ ∀ l, H l = none → Q (.ref l) (upd H l (.lst ys))) := by subst hK; exact call_list_of
/-- tuple(xs) -/
def oTupleL : ON := fun C ds Q => ∃ d xs, ds = [d] ∧ lstOf C d = some xs ∧ Q (.tup xs)
theorem sc_tupleL : SimC K (fun xs H Q => ∃ p ys, xs = [.ref p] ∧ ((SqL K H p ys ∧ ∀ l, H l = none → Q (.ref l) (upd H l (.tup ys))) ∨ (SqT K H p ys ∧ Q (.ref p) H))) oTupleL := by
  intro H0 A0 av ad Γ C σ H vs ds Q3 Q R d1 ⟨d, xs, e1, e2, q3⟩ q
  subst e1
  obtain ⟨v, rfl, r⟩ := den1 d1
  obtain ⟨p, us, rfl, h1, r1⟩ := R.lst r e2
  exact ⟨p, us, rfl, .inl ⟨.inl h1, fun l nl => q _ _ _ (same_upd nl) (.tup ⟨upd_same, R.nav nl⟩ (r1.le (Le.new nl))) q3⟩⟩
theorem call_tupleA (hK : X.K = K) : CallR X (.type "tuple") (fun xs H Q => ∃ p ys, xs = [.ref p] ∧ ((SqL K H p ys ∧ ∀ l, H l = none → Q (.ref l) (upd H l (.tup ys))) ∨ (SqT K H p ys ∧ Q (.ref p) H))) := by subst hK; exact call_tuple_of
/-- sorted of ints -/
def nSortI : NN := fun C ds Q => ∃ (d : D) (ns : List Int), ds = [d] ∧ lstOf C d = some (ns.map .int) ∧ ∀ ns' : List Int, ns'.Perm ns → ns'.Pairwise (· ≤ ·) → Q (.lst (ns'.map .int))
theorem sf_sortI : SimCF K (rSortedI K) nSortI := by
  intro H0 A0 av ad Γ C σ H vs ds Q3 Q R d1 ⟨d, ns, e1, e2, q3⟩ q
  subst e1
  obtain ⟨v, rfl, r⟩ := den1 d1
  obtain ⟨p, us, rfl, h1, r1⟩ := R.lst r e2
  rw [den_ints r1] at h1
  exact ⟨p, ns, rfl, .inl h1, fun ns' p hp hs np => q H p _ (.lst _) (fun _ _ h => h) np noTup_lst ints_den (q3 ns' hp hs)⟩
theorem call_sortI (hK : X.K = K) : CallR X (.builtin "sorted") (rSortedI K) := by subst hK; exact cr_sortedI
/-! ### slices -/
def oNone : Slots → Store → (Option Int → Store → Prop) → Prop := fun _ C Q => Q none C
def oSome (E : EV) : Slots → Store → (Option Int → Store → Prop) → Prop := fun Γ C Q => E Γ C fun d C1 => ∃ i, d = .int i ∧ Q (some i) C1
abbrev OV := Slots → Store → (Option Int → Store → Prop) → Prop
def SimO (K : PySem.W.Frag) (t : TO) (E : OV) : Prop := ∀ (H0 : Hp) (A0 : List Addr) (av : Av) (ad : Ads) (Γ : Slots) (C : Store) (σ : L2.St) (H : Hp) (Q3 : Option Int → Store → Prop) (Q : Option Int → Hp → Prop), Rep K H0 A0 av ad Γ C σ H → E Γ C Q3 →
  (∀ (b : Option Int) (H' : Hp) (av' : Av) (ad' : Ads) (C' : Store), Rep K H0 A0 av' ad' Γ C' σ H' → Le av ad H av' ad' H' → Q3 b C' → Q b H') → t σ H Q
structure VO (K : PySem.W.Frag) (X : Cx) (e : Option Expr) (t : TO) (E : OV) : Prop where
  po : PO X e t
  sim : SimO K t E
theorem vo_none : VO K X none tNoPart oNone := ⟨po_none, fun H0 A0 av ad Γ C σ H Q3 Q R h q => q none H av ad C R Le.refl h⟩
theorem vo_some (h : VE K X e te E) : VO K X (some e) (tPart te) (oSome E) := ⟨po_some h.pe, fun H0 A0 av ad Γ C σ H Q3 Q R h3 q =>
  h.sim H0 A0 av ad Γ C σ H _ _ R h3 fun v H' av' ad' d C' R' l d1 ⟨i, e, q3⟩ => ⟨i, den_int (e ▸ d1), q (some i) H' av' ad' C' R' l q3⟩⟩
def cutD (xs : List D) (lo hi : Option Int) : List D := (xs.drop (HT.sIx xs.length 0 lo)).take (HT.sIx xs.length xs.length hi - HT.sIx xs.length 0 lo)
theorem den_cut {H0 : Hp} {av : Av} {ad : Ads} {H : Hp} {vs : List V} {ds : List D} (x : DenAll K H0 av ad H vs ds) (lo hi : Option Int) : DenAll K H0 av ad H (cutV vs lo hi) (cutD ds lo hi) := by
  unfold cutV cutD
  rw [x.length]
  exact (x.drop _).take _
def fSlL (Ea : EV) (Lo Hi : OV) : FV := fun Γ C Q => Ea Γ C fun x C1 => Lo Γ C1 fun l C2 => Hi Γ C2 fun u C3 => ∃ xs, lstOf C3 x = some xs ∧ Q (.lst (cutD xs l u)) C3
def eSlS (Ea : EV) (Lo Hi : OV) : EV := fun Γ C Q => Ea Γ C fun x C1 => Lo Γ C1 fun l C2 => Hi Γ C2 fun u C3 => ∃ z, x = .str z ∧ z.length ≤ sizeLine ∧ Q (.str (cutS z l u)) C3
theorem vf_slL {lo hi : Option Expr} {p2 : Pos} {tlo thi : TO} {Lo Hi : OV} (hK : X.K = K) (h : VE K X a ta Ea) (hl : VO K X lo tlo Lo) (hh : VO K X hi thi Hi) : VF K X (.Subscript a (.Slice lo hi none p2) pos) (tSl (rSlL K) ta tlo thi) (fSlL Ea Lo Hi) := by
  subst hK
  refine ⟨pe_slice sl_list h.pe hl.po hh.po, fun H0 A0 av ad Γ C σ H Q3 Q R h3 q => ?_⟩
  refine h.sim H0 A0 av ad Γ C σ H _ _ R h3 fun v H1 av1 ad1 d C1 R1 l1 d1 h4 => ?_
  refine hl.sim H0 A0 av1 ad1 Γ C1 σ H1 _ _ R1 h4 fun l H2 av2 ad2 C2 R2 l2 h5 => ?_
  refine hh.sim H0 A0 av2 ad2 Γ C2 σ H2 _ _ R2 h5 fun u H3 av3 ad3 C3 R3 l3 ⟨xs, e, q3⟩ => ?_
  obtain ⟨a, vs, rfl, hs, rs⟩ := R3.lst ((d1.le l2).le l3) e
  exact ⟨a, vs, rfl, .inl hs, fun p np => fin_new R3 ((l1.trans l2).trans l3) (fun _ _ h => h) np noTup_lst (c := .lst _) (den_cut rs l u) q3 q⟩
theorem ve_slS {lo hi : Option Expr} {p2 : Pos} {tlo thi : TO} {Lo Hi : OV} (h : VE K X a ta Ea) (hl : VO K X lo tlo Lo) (hh : VO K X hi thi Hi) : VE K X (.Subscript a (.Slice lo hi none p2) pos) (tSl rSlS ta tlo thi) (eSlS Ea Lo Hi) := by
  refine ⟨pe_slice sl_str h.pe hl.po hh.po, fun H0 A0 av ad Γ C σ H Q3 Q R h3 q => ?_⟩
  refine h.sim H0 A0 av ad Γ C σ H _ _ R h3 fun v H1 av1 ad1 d C1 R1 l1 d1 h4 => ?_
  refine hl.sim H0 A0 av1 ad1 Γ C1 σ H1 _ _ R1 h4 fun l H2 av2 ad2 C2 R2 l2 h5 => ?_
  refine hh.sim H0 A0 av2 ad2 Γ C2 σ H2 _ _ R2 h5 fun u H3 av3 ad3 C3 R3 l3 ⟨z, e, hz, q3⟩ => ?_
  subst e
  exact ⟨z, den_str d1, hz, q _ H3 av3 ad3 _ C3 R3 ((l1.trans l2).trans l3) .str q3⟩
end
end L3

namespace L3
open PySem PySem.Spec PyProof.Rows L2
/-- what is wanted behind a statement -/
structure En where
  nx : Slots → Store → Prop
  rt : D → Store → Prop
  bk : Slots → Store → Prop := fun _ _ => False
  ct : Slots → Store → Prop := fun _ _ => False
abbrev SV := En → Slots → Store → Prop
abbrev GV := D → Slots → Store → (Slots → Store → Prop) → Prop
abbrev GVs := List D → Slots → Store → (Slots → Store → Prop) → Prop
structure Lift (K : PySem.W.Frag) (H0 : Hp) (A0 : List Addr) (av : Av) (ad : Ads) (H : Hp) (D3 : En) (De : L2.Ends) : Prop where
  nx : ∀ (av' : Av) (ad' : Ads) (Γ' : Slots) (C' : Store) (σ' : L2.St) (H' : Hp), Rep K H0 A0 av' ad' Γ' C' σ' H' → Le av ad H av' ad' H' → D3.nx Γ' C' → De.nx σ' H'
  rt : ∀ (av' : Av) (ad' : Ads) (Γ' : Slots) (C' : Store) (σ' : L2.St) (H' : Hp) (v : V) (d : D), Rep K H0 A0 av' ad' Γ' C' σ' H' → Le av ad H av' ad' H' → Den K H0 av' ad' H' v d → D3.rt d C' → De.rt v H'
  bk : ∀ (av' : Av) (ad' : Ads) (Γ' : Slots) (C' : Store) (σ' : L2.St) (H' : Hp), Rep K H0 A0 av' ad' Γ' C' σ' H' → Le av ad H av' ad' H' → D3.bk Γ' C' → De.bk σ' H'
  ct : ∀ (av' : Av) (ad' : Ads) (Γ' : Slots) (C' : Store) (σ' : L2.St) (H' : Hp), Rep K H0 A0 av' ad' Γ' C' σ' H' → Le av ad H av' ad' H' → D3.ct Γ' C' → De.ct σ' H'
theorem Lift.later {K : PySem.W.Frag} {H0 : Hp} {A0 : List Addr} {av av1 : Av} {ad ad1 : Ads} {H H1 : Hp} {D3 : En} {D : L2.Ends} (l : Lift K H0 A0 av ad H D3 D) (f : Le av ad H av1 ad1 H1) : Lift K H0 A0 av1 ad1 H1 D3 D :=
  ⟨fun _ _ _ _ _ _ R g q => l.nx _ _ _ _ _ _ R (f.trans g) q, fun _ _ _ _ _ _ _ _ R g x q => l.rt _ _ _ _ _ _ _ _ R (f.trans g) x q, fun _ _ _ _ _ _ R g q => l.bk _ _ _ _ _ _ R (f.trans g) q, fun _ _ _ _ _ _ R g q => l.ct _ _ _ _ _ _ R (f.trans g) q⟩
section
variable (K : PySem.W.Frag)
def SimS (t : TS) (T : SV) : Prop := ∀ (H0 : Hp) (A0 : List Addr) (av : Av) (ad : Ads) (Γ : Slots) (C : Store) (σ : L2.St) (H : Hp) (D3 : En) (D : L2.Ends), Rep K H0 A0 av ad Γ C σ H → T D3 Γ C → Lift K H0 A0 av ad H D3 D → t D σ H
def SimG (g : TG) (G : GV) : Prop := ∀ (H0 : Hp) (A0 : List Addr) (av : Av) (ad : Ads) (Γ : Slots) (C : Store) (σ : L2.St) (H : Hp) (v : V) (d : D) (Q3 : Slots → Store → Prop) (Q : L2.St → Hp → Prop), Rep K H0 A0 av ad Γ C σ H → Den K H0 av ad H v d → G d Γ C Q3 →
  (∀ (av' : Av) (ad' : Ads) (Γ' : Slots) (C' : Store) (σ' : L2.St) (H' : Hp), Rep K H0 A0 av' ad' Γ' C' σ' H' → Le av ad H av' ad' H' → Q3 Γ' C' → Q σ' H') → g v σ H Q
def SimGs (g : TGs) (G : GVs) : Prop := ∀ (H0 : Hp) (A0 : List Addr) (av : Av) (ad : Ads) (Γ : Slots) (C : Store) (σ : L2.St) (H : Hp) (v : List V) (d : List D) (Q3 : Slots → Store → Prop) (Q : L2.St → Hp → Prop), Rep K H0 A0 av ad Γ C σ H → DenAll K H0 av ad H v d → G d Γ C Q3 →
  (∀ (av' : Av) (ad' : Ads) (Γ' : Slots) (C' : Store) (σ' : L2.St) (H' : Hp), Rep K H0 A0 av' ad' Γ' C' σ' H' → Le av ad H av' ad' H' → Q3 Γ' C' → Q σ' H') → g v σ H Q
structure VS (X : Cx) (st : Stmt) (t : TS) (T : SV) : Prop where
  ps : PS X st t
  sim : SimS K t T
structure VSs (X : Cx) (st : List Stmt) (t : TS) (T : SV) : Prop where
  ps : PSs X st t
  sim : SimS K t T
structure VG (X : Cx) (tg : Expr) (g : TG) (G : GV) : Prop where
  pg : PG X tg g
  sim : SimG K g G
structure VGs (X : Cx) (tg : List Expr) (g : TGs) (G : GVs) : Prop where
  pg : PGs X tg g
  sim : SimGs K g G
end
section
variable {K : PySem.W.Frag} {X : Cx} {e a b c o tg : Expr} {es rest : List Expr} {st : Stmt} {sts body orelse : List Stmt} {t ta tb tc te to : TE} {tt tu tA : TT} {ts us : TS} {T U : SV} {g : TG} {G : GV} {gs : TGs} {Gs : GVs} {E Ea Eb Ec Eo : EV} {F : FV} {B B' : BV} {tl : TA} {L : AV} {pos p apos : Pos} {x : Str} {id Ty : String}
def sNext : SV := fun D Γ C => D.nx Γ C
def sSeq (T U : SV) : SV := fun D Γ C => T { D with nx := U D } Γ C
theorem vss_nil : VSs K X [] tNext sNext := ⟨pss_nil, fun H0 A0 av ad Γ C σ H D3 D R h l => l.nx av ad Γ C σ H R Le.refl h⟩
theorem vss_cons (h : VS K X st ts T) (h' : VSs K X sts us U) : VSs K X (st :: sts) (tSeq ts us) (sSeq T U) := ⟨pss_cons h.ps h'.ps, fun H0 A0 av ad Γ C σ H D3 D R q l =>
  h.sim H0 A0 av ad Γ C σ H { D3 with nx := U D3 } { D with nx := us D } R q ⟨fun av' ad' Γ' C' σ' H' R' f q' => h'.sim H0 A0 av' ad' Γ' C' σ' H' D3 D R' q' (l.later f), l.rt, l.bk, l.ct⟩⟩
theorem vss_one (h : VS K X st ts T) : VSs K X [st] ts T := ⟨pss_one h.ps, h.sim⟩
theorem vs_pass : VS K X (.Pass pos) tNext sNext := ⟨ps_pass, fun H0 A0 av ad Γ C σ H D3 D R h l => l.nx av ad Γ C σ H R Le.refl h⟩
def sBreak : SV := fun D Γ C => D.bk Γ C
def sCont : SV := fun D Γ C => D.ct Γ C
theorem vs_break : VS K X (.Break pos) tBreak sBreak := ⟨ps_break, fun H0 A0 av ad Γ C σ H D3 D R h l => l.bk av ad Γ C σ H R Le.refl h⟩
theorem vs_continue : VS K X (.Continue pos) tCont sCont := ⟨ps_continue, fun H0 A0 av ad Γ C σ H D3 D R h l => l.ct av ad Γ C σ H R Le.refl h⟩
def sNever : SV := fun _ _ _ => False
theorem vs_never : VS K X st tNever sNever := ⟨ps_never, fun _ _ _ _ _ _ _ _ _ _ _ h _ => h.elim⟩
def sDrop (E : EV) : SV := fun D Γ C => E Γ C fun _ C' => D.nx Γ C'
theorem vs_expr (h : VE K X e te E) (hs : swapsWith e none pos.line X.env = pure false := by rfl) : VS K X (.Expr e pos) (tDrop te) (sDrop E) := ⟨ps_expr h.pe hs, fun H0 A0 av ad Γ C σ H D3 D R q l =>
  h.sim H0 A0 av ad Γ C σ H _ _ R q fun v H' av' ad' d C' R' l' _ q' => l.nx av' ad' Γ C' σ H' R' l' q'⟩
def sRet (E : EV) : SV := fun D Γ C => E Γ C D.rt
theorem vs_ret (h : VE K X e te E) : VS K X (.Return (some e) pos) (tRet te) (sRet E) := ⟨ps_ret h.pe, fun H0 A0 av ad Γ C σ H D3 D R q l =>
  h.sim H0 A0 av ad Γ C σ H _ _ R q fun v H' av' ad' d C' R' l' dv q' => l.rt av' ad' Γ C' σ H' v d R' l' dv q'⟩
def sRetN : SV := fun D _ C => D.rt .non C
theorem vs_retN : VS K X (.Return none pos) tRetN sRetN := ⟨ps_retN, fun H0 A0 av ad Γ C σ H D3 D R q l => l.rt av ad Γ C σ H .non .non R Le.refl .non q⟩
def sIf (B : BV) (T U : SV) : SV := fun D Γ C => B Γ C fun k C' => if k = true then T D Γ C' else U D Γ C'
theorem vs_if (hc : VT K X c tA B) (h : VSs K X body ts T) (h' : VSs K X orelse us U) : VS K X (.If c body orelse pos) (tIfS tA ts us) (sIf B T U) := ⟨ps_if hc.pt h.ps h'.ps, fun H0 A0 av ad Γ C σ H D3 D R q l =>
  hc.sim H0 A0 av ad Γ C σ H _ _ R q fun k H' av' ad' C' R' l' q' => by
    cases k with
    | true => exact h.sim H0 A0 av' ad' Γ C' σ H' D3 D R' q' (l.later l')
    | false => exact h'.sim H0 A0 av' ad' Γ C' σ H' D3 D R' q' (l.later l')⟩
/-! ### targets -/
def gvName (i : Nat) : GV := fun d Γ C Q => Q (Γ.set i (some d)) C
theorem vg_name (i : Nat) {x : Str} {pos : Pos} (hN : X.N.Nodup) (hi : X.N[i]? = some x := by rfl) (hx : Loc X.env.scope x := by first | exact Or.inl rfl | exact Or.inr rfl) (hf : X.fn x = true ∨ X.env.scope.names.lookup x = some .local := by first | exact .inl rfl | exact .inr rfl) : VG K X (.Name x pos) (gName i) (gvName i) :=
  ⟨pg_name hN hi hx hf, fun H0 A0 av ad Γ C σ H v d Q3 Q R dv h q => q av ad _ C _ H (R.store i dv) Le.refl h⟩
def gvNil : GVs := fun ds Γ C Q => ds = [] ∧ Q Γ C
def gvCons (G : GV) (Gs : GVs) : GVs := fun ds Γ C Q => ∃ d r, ds = d :: r ∧ G d Γ C fun Γ' C' => Gs r Γ' C' Q
theorem vgs_nil : VGs K X [] gNil gvNil := ⟨pgs_nil, fun H0 A0 av ad Γ C σ H v d Q3 Q R dv ⟨e, h⟩ q => by
  subst e
  cases dv
  exact ⟨rfl, q av ad Γ C σ H R Le.refl h⟩⟩
theorem vgs_cons (h : VG K X e g G) (h' : VGs K X es gs Gs) (hs : (assignEach (e :: es) X.env).map (·.2) = assign e X.env :: (assignEach es X.env).map (·.2) := by rfl) : VGs K X (e :: es) (gCons g gs) (gvCons G Gs) := ⟨pgs_cons h.pg h'.pg hs, fun H0 A0 av ad Γ C σ H v d Q3 Q R dv ⟨d1, r, e1, h3⟩ q => by
  subst e1
  cases dv with
  | cons r1 r2 =>
    refine ⟨_, _, rfl, h.sim H0 A0 av ad Γ C σ H _ d1 _ _ R r1 h3 fun av' ad' Γ' C' σ' H' R' l q3 => ?_⟩
    exact h'.sim H0 A0 av' ad' Γ' C' σ' H' _ r _ _ R' (r2.le l) q3 fun av2 ad2 Γ2 C2 σ2 H2 R2 l2 q4 => q av2 ad2 Γ2 C2 σ2 H2 R2 (l.trans l2) q4⟩
def gvTup (n : Nat) (Gs : GVs) : GV := fun d Γ C Q => ∃ ds, d = .tup ds ∧ ds.length = n ∧ Gs ds Γ C Q
theorem vg_tup {k n : Nat} (hK : X.K = K) (hc : X.calm = true) (h : VGs K X es gs Gs) (hn : (assignEach es X.env).length = n := by rfl) (hst : (assignEach es X.env).findIdx? (·.1) = none := by rfl) : VG K X (.Tuple es k pos) (gTup K n gs) (gvTup n Gs) := by
  subst hK
  refine ⟨pg_tup hc h.pg hn hst, fun H0 A0 av ad Γ C σ H v d Q3 Q R dv ⟨ds, e, hl, h3⟩ q => ?_⟩
  subst e
  obtain ⟨p, vs, rfl, hs, r⟩ := R.tup dv
  exact ⟨p, vs, rfl, hs, r.length.trans hl, h.sim H0 A0 av ad Γ C σ H vs ds Q3 Q R r h3 q⟩
/-- xs[i] = v where xs is a cell -/
def gvSubL (Eo Ei : EV) : GV := fun d Γ C Q => Eo Γ C fun x C1 => Ei Γ C1 fun y C2 => ∃ (k : Nat) (xs : List D) (i : Int) (j : Nat), x = .ptr k ∧ y = .int i ∧ C2[k]? = some (.lst xs) ∧ ixN xs.length i = some j ∧ Q Γ (C2.set k (.lst (xs.set j d)))
theorem Rep.lstCell {H0 : Hp} {A0 : List Addr} {av : Av} {ad : Ads} {Γ : Slots} {C : Store} {σ : L2.St} {H : Hp} (R : Rep K H0 A0 av ad Γ C σ H) {k : Nat} {v : V} {xs : List D} (x : Den K H0 av ad H v (.ptr k)) (hc : C[k]? = some (.lst xs)) :
    ∃ a vs, v = .ref a ∧ ad[k]? = some (some a) ∧ H a = some (.lst vs) ∧ DenAll K H0 av ad H vs xs := by
  cases x with
  | ptr h =>
    obtain ⟨vs, e, r⟩ := R.cells k _ _ h hc
    exact ⟨_, vs, rfl, h, e, r⟩
theorem Rep.lstWrite {H0 : Hp} {A0 : List Addr} {av : Av} {ad : Ads} {Γ : Slots} {C : Store} {σ : L2.St} {H : Hp} (R : Rep K H0 A0 av ad Γ C σ H) {k : Nat} {a : Addr} {c : Cell} {ys : List D} {us : List V} (ha : ad[k]? = some (some a)) (hc : C[k]? = some c) (r : DenAll K H0 av ad H us ys) :
    Rep K H0 A0 av ad Γ (C.set k (.lst ys)) σ (upd H a (.lst us)) ∧ Le av ad H av ad (upd H a (.lst us)) := by
  have hlt : k < C.length := (List.getElem?_eq_some_iff.mp hc).1
  have f : Fz av H av (upd H a (.lst us)) := fun b u h n => ⟨by rw [upd_ne (fun e => n (by rw [e]; exact R.av_of ha))]; exact h, n⟩
  refine ⟨R.write ha hlt (fun _ z => nomatch z) fun f => ⟨us, upd_same, r.mono f Pre.refl⟩, f, Pre.refl, fun b e => ?_, fun _ h => h, fun _ h => .inl h, fun b u h n => by rw [upd_ne (fun e => n (by rw [e]; exact mem_ads ha))]; exact h⟩
  by_cases q : b = a
  · subst q; rw [upd_same] at e; cases e
  · rw [upd_ne q] at e; exact e
theorem vg_subL (ho : VE K X o to Eo) (hi : VE K X a ta Ea) (ha : ∀ v, assign (.Subscript o a pos) X.env v = (do
      let ov ← holding [v] (eval o X.env)
      let iv ← holding [v, ov] (eval a X.env)
      standAt pos
      holding [v, ov, iv] (setItem ov iv v)
      release [v, ov, iv] []) := by intro _; rfl) : VG K X (.Subscript o a pos) (gSub to ta rSetL) (gvSubL Eo Ea) := by
  refine ⟨pg_sub ho.pe hi.pe set_list ha, fun H0 A0 av ad Γ C σ H v d Q3 Q R dv h q => ?_⟩
  refine ho.sim H0 A0 av ad Γ C σ H _ _ R h fun vo H1 av1 ad1 d1 C1 R1 l1 e1 h1 => ?_
  refine hi.sim H0 A0 av1 ad1 Γ C1 σ H1 _ _ R1 h1 fun vi H2 av2 ad2 d2 C2 R2 l2 e2 ⟨k, xs, i, j, e3, e4, e5, e6, h2⟩ => ?_
  subst e3 e4
  obtain ⟨p, vs, rfl, hp, hl, r⟩ := R2.lstCell (e1.le l2) e5
  obtain ⟨R3, l3⟩ := R2.lstWrite hp e5 (r.set ((dv.le l1).le l2) j)
  exact ⟨p, vs, i, j, rfl, den_int e2, hl, by rw [r.length]; exact e6, q av2 ad2 Γ _ σ _ R3 ((l1.trans l2).trans l3) h2⟩
/-! ### assignments -/
def sAsg (E : EV) (G : GV) : SV := fun D Γ C => E Γ C fun d C1 => G d Γ C1 D.nx
theorem sim_asg (h : SimE K te E) (h' : SimG K g G) : SimS K (tAsg te g) (sAsg E G) := fun H0 A0 av ad Γ C σ H D3 D R q l =>
  h H0 A0 av ad Γ C σ H _ _ R q fun v H' av' ad' d C' R' l' dv q' =>
    h' H0 A0 av' ad' Γ C' σ H' v d _ _ R' dv q' fun av2 ad2 Γ2 C2 σ2 H2 R2 l2 q2 => l.nx av2 ad2 Γ2 C2 σ2 H2 R2 (l'.trans l2) q2
theorem vs_asg (h : VE K X e te E) (hg : VG K X tg g G) (hs : swapsWithSole [tg] e pos.line X.env = pure false := by rfl) (hw : swappedStores [tg] e X.env = pure none := by rfl)
    (h1 : (assignEach [tg] X.env).map (·.2) = [assign tg X.env] := by rfl) : VS K X (.Assign [tg] e pos) (tAsg te g) (sAsg E G) := ⟨ps_asg h.pe hg.pg hs hw h1, sim_asg h.sim hg.sim⟩
theorem vs_set (i : Nat) {pos' : Pos} (hN : X.N.Nodup) (h : VE K X e te E) (hi : X.N[i]? = some x := by rfl) (hx : Loc X.env.scope x := by first | exact Or.inl rfl | exact Or.inr rfl) (hs : swapsWith e (some (.Name x pos')) pos.line X.env = pure false := by rfl) (hf : X.fn x = true ∨ X.env.scope.names.lookup x = some .local := by first | exact .inl rfl | exact .inr rfl) :
    VS K X (.Assign [.Name x pos'] e pos) (tAsg te (gName i)) (sAsg E (gvName i)) := ⟨ps_set hN hi hx h.pe hs hf, sim_asg h.sim fun H0 A0 av ad Γ C σ H v d Q3 Q R dv h q => q av ad _ C _ H (R.store i dv) Le.refl h⟩
/-- a, b = x, y -/
def sPar (i j : Nat) (L : AV) : SV := fun D Γ C => L Γ C fun ds C1 => ∃ d d', ds = [d, d'] ∧ D.nx ((Γ.set i (some d)).set j (some d')) C1
theorem vs_par (i j : Nat) {x y : Str} {px py pt : Pos} {kt k2 pt2} (hc : X.calm = true) (hN : X.N.Nodup) (ha : VA K X [a, b] tl L) (hi : X.N[i]? = some x := by rfl) (hj : X.N[j]? = some y := by rfl) (hij : i ≠ j := by decide)
    (hx : X.env.scope.names.lookup x = some .local := by rfl) (hy : X.env.scope.names.lookup y = some .local := by rfl)
    (ps : ∀ {t : TA}, PA X [a, b] t → PS X (.Assign [.Tuple [.Name x px, .Name y py] kt pt] (.Tuple [a, b] k2 pt2) pos) (tPar i j t)) :
    VS K X (.Assign [.Tuple [.Name x px, .Name y py] kt pt] (.Tuple [a, b] k2 pt2) pos) (tPar i j tl) (sPar i j L) := ⟨ps ha.pa, fun H0 A0 av ad Γ C σ H D3 D R q l =>
  ha.sim H0 A0 av ad Γ C σ H _ _ R q fun vs H' av' ad' ds C' R' l' dv ⟨d, d', e, q'⟩ => by
    subst e
    obtain ⟨v, v', rfl, r1, r2⟩ := den2 dv
    exact ⟨v, v', rfl, l.nx av' ad' _ C' _ H' ((R'.store i r1).store j r2) l' q'⟩⟩
/-- x += e -/
def sAug (i : Nat) (f : O2) (E : EV) : SV := fun D Γ C => ∃ x, Γ[i]? = some (some x) ∧ E Γ C fun y C1 => f C1 x y fun z => D.nx (Γ.set i (some z)) C1
theorem vs_aug (i : Nat) {op : Operator} {ti : TIp} {f : O2} {pos' : Pos} (hN : X.N.Nodup) (ho : PIp X op ti) (hs : SimR K ti f) (h : VE K X e te E) (hi : X.N[i]? = some x := by rfl) (hx : Loc X.env.scope x := by first | exact Or.inl rfl | exact Or.inr rfl) (hf : X.fn x = true ∨ X.env.scope.names.lookup x = some .local := by first | exact .inl rfl | exact .inr rfl) :
    VS K X (.AugAssign (.Name x pos') op e pos) (tAug i te ti) (sAug i f E) := ⟨ps_aug hN hi hx h.pe ho hf, fun H0 A0 av ad Γ C σ H D3 D R ⟨x, e1, q⟩ l => by
  obtain ⟨v, h1, r1⟩ := R.slot i x e1
  refine ⟨v, h1, h.sim H0 A0 av ad Γ C σ H _ _ R q fun u H' av' ad' d C' R' l' dv q' => ?_⟩
  exact hs H0 A0 av' ad' Γ C' σ H' v u x d _ _ R' (r1.le l') dv q' fun w H2 dw s r2 q2 => l.nx av' ad' _ C' _ H2 ((R'.same s).store i r2) (l'.trans (Le.same s)) q2⟩
theorem sr_ipI {f : Int → Int → Int} : SimR K (ipI f) (oI fun i j => .int (f i j)) := by
  intro H0 A0 av ad Γ C σ H x y dx dy Q3 Q R d1 d2 ⟨i, j, e1, e2, q3⟩ q
  subst e1 e2
  exact ⟨i, j, den_int d1, den_int d2, q _ H _ (fun _ _ h => h) .int q3⟩
/-! ### while -/
def sWhile (B : BV) (T : SV) : SV := fun D Γ C => ∃ W : Nat → Slots → Store → Prop, (∃ m, W m Γ C) ∧ ∀ m Γ C, W m Γ C → B Γ C fun k C1 => if k = true then T { D with nx := fun Γ' C' => ∃ m', m' < m ∧ W m' Γ' C', ct := fun Γ' C' => ∃ m', m' < m ∧ W m' Γ' C', bk := D.nx } Γ C1 else D.nx Γ C1
theorem vs_while (hp : PassesOwn (model X.prog X.w) X.A X.env X.xe) (hc : VT K X c tA B) (h : VSs K X body ts T) : VS K X (.While c body [] pos) (tWhile tA ts) (sWhile B T) := ⟨ps_while hp hc.pt h.ps, fun H0 A0 av ad Γ C σ H D3 D R ⟨W, ⟨m0, w0⟩, turn⟩ l => by
  refine ⟨fun m σ' H' => ∃ av' ad' Γ' C', Rep K H0 A0 av' ad' Γ' C' σ' H' ∧ Le av ad H av' ad' H' ∧ W m Γ' C', ⟨m0, av, ad, Γ, C, R, Le.refl, w0⟩, ?_⟩
  rintro m σ1 H1 ⟨av1, ad1, Γ1, C1, R1, f1, w1⟩
  refine hc.sim H0 A0 av1 ad1 Γ1 C1 σ1 H1 _ _ R1 (turn m Γ1 C1 w1) fun k H2 av2 ad2 C2 R2 l2 q2 => ?_
  cases k with
  | false => exact l.nx av2 ad2 Γ1 C2 σ1 H2 R2 (f1.trans l2) q2
  | true =>
    rw [if_pos rfl]
    refine ⟨fun σ' H' => ∃ av' ad' Γ' C', Rep K H0 A0 av' ad' Γ' C' σ' H' ∧ Le av ad H av' ad' H' ∧ ∃ m', m' < m ∧ W m' Γ' C', fun σ' H' ⟨av', ad', Γ', C', R', f', m', hm, w'⟩ => ⟨m', hm, av', ad', Γ', C', R', f', w'⟩, ?_⟩
    have f2 := f1.trans l2
    exact h.sim H0 A0 av2 ad2 Γ1 C2 σ1 H2 _ _ R2 q2 ⟨fun av' ad' Γ' C' σ' H' R' f' q' => ⟨av', ad', Γ', C', R', f2.trans f', q'⟩, fun _ _ _ _ _ _ _ _ R' f' x q' => l.rt _ _ _ _ _ _ _ _ R' (f2.trans f') x q',
      fun av' ad' Γ' C' σ' H' R' f' q' => l.nx av' ad' Γ' C' σ' H' R' (f2.trans f') q', fun av' ad' Γ' C' σ' H' R' f' q' => ⟨av', ad', Γ', C', R', f2.trans f', q'⟩⟩⟩
end
end L3

namespace L3
open PySem PySem.Spec PyProof.Rows L2
/-! ### data without cells -/
mutual
def noptr : D → Bool
  | .lst _ xs => noptrs xs
  | .tup xs => noptrs xs
  | .dk _ _ xs => noptrs xs
  | .dt _ _ xs => noptrs xs
  | .obj _ _ xs => noptrs xs
  | .ptr _ => false
  | _ => true
def noptrs : List D → Bool
  | [] => true
  | x :: xs => noptr x && noptrs xs
end
section
variable {K : PySem.W.Frag} {H0 : Hp} {av av' : Av} {ad ad' : Ads} {H H' : Hp}
mutual
theorem Den.np (f : Fz av H av' H') : ∀ {v : V} {d : D}, Den K H0 av ad H v d → noptr d = true → Den K H0 av' ad' H' v d
  | _, _, .bad, _ => .bad
  | _, _, .non, _ => .non
  | _, _, .bl, _ => .bl
  | _, _, .int, _ => .int
  | _, _, .str, _ => .str
  | _, _, .lst r o x, h => .lst (f.lst r) (fun z => ⟨(o z).1, (f _ _ (o z).2 r.2).1⟩) (DenAll.np f x (by simpa [noptr] using h))
  | _, _, .tup r x, h => .tup (f.tup r) (DenAll.np f x (by simpa [noptr] using h))
  | _, _, .dk r n o k x, h => .dk (f.rd r n).1 (f.rd r n).2 o k (DenAll.np f x (by simpa [noptr] using h))
  | _, _, .dt r n o k x, h => .dt (f.rd r n).1 (f.rd r n).2 o k (DenAll.np f x (by simpa [noptr] using h))
  | _, _, .obj r n k x, h => .obj (f _ _ r n).1 (f _ _ r n).2 k (DenAll.np f x (by simpa [noptr] using h))
  | _, _, .ptr _, h => by simp [noptr] at h
theorem DenAll.np (f : Fz av H av' H') : ∀ {vs : List V} {ds : List D}, DenAll K H0 av ad H vs ds → noptrs ds = true → DenAll K H0 av' ad' H' vs ds
  | _, _, .nil, _ => .nil
  | _, _, .cons a b, h => by
    simp only [noptrs, Bool.and_eq_true] at h
    exact .cons (Den.np f a h.1) (DenAll.np f b h.2)
end
end
theorem noptrs_map {α : Type} {f : α → D} (l : List α) (h : ∀ x ∈ l, noptr (f x) = true) : noptrs (l.map f) = true := by
  induction l with
  | nil => rfl
  | cons x l ih => rw [List.map_cons]; simp only [noptrs, Bool.and_eq_true]; exact ⟨h x (List.mem_cons_self ..), ih fun y hy => h y (List.mem_cons_of_mem _ hy)⟩
theorem noptrs_get : ∀ {ds : List D} {i : Nat} {d : D}, noptrs ds = true → ds[i]? = some d → noptr d = true
  | x :: xs, 0, d, h, e => by simp at e; subst e; simp only [noptrs, Bool.and_eq_true] at h; exact h.1
  | x :: xs, i + 1, d, h, e => by simp only [noptrs, Bool.and_eq_true] at h; exact noptrs_get h.2 (by simpa using e)
  | [], _, _, _, e => by simp at e

/-! ### what a loop walks -/
/-- how things stood where the walk began, and stand: src are the cells that are walked -/
def Keeps (av0 : Av) (ad0 : Ads) (C0 : Store) (H0 : Hp) (src : List Nat) (ds : List D) (av : Av) (ad : Ads) (C : Store) (H : Hp) : Prop :=
  Fz av0 H0 av H ∧ (noptrs ds = true ∨ Pre ad0 ad) ∧ ∀ k, k ∈ src → ad[k]? = ad0[k]? ∧ C[k]? = C0[k]?
def Yields (K : PySem.W.Frag) (H0 : Hp) (A0 : List Addr) (J : It) (St : Av → Ads → Store → Hp → Prop) (ds : List D) : Prop :=
  ∀ (av : Av) (ad : Ads) (Γ : Slots) (C : Store) (σ : L2.St) (H : Hp) (i : Nat), Rep K H0 A0 av ad Γ C σ H → St av ad C H →
    (i < ds.length → J.go i H ∧ ∀ x H', J.yld i H x H' → (∀ a o, H a = some o → H' a = some o) ∧ ∃ d, ds[i]? = some d ∧ Den K H0 av ad H' x d) ∧ (ds.length ≤ i → J.stop i H)
abbrev IV := Slots → Store → (List D → List Nat → Store → Prop) → Prop
def SimI (K : PySem.W.Frag) (wi : TI) (E : IV) : Prop := ∀ (H0 : Hp) (A0 : List Addr) (av : Av) (ad : Ads) (Γ : Slots) (C : Store) (σ : L2.St) (H : Hp) (Q3 : List D → List Nat → Store → Prop) (R : It → Hp → Prop), Rep K H0 A0 av ad Γ C σ H → E Γ C Q3 →
  (∀ (J : It) (H' : Hp) (av' : Av) (ad' : Ads) (C' : Store) (ds : List D) (src : List Nat), Rep K H0 A0 av' ad' Γ C' σ H' → Le av ad H av' ad' H' → Yields K H0 A0 J (Keeps av' ad' C' H' src ds) ds → Q3 ds src C' → R J H') → wi σ H R
structure VI (K : PySem.W.Frag) (X : Cx) (tg iter : Expr) (wi : TI) (E : IV) : Prop where
  pi : PI X tg iter wi
  sim : SimI K wi E
def srcOf : D → List Nat
  | .ptr k => [k]
  | _ => []
section
variable {K : PySem.W.Frag} {X : Cx} {e a b c o tg l : Expr} {es rest elts : List Expr} {st : Stmt} {sts body orelse : List Stmt} {t ta tb tc te to tle : TE} {tt tu tA : TT} {ts us : TS} {T U : SV} {g : TG} {G : GV} {E Ea Eb Ec Eo : EV} {F : FV} {B B' : BV} {tl : TA} {L : AV} {pos p apos tpos : Pos} {x : Str} {wi : TI} {I : IV} {kk : Nat}
/-- what a list value reads, now and later in the walk -/
theorem lst_later {H0 : Hp} {A0 : List Addr} {av : Av} {ad : Ads} {Γ : Slots} {C : Store} {σ : L2.St} {H : Hp} {d : D} {v : V} {xs ds : List D} {src : List Nat} (R : Rep K H0 A0 av ad Γ C σ H) (x : Den K H0 av ad H v d) (e : lstOf C d = some xs) (hsrc : ∀ k, k ∈ srcOf d → k ∈ src)
    (hds : noptrs ds = true → noptrs xs = true) :
    ∃ a, v = .ref a ∧ (∃ vs, SqL K H a vs) ∧ ∀ (av' : Av) (ad' : Ads) (Γ' : Slots) (C' : Store) (σ' : L2.St) (H' : Hp), Rep K H0 A0 av' ad' Γ' C' σ' H' → Keeps av ad C H src ds av' ad' C' H' → ∃ vs, SqL K H' a vs ∧ DenAll K H0 av' ad' H' vs xs := by
  cases x with
  | @lst a vs ob ds' r ho q =>
    simp only [lstOf] at e; cases e
    refine ⟨a, rfl, ⟨vs, r.sq⟩, fun av' ad' Γ' C' σ' H' R' k => ⟨vs, (k.1.lst r).sq, ?_⟩⟩
    rcases k.2.1 with z | z
    · exact q.np k.1 (hds z)
    · exact q.mono k.1 z
  | @ptr a k h =>
    obtain ⟨a', vs, e1, e2, e3⟩ := R.lst (.ptr h) e
    cases e1
    refine ⟨a, rfl, ⟨vs, .inl e2⟩, fun av' ad' Γ' C' σ' H' R' kp => ?_⟩
    obtain ⟨h1, h2⟩ := kp.2.2 k (hsrc k (List.mem_singleton.mpr rfl))
    have e' : lstOf C' (.ptr k) = some xs := by simp only [lstOf] at e ⊢; rw [h2]; exact e
    obtain ⟨a2, us, q1, q2, q3⟩ := R'.lst (v := .ref a) (.ptr (h1.trans h)) e'
    cases q1
    exact ⟨us, .inl q2, q3⟩
  | bad => cases e
  | non => cases e
  | bl => cases e
  | int => cases e
  | str => cases e
  | tup _ _ => cases e
  | dk _ _ _ _ _ => cases e
  | dt _ _ _ _ _ => cases e
  | obj _ _ _ _ => cases e
def iLst (E : EV) : IV := fun Γ C Q => E Γ C fun d C1 => ∃ xs, lstOf C1 d = some xs ∧ Q xs (srcOf d) C1
theorem vi_list (hK : X.K = K) (h : VE K X l tle E) : VI K X tg l (iList K tle) (iLst E) := by
  subst hK
  refine ⟨pi_list h.pe, fun H0 A0 av ad Γ C σ H Q3 Rr R h3 q => ?_⟩
  refine h.sim H0 A0 av ad Γ C σ H _ _ R h3 fun v H' av' ad' d C' R' l' dv ⟨xs, e, q3⟩ => ?_
  obtain ⟨a, rfl, hs, later⟩ := lst_later (ds := xs) (src := srcOf d) R' dv e (fun _ z => z) (fun z => z)
  refine ⟨a, rfl, hs, q (Itl X.K a) H' av' ad' C' xs (srcOf d) R' l' (fun av1 ad1 Γ1 C1 σ1 H1 i R1 k => ?_) q3⟩
  obtain ⟨vs, s1, r1⟩ := later av1 ad1 Γ1 C1 σ1 H1 R1 k
  refine ⟨fun hi => ⟨⟨vs, vs[i]'(by rw [r1.length]; exact hi), s1, by simp⟩, fun y H2 ⟨e1, e2⟩ => ?_⟩, fun hi => ⟨vs, s1, by rw [r1.length]; exact hi⟩⟩
  subst e1
  obtain ⟨d', e3, r3⟩ := r1.get' (e2 vs s1)
  exact ⟨fun _ _ h => h, d', e3, r3⟩
def iTupl (E : EV) : IV := fun Γ C Q => E Γ C fun d C1 => ∃ xs, d = .tup xs ∧ Q xs [] C1
theorem vi_tup (hK : X.K = K) (h : VE K X l tle E) : VI K X tg l (iTup K tle) (iTupl E) := by
  subst hK
  refine ⟨pi_tup h.pe, fun H0 A0 av ad Γ C σ H Q3 Rr R h3 q => ?_⟩
  refine h.sim H0 A0 av ad Γ C σ H _ _ R h3 fun v H' av' ad' d C' R' l' dv ⟨xs, e, q3⟩ => ?_
  subst e
  cases dv with
  | @tup a vs _ r rs =>
  refine ⟨a, rfl, ⟨vs, r.sq⟩, q (Itt X.K a) H' av' ad' C' xs [] R' l' (fun av1 ad1 Γ1 C1 σ1 H1 i R1 k => ?_) q3⟩
  have s1 : SqT X.K H1 a vs := (k.1.tup r).sq
  have r1 : DenAll X.K H0 av1 ad1 H1 vs xs := by
    rcases k.2.1 with z | z
    · exact rs.np k.1 z
    · exact rs.mono k.1 z
  have inj : ∀ us, SqT X.K H1 a us → (H1 a = some (.tup vs)) → us[i]? = vs[i]? ∨ True := fun _ _ _ => .inr trivial
  refine ⟨fun hi => ⟨⟨vs, vs[i]'(by rw [r1.length]; exact hi), s1, by simp⟩, fun y H2 ⟨e1, e2⟩ => ?_⟩, fun hi => ⟨vs, s1, by rw [r1.length]; exact hi⟩⟩
  subst e1
  obtain ⟨d', e3, r3⟩ := r1.get' (e2 vs s1)
  exact ⟨fun _ _ h => h, d', e3, r3⟩
/-- range -/
def rgI (lo : Int) (n : Nat) : List D := (List.range n).map fun i => .int (lo + (i : Nat))
theorem rgI_np {lo : Int} {n : Nat} : noptrs (rgI lo n) = true := noptrs_map _ fun _ _ => rfl
theorem yields_range {H0 : Hp} {A0 : List Addr} {lo : Int} {n : Nat} {St : Av → Ads → Store → Hp → Prop} : Yields K H0 A0 (Itr lo n) St (rgI lo n) := fun av ad Γ C σ H i R _ => by
  have hl : (rgI lo n).length = n := by simp [rgI]
  refine ⟨fun hi => ⟨by rw [hl] at hi; exact hi, fun y H2 ⟨e1, e2⟩ => ?_⟩, fun hi => by rw [hl] at hi; exact hi⟩
  subst e1 e2
  rw [hl] at hi
  exact ⟨fun _ _ h => h, .int (lo + i), by simp [rgI, hi], .int⟩
def iRange1 (L : AV) : IV := fun Γ C Q => L Γ C fun ds C1 => ∃ j : Int, ds = [.int j] ∧ -(2 ^ 62) ≤ j ∧ j < 2 ^ 62 ∧ Q (rgI 0 j.toNat) [] C1
theorem vi_range1 (hm : X.mg "range" = none) (h : VA K X [a] tl L) (hg : Gl X "range" := by rfl) (hs : starEach [a] X.env = [(false, eval a X.env)] := by rfl) : VI K X tg (.Call (.Name "range" p) [a] [] pos) (iRng1 tl) (iRange1 L) :=
  ⟨pi_range1 hg hm h.pa hs, fun H0 A0 av ad Γ C σ H Q3 Rr R h3 q =>
    h.sim H0 A0 av ad Γ C σ H _ _ R h3 fun vs H' av' ad' ds C' R' l' dv ⟨j, e, h1, h2, q3⟩ => by
      subst e
      obtain ⟨v, rfl, r⟩ := den1 dv
      exact ⟨j, by rw [den_int r], h1, h2, q _ H' av' ad' C' _ _ R' l' yields_range q3⟩⟩
def iRange2 (L : AV) : IV := fun Γ C Q => L Γ C fun ds C1 => ∃ i j : Int, ds = [.int i, .int j] ∧ (-(2 ^ 62) ≤ i ∧ i < 2 ^ 62 ∧ -(2 ^ 62) ≤ j ∧ j < 2 ^ 62) ∧ Q (rgI i (j - i).toNat) [] C1
theorem vi_range2 (hm : X.mg "range" = none) (h : VA K X [a, b] tl L) (hg : Gl X "range" := by rfl) (hs : starEach [a, b] X.env = [(false, eval a X.env), (false, eval b X.env)] := by rfl) (hs2 : starEach [b] X.env = [(false, eval b X.env)] := by rfl) :
    VI K X tg (.Call (.Name "range" p) [a, b] [] pos) (iRng2 tl) (iRange2 L) :=
  ⟨pi_range2 hg hm h.pa hs hs2, fun H0 A0 av ad Γ C σ H Q3 Rr R h3 q =>
    h.sim H0 A0 av ad Γ C σ H _ _ R h3 fun vs H' av' ad' ds C' R' l' dv ⟨i, j, e, hb, q3⟩ => by
      subst e
      obtain ⟨v, u, rfl, r, r2⟩ := den2 dv
      exact ⟨i, j, by rw [den_int r, den_int r2], hb, q _ H' av' ad' C' _ _ R' l' yields_range q3⟩⟩
/-- the signs of a text -/
def signs (s : Str) : List D := s.cps.toList.map fun c => .str ⟨#[c]⟩
def iSigns (E : EV) : IV := fun Γ C Q => E Γ C fun d C1 => ∃ s, d = .str s ∧ Q (signs s) [] C1
theorem vi_str (h : VE K X l tle E) : VI K X tg l (iStr tle) (iSigns E) := by
  refine ⟨pi_str h.pe, fun H0 A0 av ad Γ C σ H Q3 Rr R h3 q => ?_⟩
  refine h.sim H0 A0 av ad Γ C σ H _ _ R h3 fun v H' av' ad' d C' R' l' dv ⟨s, e, q3⟩ => ?_
  subst e
  refine ⟨s, den_str dv, q _ H' av' ad' C' _ _ R' l' (fun av1 ad1 Γ1 C1 σ1 H1 i R1 k => ?_) q3⟩
  have hl : (signs s).length = s.cps.size := by simp [signs]
  refine ⟨fun hi => ⟨by rw [hl] at hi; exact hi, fun y H2 ⟨e1, c, e2, e3⟩ => ?_⟩, fun hi => by rw [hl] at hi; exact hi⟩
  subst e1 e3
  refine ⟨fun _ _ h => h, .str ⟨#[c]⟩, ?_, .str⟩
  simp only [signs, List.getElem?_map, Array.getElem?_toList, e2, Option.map_some]
/-- enumerate, zip (a tuple of names) -/
def enumD (i : Nat) : List D → List D
  | [] => []
  | x :: xs => .tup [.int i, x] :: enumD (i + 1) xs
theorem enumD_len : ∀ (xs : List D) (i : Nat), (enumD i xs).length = xs.length
  | [], _ => rfl
  | _ :: xs, i => congrArg (· + 1) (enumD_len xs (i + 1))
theorem enumD_get : ∀ (xs : List D) (i j : Nat) {x : D}, xs[j]? = some x → (enumD i xs)[j]? = some (.tup [.int ((i + j : Nat) : Int), x])
  | [], _, _, _, e => by simp at e
  | y :: xs, i, 0, x, e => by simp at e; subst e; rfl
  | y :: xs, i, j + 1, x, e => by
    have := enumD_get xs (i + 1) j (x := x) (by simpa using e)
    rw [show i + 1 + j = i + (j + 1) by omega] at this
    exact this
theorem enumD_np : ∀ (xs : List D) (i : Nat), noptrs (enumD i xs) = noptrs xs
  | [], _ => rfl
  | x :: xs, i => by simp only [enumD, noptrs, noptr, Bool.and_true, Bool.true_and]; rw [enumD_np xs]
def iEnumD (L : AV) : IV := fun Γ C Q => L Γ C fun ds C1 => ∃ d xs, ds = [d] ∧ lstOf C1 d = some xs ∧ Q (enumD 0 xs) (srcOf d) C1
theorem vi_enum (hK : X.K = K) (hm : X.mg "enumerate" = none) (h : VA K X [a] tl L) (hg : Gl X "enumerate" := by rfl) (hs : starEach [a] X.env = [(false, eval a X.env)] := by rfl) :
    VI K X (.Tuple elts kk tpos) (.Call (.Name "enumerate" p) [a] [] pos) (iEnum K tl) (iEnumD L) := by
  subst hK
  refine ⟨pi_enum hg hm h.pa hs, fun H0 A0 av ad Γ C σ H Q3 Rr R h3 q => ?_⟩
  refine h.sim H0 A0 av ad Γ C σ H _ _ R h3 fun vs H' av' ad' ds C' R' l' dv ⟨d, xs, e1, e, q3⟩ => ?_
  subst e1
  obtain ⟨v, rfl, r⟩ := den1 dv
  obtain ⟨a, rfl, ⟨vs, hs⟩, later⟩ := lst_later (ds := enumD 0 xs) (src := srcOf d) R' r e (fun _ z => z) (fun z => by rw [enumD_np] at z; exact z)
  refine ⟨a, vs, rfl, hs, q _ H' av' ad' C' _ (srcOf d) R' l' (fun av1 ad1 Γ1 C1 σ1 H1 i R1 k => ?_) q3⟩
  obtain ⟨us, s1, r1⟩ := later av1 ad1 Γ1 C1 σ1 H1 R1 k
  rw [enumD_len]
  refine ⟨fun hi => ⟨⟨us, us[i]'(by rw [r1.length]; exact hi), s1, by simp⟩, fun y H2 ⟨T, x, e1, e2, e3, e4⟩ => ?_⟩, fun hi => ⟨us, s1, by rw [r1.length]; exact hi⟩⟩
  subst e1 e3
  obtain ⟨d', e5, r3⟩ := r1.get' (e4 us s1)
  refine ⟨same_upd e2, _, enumD_get xs 0 i e5, .tup ⟨upd_same, R1.nav e2⟩ (.cons ?_ (.cons (r3.le (Le.new e2)) .nil))⟩
  rw [Nat.zero_add]
  exact .int
def zipD : List D → List D → List D
  | x :: xs, y :: ys => .tup [x, y] :: zipD xs ys
  | _, _ => []
theorem zipD_len : ∀ (xs ys : List D), (zipD xs ys).length = min xs.length ys.length
  | [], ys => by simp [zipD]
  | _ :: _, [] => by simp [zipD]
  | x :: xs, y :: ys => by simp only [zipD, List.length_cons, zipD_len xs ys]; omega
theorem zipD_get : ∀ (xs ys : List D) (j : Nat) {x y : D}, xs[j]? = some x → ys[j]? = some y → (zipD xs ys)[j]? = some (.tup [x, y])
  | [], _, _, _, _, e, _ => by simp at e
  | _ :: _, [], _, _, _, _, e => by simp at e
  | a :: xs, b :: ys, 0, x, y, e, e2 => by simp at e e2; subst e e2; rfl
  | a :: xs, b :: ys, j + 1, x, y, e, e2 => zipD_get xs ys j (x := x) (y := y) (by simpa using e) (by simpa using e2)
def iZipD (L : AV) : IV := fun Γ C Q => L Γ C fun ds C1 => ∃ d d' xs ys, ds = [d, d'] ∧ lstOf C1 d = some xs ∧ lstOf C1 d' = some ys ∧ (noptrs xs && noptrs ys) = true ∧ Q (zipD xs ys) (srcOf d ++ srcOf d') C1
theorem vi_zip (hK : X.K = K) (hm : X.mg "zip" = none) (h : VA K X [a, b] tl L) (hg : Gl X "zip" := by rfl) (hs : starEach [a, b] X.env = (false, eval a X.env) :: starEach [b] X.env := by rfl) (hpl : (backTo pos (starEach [b] X.env)).any (·.1) = false := by rfl) :
    VI K X (.Tuple elts kk tpos) (.Call (.Name "zip" p) [a, b] [] pos) (iZip K tl) (iZipD L) := by
  subst hK
  refine ⟨pi_zip hg hm h.pa hs hpl, fun H0 A0 av ad Γ C σ H Q3 Rr R h3 q => ?_⟩
  refine h.sim H0 A0 av ad Γ C σ H _ _ R h3 fun vs H' av' ad' ds C' R' l' dv ⟨d, d', xs, ys, e1, e, e', hnp, q3⟩ => ?_
  subst e1
  simp only [Bool.and_eq_true] at hnp
  obtain ⟨v, v', rfl, r, r'⟩ := den2 dv
  obtain ⟨a, rfl, ⟨vs, hs⟩, later⟩ := lst_later (ds := zipD xs ys) (src := srcOf d ++ srcOf d') R' r e (fun _ z => List.mem_append_left _ z) (fun _ => hnp.1)
  obtain ⟨b, rfl, ⟨us, hs2⟩, later2⟩ := lst_later (ds := zipD xs ys) (src := srcOf d ++ srcOf d') R' r' e' (fun _ z => List.mem_append_right _ z) (fun _ => hnp.2)
  refine ⟨a, b, vs, us, rfl, hs, hs2, q _ H' av' ad' C' _ _ R' l' (fun av1 ad1 Γ1 C1 σ1 H1 i R1 k => ?_) q3⟩
  obtain ⟨vs1, s1, r1⟩ := later av1 ad1 Γ1 C1 σ1 H1 R1 k
  obtain ⟨us1, s2, r2⟩ := later2 av1 ad1 Γ1 C1 σ1 H1 R1 k
  have l1 := r1.length
  have l2 := r2.length
  rw [zipD_len]
  refine ⟨fun hi => ⟨⟨vs1, us1, vs1[i]'(by omega), us1[i]'(by omega), s1, s2, by simp, by simp⟩, fun y H2 ⟨T, x, z, e1, e2, e3, e4, e5⟩ => ?_⟩, fun hi => ⟨vs1, us1, s1, s2, by omega⟩⟩
  subst e1 e3
  obtain ⟨dx, e6, rx⟩ := r1.get' (e4 vs1 s1)
  obtain ⟨dz, e7, rz⟩ := r2.get' (e5 us1 s2)
  exact ⟨same_upd e2, _, zipD_get xs ys i e6 e7, .tup ⟨upd_same, R1.nav e2⟩ (.cons (rx.le (Le.new e2)) (.cons (rz.le (Le.new e2)) .nil))⟩
/-! ### for -/
def forW (G : GV) (T : SV) (D3 : En) : List D → Slots → Store → Prop
  | [], Γ, C => D3.nx Γ C
  | d :: ds, Γ, C => G d Γ C fun Γ1 C1 => T { D3 with nx := forW G T D3 ds, ct := forW G T D3 ds, bk := D3.nx } Γ1 C1
def sFor (I : IV) (G : GV) (T : SV) : SV := fun D3 Γ C => I Γ C fun ds src C1 => src = [] ∧ noptrs ds = true ∧ forW G T D3 ds Γ C1
theorem vs_for (hp : PassesOwn (model X.prog X.w) X.A X.env X.xe) (hc : X.calm = true) (hi : VI K X tg e wi I) (hg : VG K X tg g G) (hb : VSs K X body ts T)
    (hs : ∀ x, foldedSetIterable e X.env x = pure x := by intro _; rfl) : VS K X (.For tg e body [] pos) (tFor wi g ts) (sFor I G T) := ⟨ps_for hp hc hi.pi hg.pg hb.ps hs, fun H0 A0 av ad Γ C σ H D3 De R q l => by
  refine hi.sim H0 A0 av ad Γ C σ H _ _ R q fun J H1 av1 ad1 C1 ds src R1 l1 Y ⟨hsrc, hnp, w0⟩ => ?_
  subst hsrc
  refine ⟨fun i m σ' H' => m = ds.length - i ∧ i ≤ ds.length ∧ ∃ av' ad' Γ' C', Rep K H0 A0 av' ad' Γ' C' σ' H' ∧ Le av1 ad1 H1 av' ad' H' ∧ forW G T D3 (ds.drop i) Γ' C', ⟨ds.length, by simp, Nat.zero_le _, av1, ad1, Γ, C1, R1, Le.refl, w0⟩, ?_⟩
  rintro i m σ2 H2 ⟨rfl, hi, av2, ad2, Γ2, C2, R2, f2, w2⟩
  have k : Keeps av1 ad1 C1 H1 [] ds av2 ad2 C2 H2 := ⟨f2.fz, .inl hnp, fun _ z => nomatch z⟩
  obtain ⟨y1, y2⟩ := Y av2 ad2 Γ2 C2 σ2 H2 i R2 k
  by_cases hlt : i < ds.length
  · obtain ⟨hgo, hy⟩ := y1 hlt
    refine .inr ⟨hgo, fun σ' H' => i + 1 ≤ ds.length ∧ ∃ av' ad' Γ' C', Rep K H0 A0 av' ad' Γ' C' σ' H' ∧ Le av1 ad1 H1 av' ad' H' ∧ forW G T D3 (ds.drop (i + 1)) Γ' C', fun σ' H' ⟨h1, h2⟩ => ⟨ds.length - (i + 1), by omega, rfl, h1, h2⟩, fun x H3 hx => ?_⟩
    obtain ⟨s3, d, e3, r3⟩ := hy x H3 hx
    have ed : ds.drop i = d :: ds.drop (i + 1) := by
      rw [List.drop_eq_getElem_cons hlt]
      have : ds[i] = d := by
        rw [List.getElem?_eq_getElem hlt] at e3
        exact Option.some.inj e3
      rw [this]
    rw [ed] at w2
    refine hg.sim H0 A0 av2 ad2 Γ2 C2 σ2 H3 x d _ _ (R2.same s3) r3 w2 fun av4 ad4 Γ4 C4 σ4 H4 R4 l4 w4 => ?_
    have f4 : Le av1 ad1 H1 av4 ad4 H4 := (f2.trans (Le.same s3)).trans l4
    exact hb.sim H0 A0 av4 ad4 Γ4 C4 σ4 H4 _ _ R4 w4 ⟨fun av' ad' Γ' C' σ' H' R' f' q' => ⟨hlt, av', ad', Γ', C', R', f4.trans f', q'⟩,
      fun _ _ _ _ _ _ _ _ R' f' x q' => l.rt _ _ _ _ _ _ _ _ R' ((l1.trans f4).trans f') x q',
      fun av' ad' Γ' C' σ' H' R' f' q' => l.nx av' ad' Γ' C' σ' H' R' ((l1.trans f4).trans f') q', fun av' ad' Γ' C' σ' H' R' f' q' => ⟨hlt, av', ad', Γ', C', R', f4.trans f', q'⟩⟩
  · have e : i = ds.length := by omega
    subst e
    rw [List.drop_length] at w2
    exact .inl ⟨y2 (Nat.le_refl _), l.nx av2 ad2 Γ2 C2 σ2 H2 R2 (l1.trans f2) w2⟩⟩
/-- the same where a cell may be gone through: it must stay as it is -/
def forC (G : GV) (T : SV) (D3 : En) (ok : Store → Prop) : List D → Slots → Store → Prop
  | [], Γ, C => D3.nx Γ C
  | d :: ds, Γ, C => G d Γ C fun Γ1 C1 => T { D3 with nx := fun Γ C => ok C ∧ forC G T D3 ok ds Γ C, ct := fun Γ C => ok C ∧ forC G T D3 ok ds Γ C, bk := D3.nx } Γ1 C1
def sForC (I : IV) (G : GV) (T : SV) : SV := fun D3 Γ C => I Γ C fun ds src C1 => noptrs ds = true ∧ forC G T D3 (fun C => ∀ k, k ∈ src → C[k]? = C1[k]?) ds Γ C1
theorem Le.keeps {K : PySem.W.Frag} {H0 : Hp} {A0 : List Addr} {av1 av2 : Av} {ad1 ad2 : Ads} {Γ1 Γ2 : Slots} {C1 C2 : Store} {σ1 σ2 : L2.St} {H1 H2 : Hp} {src : List Nat} {ds : List D} (R1 : Rep K H0 A0 av1 ad1 Γ1 C1 σ1 H1) (R2 : Rep K H0 A0 av2 ad2 Γ2 C2 σ2 H2) (l2 : Le av1 ad1 H1 av2 ad2 H2) (hnp : noptrs ds = true) (ok2 : ∀ k, k ∈ src → C2[k]? = C1[k]?) : Keeps av1 ad1 C1 H1 src ds av2 ad2 C2 H2 := by
  refine ⟨l2.fz, .inl hnp, fun k hk => ⟨?_, ok2 k hk⟩⟩
  cases e : ad1[k]? with
  | none =>
    have h1 := R1.len
    have h2 : C1[k]? = none := by rw [List.getElem?_eq_none_iff] at e ⊢; omega
    have h3 := ok2 k hk
    rw [h2] at h3
    rw [List.getElem?_eq_none_iff] at h3 ⊢
    have := R2.len
    omega
  | some o =>
    cases o with
    | some a => exact l2.pre k a e
    | none =>
      have h1 := R1.gone k e
      have h2 := ok2 k hk
      rw [h1] at h2
      have hlt : k < ad2.length := by rw [R2.len]; exact (List.getElem?_eq_some_iff.mp h2).1
      cases q2 : ad2[k]? with
      | none => rw [List.getElem?_eq_getElem hlt] at q2; cases q2
      | some o =>
        cases o with
        | none => rfl
        | some a => exact (R2.cells k a _ q2 h2).elim
theorem vs_forC (hp : PassesOwn (model X.prog X.w) X.A X.env X.xe) (hc : X.calm = true) (hi : VI K X tg e wi I) (hg : VG K X tg g G) (hb : VSs K X body ts T)
    (hs : ∀ x, foldedSetIterable e X.env x = pure x := by intro _; rfl) : VS K X (.For tg e body [] pos) (tFor wi g ts) (sForC I G T) := ⟨ps_for hp hc hi.pi hg.pg hb.ps hs, fun H0 A0 av ad Γ C σ H D3 De R q l => by
  refine hi.sim H0 A0 av ad Γ C σ H _ _ R q fun J H1 av1 ad1 C1 ds src R1 l1 Y ⟨hnp, w0⟩ => ?_
  let okS : Store → Prop := fun C => ∀ k, k ∈ src → C[k]? = C1[k]?
  refine ⟨fun i m σ' H' => m = ds.length - i ∧ i ≤ ds.length ∧ ∃ av' ad' Γ' C', Rep K H0 A0 av' ad' Γ' C' σ' H' ∧ Le av1 ad1 H1 av' ad' H' ∧ okS C' ∧ forC G T D3 okS (ds.drop i) Γ' C', ⟨ds.length, by simp, Nat.zero_le _, av1, ad1, Γ, C1, R1, Le.refl, fun _ _ => rfl, w0⟩, ?_⟩
  rintro i m σ2 H2 ⟨rfl, hi, av2, ad2, Γ2, C2, R2, f2, ok2, w2⟩
  have k : Keeps av1 ad1 C1 H1 src ds av2 ad2 C2 H2 := f2.keeps R1 R2 hnp ok2
  obtain ⟨y1, y2⟩ := Y av2 ad2 Γ2 C2 σ2 H2 i R2 k
  by_cases hlt : i < ds.length
  · obtain ⟨hgo, hy⟩ := y1 hlt
    refine .inr ⟨hgo, fun σ' H' => i + 1 ≤ ds.length ∧ ∃ av' ad' Γ' C', Rep K H0 A0 av' ad' Γ' C' σ' H' ∧ Le av1 ad1 H1 av' ad' H' ∧ okS C' ∧ forC G T D3 okS (ds.drop (i + 1)) Γ' C', fun σ' H' ⟨h1, h2⟩ => ⟨ds.length - (i + 1), by omega, rfl, h1, h2⟩, fun x H3 hx => ?_⟩
    obtain ⟨s3, d, e3, r3⟩ := hy x H3 hx
    have ed : ds.drop i = d :: ds.drop (i + 1) := by
      rw [List.drop_eq_getElem_cons hlt]
      have : ds[i] = d := by
        rw [List.getElem?_eq_getElem hlt] at e3
        exact Option.some.inj e3
      rw [this]
    rw [ed] at w2
    refine hg.sim H0 A0 av2 ad2 Γ2 C2 σ2 H3 x d _ _ (R2.same s3) r3 w2 fun av4 ad4 Γ4 C4 σ4 H4 R4 l4 w4 => ?_
    have f4 : Le av1 ad1 H1 av4 ad4 H4 := (f2.trans (Le.same s3)).trans l4
    exact hb.sim H0 A0 av4 ad4 Γ4 C4 σ4 H4 _ _ R4 w4 ⟨fun av' ad' Γ' C' σ' H' R' f' q' => ⟨hlt, av', ad', Γ', C', R', f4.trans f', q'.1, q'.2⟩,
      fun _ _ _ _ _ _ _ _ R' f' x q' => l.rt _ _ _ _ _ _ _ _ R' ((l1.trans f4).trans f') x q',
      fun av' ad' Γ' C' σ' H' R' f' q' => l.nx av' ad' Γ' C' σ' H' R' ((l1.trans f4).trans f') q', fun av' ad' Γ' C' σ' H' R' f' q' => ⟨hlt, av', ad', Γ', C', R', f4.trans f', q'.1, q'.2⟩⟩
  · have e : i = ds.length := by omega
    subst e
    rw [List.drop_length] at w2
    exact .inl ⟨y2 (Nat.le_refl _), l.nx av2 ad2 Γ2 C2 σ2 H2 R2 (l1.trans f2) w2⟩⟩
end
end L3

/-! defs called where no text of a list is being made (the stack's guards are known): needed for repr -/
namespace L3
open PySem PySem.Spec PyProof.Rows L2
structure RoomG (k : Nat) (A : Around) : Prop where
  rm : Room k A
  gd : A.guards = some []
theorem RoomG.mono {j k : Nat} {A : Around} (r : RoomG k A) (h : j ≤ k) : RoomG j A := ⟨r.rm.mono h, r.gd⟩
theorem RoomG.deeper {k : Nat} {A : Around} (r : RoomG (k + 1) A) (env : Env) : RoomG k (A.deeper env) := ⟨r.rm.deeper env, r.gd⟩
theorem RoomG.units {k : Nat} {A : Around} (r : RoomG k A) : A.units + 64 < cLine := r.rm.units
theorem u65 {k : Nat} {A : Around} (r : RoomG k A) : A.units + 65 < cLine := by have := r.rm.un; omega
structure FnOkG (P : Program) (w : World) (K : PySem.W.Frag) (mg : Str → Option Value) (base : Heap) (CX : CXT) (k : Nat) (f : Addr) (fd : FuncData) (ps : List Str) (sp : Sp) : Prop where
  len : ∀ vs H Q E, sp vs H Q E → vs.length = ps.length
  run : ∀ (A : Around) (outer : List Env) (s : Shared) (H : Hp) (args : Args) (us : List Value) (vs : List V) (Q : VK) (E : XK), RoomG k A → Env0 P w K mg base A outer s H → BindsTo s fd args (ps.zip us) → Vals vs us → sp vs H Q E →
    codeAny (model P w) A (.call (.ref f) args) (CR CX outer P w H s Q E) s
theorem FnOkG.mono {P : Program} {w : World} {K : PySem.W.Frag} {mg : Str → Option Value} {base : Heap} {CX : CXT} {j k : Nat} {f : Addr} {fd : FuncData} {ps : List Str} {sp : Sp} (F : FnOkG P w K mg base CX j f fd ps sp) (h : j ≤ k) :
    FnOkG P w K mg base CX k f fd ps sp := ⟨F.len, fun A outer s H args us vs Q E hr => F.run A outer s H args us vs Q E (hr.mono h)⟩
section
variable {X : Cx} {CX : CXT} {k : Nat} {f : Addr} {fd : FuncData} {ps : List Str} {sp : Sp} {E : XK} {x : Str} {p pos : Pos} {e : Expr} {es : List Expr} {t : TA}
theorem run_g {pins : List (Addr × Obj)} {σ : L2.St} {H : Hp} {s : Shared} {Q : VK} {us : List Value} {vs : List V} (F : FnOkG X.prog X.w X.K X.mg X.base CX k f fd ps sp) (hr : RoomG k X.A) (hb : Binds X.K fd ps []) (hx : Passes CX X E)
    (I : Inv X pins σ H s) (r : Vals vs us) (h : sp vs H Q E) : wpAny (model X.prog X.w) X.A (call (.ref f) us) (EP X pins σ Q) X.xe s := by
  have hl : us.length = ps.length := by rw [← r.length]; exact F.len _ _ _ _ h
  have b := hb s us I.kIn (by rw [List.append_nil]; exact hl)
  rw [List.append_nil] at b
  refine wpAny_call (codeAny_mono (F.run X.A X.stack s H ⟨us, []⟩ us vs Q E hr I.env0 b r h) fun r s' hq => ?_)
  rcases r with e | fl
  · exact hx pins σ H s e s' I hq
  · cases fl with
    | ret u => exact I.after hq
    | _ => exact False.elim hq
theorem pe_callG (F : FnOkG X.prog X.w X.K X.mg X.base CX k f fd ps sp) (hr : RoomG k X.A) (hg : Gl X x) (hm : X.mg x = some (.ref f)) (hk : PySem.W.keepIn X.K (.ref f) = true) (hb : Binds X.K fd ps []) (hx : Passes CX X E)
    (ha : PA X (e :: es) t) (hdb : (x == ("__debug__" : Str)) = false := by decide) (he : starEach (e :: es) X.env = (false, eval e X.env) :: starEach es X.env := by rfl) (hpl : (backTo pos (starEach es X.env)).any (·.1) = false := by rfl) :
    PE X (.Call (.Name x p) (e :: es) [] pos) (tCall sp [] E t) := by
  refine ⟨fun pins s σ H Q I h => ?_⟩
  refine wpAny_Call_Name_kw (ld_glob I hg hm ?_ hdb)
  refine PySem.W.callWith_K (h₀ := X.base) I.ok.mod.kin hk (thn (ha.run pos pins s σ H _ I h) fun us s1 ⟨vs, H1, I1, r, q⟩ => ⟨I1.kIn, ?_⟩) he hpl
  have q : sp (vs ++ []) H1 Q E := q
  rw [List.append_nil] at q
  exact run_g F hr hb hx I1 r q
end
section
variable {P : Program} {w : World} {K : PySem.W.Frag} {mg : Str → Option Value} {base : Heap} {CX : CXT} {N ps : List Str} {k : Nat} {sp : Sp} {x qual : Str} {params : Arguments} {body : List Stmt} {scope : Scope} {dvs : List V} {kws : List (Str × V)} {f : Addr} {fd : FuncData}
theorem fun_okG (F : FunD K x qual params body scope dvs kws f fd) (S : FnScope N ps scope) (len : ∀ vs H Q E, sp vs H Q E → vs.length = ps.length)
    (hbody : ∀ (cdv : Value) (A : Around) (outer : List Env) (s : Shared) (H : Hp) (vs : List V) (Q : VK) (E : XK), RoomG k (A.deeper (envOfC qual scope s.heap.objs.size f cdv)) → sp vs H Q E →
      ∃ t, PSs (cxOf CX P w K mg base N qual scope f cdv A outer s H E) body t ∧ t { nx := fun _ H' => Q .non H', rt := Q } (start N vs) H) : FnOkG P w K mg base CX (k + 1) f fd ps sp := by
  obtain ⟨oc, od, dV, kV, doc, pm, an, cdv, ct, osl, rfl, lk, hcd, _, _⟩ := F.ex
  refine ⟨len, fun A outer s H args us vs Q E hr e0 hb r hsp => ?_⟩
  have hl := len _ _ _ _ hsp
  have KX : K.In s.heap := e0.mod.kin.keeps fun b o e => (e0.bs b o e).1
  have lim : s.heap.NoLimit := e0.mod.nolimit.keeps fun b o e => (e0.bs b o e).1
  have hkind : ∀ y ∈ ps.zip us, scope.names.lookup y.1 = some .local ∨ (scope.names.lookup y.1 = some .cell ∧ ((cellsFrom (s.heap.objs.size + 1) scope.names []).lookup y.1).isSome = true) := fun y hy =>
    (S.par y.1 (List.of_mem_zip hy).1).elim .inl fun q => .inr ⟨q, PySem.W.cellsFrom_some _ _ _ (.inl q)⟩
  refine codeAny_call_function hr.rm.depth (KX _ _ lk) rfl S.co S.gen rfl (PySem.W.codeRec_of KX hcd) (hb _ _ _ _ ?_)
  refine wpAny_newFunctionEnv_cells S.kind hkind fun env he s1 x => ?_
  subst he
  refine ⟨lim.keeps x.toInCall.keep, codeAny_func ?_⟩
  obtain ⟨t, ht, hq⟩ := hbody cdv A outer s H vs Q E (hr.deeper _) hsp
  have I := inv_start (CX := CX) (E := E) S hr.rm.hd e0 hl r x
  refine wpAny_mono (ht.run [] s1 (start N vs) H _ I hq) (fun fl s' hs => ?_) fun e s' hs => hs
  cases fl with
  | ret u => obtain ⟨v, σ', H', J, rv, q⟩ := hs; exact ⟨v, H', J.os, J.bare, J.base, J.hok, rv, q⟩
  | next => obtain ⟨σ', H', J, q⟩ := hs; exact ⟨V.non, H', J.os, J.bare, J.base, J.hok, rfl, q⟩
  | _ => obtain ⟨_, _, _, q⟩ := hs; exact False.elim q
end
end L3

namespace L3
open PySem PySem.Spec PyProof.Rows L2
/-! ### data carried from one run to another -/
mutual
def mapW (h : Bool → Bool) (g : Nat → D) : D → D
  | .lst o xs => .lst (h o) (mapWs h g xs)
  | .tup xs => .tup (mapWs h g xs)
  | .dk o ks xs => .dk (h o) ks (mapWs h g xs)
  | .dt o ks xs => .dt (h o) ks (mapWs h g xs)
  | .obj nm ns xs => .obj nm ns (mapWs h g xs)
  | .ptr k => g k
  | .bad => .bad
  | .non => .non
  | .bl b => .bl b
  | .int i => .int i
  | .str s => .str s
def mapWs (h : Bool → Bool) (g : Nat → D) : List D → List D
  | [] => []
  | x :: xs => mapW h g x :: mapWs h g xs
end
mutual
def okW (ok : Bool → Bool) : D → Bool
  | .lst o xs => ok o && okWs ok xs
  | .tup xs => okWs ok xs
  | .dk o _ xs => ok o && okWs ok xs
  | .dt o _ xs => ok o && okWs ok xs
  | .obj _ _ xs => ok true && okWs ok xs
  | _ => true
def okWs (ok : Bool → Bool) : List D → Bool
  | [] => true
  | x :: xs => okW ok x && okWs ok xs
end
mutual
theorem okW_all : ∀ d : D, okW (fun _ => true) d = true
  | .lst _ xs => by simp only [okW, Bool.true_and]; exact okWs_all xs
  | .tup xs => by simp only [okW]; exact okWs_all xs
  | .dk _ _ xs => by simp only [okW, Bool.true_and]; exact okWs_all xs
  | .dt _ _ xs => by simp only [okW, Bool.true_and]; exact okWs_all xs
  | .obj _ _ xs => by simp only [okW, Bool.true_and]; exact okWs_all xs
  | .bad => rfl
  | .non => rfl
  | .bl _ => rfl
  | .int _ => rfl
  | .str _ => rfl
  | .ptr _ => rfl
theorem okWs_all : ∀ d : List D, okWs (fun _ => true) d = true
  | [] => rfl
  | x :: xs => by simp only [okWs, Bool.and_eq_true]; exact ⟨okW_all x, okWs_all xs⟩
end
def noold : D → Bool := okW fun o => !o
structure Carry (K : PySem.W.Frag) (H0 : Hp) (av : Av) (ad : Ads) (H0' : Hp) (av' : Av) (ad' : Ads) (H : Hp) (h : Bool → Bool) (ok : Bool → Bool) (g : Nat → D) : Prop where
  l : ∀ (a : Addr) (vs : List V) (o : Bool), LstA av H a vs → (o = false → H0 a = none) → ok o = true → LstA av' H a vs ∧ (h o = false → H0' a = none)
  hh : ∀ o, h o = false → o = false
  r : ∀ (a : Addr) (u : HO) (o : Bool), Rd H a u → ¬ av a → (o = false → H0 a = none) → ok o = true → ¬ av' a ∧ (h o = false → H0' a = none)
  t : ∀ (a : Addr) (vs : List V), TupA av H a vs → TupA av' H a vs
  p : ∀ (k : Nat) (a : Addr), ad[k]? = some (some a) → Den K H0' av' ad' H (.ref a) (g k)
  i : ∀ (a : Addr), H a ≠ none → ¬ av a → ok true = true → ¬ av' a
section
variable {K : PySem.W.Frag} {H0 H0' : Hp} {av av' : Av} {ad ad' : Ads} {H : Hp} {h ok : Bool → Bool} {g : Nat → D}
mutual
theorem Den.carry (c : Carry K H0 av ad H0' av' ad' H h ok g) : ∀ {v : V} {d : D}, Den K H0 av ad H v d → okW ok d = true → Den K H0' av' ad' H v (mapW h g d)
  | _, _, .bad, _ => .bad
  | _, _, .non, _ => .non
  | _, _, .bl, _ => .bl
  | _, _, .int, _ => .int
  | _, _, .str, _ => .str
  | _, _, .lst r o x, e => by
    simp only [okW, Bool.and_eq_true] at e
    have cl := c.l _ _ _ r (fun z => (o z).1) e.1
    exact .lst cl.1 (fun z => ⟨cl.2 z, (o (c.hh _ z)).2⟩) (DenAll.carry c x e.2)
  | _, _, .tup r x, e => .tup (c.t _ _ r) (DenAll.carry c x (by simpa only [okW] using e))
  | _, _, .dk r n o k x, e => by
    simp only [okW, Bool.and_eq_true] at e
    exact .dk r (c.r _ _ _ r n o e.1).1 (c.r _ _ _ r n o e.1).2 k (DenAll.carry c x e.2)
  | _, _, .dt r n o k x, e => by
    simp only [okW, Bool.and_eq_true] at e
    exact .dt r (c.r _ _ _ r n o e.1).1 (c.r _ _ _ r n o e.1).2 k (DenAll.carry c x e.2)
  | _, _, .obj r n k x, e => by
    simp only [okW, Bool.and_eq_true] at e
    exact .obj r (c.i _ (by rw [r]; exact fun z => nomatch z) n e.1) k (DenAll.carry c x e.2)
  | _, _, .ptr q, _ => c.p _ _ q
theorem DenAll.carry (c : Carry K H0 av ad H0' av' ad' H h ok g) : ∀ {vs : List V} {ds : List D}, DenAll K H0 av ad H vs ds → okWs ok ds = true → DenAll K H0' av' ad' H vs (mapWs h g ds)
  | _, _, .nil, _ => .nil
  | _, _, .cons a b, e => by
    simp only [okWs, Bool.and_eq_true] at e
    exact .cons (Den.carry c a e.1) (DenAll.carry c b e.2)
end
def Cell.mapC (h : Bool → Bool) (g : Nat → D) : Cell → Cell
  | .lst xs => .lst (mapWs h g xs)
  | .dk ks xs => .dk ks (mapWs h g xs)
  | .dt ks xs => .dt ks (mapWs h g xs)
  | .ins C ns xs => .ins C ns (mapWs h g xs)
  | .dead => .dead
def Cell.okC (ok : Bool → Bool) : Cell → Bool
  | .lst xs => okWs ok xs
  | .dk _ xs => okWs ok xs
  | .dt _ xs => okWs ok xs
  | .ins _ _ xs => okWs ok xs
  | .dead => true
theorem Cell.okC_all (c : Cell) : c.okC (fun _ => true) = true := by
  cases c <;> first
    | rfl
    | exact okWs_all _
theorem CellOk.carry (c : Carry K H0 av ad H0' av' ad' H h ok g) {a : Addr} {x : Cell} (q : CellOk K H0 av ad H a x) (e : x.okC ok = true) : CellOk K H0' av' ad' H a (x.mapC h g) := by
  cases x with
  | lst xs => obtain ⟨vs, e1, r⟩ := q; exact ⟨vs, e1, r.carry c e⟩
  | dk ks xs => obtain ⟨vs, e1, k, r⟩ := q; exact ⟨vs, e1, k, r.carry c e⟩
  | dt ks xs => obtain ⟨vs, e1, k, r⟩ := q; exact ⟨vs, e1, k, r.carry c e⟩
  | ins _ ks xs => obtain ⟨dx, vs, e1, k, r⟩ := q; exact ⟨dx, vs, e1, k, r.carry c e⟩
  | dead => exact q.elim
end
/-! ### what a def hands back: its own cells become data -/
def finG (n : Nat) (C : Store) : Nat → Nat → D
  | 0, k => if k < n then .ptr k else .bad
  | m + 1, k => if k < n then .ptr k else match C[k]? with
    | some (.lst xs) => .lst false (mapWs id (finG n C m) xs)
    | some (.dk ks xs) => .dk false ks (mapWs id (finG n C m) xs)
    | some (.dt ks xs) => .dt false ks (mapWs id (finG n C m) xs)
    | _ => .bad
def fin (n : Nat) (C : Store) (d : D) : D := mapW id (finG n C 3) d
def finS (n : Nat) (C : Store) : Store := (C.take n).map fun c => c.mapC id (finG n C 3)
section
variable {K : PySem.W.Frag} {H0 : Hp} {A0 : List Addr} {av : Av} {ad : Ads} {Γ : Slots} {C : Store} {σ : L2.St} {H : Hp}
theorem ads_some {A0 : List Addr} {i : Nat} {a : Addr} : (A0.map some)[i]? = some (some a) ↔ A0[i]? = some a := by
  rw [List.getElem?_map]
  cases A0[i]? <;> simp
/-- without the def's own cells -/
def avF (av : Av) (ad : Ads) (n : Nat) : Av := fun a => av a ∧ ∀ k : Nat, n ≤ k → ad[k]? ≠ some (some a)
theorem carry_fin (R : Rep K H0 A0 av ad Γ C σ H) : ∀ m, Carry K H0 av ad H0 (avF av ad A0.length) (A0.map some) H id (fun _ => true) (finG A0.length C m) := by
  have base : ∀ g : Nat → D, (∀ (k : Nat) (a : Addr), ad[k]? = some (some a) → Den K H0 (avF av ad A0.length) (A0.map some) H (.ref a) (g k)) → Carry K H0 av ad H0 (avF av ad A0.length) (A0.map some) H id (fun _ => true) g := fun g hg =>
    ⟨fun a vs o r ho _ => ⟨⟨r.1, fun q => r.2 q.1⟩, ho⟩, fun _ z => z, fun a u o r n ho _ => ⟨fun q => n q.1, ho⟩, fun a vs r => ⟨r.1, fun q => r.2 q.1⟩, hg, fun a _ n _ q => n q.1⟩
  have par : ∀ (k : Nat) (a : Addr), ad[k]? = some (some a) → k < A0.length → Den K H0 (avF av ad A0.length) (A0.map some) H (.ref a) (.ptr k) := fun k a h hk => .ptr (by
    rw [ads_some]
    have e := R.pre k _ (List.getElem?_eq_getElem hk)
    rw [h] at e
    rw [List.getElem?_eq_getElem hk]
    exact (Option.some.inj e).symm ▸ rfl)
  intro m
  induction m with
  | zero =>
    refine base _ fun k a h => ?_
    simp only [finG]
    split
    · rename_i hk; exact par k a h hk
    · exact .bad
  | succ m ih =>
    refine base _ fun k a h => ?_
    simp only [finG]
    split
    · rename_i hk; exact par k a h hk
    · rename_i hk
      have hk' : A0.length ≤ k := Nat.le_of_not_lt hk
      have n0 : H0 a = none := R.loc k a h hk'
      have nav : ¬ avF av ad A0.length a := fun q => q.2 k hk' h
      have hlt : k < C.length := by rw [← R.len]; exact (List.getElem?_eq_some_iff.mp h).1
      have hc : C[k]? = some C[k] := List.getElem?_eq_getElem hlt
      have ok := R.cells k a _ h hc
      rw [hc]
      generalize C[k] = c at ok
      cases c with
      | lst xs => obtain ⟨vs, e1, r⟩ := ok; exact .lst ⟨.inl e1, nav⟩ (fun _ => ⟨n0, e1⟩) (r.carry ih (okWs_all _))
      | dk ks xs => obtain ⟨vs, e1, k, r⟩ := ok; exact .dk (.inl e1) nav (fun _ => n0) k (r.carry ih (okWs_all _))
      | dt ks xs => obtain ⟨vs, e1, k, r⟩ := ok; exact .dt (.inl e1) nav (fun _ => n0) k (r.carry ih (okWs_all _))
      | ins _ _ _ => exact .bad
      | dead => exact .bad
theorem Rep.fin (R : Rep K H0 A0 av ad Γ C σ H) : Rep K H0 A0 (avF av ad A0.length) (A0.map some) [] (finS A0.length C) [] H ∧ Fz av H (avF av ad A0.length) H := by
  have hA : A0.length ≤ ad.length := by
    by_cases h : A0.length = 0
    · omega
    · have := (List.getElem?_eq_some_iff.mp (R.pre (A0.length - 1) _ (List.getElem?_eq_getElem (by omega)))).1
      omega
  have up : ∀ (i : Nat) (a : Addr), A0[i]? = some a → ad[i]? = some (some a) ∧ i < A0.length := fun i a h => ⟨R.pre i a h, (List.getElem?_eq_some_iff.mp h).1⟩
  refine ⟨⟨fun a h => ?_, fun a h => R.dom a h.1, fun a xs h => R.avt a xs h.1, fun i j a h1 h2 => ?_, ?_, fun i a h => ads_some.mpr h, fun i a h hi => ?_, R.keep, R.there, fun i h => (by rw [List.getElem?_map] at h; cases q : A0[i]? with | none => (rw [q] at h; cases h) | some a => (rw [q] at h; cases h)), fun i a c h1 h2 => ?_, rfl, fun i d h => by simp at h⟩, Fz.less fun _ q => q.1⟩
  · obtain ⟨b, hb, e⟩ := List.mem_map.mp h
    cases e
    obtain ⟨i, hi, e⟩ := List.mem_iff_getElem.mp hb
    obtain ⟨h1, h2⟩ := up i a (by rw [List.getElem?_eq_getElem hi, e])
    exact ⟨R.av_of h1, fun k hk q => by have := R.nd i k a h1 q; omega⟩
  · exact R.nd i j a (R.pre i a (ads_some.mp h1)) (R.pre j a (ads_some.mp h2))
  · simp only [List.length_map, finS, List.length_take]
    rw [← R.len]
    omega
  · have := (up i a (ads_some.mp h)).2
    omega
  · obtain ⟨h3, h4⟩ := up i a (ads_some.mp h1)
    simp only [finS, List.getElem?_map, List.getElem?_take, h4, if_true] at h2
    cases q : C[i]? with
    | none => rw [q] at h2; cases h2
    | some c' =>
      rw [q] at h2
      cases h2
      exact (R.cells i a c' h3 q).carry (carry_fin R 3) (Cell.okC_all _)
theorem Rep.finD (R : Rep K H0 A0 av ad Γ C σ H) {v : V} {d : D} (x : Den K H0 av ad H v d) : Den K H0 (avF av ad A0.length) (A0.map some) H v (L3.fin A0.length C d) := x.carry (carry_fin R 3) (okW_all _)
end
/-! ### a def's promise in data -/
abbrev PV := List D → Store → (D → Store → Prop) → Prop
def Sp3 (K : PySem.W.Frag) (n : Nat) (P : PV) : Sp := fun vs H Q _ => ∃ (A0 : List Addr) (av : Av) (ds : List D) (C : Store) (Q3 : D → Store → Prop), A0.length = n ∧ Rep K H A0 av (A0.map some) (ds.map some) C (vs.map some) H ∧ P ds C Q3 ∧
  ∀ (av' : Av) (v : V) (H' : Hp) (d : D) (C' : Store), Rep K H A0 av' (A0.map some) [] C' [] H' → Fz av H av' H' → Den K H av' (A0.map some) H' v d → Q3 d C' → Q v H'
/-- the slots at a def's entry -/
def start3 (N : List Str) (ds : List D) : Slots := ds.map some ++ List.replicate (N.length - ds.length) none
theorem Rep.start {K : PySem.W.Frag} {H0 : Hp} {A0 : List Addr} {av : Av} {ad : Ads} {C : Store} {H : Hp} {ds : List D} {vs : List V} (N : List Str) (R : Rep K H0 A0 av ad (ds.map some) C (vs.map some) H) : Rep K H0 A0 av ad (start3 N ds) C (L2.start N vs) H := by
  have hl : vs.length = ds.length := by have := R.slen; simpa using this
  refine R.slots (by simp [start3, L2.start, hl]) fun i d h => ?_
  unfold start3 at h
  unfold L2.start
  by_cases hi : i < ds.length
  · rw [List.getElem?_append_left (by simpa using hi)] at h
    obtain ⟨v, h1, h2⟩ := R.slot i d h
    exact ⟨v, by rw [List.getElem?_append_left (by rw [List.length_map, hl]; exact hi)]; exact h1, h2⟩
  · rw [List.getElem?_append_right (by simpa using Nat.le_of_not_lt hi)] at h
    rw [List.getElem?_replicate] at h
    split at h <;> cases h
section
variable {P : Program} {w : World} {K : PySem.W.Frag} {mg : Str → Option Value} {base : Heap} {x qual : Str} {params : Arguments} {body : List Stmt} {scope : Scope} {dvs : List V} {kws : List (Str × V)} {f : Addr} {fd : FuncData}
/-- what is wanted at a def's end -/
def enF (n : Nat) (Q3 : D → Store → Prop) : En := { nx := fun _ C => Q3 .non (finS n C), rt := fun d C => Q3 (fin n C d) (finS n C) }
theorem ok3 {N ps : List Str} {k n : Nat} {Pv : PV} {t : TS} {T : SV} (F : FunD K x qual params body scope dvs kws f fd) (S : FnScope N ps scope) (len : ∀ ds C Q, Pv ds C Q → ds.length = ps.length)
    (hv : ∀ (cdv : Value) (A : Around) (outer : List Env) (s : Shared) (H : Hp) (E : XK), RoomG k (A.deeper (envOfC qual scope s.heap.objs.size f cdv)) → VSs K (cxOf CX0 P w K mg base N qual scope f cdv A outer s H E).nox body t T)
    (hT : ∀ ds C Q3, Pv ds C Q3 → C.length = n → T (enF n Q3) (start3 N ds) C) : FnOkG P w K mg base CX0 (k + 1) f fd ps (Sp3 K n Pv) := by
  refine fun_okG F S (fun vs H Q E h => ?_) (fun cdv A outer s H vs Q E hr h => ?_)
  · obtain ⟨A0, av, ds, C, Q3, _, R, hp, _⟩ := h
    have := R.slen
    simp at this
    rw [this]
    exact len _ _ _ hp
  · obtain ⟨A0, av, ds, C, Q3, hn, R, hp, q⟩ := h
    have V := hv cdv A outer s H E hr
    have hC : C.length = n := by rw [← R.len, List.length_map]; exact hn
    subst hn
    refine ⟨t, V.ps.nox, V.sim H A0 av _ _ C _ H (enF A0.length Q3) _ (R.start N) (hT ds C Q3 hp hC) ⟨fun av' ad' Γ' C' σ' H' R' f q' => ?_, fun av' ad' Γ' C' σ' H' v d R' f x q' => ?_, fun _ _ _ _ _ _ _ _ z => z, fun _ _ _ _ _ _ _ _ z => z⟩⟩
    · exact q _ _ H' _ _ R'.fin.1 (f.fz.trans R'.fin.2) .non q'
    · exact q _ _ H' _ _ R'.fin.1 (f.fz.trans R'.fin.2) (R'.finD x) q'
end
end L3

namespace L3
open PySem PySem.Spec PyProof.Rows L2
theorem nodup_ix' {α : Type} {l : List α} (h : l.Nodup) {i j : Nat} {x : α} (a : l[i]? = some x) (b : l[j]? = some x) : i = j := by
  obtain ⟨h1, e1⟩ := List.getElem?_eq_some_iff.mp a
  obtain ⟨h2, e2⟩ := List.getElem?_eq_some_iff.mp b
  exact (List.getElem_inj h).mp (e1.trans e2.symm)
/-! ### what a callee sees -/
def posOf : List Nat → Nat → Option Nat
  | [], _ => none
  | x :: xs, k => if x = k then some 0 else (posOf xs k).map (· + 1)
theorem posOf_some : ∀ {ks : List Nat} {k j : Nat}, posOf ks k = some j → ks[j]? = some k
  | [], _, _, e => by cases e
  | x :: xs, k, j, e => by
    simp only [posOf] at e
    split at e
    · rename_i h; cases e; rw [h]; rfl
    · cases q : posOf xs k with
      | none => rw [q] at e; cases e
      | some i =>
        rw [q] at e
        simp only [Option.map_some, Option.some.injEq] at e
        subst e
        have := posOf_some q
        simpa using this
theorem posOf_none : ∀ {ks : List Nat} {k : Nat}, posOf ks k = none → k ∉ ks
  | [], _, _ => by simp
  | x :: xs, k, e => by
    simp only [posOf] at e
    split at e
    · cases e
    · rename_i h
      cases q : posOf xs k with
      | none => simp only [List.mem_cons, not_or]; exact ⟨fun z => h z.symm, posOf_none q⟩
      | some i => rw [q] at e; cases e
def viewG (ks : List Nat) (C : Store) : Nat → Nat → D
  | 0, k => match posOf ks k with
    | some j => .ptr j
    | none => .bad
  | m + 1, k => match posOf ks k with
    | some j => .ptr j
    | none => match C[k]? with
      | some (.lst xs) => .lst true (mapWs (fun _ => true) (viewG ks C m) xs)
      | some (.dk qs xs) => .dk true qs (mapWs (fun _ => true) (viewG ks C m) xs)
      | some (.dt qs xs) => .dt true qs (mapWs (fun _ => true) (viewG ks C m) xs)
      | some (.ins nm ns xs) => .obj nm ns (mapWs (fun _ => true) (viewG ks C m) xs)
      | _ => .bad
def views (ks : List Nat) (C : Store) (ds : List D) : List D := mapWs (fun _ => true) (viewG ks C 2) ds
def viewC (ks : List Nat) (C : Store) : Store := ks.map fun k => (C[k]?.getD .dead).mapC (fun _ => true) (viewG ks C 2)
def backG (ks : List Nat) (j : Nat) : D := match ks[j]? with
  | some k => .ptr k
  | none => .bad
def backs (ks : List Nat) (c : Cell) : Cell := c.mapC id (backG ks)
/-- the callee's cells put back -/
def putS : List Nat → Store → Store → Store
  | k :: ks, c :: cs, C => putS ks cs (C.set k c)
  | _, _, C => C
theorem putS_len : ∀ (ks : List Nat) (cs C : Store), (putS ks cs C).length = C.length
  | [], _, _ => rfl
  | _ :: _, [], _ => rfl
  | k :: ks, c :: cs, C => by simp only [putS]; rw [putS_len ks cs]; simp
theorem putS_out : ∀ (ks : List Nat) (cs C : Store) {i : Nat}, i ∉ ks → (putS ks cs C)[i]? = C[i]?
  | [], _, _, _, _ => rfl
  | _ :: _, [], _, _, _ => rfl
  | k :: ks, c :: cs, C, i, h => by
    simp only [List.mem_cons, not_or] at h
    simp only [putS]
    rw [putS_out ks cs _ h.2, List.getElem?_set_ne (fun e => h.1 e.symm)]
theorem putS_in : ∀ (ks : List Nat) (cs C : Store) {j i : Nat}, ks.Nodup → ks[j]? = some i → j < cs.length → i < C.length → (putS ks cs C)[i]? = cs[j]?
  | [], _, _, _, _, _, e, _, _ => by simp at e
  | _ :: _, [], _, _, _, _, _, h, _ => by simp at h
  | k :: ks, c :: cs, C, 0, i, nd, e, _, hi => by
    simp at e; subst e
    simp only [putS]
    rw [putS_out ks cs _ (List.nodup_cons.mp nd).1, List.getElem?_set_self hi]
    rfl
  | k :: ks, c :: cs, C, j + 1, i, nd, e, hj, hi => by
    simp only [putS]
    rw [putS_in ks cs _ (j := j) (List.nodup_cons.mp nd).2 (by simpa using e) (by simpa using hj) (by simpa using hi)]
    rfl
section
variable {K : PySem.W.Frag} {H0 : Hp} {A0 : List Addr} {av : Av} {ad : Ads} {Γ : Slots} {C : Store} {σ : L2.St} {H : Hp}
theorem carry_view (R : Rep K H0 A0 av ad Γ C σ H) {ks : List Nat} {Ac : List Addr} (hA : ∀ (j k : Nat), ks[j]? = some k → ∃ a, Ac[j]? = some a ∧ ad[k]? = some (some a)) (hA2 : ∀ a, a ∈ Ac → ∃ k, k ∈ ks ∧ ad[k]? = some (some a)) :
    ∀ m, Carry K H0 av ad H (fun a => a ∈ Ac) (Ac.map some) H (fun _ => true) (fun _ => true) (viewG ks C m) := by
  have sub : ∀ a, a ∈ Ac → av a := fun a h => by obtain ⟨k, _, e⟩ := hA2 a h; exact R.av_of e
  have base : ∀ g : Nat → D, (∀ (k : Nat) (a : Addr), ad[k]? = some (some a) → Den K H (fun a => a ∈ Ac) (Ac.map some) H (.ref a) (g k)) → Carry K H0 av ad H (fun a => a ∈ Ac) (Ac.map some) H (fun _ => true) (fun _ => true) g := fun g hg =>
    ⟨fun a vs o r ho _ => ⟨⟨r.1, fun q => r.2 (sub a q)⟩, fun z => nomatch z⟩, fun _ z => (nomatch z), fun a u o r n ho _ => ⟨fun q => n (sub a q), fun z => nomatch z⟩, fun a vs r => ⟨r.1, fun q => r.2 (sub a q)⟩, hg, fun a _ n _ q => n (sub a q)⟩
  have par : ∀ (k j : Nat) (a : Addr), ad[k]? = some (some a) → posOf ks k = some j → Den K H (fun a => a ∈ Ac) (Ac.map some) H (.ref a) (.ptr j) := fun k j a h hp => .ptr (by
    rw [ads_some]
    obtain ⟨b, h1, h2⟩ := hA j k (posOf_some hp)
    rw [h] at h2
    cases h2
    exact h1)
  intro m
  induction m with
  | zero =>
    refine base _ fun k a h => ?_
    simp only [viewG]
    cases q : posOf ks k with
    | some j => exact par k j a h q
    | none => exact .bad
  | succ m ih =>
    refine base _ fun k a h => ?_
    simp only [viewG]
    cases q : posOf ks k with
    | some j => exact par k j a h q
    | none =>
      have nav : ¬ a ∈ Ac := fun z => by
        obtain ⟨k', h1, h2⟩ := hA2 a z
        exact posOf_none q (R.nd k' k a h2 h ▸ h1)
      have hlt : k < C.length := by rw [← R.len]; exact (List.getElem?_eq_some_iff.mp h).1
      have hc : C[k]? = some C[k] := List.getElem?_eq_getElem hlt
      have ok := R.cells k a _ h hc
      rw [hc]
      generalize C[k] = c at ok
      cases c with
      | lst xs => obtain ⟨vs, e1, r⟩ := ok; exact .lst ⟨.inl e1, nav⟩ (fun z => nomatch z) (r.carry ih (okWs_all _))
      | dk ks xs => obtain ⟨vs, e1, k, r⟩ := ok; exact .dk (.inl e1) nav (fun z => nomatch z) k (r.carry ih (okWs_all _))
      | dt ks xs => obtain ⟨vs, e1, k, r⟩ := ok; exact .dt (.inl e1) nav (fun z => nomatch z) k (r.carry ih (okWs_all _))
      | ins _ _ _ => obtain ⟨dx, fs, e1, k, r⟩ := ok; exact .obj e1 nav k (r.carry ih (okWs_all _))
      | dead => exact .bad
/-- the addresses of some cells -/
theorem addrs_of (R : Rep K H0 A0 av ad Γ C σ H) : ∀ ks : List Nat, (∀ k, k ∈ ks → ∃ c, C[k]? = some c ∧ c ≠ Cell.dead) → ∃ Ac : List Addr, Ac.length = ks.length ∧ (∀ (j k : Nat), ks[j]? = some k → ∃ a, Ac[j]? = some a ∧ ad[k]? = some (some a)) ∧ ∀ a, a ∈ Ac → ∃ k, k ∈ ks ∧ ad[k]? = some (some a)
  | [], _ => ⟨[], rfl, fun j k e => by simp at e, fun a h => by simp at h⟩
  | k :: ks, h => by
    obtain ⟨Ac, h0, h1, h2⟩ := addrs_of R ks (fun k' hk => h k' (List.mem_cons_of_mem _ hk))
    obtain ⟨c, hc, hnd⟩ := h k (List.mem_cons_self ..)
    obtain ⟨a, ha⟩ : ∃ a, ad[k]? = some (some a) := by
      have hlt : k < ad.length := by rw [R.len]; exact (List.getElem?_eq_some_iff.mp hc).1
      cases q : ad[k]? with
      | none => rw [List.getElem?_eq_getElem hlt] at q; cases q
      | some o =>
        cases o with
        | none => have := R.gone k q; rw [hc] at this; cases this; exact absurd rfl hnd
        | some a => exact ⟨a, rfl⟩
    refine ⟨a :: Ac, by simp [h0], fun j k' e => ?_, fun b hb => ?_⟩
    · cases j with
      | zero => simp at e; subst e; exact ⟨a, rfl, ha⟩
      | succ j => exact h1 j k' (by simpa using e)
    · rcases List.mem_cons.mp hb with e | hb
      · subst e; exact ⟨k, List.mem_cons_self .., ha⟩
      · obtain ⟨k', e1, e2⟩ := h2 b hb
        exact ⟨k', List.mem_cons_of_mem _ e1, e2⟩
theorem mapW_np {g : Nat → D} : (∀ d : D, noptr d = true → mapW id g d = d) ∧ ∀ ds : List D, noptrs ds = true → mapWs id g ds = ds := by
  have main : ∀ n, (∀ d : D, sizeOf d ≤ n → noptr d = true → mapW id g d = d) ∧ ∀ ds : List D, sizeOf ds ≤ n → noptrs ds = true → mapWs id g ds = ds := by
    intro n
    induction n with
    | zero =>
      refine ⟨fun d hd => ?_, fun ds hd => ?_⟩
      · cases d <;> simp at hd
      · cases ds <;> simp at hd
    | succ n ih =>
      refine ⟨fun d hd h => ?_, fun ds hd h => ?_⟩
      · cases d with
        | lst o xs => simp only [mapW, id]; rw [ih.2 xs (by simp at hd; omega) (by simpa only [noptr] using h)]
        | tup xs => simp only [mapW]; rw [ih.2 xs (by simp at hd; omega) (by simpa only [noptr] using h)]
        | dk o ks xs => simp only [mapW, id]; rw [ih.2 xs (by simp at hd; omega) (by simpa only [noptr] using h)]
        | dt o ks xs => simp only [mapW, id]; rw [ih.2 xs (by simp at hd; omega) (by simpa only [noptr] using h)]
        | obj nm ns xs => simp only [mapW]; rw [ih.2 xs (by simp at hd; omega) (by simpa only [noptr] using h)]
        | ptr k => simp [noptr] at h
        | bad => rfl
        | non => rfl
        | bl _ => rfl
        | int _ => rfl
        | str _ => rfl
      · cases ds with
        | nil => rfl
        | cons d ds =>
          simp only [noptrs, Bool.and_eq_true] at h
          simp only [mapWs]
          rw [ih.1 d (by simp at hd; omega) h.1, ih.2 ds (by simp at hd; omega) h.2]
  exact ⟨fun d => (main (sizeOf d)).1 d (Nat.le_refl _), fun ds => (main (sizeOf ds)).2 ds (Nat.le_refl _)⟩
/-- a call's promise used: the state behind it -/
theorem Rep.call (R : Rep K H0 A0 av ad Γ C σ H) {ks : List Nat} {P : PV} {vs : List V} {ds : List D} {Q3 : D → Store → Prop} {Q : VK} (dv : DenAll K H0 av ad H vs ds) (hk : ks.Nodup) (hc : ∀ k, k ∈ ks → ∃ c, C[k]? = some c ∧ c ≠ Cell.dead)
    {Qc : D → Store → Prop} (hp : P (views ks C ds) (viewC ks C) Qc) (hq : ∀ d Cc, Cc.length = ks.length → Qc d Cc → noold d = true ∧ (∀ c, c ∈ Cc → c.okC (fun o => !o) = true) ∧ Q3 (mapW id (backG ks) d) (putS ks (Cc.map (backs ks)) C))
    (q : ∀ (v : V) (H' : Hp) (C' : Store) (d : D), Rep K H0 A0 av ad Γ C' σ H' → Le av ad H av ad H' → Den K H0 av ad H' v d → Den K H av ad H' v d → (ks = [] → ∀ a o, H a = some o → H' a = some o) → Q3 d C' → Q v H') (E : XK) : Sp3 K ks.length P vs H Q E := by
  obtain ⟨Ac, hl, hA, hA2⟩ := addrs_of R ks hc
  have hA' : ∀ a, a ∈ Ac → av a := fun a h => by obtain ⟨k, _, e⟩ := hA2 a h; exact R.av_of e
  have cv := carry_view R hA hA2 2
  have same : ∀ (j : Nat) (a : Addr), Ac[j]? = some a → ∃ k, ks[j]? = some k ∧ ad[k]? = some (some a) := fun j a e => by
    have hj : j < ks.length := by rw [← hl]; exact (List.getElem?_eq_some_iff.mp e).1
    obtain ⟨b, h1, h2⟩ := hA j ks[j] (List.getElem?_eq_getElem hj)
    rw [e] at h1; cases h1
    exact ⟨ks[j], List.getElem?_eq_getElem hj, h2⟩
  have R0 : Rep K H Ac (fun a => a ∈ Ac) (Ac.map some) ((views ks C ds).map some) (viewC ks C) (vs.map some) H := by
    have dl : DenAll K H (fun a => a ∈ Ac) (Ac.map some) H vs (views ks C ds) := dv.carry cv (okWs_all _)
    refine ⟨fun a h => ?_, fun a h => R.dom a (hA' a h), fun a xs h => R.avt a xs (hA' a h), fun i j a h1 h2 => ?_, by simp [viewC, hl], fun i a h => ads_some.mpr h, fun i a h hi => ?_, fun a o h _ => h, fun a h => h, fun i h => ?_, fun i a c h1 h2 => ?_, by simp [dl.length], fun i d h => ?_⟩
    · obtain ⟨b, hb, e⟩ := List.mem_map.mp h; cases e; exact hb
    · obtain ⟨k1, e1, g1⟩ := same i a (ads_some.mp h1)
      obtain ⟨k2, e2, g2⟩ := same j a (ads_some.mp h2)
      have e := R.nd k1 k2 a g1 g2
      subst e
      exact nodup_ix' hk e1 e2
    · have := (List.getElem?_eq_some_iff.mp (ads_some.mp h)).1
      omega
    · rw [List.getElem?_map] at h
      cases q : Ac[i]? with
      | none => rw [q] at h; cases h
      | some a => rw [q] at h; cases h
    · obtain ⟨k, e1, g1⟩ := same i a (ads_some.mp h1)
      simp only [viewC, List.getElem?_map, e1, Option.map_some, Option.some.injEq] at h2
      subst h2
      have hlt : k < C.length := by rw [← R.len]; exact (List.getElem?_eq_some_iff.mp g1).1
      have hck : C[k]? = some C[k] := List.getElem?_eq_getElem hlt
      rw [hck]
      exact (R.cells k a _ g1 hck).carry cv (Cell.okC_all _)
    · rw [List.getElem?_map] at h
      cases q : (views ks C ds)[i]? with
      | none => rw [q] at h; cases h
      | some d' =>
        rw [q] at h; cases h
        obtain ⟨v, h1, h2⟩ := dl.get q
        exact ⟨v, by rw [List.getElem?_map, h1]; rfl, h2⟩
  refine ⟨Ac, _, _, _, Qc, hl, R0, hp, fun av' v H' d Cc Rc f x hqc => ?_⟩
  obtain ⟨hno, hok, q3⟩ := hq d Cc (by have := Rc.len; simp [hl] at this; exact this.symm) hqc
  have keepH : ∀ a o, H a = some o → a ∉ Ac → H' a = some o := Rc.keep
  have thereH : ∀ a, H' a = none → H a = none := Rc.there
  have lenC : Cc.length = Ac.length := by have := Rc.len; simpa using this.symm
  have cellC : ∀ (j : Nat) (a : Addr), Ac[j]? = some a → ∃ c, Cc[j]? = some c ∧ CellOk K H av' (Ac.map some) H' a c := fun j a e => by
    have hj : j < Cc.length := by rw [lenC]; exact (List.getElem?_eq_some_iff.mp e).1
    exact ⟨Cc[j], List.getElem?_eq_getElem hj, Rc.cells j a _ (ads_some.mpr e) (List.getElem?_eq_getElem hj)⟩
  have memAc : ∀ a, a ∈ Ac → ∃ j, Ac[j]? = some a := fun a h => by
    obtain ⟨i, hi, e⟩ := List.mem_iff_getElem.mp h
    exact ⟨i, by rw [List.getElem?_eq_getElem hi, e]⟩
  have cbz : ∀ Hz : Hp, (∀ a, H a = none → Hz a = none) → Carry K H av' (Ac.map some) Hz av ad H' id (fun o => !o) (backG ks) := by
    intro Hz hz
    refine ⟨fun a vs o r ho hok => ?_, fun _ z => z, fun a u o r n ho hok => ?_, fun a vs r => ⟨r.1, fun z => ?_⟩, fun j a e => ?_, fun a _ n z => ?_⟩
    · have ho' : o = false := by cases o <;> simp at hok ⊢
      have hn := ho ho'
      exact ⟨⟨r.1, R.nav hn⟩, fun _ => hz a hn⟩
    · have ho' : o = false := by cases o <;> simp at hok ⊢
      have hn := ho ho'
      exact ⟨R.nav hn, fun _ => hz a hn⟩
    · by_cases hm : a ∈ Ac
      · exact r.2 (Rc.sub a (List.mem_map.mpr ⟨a, hm, rfl⟩))
      · cases e : H a with
        | none => exact R.dom a z e
        | some o =>
          have := keepH a o e hm
          rw [r.1] at this
          cases this
          exact R.avt a vs z e
    · obtain ⟨k, e1, g1⟩ := same j a (ads_some.mp e)
      simp only [backG, e1]
      exact .ptr g1
    · cases z
  have cb := cbz H0 R.there
  have fz : Fz av H av H' := fun a o h n => ⟨keepH a o h fun z => n (hA' a z), n⟩
  have cellsOut : ∀ (i : Nat) (a : Addr), ad[i]? = some (some a) → a ∈ Ac → i ∈ ks := fun i a h hm => by
    obtain ⟨k, h1, h2⟩ := hA2 a hm
    rw [R.nd i k a h h2]; exact h1
  refine q v H' _ _ ⟨R.sub, fun a h e => ?_, fun a xs h e => ?_, R.nd, by rw [putS_len]; exact R.len, R.pre, R.loc, fun a o h n => ?_, fun a h => R.there a (thereH a h), fun i h => ?_, fun i a c h1 h2 => ?_, R.slen, fun i d h => ?_⟩ ⟨fz, Pre.refl, thereH, fun _ h => h, fun _ h => .inl h, fun a o h n => keepH a o h fun z => n (by obtain ⟨k, _, e⟩ := hA2 a z; exact mem_ads e)⟩ (x.carry cb hno) (x.carry (cbz H fun _ z => z) hno) (fun e a o h => keepH a o h fun z => by subst e; rw [List.length_nil, List.length_eq_zero_iff] at hl; rw [hl] at z; simp at z) q3
  · exact R.dom a h (thereH a e)
  · by_cases hm : a ∈ Ac
    · obtain ⟨j, hj⟩ := memAc a hm
      obtain ⟨c, _, ok⟩ := cellC j a hj
      cases c with
      | lst _ => obtain ⟨_, e2, _⟩ := ok; rw [e] at e2; cases e2
      | dk _ _ => obtain ⟨_, e2, _⟩ := ok; rw [e] at e2; cases e2
      | dt _ _ => obtain ⟨_, e2, _⟩ := ok; rw [e] at e2; cases e2
      | ins _ _ _ => obtain ⟨_, _, e2, _⟩ := ok; rw [e] at e2; cases e2
      | dead => exact ok
    · cases e2 : H a with
      | none => exact R.dom a h e2
      | some o =>
        have := keepH a o e2 hm
        rw [e] at this
        cases this
        exact R.avt a xs h e2
  · refine keepH a o (R.keep a o h n) fun hm => ?_
    obtain ⟨k, h1, h2⟩ := hA2 a hm
    by_cases hk : k < A0.length
    · have e2 := R.pre k _ (List.getElem?_eq_getElem hk)
      rw [h2] at e2
      cases e2
      exact n (List.getElem_mem ..)
    · rw [R.loc k a h2 (Nat.le_of_not_lt hk)] at h; cases h
  · have hn : i ∉ ks := fun hm => by
      obtain ⟨c, h1, h2⟩ := hc i hm
      rw [R.gone i h] at h1
      cases h1
      exact h2 rfl
    rw [putS_out _ _ _ hn]
    exact R.gone i h
  · have hlt : i < C.length := by rw [← R.len]; exact (List.getElem?_eq_some_iff.mp h1).1
    by_cases hm : i ∈ ks
    · obtain ⟨j, hj, e⟩ := List.mem_iff_getElem.mp hm
      have ej : ks[j]? = some i := by rw [List.getElem?_eq_getElem hj, e]
      obtain ⟨b, g1, g2⟩ := hA j i ej
      rw [h1] at g2; cases g2
      obtain ⟨c', g3, ok⟩ := cellC j a g1
      rw [putS_in ks _ C hk ej (by rw [List.length_map]; exact (List.getElem?_eq_some_iff.mp g3).1) hlt, List.getElem?_map, g3] at h2
      cases h2
      exact ok.carry cb (hok c' (List.mem_of_getElem? g3))
    · rw [putS_out _ _ _ hm] at h2
      refine (R.cells i a c h1 h2).mono fz Pre.refl ?_
      cases e : H a with
      | none => exact absurd e (R.dom a (R.av_of h1))
      | some o => exact keepH a o e fun z => hm (cellsOut i a h1 z)
  · obtain ⟨u, h1, h2⟩ := R.slot i d h
    exact ⟨u, h1, h2.mono fz Pre.refl⟩
end
section
variable {K : PySem.W.Frag} {X : Cx} {CX : CXT} {k n : Nat} {f : Addr} {fd : FuncData} {ps : List Str} {P : PV} {x : Str} {p pos : Pos} {e : Expr} {es : List Expr} {tl : TA} {L : AV}
/-- a call that writes to the cells that kf tells of the arguments -/
def eCallK (n : Nat) (kf : List D → List Nat) (P : PV) (L : AV) : EV := fun Γ C Q => L Γ C fun ds C1 => (kf ds).length = n ∧ (kf ds).Nodup ∧ (∀ k, k ∈ kf ds → ∃ c, C1[k]? = some c ∧ c ≠ Cell.dead) ∧
  P (views (kf ds) C1 ds) (viewC (kf ds) C1) fun d Cc => noold d = true ∧ (∀ c, c ∈ Cc → c.okC (fun o => !o) = true) ∧ Q (mapW id (backG (kf ds)) d) (putS (kf ds) (Cc.map (backs (kf ds))) C1)
/-- the first argument is the cell -/
def kf1 : List D → List Nat
  | .ptr k :: _ => [k]
  | _ => []
/-- a call that writes to nothing that stood -/
def eCall (P : PV) (L : AV) : EV := fun Γ C Q => L Γ C fun ds C1 => P (views [] C1 ds) [] fun d _ => (noold d && noptr d) = true ∧ Q d C1
theorem sim_call (hl : SimA K tl L) (E : XK) : SimE K (tCall (Sp3 K 0 P) [] E tl) (eCall P L) := fun H0 A0 av ad Γ C σ H Q3 Q R h q => by
  refine hl H0 A0 av ad Γ C σ H _ _ R h fun vs H1 av1 ad1 ds C1 R1 l1 dv h1 => ?_
  rw [List.append_nil]
  refine R1.call (ks := []) (Q3 := fun d C' => Q3 d C') dv List.nodup_nil (fun _ z => nomatch z) h1 (fun d Cc hC ⟨h2, h3⟩ => ?_) (fun v H' C' d R' l' x _ _ q3 => q v H' av1 ad1 d C' R' (l1.trans l') x q3) E
  simp only [Bool.and_eq_true] at h2
  refine ⟨h2.1, fun c hc => ?_, ?_⟩
  · rw [List.length_nil, List.length_eq_zero_iff] at hC
    rw [hC] at hc
    simp at hc
  · rw [mapW_np.1 d h2.2]
    exact h3
theorem sim_callK {kf : List D → List Nat} (hl : SimA K tl L) (E : XK) : SimE K (tCall (Sp3 K n P) [] E tl) (eCallK n kf P L) := fun H0 A0 av ad Γ C σ H Q3 Q R h q => by
  refine hl H0 A0 av ad Γ C σ H _ _ R h fun vs H1 av1 ad1 ds C1 R1 l1 dv ⟨h0, h1, h2, h3⟩ => ?_
  subst h0
  rw [List.append_nil]
  exact R1.call (ks := kf ds) (Q3 := fun d C' => Q3 d C') dv h1 h2 h3 (fun d Cc _ h4 => h4) (fun v H' C' d R' l' x _ _ q3 => q v H' av1 ad1 d C' R' (l1.trans l') x q3) E
theorem ve_call (F : FnOkG X.prog X.w X.K X.mg X.base CX0 k f fd ps (Sp3 K 0 P)) (hr : RoomG k X.A) (hm : X.mg x = some (.ref f)) (hk : PySem.W.keepIn X.K (.ref f) = true) (hb : Binds X.K fd ps []) (ha : VA K X (e :: es) tl L) (hg : Gl X x := by rfl)
    (hdb : (x == ("__debug__" : Str)) = false := by decide) (he : starEach (e :: es) X.env = (false, eval e X.env) :: starEach es X.env := by rfl) (hpl : (backTo pos (starEach es X.env)).any (·.1) = false := by rfl) :
    VE K X (.Call (.Name x p) (e :: es) [] pos) (tCall (Sp3 K 0 P) [] E0 tl) (eCall P L) := ⟨pe_callG F hr hg hm hk hb pass0 ha.pa hdb he hpl, sim_call ha.sim E0⟩
theorem ve_callK {kf : List D → List Nat} (F : FnOkG X.prog X.w X.K X.mg X.base CX0 k f fd ps (Sp3 K n P)) (hr : RoomG k X.A) (hm : X.mg x = some (.ref f)) (hk : PySem.W.keepIn X.K (.ref f) = true) (hb : Binds X.K fd ps []) (ha : VA K X (e :: es) tl L) (hg : Gl X x := by rfl)
    (hdb : (x == ("__debug__" : Str)) = false := by decide) (he : starEach (e :: es) X.env = (false, eval e X.env) :: starEach es X.env := by rfl) (hpl : (backTo pos (starEach es X.env)).any (·.1) = false := by rfl) :
    VE K X (.Call (.Name x p) (e :: es) [] pos) (tCall (Sp3 K n P) [] E0 tl) (eCallK n kf P L) := ⟨pe_callG F hr hg hm hk hb pass0 ha.pa hdb he hpl, sim_callK ha.sim E0⟩
end
/-! ### a called def's new list, still to be written to -/
mutual
def flatD : D → Bool
  | .non => true
  | .bl _ => true
  | .int _ => true
  | .str _ => true
  | .tup xs => flatDs xs
  | _ => false
def flatDs : List D → Bool
  | [] => true
  | x :: xs => flatD x && flatDs xs
end
mutual
theorem Den.ban {K : PySem.W.Frag} {H0 : Hp} {av : Av} {ad : Ads} {H : Hp} {p : Addr} {ws : List V} (hp : H p = some (.lst ws)) : ∀ {v : V} {d : D}, Den K H0 av ad H v d → flatD d = true → Den K H0 (fun b => av b ∨ b = p) ad H v d
  | _, _, .bad, e => by simp [flatD] at e
  | _, _, .non, _ => .non
  | _, _, .bl, _ => .bl
  | _, _, .int, _ => .int
  | _, _, .str, _ => .str
  | _, _, .lst _ _ _, e => by simp [flatD] at e
  | _, _, .tup r x, e => .tup ⟨r.1, fun z => z.elim r.2 fun z => by subst z; rw [r.1] at hp; cases hp⟩ (DenAll.ban hp x (by simpa only [flatD] using e))
  | _, _, .dk _ _ _ _ _, e => by simp [flatD] at e
  | _, _, .dt _ _ _ _ _, e => by simp [flatD] at e
  | _, _, .obj _ _ _ _, e => by simp [flatD] at e
  | _, _, .ptr _, e => by simp [flatD] at e
theorem DenAll.ban {K : PySem.W.Frag} {H0 : Hp} {av : Av} {ad : Ads} {H : Hp} {p : Addr} {ws : List V} (hp : H p = some (.lst ws)) : ∀ {vs : List V} {ds : List D}, DenAll K H0 av ad H vs ds → flatDs ds = true → DenAll K H0 (fun b => av b ∨ b = p) ad H vs ds
  | _, _, .nil, _ => .nil
  | _, _, .cons a b, e => by
    simp only [flatDs, Bool.and_eq_true] at e
    exact .cons (Den.ban hp a e.1) (DenAll.ban hp b e.2)
end
mutual
theorem flat_np : ∀ {d : D}, flatD d = true → noptr d = true ∧ okW (fun o => !o) d = true
  | .bad, e => by simp [flatD] at e
  | .non, _ => ⟨rfl, rfl⟩
  | .bl _, _ => ⟨rfl, rfl⟩
  | .int _, _ => ⟨rfl, rfl⟩
  | .str _, _ => ⟨rfl, rfl⟩
  | .tup xs, e => by
    have := flats_np (ds := xs) (by simpa only [flatD] using e)
    simpa only [noptr, okW] using this
  | .lst _ _, e => by simp [flatD] at e
  | .dk _ _ _, e => by simp [flatD] at e
  | .dt _ _ _, e => by simp [flatD] at e
  | .obj _ _ _, e => by simp [flatD] at e
  | .ptr _, e => by simp [flatD] at e
theorem flats_np : ∀ {ds : List D}, flatDs ds = true → noptrs ds = true ∧ okWs (fun o => !o) ds = true
  | [], _ => ⟨rfl, rfl⟩
  | x :: xs, e => by
    simp only [flatDs, Bool.and_eq_true] at e
    have h1 := flat_np (d := x) e.1
    have h2 := flats_np (ds := xs) e.2
    simp only [noptrs, okWs, Bool.and_eq_true]
    exact ⟨⟨h1.1, h2.1⟩, h1.2, h2.2⟩
end
end L3

namespace L3
open PySem PySem.Spec PyProof.Rows L2
section
variable {K : PySem.W.Frag} {H0 : Hp} {A0 : List Addr} {av : Av} {ad : Ads} {Γ : Slots} {C : Store} {σ : L2.St} {H H' : Hp}
/-- the heap grew, and a new object is kept clear of -/
theorem Rep.grow (R : Rep K H0 A0 av ad Γ C σ H) (s : ∀ a o, H a = some o → H' a = some o) {p : Addr} (n : H p = none) (e : H' p ≠ none) (no : ∀ xs, H' p ≠ some (.tup xs)) : Rep K H0 A0 (fun b => av b ∨ b = p) ad Γ C σ H' := by
  have f : Fz av H (fun b => av b ∨ b = p) H' := fun a u h na => ⟨s a u h, fun z => z.elim na fun e => ne_of_none h n e⟩
  have R' := R.same s
  exact { R' with
    sub := fun a h => .inl (R.sub a h)
    dom := fun a h => h.elim (R'.dom a) fun z => by rw [z]; exact e
    avt := fun a xs h r => h.elim (fun z => R'.avt a xs z r) fun z => by subst z; exact no xs r
    cells := fun i a c h1 h2 => by
      refine (R.cells i a c h1 h2).mono f Pre.refl ?_
      cases q : H a with
      | none => exact absurd q (R.dom a (R.av_of h1))
      | some o => exact s a o q
    slot := fun i d h => by
      obtain ⟨v, h1, h2⟩ := R.slot i d h
      exact ⟨v, h1, h2.mono f Pre.refl⟩ }
/-- an object that is kept clear of, and is no cell, changes -/
theorem Rep.poke (R : Rep K H0 A0 av ad Γ C σ H) {p : Addr} {o : HO} (hp : av p) (n0 : H0 p = none) (np : some p ∉ ad) (no : ∀ xs, o ≠ .tup xs) : Rep K H0 A0 av ad Γ C σ (upd H p o) ∧ Fz av H av (upd H p o) := by
  have f : Fz av H av (upd H p o) := fun a u h na => ⟨by rw [upd_ne (fun e => na (by rw [e]; exact hp))]; exact h, na⟩
  have ne : ∀ (i : Nat) (a : Addr), ad[i]? = some (some a) → a ≠ p := fun i a h e => np (by rw [← e]; exact mem_ads h)
  refine ⟨{ R with
    dom := fun a h e => by
      by_cases q : a = p
      · subst q; rw [upd_same] at e; cases e
      · rw [upd_ne q] at e; exact R.dom a h e
    avt := fun a xs h r => by
      by_cases q : a = p
      · subst q; rw [upd_same] at r; exact no xs (Option.some.inj r)
      · rw [upd_ne q] at r; exact R.avt a xs h r
    keep := fun a u h n => by
      have q : a ≠ p := fun e => by subst e; rw [n0] at h; cases h
      rw [upd_ne q]; exact R.keep a u h n
    there := fun a e => by
      by_cases q : a = p
      · subst q; rw [upd_same] at e; cases e
      · rw [upd_ne q] at e; exact R.there a e
    cells := fun i a c h1 h2 => (R.cells i a c h1 h2).mono f Pre.refl (upd_ne (ne i a h1))
    slot := fun i d h => by
      obtain ⟨v, h1, h2⟩ := R.slot i d h
      exact ⟨v, h1, h2.mono f Pre.refl⟩ }, f⟩
end
/-! ### comprehensions -/
def wipe3 (Γ : Slots) : List Nat → Slots
  | [] => Γ
  | v :: vs => (wipe3 Γ vs).set v none
theorem wipe3_length (Γ : Slots) : ∀ vs : List Nat, (wipe3 Γ vs).length = Γ.length
  | [] => rfl
  | v :: vs => by unfold wipe3; rw [List.length_set, wipe3_length Γ vs]
theorem wipe3_some {Γ : Slots} {i : Nat} {d : D} : ∀ {vs : List Nat}, (wipe3 Γ vs)[i]? = some (some d) → Γ[i]? = some (some d) ∧ i ∉ vs
  | [], h => ⟨h, by simp⟩
  | v :: vs, h => by
    unfold wipe3 at h
    by_cases hi : v = i
    · subst hi
      by_cases hv : v < (wipe3 Γ vs).length
      · rw [List.getElem?_set_self hv] at h; cases h
      · rw [List.getElem?_eq_none (by simpa using hv)] at h; cases h
    · rw [List.getElem?_set_ne hi] at h
      obtain ⟨h1, h2⟩ := wipe3_some h
      exact ⟨h1, by simp only [List.mem_cons, not_or]; exact ⟨fun e => hi e.symm, h2⟩⟩
theorem wipe_other {σ : L2.St} {i : Nat} : ∀ {vs : List Nat}, i ∉ vs → (wipe σ vs)[i]? = σ[i]?
  | [], _ => rfl
  | v :: vs, h => by
    simp only [List.mem_cons, not_or] at h
    unfold wipe
    rw [List.getElem?_set_ne (fun e => h.1 e.symm)]
    exact wipe_other h.2
theorem wipe_set {σ : L2.St} {i : Nat} {x : Option V} : ∀ {vs : List Nat}, i ∈ vs → wipe (σ.set i x) vs = wipe σ vs
  | [], h => by simp at h
  | v :: vs, h => by
    unfold wipe
    by_cases hi : i = v
    · subst hi
      by_cases hm : i ∈ vs
      · rw [wipe_set hm]
      · have key : ∀ us : List Nat, wipe (σ.set i x) us = (wipe σ us).set i x ∨ wipe (σ.set i x) us = wipe σ us := by
          intro us
          induction us with
          | nil => exact .inl rfl
          | cons u us ih =>
            unfold wipe
            rcases ih with e | e
            · rw [e]
              by_cases hu : i = u
              · subst hu; right; rw [List.set_set]
              · left; rw [List.set_comm _ _ hu]
            · rw [e]; right; rfl
        rcases key vs with e | e
        · rw [e, List.set_set]
        · rw [e]
    · have hm : i ∈ vs := by simpa [hi] using h
      rw [wipe_set hm]
/-- the target stores in its own slots alone -/
def GOwn (vs : List Nat) (g : TG) : Prop := ∀ (v : V) (σ σ0 : L2.St) (H : Hp) (Q : L2.St → Hp → Prop), wipe σ vs = wipe σ0 vs → g v σ H Q → g v σ H fun σ2 H2 => wipe σ2 vs = wipe σ0 vs ∧ Q σ2 H2
def GsOwn (vs : List Nat) (g : TGs) : Prop := ∀ (us : List V) (σ σ0 : L2.St) (H : Hp) (Q : L2.St → Hp → Prop), wipe σ vs = wipe σ0 vs → g us σ H Q → g us σ H fun σ2 H2 => wipe σ2 vs = wipe σ0 vs ∧ Q σ2 H2
theorem own_name {vs : List Nat} {i : Nat} (h : i ∈ vs) : GOwn vs (gName i) := fun v σ σ0 H Q e q => ⟨(wipe_set h).trans e, q⟩
theorem own_nil {vs : List Nat} : GsOwn vs gNil := fun us σ σ0 H Q e ⟨h, q⟩ => ⟨h, e, q⟩
theorem own_cons {vs : List Nat} {g : TG} {gs : TGs} (h : GOwn vs g) (h' : GsOwn vs gs) (mono : ∀ (v : V) (σ : L2.St) (H : Hp) (Q Q' : L2.St → Hp → Prop), (∀ σ H, Q σ H → Q' σ H) → g v σ H Q → g v σ H Q') : GsOwn vs (gCons g gs) := fun us σ σ0 H Q e ⟨v, r, e1, q⟩ =>
  ⟨v, r, e1, mono _ _ _ _ _ (fun σ2 H2 ⟨e2, q2⟩ => h' r σ2 σ0 H2 Q e2 q2) (h v σ σ0 H _ e q)⟩
theorem mono_name {i : Nat} (v : V) (σ : L2.St) (H : Hp) (Q Q' : L2.St → Hp → Prop) (h : ∀ σ H, Q σ H → Q' σ H) (q : gName i v σ H Q) : gName i v σ H Q' := h _ _ q
theorem own_tup {vs : List Nat} {n : Nat} {K : PySem.W.Frag} {gs : TGs} (h : GsOwn vs gs) : GOwn vs (gTup K n gs) := fun v σ σ0 H Q e ⟨a, xs, e1, e2, e3, q⟩ => ⟨a, xs, e1, e2, e3, h xs σ σ0 H Q e q⟩
structure VTs (K : PySem.W.Frag) (X : Cx) (ifs : List Expr) (t : TT) (B : BV) : Prop where
  pt : PTs X ifs t
  sim : SimT K t B
def bYes : BV := fun _ C Q => Q true C
/-- the list so far, what is still to come -/
def lcW (G : GV) (B : BV) (E : EV) (Γ : Slots) (ok : Store → Prop) (Q : Cell → Store → Prop) : List D → List D → Store → Prop
  | [], acc, C => Q (.lst acc) C
  | d :: ds, acc, C => G d Γ C fun Γ1 C1 => B Γ1 C1 fun k C2 => if k = true then E Γ1 C2 fun y C3 => acc.length < sizeLine ∧ ok C3 ∧ lcW G B E Γ ok Q ds (acc ++ [y]) C3 else ok C2 ∧ lcW G B E Γ ok Q ds acc C2
def srcOk (src : List Nat) (C0 C : Store) : Prop := ∀ k, k ∈ src → C[k]? = C0[k]?
def fLc (vs : List Nat) (I : IV) (G : GV) (B : BV) (E : EV) : FV := fun Γ C Q => I Γ C fun ds src C1 => lcW G B E (wipe3 Γ vs) (srcOk src C1) Q ds [] C1
section
variable {K : PySem.W.Frag} {X : Cx} {elt tg iter c : Expr} {ifs : List Expr} {scope : Scope} {own : List (Str × Nat)} {pos spos py : Pos} {wi : TI} {g : TG} {tt : TT} {te : TE} {I : IV} {G : GV} {B : BV} {E : EV} {F : FV} {x y : Str}
theorem vts_nil : VTs K X [] tYes bYes := ⟨pts_nil, fun H0 A0 av ad Γ C σ H Q3 Q R h q => q true H av ad C R Le.refl h⟩
theorem vts_one (h : VT K X c tt B) : VTs K X [c] tt B := ⟨pts_one h.pt, h.sim⟩
theorem wipe_idem {σ : L2.St} : ∀ vs us : List Nat, (∀ i, i ∈ us → i ∈ vs) → wipe (wipe σ vs) us = wipe σ vs
  | _, [], _ => rfl
  | vs, u :: us, h => by
    unfold wipe
    rw [wipe_idem vs us fun i hi => h i (List.mem_cons_of_mem _ hi)]
    have hu : u ∈ vs := h u (List.mem_cons_self ..)
    have key : ∀ ws : List Nat, u ∈ ws → (wipe σ ws).set u none = wipe σ ws := by
      intro ws
      induction ws with
      | nil => intro h; simp at h
      | cons w ws ih =>
        intro hm
        unfold wipe
        by_cases e : u = w
        · subst e; rw [List.set_set]
        · rw [List.set_comm _ _ (Ne.symm e), ih (by simpa [e] using hm)]
    have := key vs hu
    cases vs <;> exact this
theorem sim_lc {vs : List Nat} (hi : SimI K wi I) (hg : SimG K g G) (ho : GOwn vs g) (ht : SimT K tt B) (he : SimE K te E) : SimF K (tLc wi g tt te vs) (fLc vs I G B E) := by
  intro H0 A0 av ad Γ C σ H Q3 Q R h q
  refine hi H0 A0 av ad Γ C σ H _ _ R h fun J H1 av1 ad1 C1 ds src R1 l1 Y w0 p np => ?_
  have n0 : H0 p = none := R1.there p np
  have nad : some p ∉ ad1 := fun z => R1.nav np (R1.sub p z)
  let Iv : Nat → Hp → Prop := fun i H2 => i ≤ ds.length ∧ ∃ av2 ad2 C2 acc vs2, Rep K H0 A0 av2 ad2 Γ C2 σ H2 ∧ av2 p ∧ some p ∉ ad2 ∧ Le av1 ad1 H1 av2 ad2 H2 ∧ srcOk src C1 C2 ∧ H2 p = some (.lst vs2) ∧
      DenAll K H0 av2 ad2 H2 vs2 acc ∧ lcW G B E (wipe3 Γ vs) (srcOk src C1) Q3 (ds.drop i) acc C2
  have start : Iv 0 (upd H1 p (.lst [])) := by
    refine ⟨Nat.zero_le _, _, ad1, C1, [], [], R1.ban np (fun _ z => nomatch z), .inr rfl, nad, ⟨?_, Pre.refl, fun a e => ?_, fun _ h => .inl h, fun _ h => .inl h, fun a u h _ => same_upd np a u h⟩, fun _ _ => rfl, upd_same, .nil, w0⟩
    · exact fun a u h na => ⟨same_upd np a u h, fun z => z.elim na fun e => ne_of_none h np e⟩
    · by_cases h : a = p
      · subst h; exact np
      · rw [upd_ne h] at e; exact e
  refine ⟨fun i m H2 => m = ds.length - i ∧ Iv i H2, ⟨ds.length, by simp, start⟩, ?_⟩
  rintro i m H2 ⟨rfl, hil, av2, ad2, C2, acc, vs2, R2, pv2, np2, l2, ok2, hp2, da2, w2⟩
  have kp : Keeps av1 ad1 C1 H1 src ds av2 ad2 C2 H2 := by
    refine ⟨l2.fz, .inr l2.pre, fun k hk => ⟨?_, ok2 k hk⟩⟩
    cases e : ad1[k]? with
    | none =>
      have h1 := R1.len
      have h2 : C1[k]? = none := by rw [List.getElem?_eq_none_iff] at e ⊢; omega
      have h3 := ok2 k hk
      rw [h2] at h3
      rw [List.getElem?_eq_none_iff] at h3 ⊢
      have := R2.len
      omega
    | some o =>
      cases o with
      | some a => exact l2.pre k a e
      | none =>
        have h1 := R1.gone k e
        have h2 := ok2 k hk
        rw [h1] at h2
        have hlt : k < ad2.length := by rw [R2.len]; exact (List.getElem?_eq_some_iff.mp h2).1
        cases q2 : ad2[k]? with
        | none => rw [List.getElem?_eq_getElem hlt] at q2; cases q2
        | some o =>
          cases o with
          | none => rfl
          | some a => exact (R2.cells k a _ q2 h2).elim
  obtain ⟨y1, y2⟩ := Y av2 ad2 Γ C2 σ H2 i R2 kp
  by_cases hlt : i < ds.length
  · obtain ⟨hgo, hy⟩ := y1 hlt
    refine .inr ⟨hgo, Iv (i + 1), fun H' h' => ⟨ds.length - (i + 1), by omega, rfl, h'⟩, fun x H3 hx => ?_⟩
    obtain ⟨s3, d, e3, r3⟩ := hy x H3 hx
    have ed : ds.drop i = d :: ds.drop (i + 1) := by
      rw [List.drop_eq_getElem_cons hlt]
      have : ds[i] = d := by
        rw [List.getElem?_eq_getElem hlt] at e3
        exact Option.some.inj e3
      rw [this]
    rw [ed] at w2
    have R3 := R2.same s3
    have RW : Rep K H0 A0 av2 ad2 (wipe3 Γ vs) C2 (wipe σ vs) H3 := R3.slots (by rw [wipe_length, wipe3_length]; exact R3.slen) fun j d hj => by
      obtain ⟨h1, h2⟩ := wipe3_some hj
      obtain ⟨v, h3, h4⟩ := R3.slot j d h1
      exact ⟨v, by rw [wipe_other h2]; exact h3, h4⟩
    have n3 : H3 p = some (.lst vs2) := s3 p _ hp2
    have back : ∀ {av' : Av} {ad' : Ads} {C' : Store} {σ' : L2.St} {Γ' : Slots} {H' : Hp}, Rep K H0 A0 av' ad' Γ' C' σ' H' → Le av2 ad2 H3 av' ad' H' → Rep K H0 A0 av' ad' Γ C' σ H' := fun R' l' => R'.slots R3.slen fun j d hj => by
      obtain ⟨v, h3, h4⟩ := R3.slot j d hj
      exact ⟨v, h3, h4.le l'⟩
    refine ho x (wipe σ vs) σ H3 _ (wipe_idem vs vs fun _ h => h) ?_
    refine hg H0 A0 av2 ad2 (wipe3 Γ vs) C2 (wipe σ vs) H3 x d _ _ RW r3 w2 fun av4 ad4 Γ4 C4 σ4 H4 R4 l4 w4 => ?_
    refine ht H0 A0 av4 ad4 Γ4 C4 σ4 H4 _ _ R4 w4 fun k H5 av5 ad5 C5 R5 l5 w5 => ?_
    have l45 := l4.trans l5
    have l25 : Le av1 ad1 H1 av5 ad5 H5 := (l2.trans (Le.same s3)).trans l45
    have fresh : ∀ {av' : Av} {ad' : Ads} {H' : Hp}, Le av2 ad2 H3 av' ad' H' → some p ∉ ad' := fun l' z => (l'.adn p z).elim np2 fun e => by rw [n3] at e; cases e
    cases k with
    | false =>
      obtain ⟨w5, w6⟩ := w5
      exact ⟨hlt, av5, ad5, C5, acc, vs2, back R5 l45, l45.avm p pv2, fresh l45, l25, w5, l45.kp p _ n3 np2, (da2.le (Le.same s3)).le l45, w6⟩
    | true =>
      rw [if_pos rfl]
      refine he H0 A0 av5 ad5 Γ4 C5 σ4 H5 _ _ R5 w5 fun v H6 av6 ad6 dv C6 R6 l6 r6 ⟨hz, w6, w7⟩ => ?_
      have l46 := l45.trans l6
      have l26 : Le av1 ad1 H1 av6 ad6 H6 := l25.trans l6
      have pv6 : av6 p := l46.avm p pv2
      have np6 : some p ∉ ad6 := fresh l46
      have da6 : DenAll K H0 av6 ad6 H6 (vs2 ++ [v]) (acc ++ [dv]) := ((da2.le (Le.same s3)).le l46).append (.cons r6 .nil)
      obtain ⟨R7, f7⟩ := (back R6 l46).poke (o := .lst (vs2 ++ [v])) pv6 n0 np6 (fun _ z => nomatch z)
      have hl := da2.length
      refine ⟨vs2, l46.kp p _ n3 np2, by rw [hl]; exact hz, hlt, av6, ad6, C6, acc ++ [dv], vs2 ++ [v], R7, pv6, np6, ?_, w6, upd_same, da6.mono f7 Pre.refl, w7⟩
      refine ⟨l26.fz.trans f7, l26.pre, fun a e => ?_, l26.avm, l26.adn, fun a u h n => ?_⟩
      · by_cases h : a = p
        · subst h; exact np
        · rw [upd_ne h] at e; exact l26.there a e
      · rw [upd_ne (ne_of_none h np)]; exact l26.kp a u h n
  · have e : i = ds.length := by omega
    subst e
    rw [List.drop_length] at w2
    refine .inl ⟨y2 (Nat.le_refl _), ?_⟩
    have ea : av2 = fun b => (av2 b ∧ b ≠ p) ∨ b = p := by
      funext b
      refine propext ⟨fun h => ?_, fun h => h.elim (fun z => z.1) fun z => by rw [z]; exact pv2⟩
      by_cases e : b = p
      · exact .inr e
      · exact .inl ⟨h, e⟩
    have l3 := l1.trans l2
    rw [ea] at R2 l3 da2
    exact q p H2 (fun b => av2 b ∧ b ≠ p) ad2 (.lst acc) C2 R2 (fun b hb => ⟨(R2.sub b hb).elim (fun z => z.1) fun z => by rw [z] at hb; exact absurd hb np2, fun z => np2 (by rw [← z]; exact hb)⟩) (fun z => z.2 rfl) (l1.there p np) l3 ⟨vs2, hp2, da2⟩ w2
theorem vf_lc (hc : X.calm = true) (hN : X.N.Nodup) (hi : VI K X tg iter wi I) (ok : BlkOk X.N X.env.scope scope own) (ho : GOwn (own.map (·.2)) g)
    (hg : ∀ (s : Shared) (H : Hp) (C : Addr) (cl : List (Str × Addr)) (fp : List Addr), VG K (X.blk s H scope (compEnvC scope cl C X.env) fp) tg g G) (ht : ∀ (s : Shared) (H : Hp) (C : Addr) (cl : List (Str × Addr)) (fp : List Addr), VTs K (X.blk s H scope (compEnvC scope cl C X.env) fp) ifs tt B)
    (he : ∀ (s : Shared) (H : Hp) (C : Addr) (cl : List (Str × Addr)) (fp : List Addr), VE K (X.blk s H scope (compEnvC scope cl C X.env) fp) elt te E) (hs : ∀ x, foldedSetIterable iter X.env x = pure x := by intro _; rfl) :
    VF K X (.ListComp elt [⟨tg, iter, ifs, 0⟩] scope pos) (tLc wi g tt te (own.map (·.2))) (fLc (own.map (·.2)) I G B E) :=
  ⟨pe_lc hc hN hi.pi ok (fun s H C cl fp => (hg s H C cl fp).pg) (fun s H C cl fp => (ht s H C cl fp).pt) (fun s H C cl fp => (he s H C cl fp).pe) hs,
    sim_lc hi.sim (hg X.s_0 X.H_0 0 [] []).sim ho (ht X.s_0 X.H_0 0 [] []).sim (he X.s_0 X.H_0 0 [] []).sim⟩
theorem vs_setLc (i : Nat) (m : Bool) (hc : X.calm = true) (hN : X.N.Nodup) (hi : VI K X tg iter wi I) (ok : BlkOk X.N X.env.scope scope own) (ho : GOwn (own.map (·.2)) g)
    (hg : ∀ (s : Shared) (H : Hp) (C : Addr) (cl : List (Str × Addr)) (fp : List Addr), VG K (X.blk s H scope (compEnvC scope cl C X.env) fp) tg g G) (ht : ∀ (s : Shared) (H : Hp) (C : Addr) (cl : List (Str × Addr)) (fp : List Addr), VTs K (X.blk s H scope (compEnvC scope cl C X.env) fp) ifs tt B)
    (he : ∀ (s : Shared) (H : Hp) (C : Addr) (cl : List (Str × Addr)) (fp : List Addr), VE K (X.blk s H scope (compEnvC scope cl C X.env) fp) elt te E) (hy : X.N[i]? = some y := by rfl) (hyl : X.env.scope.names.lookup y = some .local := by rfl)
    (hsw : swapsWith (.ListComp elt [⟨tg, iter, ifs, 0⟩] scope pos) (some (.Name y py)) spos.line X.env = pure true := by exact sw_true rfl rfl rfl (by decide +kernel)) (hs : ∀ x, foldedSetIterable iter X.env x = pure x := by intro _; rfl) :
    VS K X (.Assign [.Name y py] (.ListComp elt [⟨tg, iter, ifs, 0⟩] scope pos) spos) (tAsg (tLc wi g tt te (own.map (·.2))) (gName i)) (sAsg (if m then eCell (fLc (own.map (·.2)) I G B E) else eFrz (fLc (own.map (·.2)) I G B E)) (gvName i)) := by
  have V := vf_lc (pos := pos) hc hN hi ok ho hg ht he hs
  refine ⟨ps_setLc hc hN hy hyl hsw hi.pi ok (fun s H C cl fp => (hg s H C cl fp).pg) (fun s H C cl fp => (ht s H C cl fp).pt) (fun s H C cl fp => (he s H C cl fp).pe) hs, ?_⟩
  refine sim_asg ?_ fun H0 A0 av ad Γ C σ H v d Q3 Q R dv h q => q av ad _ C _ H (R.store i dv) Le.refl h
  cases m with
  | true => exact V.cell.sim
  | false => exact V.frz.sim
end
end L3

namespace L2
open PySem PySem.Spec PyProof.Rows
section
variable {X : Cx} {pins : List (Addr × Obj)} {σ : St} {H : Hp} {s : Shared} {l : Addr} {xs : List V}
theorem Inv.lstR (I : Inv X pins σ H s) (hH : Rd H l (.lst xs)) : xs.length ≤ sizeLine ∧ ∃ (its : List Value) (n : Nat), Vals xs its ∧ xs.length = its.length ∧ s.heap.get? l = some { cls := .type "list", data := .seq its.toArray n } := by
  obtain ⟨z, its, n, r, e⟩ := hH.ok I.hok
  exact ⟨z, its, n, r, r.length, e⟩
/-- + of two lists that may be locked -/
def rCatR : R2 := fun x y H Q => ∃ l b xs zs, x = .ref l ∧ y = .ref b ∧ Rd H l (.lst xs) ∧ Rd H b (.lst zs) ∧ xs.length + zs.length ≤ sizeLine ∧ ∀ p, H p = none → Q (.ref p) (upd H p (.lst (xs ++ zs)))
theorem op_catR : OpR X (binaryOp .Add) rCatR := by
  intro pins s σ H x y v u Q I rx ry h
  obtain ⟨l, b, xs, zs, rfl, rfl, hH, hB, hz, q⟩ := h
  cases rx
  cases ry
  obtain ⟨z, its, n, r, hl, e⟩ := I.lstR hH
  obtain ⟨z2, its2, n2, r2, hl2, e2⟩ := I.lstR hB
  refine PySem.P.add_list e e2 ?_ (by rw [List.size_toArray, List.size_toArray]; omega)
  have ea : its.toArray ++ its2.toArray = (its ++ its2).toArray := by simp
  rw [ea]
  exact ⟨.ref _, _, I.lnew (t' := s.toks) (r.append r2) (by rw [List.length_append]; omega), rfl, q _ I.fresh⟩
def rExtendR : V → List V → Hp → VK → Prop := fun x vs H Q => ∃ l b xs zs, x = .ref l ∧ vs = [.ref b] ∧ H l = some (.lst xs) ∧ Rd H b (.lst zs) ∧ xs.length + zs.length ≤ sizeLine ∧ Q .non (upd H l (.lst (xs ++ zs)))
theorem mt_extendR : MtM X "list.extend" rExtendR := by
  intro pins s σ H x vs v us Q I rx rv h
  obtain ⟨l, b, xs, zs, rfl, rfl, hH, hB, hz, q⟩ := h
  cases rx
  obtain ⟨u, rfl, ru⟩ := rv.one
  cases ru
  obtain ⟨z, its, n, r, hl, e⟩ := I.lstM hH
  obtain ⟨z2, its2, n2, r2, hl2, e2⟩ := I.lstR hB
  have hsz : its.toArray.size + its2.toArray.size ≤ sizeLine := by rw [List.size_toArray, List.size_toArray]; omega
  have hlong : ¬ (!its.toArray.isEmpty && Builtin.List.listTooLong (its.toArray.size + its2.toArray.size)) = true := by
    rw [notLongL hsz, Bool.and_false]
    exact Bool.false_ne_true
  refine call_meets F.slot_list_extend ⟨_, e, rfl⟩ F.entry_list_extend (F.args_list_extend_2 _ _)
    (AutoSeq1.list_extend_list_list_0 l its.toArray n b its2.toArray n2 hlong (by rw [List.size_toArray]; omega) (by omega)) ⟨e, e2, ?_⟩
  refine ⟨.non, _, I.lset (its' := its ++ its2) hH e (by simp) (r.append r2) ?_, rfl, q⟩
  rw [List.length_append]
  omega
end
end L2
namespace L3
open PySem PySem.Spec PyProof.Rows L2
section
variable {K : PySem.W.Frag} {X : Cx} {e a b c o : Expr} {es : List Expr} {t ta tb tc te to : TE} {E Ea Eb Ec Eo : EV} {F : FV} {B B' : BV} {tl : TA} {L : AV} {pos p apos cpos : Pos} {x name : Str} {id T : String}
/-! ### lists put together -/
def nCat : N2 := fun C x y Q => ∃ xs ys, lstOf C x = some xs ∧ lstOf C y = some ys ∧ xs.length + ys.length ≤ sizeLine ∧ Q (.lst (xs ++ ys))
theorem sf_cat : SimRF K rCatR nCat := by
  intro H0 A0 av ad Γ C σ H x y dx dy Q3 Q R d1 d2 ⟨xs, ys, e1, e2, hl, q3⟩ q
  obtain ⟨a, vs, rfl, h1, r1⟩ := R.lst d1 e1
  obtain ⟨b, us, rfl, h2, r2⟩ := R.lst d2 e2
  exact ⟨a, b, vs, us, rfl, rfl, h1, h2, by rw [r1.length, r2.length]; exact hl, fun p np => q H p _ (.lst _) (fun _ _ h => h) np noTup_lst (r1.append r2) q3⟩
/-- a list times an int: the list just made or a cell -/
def nRep : N2 := fun C x y Q => ∃ xs i, lstOf C x = some xs ∧ y = .int i ∧ -(2 ^ 63) ≤ i ∧ i < 2 ^ 63 ∧ xs.length * i.toNat ≤ sizeLine ∧ (match x with | .lst o _ => o = false | _ => True) ∧ Q (.lst (List.replicate i.toNat xs).flatten)
theorem den_rep {H0 : Hp} {av : Av} {ad : Ads} {H : Hp} {vs : List V} {ds : List D} (x : DenAll K H0 av ad H vs ds) : ∀ n, DenAll K H0 av ad H (List.replicate n vs).flatten (List.replicate n ds).flatten
  | 0 => .nil
  | n + 1 => by rw [List.replicate_succ, List.replicate_succ, List.flatten_cons, List.flatten_cons]; exact x.append (den_rep x n)
/-! ### methods of built-in types -/
abbrev OM := Store → D → List D → (D → Store → Prop) → Prop
def SimM (K : PySem.W.Frag) (r : V → List V → Hp → VK → Prop) (f : OM) : Prop := ∀ (H0 : Hp) (A0 : List Addr) (av : Av) (ad : Ads) (Γ : Slots) (C : Store) (σ : L2.St) (H : Hp) (x : V) (vs : List V) (dx : D) (ds : List D) (Q3 : D → Store → Prop) (Q : VK), Rep K H0 A0 av ad Γ C σ H →
  Den K H0 av ad H x dx → DenAll K H0 av ad H vs ds → f C dx ds Q3 → (∀ (v : V) (H' : Hp) (C' : Store) (d : D), Rep K H0 A0 av ad Γ C' σ H' → Le av ad H av ad H' → Den K H0 av ad H' v d → Q3 d C' → Q v H') → r x vs H Q
/-- a method of a list -/
def eMl (f : OM) (Eo : EV) (L : AV) : EV := fun Γ C Q => Eo Γ C fun x C1 => ∃ xs, lstOf C1 x = some xs ∧ L Γ C1 fun ds C2 => f C2 x ds Q
theorem sim_ml {r : V → List V → Hp → VK → Prop} {f : OM} (hs : SimM K r f) (ho : SimE K to Eo) (hl : SimA K tl L) : SimE K (tBM K "list" r to tl) (eMl f Eo L) := fun H0 A0 av ad Γ C σ H Q3 Q R h q =>
  ho H0 A0 av ad Γ C σ H _ _ R h fun x H1 av1 ad1 dx C1 R1 l1 d1 ⟨xs, e1, h1⟩ => by
    obtain ⟨p, vs, rfl, s1, _⟩ := R1.lst d1 e1
    refine ⟨.inl ⟨rfl, vs, .inl s1⟩, hl H0 A0 av1 ad1 Γ C1 σ H1 _ _ R1 h1 fun us H2 av2 ad2 ds C2 R2 l2 d2 h2 => ?_⟩
    exact hs H0 A0 av2 ad2 Γ C2 σ H2 _ us dx ds _ Q R2 (d1.le l2) d2 h2 fun v H3 C3 d R3 l3 d3 q3 => q v H3 av2 ad2 d C3 R3 ((l1.trans l2).trans l3) d3 q3
theorem ve_ml {r : V → List V → Hp → VK → Prop} {f : OM} (hK : X.K = K) (pa : PlainAttrs "list") (slot : Slot "list" name id) (hty : typeOf (.builtin id) = pure (.type "method_descriptor")) (hm : MtR X id r) (hs : SimM K r f) (ho : VE K X o to Eo) (ha : VA K X (e :: es) tl L)
    (hbase : attributeBase o name X.env (eval o X.env) = eval o X.env := by rfl)
    (hfew : ((backTo cpos (starEach (e :: es) X.env)).all (fun x => !x.1) && (backToKw cpos (keywordEach [] X.env)).all (fun x => x.1.isSome)
      && decide ((e :: es).length + ([] : List Keyword).length + (if ([] : List Keyword).isEmpty then 0 else 1) < 30)) = true := by rfl)
    (hline : (apos.endLine == cpos.line) = true := by rfl) (hst : starEach (e :: es) X.env = (false, eval e X.env) :: starEach es X.env := by rfl) (hplain : (backTo cpos (starEach es X.env)).any (·.1) = false := by rfl) :
    VE K X (.Call (.Attribute o name apos) (e :: es) [] cpos) (tBM K "list" r to tl) (eMl f Eo L) := by
  subst hK
  exact ⟨pe_bm pa slot hty hm ho.pe ha.pa hbase hfew hline hst hplain, sim_ml hs ho.sim ha.sim⟩
theorem ve_ml0 {r : V → List V → Hp → VK → Prop} {f : OM} (hK : X.K = K) (pa : PlainAttrs "list") (slot : Slot "list" name id) (hty : typeOf (.builtin id) = pure (.type "method_descriptor")) (hm : MtR X id r) (hs : SimM K r f) (ho : VE K X o to Eo)
    (hbase : attributeBase o name X.env (eval o X.env) = eval o X.env := by rfl) (hline : (apos.endLine == cpos.line) = true := by rfl) :
    VE K X (.Call (.Attribute o name apos) [] [] cpos) (tBM0 K "list" r to) (eMl f Eo aNil) := by
  subst hK
  refine ⟨pe_bm0 pa slot hty hm ho.pe hbase hline, fun H0 A0 av ad Γ C σ H Q3 Q R h q => ?_⟩
  exact (sim_ml (tl := tNil) hs ho.sim va_nil_sim) H0 A0 av ad Γ C σ H Q3 Q R h q
where va_nil_sim : SimA X.K tNil aNil := fun H0 A0 av ad Γ C σ H Q3 Q R h q => q [] H av ad [] C R Le.refl .nil h
def mAppend : OM := fun C x ds Q => ∃ (k : Nat) (xs : List D) (y : D), x = .ptr k ∧ ds = [y] ∧ C[k]? = some (.lst xs) ∧ xs.length < sizeLine ∧ Q .non (C.set k (.lst (xs ++ [y])))
theorem sm_append : SimM K rAppend mAppend := by
  intro H0 A0 av ad Γ C σ H x vs dx ds Q3 Q R d1 d2 ⟨k, xs, y, e1, e2, e3, hl, q3⟩ q
  subst e1 e2
  obtain ⟨v, rfl, r⟩ := den1 d2
  obtain ⟨p, us, rfl, hp, hu, ru⟩ := R.lstCell d1 e3
  obtain ⟨R2, l2⟩ := R.lstWrite hp e3 (ru.append (.cons r .nil))
  exact ⟨p, us, v, rfl, rfl, hu, by rw [ru.length]; exact hl, q _ _ _ _ R2 l2 .non q3⟩
def mExtend : OM := fun C x ds Q => ∃ (k : Nat) (xs : List D) (y : D) (ys : List D), x = .ptr k ∧ ds = [y] ∧ C[k]? = some (.lst xs) ∧ lstOf C y = some ys ∧ xs.length + ys.length ≤ sizeLine ∧ Q .non (C.set k (.lst (xs ++ ys)))
theorem sm_extend : SimM K rExtendR mExtend := by
  intro H0 A0 av ad Γ C σ H x vs dx ds Q3 Q R d1 d2 ⟨k, xs, y, ys, e1, e2, e3, e4, hl, q3⟩ q
  subst e1 e2
  obtain ⟨v, rfl, r⟩ := den1 d2
  obtain ⟨p, us, rfl, hp, hu, ru⟩ := R.lstCell d1 e3
  obtain ⟨b, ws, rfl, hb, rb⟩ := R.lst r e4
  obtain ⟨R2, l2⟩ := R.lstWrite hp e3 (ru.append rb)
  exact ⟨p, b, us, ws, rfl, rfl, hu, hb, by rw [ru.length, rb.length]; exact hl, q _ _ _ _ R2 l2 .non q3⟩
def mPop : OM := fun C x ds Q => ∃ (k : Nat) (xs : List D) (y : D), x = .ptr k ∧ ds = [] ∧ C[k]? = some (.lst xs) ∧ xs[xs.length - 1]? = some y ∧ Q y (C.set k (.lst xs.dropLast))
theorem sm_pop : SimM K rPop mPop := by
  intro H0 A0 av ad Γ C σ H x vs dx ds Q3 Q R d1 d2 ⟨k, xs, y, e1, e2, e3, e4, q3⟩ q
  subst e1 e2
  cases d2
  obtain ⟨p, us, rfl, hp, hu, ru⟩ := R.lstCell d1 e3
  obtain ⟨v, e5, rv⟩ := ru.get e4
  obtain ⟨R2, l2⟩ := R.lstWrite hp e3 ru.dropLast
  exact ⟨p, us, v, rfl, rfl, hu, by rw [ru.length]; exact e5, q _ _ _ _ R2 l2 (rv.le l2) q3⟩
def mPopAt : OM := fun C x ds Q => ∃ (k : Nat) (xs : List D) (i : Int) (j : Nat) (y : D), x = .ptr k ∧ ds = [.int i] ∧ C[k]? = some (.lst xs) ∧ -(2 ^ 63) ≤ i ∧ i < 2 ^ 63 ∧ seqIndex? i xs.length = some j ∧ xs[j]? = some y ∧ Q y (C.set k (.lst (xs.eraseIdx j)))
theorem sm_popAt : SimM K rPopAt mPopAt := by
  intro H0 A0 av ad Γ C σ H x vs dx ds Q3 Q R d1 d2 ⟨k, xs, i, j, y, e1, e2, e3, h1, h2, e4, e5, q3⟩ q
  subst e1 e2
  obtain ⟨v, rfl, r⟩ := den1 d2
  obtain ⟨p, us, rfl, hp, hu, ru⟩ := R.lstCell d1 e3
  obtain ⟨w, e6, rw'⟩ := ru.get e5
  obtain ⟨R2, l2⟩ := R.lstWrite hp e3 (ru.erase j)
  exact ⟨p, us, i, j, w, rfl, by rw [den_int r], hu, h1, h2, by rw [ru.length]; exact e4, e6, q _ _ _ _ R2 l2 (rw'.le l2) q3⟩
def mClear : OM := fun C x ds Q => ∃ (k : Nat) (xs : List D), x = .ptr k ∧ ds = [] ∧ C[k]? = some (.lst xs) ∧ Q .non (C.set k (.lst []))
theorem sm_clear : SimM K rClear mClear := by
  intro H0 A0 av ad Γ C σ H x vs dx ds Q3 Q R d1 d2 ⟨k, xs, e1, e2, e3, q3⟩ q
  subst e1 e2
  cases d2
  obtain ⟨p, us, rfl, hp, hu, ru⟩ := R.lstCell d1 e3
  obtain ⟨R2, l2⟩ := R.lstWrite hp e3 .nil
  exact ⟨p, us, rfl, rfl, hu, q _ _ _ _ R2 l2 .non q3⟩
def mReverse : OM := fun C x ds Q => ∃ (k : Nat) (xs : List D), x = .ptr k ∧ ds = [] ∧ C[k]? = some (.lst xs) ∧ Q .non (C.set k (.lst xs.reverse))
theorem sm_reverse : SimM K rReverse mReverse := by
  intro H0 A0 av ad Γ C σ H x vs dx ds Q3 Q R d1 d2 ⟨k, xs, e1, e2, e3, q3⟩ q
  subst e1 e2
  cases d2
  obtain ⟨p, us, rfl, hp, hu, ru⟩ := R.lstCell d1 e3
  obtain ⟨R2, l2⟩ := R.lstWrite hp e3 ru.reverse
  exact ⟨p, us, rfl, rfl, hu, q _ _ _ _ R2 l2 .non q3⟩
/-- join -/
def oJoin : OM := fun C x ds Q => ∃ (s : Str) (y : D) (ys : List Str), x = .str s ∧ ds = [y] ∧ seqOf C y = some (ys.map .str) ∧ (ys.map (·.length)).sum + ys.length * s.length ≤ 16777216 ∧ Q (.str (Txt.join s ys)) C
def rJoin (K : PySem.W.Frag) : V → List V → Hp → VK → Prop := fun x xs H Q => ∃ a p, ∃ ys : List Str, x = .str a ∧ xs = [.ref p] ∧ (SqL K H p (ys.map V.str) ∨ SqT K H p (ys.map V.str)) ∧ (ys.map (·.length)).sum + ys.length * a.length ≤ 16777216 ∧ Q (.str (Txt.join a ys)) H
theorem sm_join : SimM K (rJoin K) oJoin := by
  intro H0 A0 av ad Γ C σ H x vs dx ds Q3 Q R d1 d2 ⟨s, y, ys, e1, e2, e3, hl, q3⟩ q
  subst e1 e2
  obtain ⟨v, rfl, r⟩ := den1 d2
  obtain ⟨p, us, rfl, hp, ru⟩ := R.seq r e3
  rw [den_strs ru] at hp
  exact ⟨s, p, ys, den_str d1, rfl, hp, hl, q _ _ _ _ R Le.refl .str q3⟩
/-- a text's method with one argument -/
def eM1 (f : OM) (Eo : EV) (E : EV) : EV := fun Γ C Q => Eo Γ C fun x C1 => (∃ s, x = .str s) ∧ E Γ C1 fun d C2 => f C2 x [d] Q
theorem ve_join (hK : X.K = K) (ho : VE K X o to Eo) (he : VE K X e te E) (hs : starEach [e] X.env = [(false, eval e X.env)] := by rfl) (hbase : attributeBase o "join" X.env (eval o X.env) = eval o X.env := by rfl) (hline : (apos.endLine == pos.line) = true := by rfl) :
    VE K X (.Call (.Attribute o "join" apos) [e] [] pos) (tM1 (rJoin K) to te) (eM1 oJoin Eo E) := by
  subst hK
  refine ⟨pe_join ho.pe he.pe hs hbase hline, fun H0 A0 av ad Γ C σ H Q3 Q R h q => ?_⟩
  refine ho.sim H0 A0 av ad Γ C σ H _ _ R h fun x H1 av1 ad1 dx C1 R1 l1 d1 ⟨⟨s, e1⟩, h1⟩ => ?_
  subst e1
  refine ⟨⟨s, den_str d1⟩, he.sim H0 A0 av1 ad1 Γ C1 σ H1 _ _ R1 h1 fun v H2 av2 ad2 d C2 R2 l2 d2 h2 => ?_⟩
  exact sm_join H0 A0 av2 ad2 Γ C2 σ H2 _ [v] _ [d] _ Q R2 (d1.le l2) (.cons d2 .nil) h2 fun v H3 C3 d R3 l3 d3 q3 => q v H3 av2 ad2 d C3 R3 ((l1.trans l2).trans l3) d3 q3
end
end L3

namespace L3
open PySem PySem.Spec PyProof.Rows L2
abbrev FnD (K : PySem.W.Frag) (x : Str) (st : Stmt) (f : Addr) (fd : FuncData) : Prop := FunD K x x (defArgs st) (defBody st) (defScope st) [] [] f fd
/-- a callee: where it stands, its promise, its text -/
def Cal (P : Program) (w : World) (K : PySem.W.Frag) (mg : Str → Option Value) (base : Heap) (k : Nat) (x : Str) (st : Stmt) (ps : List Str) (n : Nat) (Pv : PV) : Prop :=
  ∃ (f : Addr) (fd : FuncData), FnOkG P w K mg base CX0 k f fd ps (Sp3 K n Pv) ∧ mg x = some (.ref f) ∧ PySem.W.keepIn K (.ref f) = true ∧ Binds K fd ps [] ∧ FnD K x st f fd
/-! ### x[i] op= e of a list that is a cell -/
section
variable {K : PySem.W.Frag} {X : Cx} {e a b c o : Expr} {es : List Expr} {t ta tb tc te to : TE} {E Ea Eb Ec Eo : EV} {F : FV} {pos p tpos : Pos} {x : Str}
theorem pget_list (hK : X.K = K) : PGet X (rIxL K) := by
  subst hK
  intro pins s σ H x y v u Q I rx ry h
  obtain ⟨p, xs, i, z, rfl, rfl, hq, he, q⟩ := h
  cases rx
  obtain ⟨t, rfl⟩ := ry
  obtain ⟨its, r, pl, hz⟩ := I.list hq
  obtain ⟨j, h1, h2, h3, h4, h5⟩ := atI_get he
  obtain ⟨w, ew, rw'⟩ := r.get h2
  have hl := r.length
  have hn := line63
  have fin : EP X pins σ Q w s := ⟨z, H, I, rw', q⟩
  by_cases h0 : 0 ≤ i
  · have hj : i.toNat = j := by
      rw [seqIndex_of h0 h5] at h1
      exact Option.some.inj h1
    exact wpAny_getItem_list (x := w) pl.isList h0 (by omega) (by rw [hj]; simpa using ew) fin
  · have hj : (i + (its.toArray.size : Int)).toNat = j := by
      rw [seqIndex_neg (by omega) h4] at h1
      rw [List.size_toArray, ← hl]
      exact Option.some.inj h1
    exact wpAny_getItem_list_neg (x := w) pl.isList (by omega) (by rw [List.size_toArray] <;> omega) (by omega) (by rw [hj]; simpa using ew) fin
def sAugL (f : O2) (Eo Ei E : EV) : SV := fun D3 Γ C => Eo Γ C fun x C1 => Ei Γ C1 fun y C2 => ∃ (k : Nat) (xs : List D) (i : Int) (j : Nat) (d : D), x = .ptr k ∧ y = .int i ∧ C2[k]? = some (.lst xs) ∧ ixN xs.length i = some j ∧ xs[j]? = some d ∧
  E Γ C2 fun z C3 => f C3 d z fun u => C3[k]? = some (.lst xs) ∧ D3.nx Γ (C3.set k (.lst (xs.set j u)))
theorem vs_augL {op : Operator} {ti : TIp} {f : O2} (hK : X.K = K) (ho : VE K X o to Eo) (hi : VE K X a ta Ea) (hp : PIp X op ti) (hs : SimR K ti f) (h : VE K X e te E)
    (ha : ∀ ov iv new, augStore a ov iv new = (do holding [new, ov, iv] (setItem ov iv new); release [new, ov, iv] []; pure .next) := by intros; rfl) : VS K X (.AugAssign (.Subscript o a tpos) op e pos) (tAugS to ta te (rIxL K) ti rSetL) (sAugL f Eo Ea E) := by
  refine ⟨ps_augS ho.pe hi.pe (pget_list hK) h.pe hp set_list ha, fun H0 A0 av ad Γ C σ H D3 De R q l => ?_⟩
  refine ho.sim H0 A0 av ad Γ C σ H _ _ R q fun vo H1 av1 ad1 d1 C1 R1 l1 e1 h1 => ?_
  refine hi.sim H0 A0 av1 ad1 Γ C1 σ H1 _ _ R1 h1 fun vi H2 av2 ad2 d2 C2 R2 l2 e2 ⟨k, xs, i, j, d, e3, e4, e5, e6, e7, h2⟩ => ?_
  subst e3 e4
  obtain ⟨p, vs, rfl, hp', hl, r⟩ := R2.lstCell (e1.le l2) e5
  obtain ⟨u, hu, ru⟩ := r.get e7
  refine ⟨p, vs, i, u, rfl, den_int e2, SqL.of hl, by unfold atI; rw [r.length, e6]; exact hu, ?_⟩
  refine h.sim H0 A0 av2 ad2 Γ C2 σ H2 _ _ R2 h2 fun v3 H3 av3 ad3 d3 C3 R3 l3 r3 h3 => ?_
  refine hs H0 A0 av3 ad3 Γ C3 σ H3 u v3 d d3 _ _ R3 (ru.le l3) r3 h3 fun v4 H4 d4 s4 r4 ⟨e8, h4⟩ => ?_
  have R4 := R3.same s4
  obtain ⟨p2, vs2, ep, hp2, hl2, r2⟩ := R4.lstCell ((e1.le l2).le l3 |>.le (Le.same s4)) e8
  cases ep
  obtain ⟨R5, l5⟩ := R4.lstWrite hp2 e8 (r2.set r4 j)
  exact ⟨p, vs2, i, j, rfl, den_int e2, hl2, by rw [r2.length]; exact e6, l.nx av3 ad3 Γ _ σ _ R5 ((((l1.trans l2).trans l3).trans (Le.same s4)).trans l5) h4⟩
end
/-! ### isinstance of a built-in class -/
inductive Ty3 where
  | non | bool | int | str | list | tuple | dict
  deriving DecidableEq
def Ty3.name : Ty3 → String
  | .non => "NoneType" | .bool => "bool" | .int => "int" | .str => "str" | .list => "list" | .tuple => "tuple" | .dict => "dict"
def tyOf (C : Store) : D → Option Ty3
  | .bad => none
  | .non => some .non
  | .bl _ => some .bool
  | .int _ => some .int
  | .str _ => some .str
  | .lst _ _ => some .list
  | .tup _ => some .tuple
  | .dk _ _ _ => some .dict
  | .dt _ _ _ => none
  | .obj _ _ _ => none
  | .ptr k => match C[k]? with
    | some (.lst _) => some .list
    | some (.dk _ _) => some .dict
    | some (.dt _ _) => some .dict
    | _ => none
def isKind : Ty3 → Ty3 → Bool
  | .bool, .int => true
  | a, b => a = b
theorem isKind_ok : ∀ a b : Ty3, kitB a.name b.name = some (isKind a b) := by
  intro a b
  cases a <;> cases b <;> decide +kernel
section
variable {K : PySem.W.Frag} {H0 : Hp} {A0 : List Addr} {av : Av} {ad : Ads} {Γ : Slots} {C : Store} {σ : L2.St} {H : Hp}
theorem Rep.ty (R : Rep K H0 A0 av ad Γ C σ H) {v : V} {d : D} {t : Ty3} (x : Den K H0 av ad H v d) (e : tyOf C d = some t) : TyX K H v (.type t.name) := by
  cases x with
  | bad => cases e
  | non => cases e; exact .base .non
  | bl => cases e; exact .base (.bl _)
  | int => cases e; exact .base (.int _)
  | str => cases e; exact .base (.str _)
  | lst r o q =>
    cases e
    rcases r.1 with h | ⟨ob, h⟩
    · exact .base (.lst h)
    · exact .base (.frz h)
  | tup r q => cases e; exact .base (.tup r.1)
  | dk r n o k q =>
    cases e
    rcases r with h | ⟨ob, h⟩
    · exact .base (.dK h)
    · exact .fDict h
  | dt r n o k q => cases e
  | obj _ _ _ _ => cases e
  | @ptr a k h =>
    simp only [tyOf] at e
    cases q : C[k]? with
    | none => rw [q] at e; cases e
    | some c =>
      rw [q] at e
      have ok := R.cells k a c h q
      cases c with
      | lst _ => cases e; obtain ⟨_, h1, _⟩ := ok; exact .base (.lst h1)
      | dk _ _ => cases e; obtain ⟨_, h1, _⟩ := ok; exact .base (.dK h1)
      | dt _ _ => cases e; obtain ⟨_, h1, _⟩ := ok; exact .base (.dT h1)
      | ins _ _ _ => cases e
      | dead => cases e
end
section
variable {K : PySem.W.Frag} {X : Cx} {e a b : Expr} {te : TE} {E : EV} {pos p p2 p3 p4 : Pos} {x y : Str} {kk : Nat}
def eIsi (ty : Ty3) (E : EV) : EV := fun Γ C Q => E Γ C fun d C1 => ∃ t, tyOf C1 d = some t ∧ Q (.bl (isKind t ty)) C1
theorem ve_isi (ty : Ty3) (hK : X.K = K) (hm : X.mg "isinstance" = none) (hx : X.mg x = none) (h : VE K X e te E) (hv : bootBuiltins x = some (.type ty.name) := by decide +kernel) (hg : Gl X "isinstance" := by rfl) (hgx : Gl X x := by rfl) (hn : x ≠ "__name__" := by decide) (hd : (x == ("__debug__" : Str)) = false := by decide)
    (h1 : starEach [e, .Name x p2] X.env = (false, eval e X.env) :: starEach [.Name x p2] X.env := by rfl) (h2 : starEach [.Name x p2] X.env = (false, eval (.Name x p2) X.env) :: starEach [] X.env := by rfl) (hpl : (backTo pos (starEach [.Name x p2] X.env)).any (·.1) = false := by rfl) :
    VE K X (.Call (.Name "isinstance" p) [e, .Name x p2] [] pos) (tCB (rIsi K) (tCons te (tCons (tC (.ty ty.name)) tNil))) (eIsi ty E) := by
  subst hK
  refine ⟨pe_callB call_isi hg hm (by decide +kernel) (pa_cons h.pe (pa_cons (pe_bltn hgx hx hv rfl hn hd) pa_nil h2) h1) (by decide) (by decide) h1 hpl, fun H0 A0 av ad Γ C σ H Q3 Q R h3 q => ?_⟩
  refine h.sim H0 A0 av ad Γ C σ H _ _ R h3 fun v H1 av1 ad1 d C1 R1 l1 d1 ⟨t, e1, q3⟩ => ?_
  exact ⟨v, .ty ty.name, .type t.name, .type ty.name, isKind t ty, rfl, .ty _, R1.ty d1 e1, kit_ty (isKind_ok t ty), q _ H1 av1 ad1 _ C1 R1 l1 .bl q3⟩
def eIsi2 (ty ty2 : Ty3) (E : EV) : EV := fun Γ C Q => E Γ C fun d C1 => ∃ t, tyOf C1 d = some t ∧ Q (.bl (isKind t ty || isKind t ty2)) C1
theorem ve_isi2 (ty ty2 : Ty3) (hK : X.K = K) (hm : X.mg "isinstance" = none) (hx : X.mg x = none) (hy : X.mg y = none) (h : VE K X e te E) (hv : bootBuiltins x = some (.type ty.name) := by decide +kernel) (hv2 : bootBuiltins y = some (.type ty2.name) := by decide +kernel) (hg : Gl X "isinstance" := by rfl) (hgx : Gl X x := by rfl) (hgy : Gl X y := by rfl)
    (hn : x ≠ "__name__" := by decide) (hd : (x == ("__debug__" : Str)) = false := by decide) (hny : y ≠ "__name__" := by decide) (hdy : (y == ("__debug__" : Str)) = false := by decide)
    (h1 : starEach [e, .Tuple [.Name x p2, .Name y p3] kk p4] X.env = (false, eval e X.env) :: starEach [.Tuple [.Name x p2, .Name y p3] kk p4] X.env := by rfl) (h2 : starEach [.Tuple [.Name x p2, .Name y p3] kk p4] X.env = (false, eval (.Tuple [.Name x p2, .Name y p3] kk p4) X.env) :: starEach [] X.env := by rfl)
    (h3 : starEach [.Name x p2, .Name y p3] X.env = (false, eval (.Name x p2) X.env) :: starEach [.Name y p3] X.env := by rfl) (h4 : starEach [.Name y p3] X.env = (false, eval (.Name y p3) X.env) :: starEach [] X.env := by rfl)
    (hpl : (backTo pos (starEach [.Tuple [.Name x p2, .Name y p3] kk p4] X.env)).any (·.1) = false := by rfl) :
    VE K X (.Call (.Name "isinstance" p) [e, .Tuple [.Name x p2, .Name y p3] kk p4] [] pos) (tCB (rIsiT K) (tCons te (tCons (tTup (tCons (tC (.ty ty.name)) (tCons (tC (.ty ty2.name)) tNil))) tNil))) (eIsi2 ty ty2 E) := by
  subst hK
  refine ⟨pe_callB call_isiT hg hm (by decide +kernel) (pa_cons h.pe (pa_cons (pe_tup (pa_cons (pe_bltn hgx hx hv rfl hn hd) (pa_cons (pe_bltn hgy hy hv2 rfl hny hdy) pa_nil h4) h3)) pa_nil h2) h1) (by decide) (by decide) h1 hpl, fun H0 A0 av ad Γ C σ H Q3 Q R h3 q => ?_⟩
  refine h.sim H0 A0 av ad Γ C σ H _ _ R h3 fun v H1 av1 ad1 d C1 R1 l1 d1 ⟨t, e1, q3⟩ => ?_
  refine ⟨by show 2 ≤ sizeLine; decide, fun tp np => ?_⟩
  have R2 := R1.new (o := .tup [.ty ty.name, .ty ty2.name]) np
  refine ⟨v, tp, [.ty ty.name, .ty ty2.name], .type t.name, [.type ty.name, .type ty2.name], isKind t ty || isKind t ty2, rfl, upd_same, .cons (.ty _) (.cons (.ty _) .nil), R2.ty (d1.le (Le.new np)) e1, ?_, q _ _ av1 ad1 _ C1 R2 (l1.trans (Le.new np)) .bl q3⟩
  have k1 : PySem.W.kitOne X.K (.type t.name) (.type ty.name) = some (isKind t ty) := kit_ty (isKind_ok t ty)
  have k2 : PySem.W.kitOne X.K (.type t.name) (.type ty2.name) = some (isKind t ty2) := kit_ty (isKind_ok t ty2)
  simp only [PySem.W.kitAny, k1, k2]
  cases isKind t ty <;> cases isKind t ty2 <;> rfl
end
end L3

namespace L2
open PySem PySem.Spec PyProof.Rows
section
variable {X : Cx}
/-- repr of a list, a tuple -/
def rRepr (K : PySem.W.Frag) : List V → Hp → VK → Prop := fun xs H Q => ∃ (a : Addr) (d : PyData), xs = [.ref a] ∧ Dp K H (.ref a) d ∧ d.showable = true ∧ d.hasDict = false ∧ d.depth ≤ 60 ∧ d.shown.length ≤ sizeLine ∧ Q (.str d.shown) H
theorem call_repr (hg : X.A.guards = some []) (hu : X.A.units + 65 < cLine) : CallR X (.builtin "repr") (rRepr X.K) := by
  intro pins s σ H xs us Q I r h
  obtain ⟨a, d, rfl, hd, h1, h2, h3, h4, q⟩ := h
  cases r with
  | cons rx rt =>
    cases rt
    cases rx
    obtain ⟨as, r1⟩ := Dp.reads I d _ _ hd rfl
    refine PySem.repr_of_reads' r1 h1 (PySem.PyData.noDict_hsm h2) hg (by omega) (fun b o e => e) (fun h' u tk hk => ?_) h4
    exact ⟨.str _, H, I.kept hk, ⟨_, rfl⟩, q⟩
/-- text times 0 or 1 -/
def rMulS : R2 := fun x y H Q => ∃ (a : Str) (k : Int), x = .str a ∧ y = .int k ∧ (k = 0 ∨ k = 1) ∧ Q (.str (if k = 0 then Str.empty else a)) H
theorem op_mulS : OpR X (binaryOp .Mult) rMulS := by
  intro pins s σ H x y v u Q I rx ry h
  obtain ⟨a, k, rfl, rfl, hk, q⟩ := h
  obtain ⟨t, rfl⟩ := rx
  obtain ⟨t2, rfl⟩ := ry
  rcases hk with rfl | rfl
  · exact PySem.P.mul_str_none (by decide) (by decide) ⟨.str _, H, I.tok _, ⟨_, rfl⟩, q⟩
  · refine PySem.P.mul_str (by decide) (fun _ h => by simp at h) (fun _ h => by simp at h) ?_
    rw [if_neg (by decide), if_pos (by simp)]
    exact ⟨.str a, H, I, ⟨t, rfl⟩, q⟩
end
end L2
namespace L3
open PySem PySem.Spec PyProof.Rows L2
def fCall (P : PV) (L : AV) : FV := fun Γ C Q => L Γ C fun ds C1 => P (views [] C1 ds) [] fun d _ => ∃ xs, d = .lst false xs ∧ flatDs xs = true ∧ Q (.lst xs) C1
section
variable {K : PySem.W.Frag} {X : Cx} {k n : Nat} {f : Addr} {fd : FuncData} {ps : List Str} {P : PV} {x : Str} {p pos : Pos} {e : Expr} {es : List Expr} {tl : TA} {L : AV}
theorem sim_fcall (hl : SimA K tl L) (E : XK) : SimF K (tCall (Sp3 K 0 P) [] E tl) (fCall P L) := fun H0 A0 av ad Γ C σ H Q3 Q R h q => by
  refine hl H0 A0 av ad Γ C σ H _ _ R h fun vs H1 av1 ad1 ds C1 R1 l1 dv h1 => ?_
  rw [List.append_nil]
  refine R1.call (ks := []) (Q3 := fun d C' => C' = C1 ∧ ∃ xs, d = .lst false xs ∧ flatDs xs = true ∧ Q3 (.lst xs) C1) dv List.nodup_nil (fun _ z => nomatch z) h1 (fun d Cc hC ⟨xs, h2, h3, h4⟩ => ?_) (fun v H' C' d R' l' x x2 s ⟨eC, xs, e2, e3, q3⟩ => ?_) E
  · subst h2
    have np := flats_np h3
    refine ⟨by simp only [noold, okW, Bool.not_false, Bool.true_and]; exact np.2, fun c hc => ?_, ?_⟩
    · rw [List.length_nil, List.length_eq_zero_iff] at hC
      rw [hC] at hc
      simp at hc
    · rw [mapW_np.1 (.lst false xs) (by simpa only [noptr] using np.1)]
      exact ⟨rfl, xs, rfl, h3, h4⟩
  · subst e2 eC
    cases x2 with
    | @lst a vs' o ds' r2 o2 y2 =>
      obtain ⟨n1, hp⟩ := o2 rfl
      cases x with
      | @lst a vs'' o ds' r o y =>
        have e : vs'' = vs' := by
          have h1 := (o rfl).2
          rw [hp] at h1
          cases h1
          rfl
        subst e
        refine q a H' av1 ad1 (.lst xs) _ (R1.grow (s rfl) n1 (by rw [hp]; simp) fun ys z => by rw [hp] at z; cases z) (fun b hb => R1.sub b hb) (fun z => R1.dom _ z n1) (l1.there a n1) (l1.trans ⟨?_, Pre.refl, l'.there, fun _ z => .inl z, fun _ z => .inl z, fun a o h _ => s rfl a o h⟩) ⟨vs'', hp, y.ban hp e3⟩ q3
        exact fun b o h n => ⟨s rfl b o h, fun z => z.elim n fun e => ne_of_none h n1 e⟩
theorem vf_call (F : FnOkG X.prog X.w X.K X.mg X.base CX0 k f fd ps (Sp3 K 0 P)) (hr : RoomG k X.A) (hm : X.mg x = some (.ref f)) (hk : PySem.W.keepIn X.K (.ref f) = true) (hb : Binds X.K fd ps []) (ha : VA K X (e :: es) tl L) (hg : Gl X x := by rfl)
    (hdb : (x == ("__debug__" : Str)) = false := by decide) (he : starEach (e :: es) X.env = (false, eval e X.env) :: starEach es X.env := by rfl) (hpl : (backTo pos (starEach es X.env)).any (·.1) = false := by rfl) :
    VF K X (.Call (.Name x p) (e :: es) [] pos) (tCall (Sp3 K 0 P) [] E0 tl) (fCall P L) := ⟨pe_callG F hr hg hm hk hb pass0 ha.pa hdb he hpl, sim_fcall ha.sim E0⟩
end

section
variable {K : PySem.W.Frag} {X : Cx} {e a b c o : Expr} {es : List Expr} {t ta tb tc te to : TE} {E Ea Eb Ec Eo : EV} {F : FV} {B B' : BV} {tl : TA} {L : AV} {pos p apos cpos : Pos} {x name : Str} {id T : String}
def oRepr : ON := fun C ds Q => ∃ (d : D) (xs : List D) (p : PyData), ds = [d] ∧ seqOf C d = some xs ∧ pyD C d = some p ∧ p.showable = true ∧ p.hasDict = false ∧ p.depth ≤ 60 ∧ p.shown.length ≤ sizeLine ∧ Q (.str p.shown)
theorem sc_repr : SimC K (rRepr K) oRepr := by
  intro H0 A0 av ad Γ C σ H vs ds Q3 Q R d1 ⟨d, xs, p, e1, e2, e3, h1, h2, h3, h4, q3⟩ q
  subst e1
  obtain ⟨v, rfl, r⟩ := den1 d1
  obtain ⟨a, us, rfl, _, _⟩ := R.seq r e2
  exact ⟨a, p, rfl, R.dp r e3, h1, h2, h3, h4, q _ H _ (fun _ _ h => h) .str q3⟩
theorem call_reprA (hK : X.K = K) (hg : X.A.guards = some []) (hu : X.A.units + 65 < cLine) : CallR X (.builtin "repr") (rRepr K) := by subst hK; exact call_repr hg hu
def oMulS : O2 := fun _ x y Q => ∃ (a : Str) (k : Int), x = .str a ∧ y = .int k ∧ (k = 0 ∨ k = 1) ∧ Q (.str (if k = 0 then Str.empty else a))
theorem sr_mulS : SimR K rMulS oMulS := by
  intro H0 A0 av ad Γ C σ H x y dx dy Q3 Q R d1 d2 h3 q
  obtain ⟨a, k, rfl, rfl, hc, q3⟩ := h3
  exact ⟨a, k, den_str d1, den_int d2, hc, q _ H _ (fun _ _ h => h) .str q3⟩
/-- split at a text -/
def fSplit (Eo E : EV) : FV := fun Γ C Q => Eo Γ C fun x C1 => ∃ a : Str, x = .str a ∧ E Γ C1 fun y C2 => ∃ b : Str, y = .str b ∧ (b.length == 0) = false ∧ a.length + 2 ≤ sizeLine ∧ Q (.lst ((Txt.split a b).map .str)) C2
theorem vf_split (ho : VE K X o to Eo) (he : VE K X e te E) (hs : starEach [e] X.env = [(false, eval e X.env)] := by rfl) (hbase : attributeBase o "split" X.env (eval o X.env) = eval o X.env := by rfl) (hline : (apos.endLine == pos.line) = true := by rfl) :
    VF K X (.Call (.Attribute o "split" apos) [e] [] pos) (tM1 (fun x xs H Q => ∃ a b, x = .str a ∧ xs = [.str b] ∧ (b.length == 0) = false ∧ a.length + 2 ≤ sizeLine ∧ rNewStrs (Txt.split a b) H Q) to te) (fSplit Eo E) := by
  refine ⟨pe_split ho.pe he.pe hs hbase hline, fun H0 A0 av ad Γ C σ H Q3 Q R h q => ?_⟩
  refine ho.sim H0 A0 av ad Γ C σ H _ _ R h fun v H1 av1 ad1 d C1 R1 l1 d1 ⟨a, e1, h1⟩ => ?_
  subst e1
  refine ⟨⟨a, den_str d1⟩, he.sim H0 A0 av1 ad1 Γ C1 σ H1 _ _ R1 h1 fun u H2 av2 ad2 d2 C2 R2 l2 d3 ⟨b, e2, hb, hz, h2⟩ => ?_⟩
  subst e2
  exact ⟨a, b, den_str d1, by rw [den_str d3], hb, hz, fun p np => fin_new R2 (l1.trans l2) (fun _ _ h => h) np noTup_lst (c := .lst _) strs_den h2 q⟩
end
end L3

/-! readings unfolded; loops by an invariant -/
namespace L3
open PySem PySem.Spec PyProof.Rows L2
section
variable {Γ : Slots} {C : Store} {Q : D → Store → Prop} {Qb : Bool → Store → Prop} {Ql : List D → Store → Prop} {Qc : Cell → Store → Prop} {Qs : Slots → Store → Prop} {Qi : List D → List Nat → Store → Prop} {Qo : Option Int → Store → Prop} {q : D → Prop} {qc : Cell → Prop} {E Ea Eb Ec : EV} {F : FV} {B B' : BV} {L : AV} {T U : SV} {De : En} {G : GV} {Gs : GVs} {I : IV} {Lo Hi : OV} {f f' : O2} {P : PV} {d x y : D} {ds : List D} {i j n : Nat} {neg b : Bool} {c : Cell}
@[simp] theorem u_eFrz : eFrz F Γ C Q = F Γ C fun c C' => Q c.frz C' := rfl
@[simp] theorem u_eCell : eCell F Γ C Q = F Γ C fun c C' => Q (.ptr C'.length) (C' ++ [c]) := rfl
@[simp] theorem u_frz {xs : List D} : (Cell.lst xs).frz = .lst false xs := rfl
@[simp] theorem u_eVar : eVar i Γ C Q = ∃ d, Γ[i]? = some (some d) ∧ Q d C := rfl
@[simp] theorem u_eC : eC d Γ C Q = Q d C := rfl
@[simp] theorem u_eBin : eBin f Ea Eb Γ C Q = Ea Γ C fun x C1 => Eb Γ C1 fun y C2 => f C2 x y fun z => Q z C2 := rfl
@[simp] theorem u_fBin {f : N2} : fBin f Ea Eb Γ C Qc = Ea Γ C fun x C1 => Eb Γ C1 fun y C2 => f C2 x y fun z => Qc z C2 := rfl
@[simp] theorem u_eUn {f : O1} : eUn f Ea Γ C Q = Ea Γ C fun x C1 => f C1 x fun z => Q z C1 := rfl
@[simp] theorem u_oI {g : Int → Int → D} {k l : Int} : oI g C (.int k) (.int l) q = q (g k l) := by simp [oI]
@[simp] theorem u_oIc {cc : Int → Int → Prop} {g : Int → Int → D} {k l : Int} : oIc cc g C (.int k) (.int l) q = (cc k l ∧ q (g k l)) := by simp [oIc]
@[simp] theorem u_oNeg {k : Int} : oNeg C (.int k) q = q (.int (-k)) := by simp [oNeg]
@[simp] theorem u_eqI {k l : Int} : oEq neg C (.int k) (.int l) q = q (.bl (neg != decide (k = l))) := rfl
@[simp] theorem u_eqS {k l : Str} : oEq neg C (.str k) (.str l) q = q (.bl (neg != decide (k = l))) := rfl
@[simp] theorem u_eqB {k l : Bool} : oEq neg C (.bl k) (.bl l) q = q (.bl (neg != decide (k = l))) := rfl
@[simp] theorem u_eqL {o o' : Bool} {xs ys : List D} : oEq neg C (.lst o xs) (.lst o' ys) q = ∃ p r, pyD C (.lst o xs) = some p ∧ pyD C (.lst o' ys) = some r ∧ SeqAt.shaped p = true ∧ SeqAt.shaped r = true ∧ q (.bl (neg != PyData.eqv p r)) := rfl
@[simp] theorem u_isN : oIsN neg C x .non q = ∃ b, isNon x = some b ∧ q (.bl (neg != b)) := by simp [oIsN]
@[simp] theorem u_isNon0 : isNon .non = some true := rfl
@[simp] theorem u_isNonI {k : Int} : isNon (.int k) = some false := rfl
@[simp] theorem u_isNonB : isNon (.bl b) = some false := rfl
@[simp] theorem u_isNonS {s : Str} : isNon (.str s) = some false := rfl
@[simp] theorem u_isNonL {o : Bool} {xs : List D} : isNon (.lst o xs) = some false := rfl
@[simp] theorem u_isNonT {xs : List D} : isNon (.tup xs) = some false := rfl
@[simp] theorem u_isNonP : isNon (.ptr i) = some false := rfl
@[simp] theorem u_bB : bB E Γ C Qb = E Γ C fun d C' => ∃ k, d = .bl k ∧ Qb k C' := rfl
@[simp] theorem u_bAnd : bAnd B B' Γ C Qb = B Γ C fun k C' => if k = true then B' Γ C' Qb else Qb false C' := rfl
@[simp] theorem u_bOr : bOr B B' Γ C Qb = B Γ C fun k C' => if k = true then Qb true C' else B' Γ C' Qb := rfl
@[simp] theorem u_bNot : bNot B Γ C Qb = B Γ C fun k C' => Qb (!k) C' := rfl
@[simp] theorem u_bYes : bYes Γ C Qb = Qb true C := rfl
@[simp] theorem u_eAnd : eAnd Ea Eb Γ C Q = Ea Γ C fun d C' => ∃ k, d = .bl k ∧ if k = true then Eb Γ C' Q else Q (.bl false) C' := rfl
@[simp] theorem u_eOr : eOr Ea Eb Γ C Q = Ea Γ C fun d C' => ∃ k, d = .bl k ∧ if k = true then Q (.bl true) C' else Eb Γ C' Q := rfl
@[simp] theorem u_eNot : eNot Ea Γ C Q = Ea Γ C fun d C' => ∃ k, d = .bl k ∧ Q (.bl (!k)) C' := rfl
@[simp] theorem u_eIf : eIf B Ea Eb Γ C Q = B Γ C fun k C' => if k = true then Ea Γ C' Q else Eb Γ C' Q := rfl
@[simp] theorem u_eChain : eChain f f' Ea Eb Ec Γ C Q = Ea Γ C fun x C1 => Eb Γ C1 fun y C2 => f C2 x y fun z => ∃ k, z = .bl k ∧ if k = true then Ec Γ C2 fun w C3 => f' C3 y w fun u => Q u C3 else Q (.bl false) C2 := rfl
@[simp] theorem u_aNil : aNil Γ C Ql = Ql [] C := rfl
@[simp] theorem u_aCons : aCons E L Γ C Ql = E Γ C fun d C1 => L Γ C1 fun ds C2 => Ql (d :: ds) C2 := rfl
@[simp] theorem u_eTup : eTup L Γ C Q = L Γ C fun ds C1 => ds.length ≤ sizeLine ∧ Q (.tup ds) C1 := rfl
@[simp] theorem u_fLst : fLst L Γ C Qc = L Γ C fun ds C1 => ds.length ≤ sizeLine ∧ Qc (.lst ds) C1 := rfl
@[simp] theorem u_eCB {f : ON} : eCB f L Γ C Q = L Γ C fun ds C1 => f C1 ds fun z => Q z C1 := rfl
@[simp] theorem u_fCB {f : NN} : fCB f L Γ C Qc = L Γ C fun ds C1 => f C1 ds fun z => Qc z C1 := rfl
@[simp] theorem u_oNone : oNone Γ C Qo = Qo none C := rfl
@[simp] theorem u_oSome : oSome E Γ C Qo = E Γ C fun d C1 => ∃ i, d = .int i ∧ Qo (some i) C1 := rfl
@[simp] theorem u_fSlL : fSlL Ea Lo Hi Γ C Qc = Ea Γ C fun x C1 => Lo Γ C1 fun l C2 => Hi Γ C2 fun u C3 => ∃ xs, lstOf C3 x = some xs ∧ Qc (.lst (cutD xs l u)) C3 := rfl
@[simp] theorem u_sNext : sNext De Γ C = De.nx Γ C := rfl
@[simp] theorem u_sSeq : sSeq T U De Γ C = T { De with nx := U De } Γ C := rfl
@[simp] theorem u_sBreak : sBreak De Γ C = De.bk Γ C := rfl
@[simp] theorem u_sCont : sCont De Γ C = De.ct Γ C := rfl
@[simp] theorem u_sNever : sNever De Γ C = False := rfl
@[simp] theorem u_sDrop : sDrop E De Γ C = E Γ C fun _ C' => De.nx Γ C' := rfl
@[simp] theorem u_sRet : sRet E De Γ C = E Γ C De.rt := rfl
@[simp] theorem u_sRetN : sRetN De Γ C = De.rt .non C := rfl
@[simp] theorem u_sIf : sIf B T U De Γ C = B Γ C fun k C' => if k = true then T De Γ C' else U De Γ C' := rfl
@[simp] theorem u_gvName : gvName i d Γ C Qs = Qs (Γ.set i (some d)) C := rfl
@[simp] theorem u_gvNil : gvNil ds Γ C Qs = (ds = [] ∧ Qs Γ C) := rfl
@[simp] theorem u_gvCons : gvCons G Gs ds Γ C Qs = ∃ d r, ds = d :: r ∧ G d Γ C fun Γ' C' => Gs r Γ' C' Qs := rfl
@[simp] theorem u_gvTup : gvTup n Gs d Γ C Qs = ∃ ds, d = .tup ds ∧ ds.length = n ∧ Gs ds Γ C Qs := rfl
@[simp] theorem u_sAsg : sAsg E G De Γ C = E Γ C fun d C1 => G d Γ C1 De.nx := rfl
@[simp] theorem u_sPar {i j : Nat} : sPar i j L De Γ C = L Γ C fun ds C1 => ∃ d d', ds = [d, d'] ∧ De.nx ((Γ.set i (some d)).set j (some d')) C1 := rfl
@[simp] theorem u_sAug : sAug i f E De Γ C = ∃ x, Γ[i]? = some (some x) ∧ E Γ C fun y C1 => f C1 x y fun z => De.nx (Γ.set i (some z)) C1 := rfl
@[simp] theorem u_eMl {g : OM} : eMl g E L Γ C Q = E Γ C fun x C1 => ∃ xs, lstOf C1 x = some xs ∧ L Γ C1 fun ds C2 => g C2 x ds Q := rfl
@[simp] theorem u_eM1 {g : OM} : eM1 g Ea Eb Γ C Q = Ea Γ C fun x C1 => (∃ s, x = .str s) ∧ Eb Γ C1 fun d C2 => g C2 x [d] Q := rfl
@[simp] theorem u_fSplit : fSplit Ea Eb Γ C Qc = Ea Γ C fun x C1 => ∃ a : Str, x = .str a ∧ Eb Γ C1 fun y C2 => ∃ b : Str, y = .str b ∧ (b.length == 0) = false ∧ a.length + 2 ≤ sizeLine ∧ Qc (.lst ((Txt.split a b).map .str)) C2 := rfl
@[simp] theorem u_eCall : eCall P L Γ C Q = L Γ C fun ds C1 => P (views [] C1 ds) [] fun d _ => (noold d && noptr d) = true ∧ Q d C1 := rfl
@[simp] theorem u_fCall : fCall P L Γ C Qc = L Γ C fun ds C1 => P (views [] C1 ds) [] fun d _ => ∃ xs, d = .lst false xs ∧ flatDs xs = true ∧ Qc (.lst xs) C1 := rfl
@[simp] theorem u_eIsi {ty : Ty3} : eIsi ty E Γ C Q = E Γ C fun d C1 => ∃ t, tyOf C1 d = some t ∧ Q (.bl (isKind t ty)) C1 := rfl
@[simp] theorem u_eIsi2 {ty ty2 : Ty3} : eIsi2 ty ty2 E Γ C Q = E Γ C fun d C1 => ∃ t, tyOf C1 d = some t ∧ Q (.bl (isKind t ty || isKind t ty2)) C1 := rfl
@[simp] theorem u_rt {nn : Nat} {Q3 : D → Store → Prop} : (enF nn Q3).rt = fun d C => Q3 (fin nn C d) (finS nn C) := rfl
@[simp] theorem u_nx {nn : Nat} {Q3 : D → Store → Prop} : (enF nn Q3).nx = fun _ C => Q3 .non (finS nn C) := rfl
end
/-! ### data that is not changed by the views -/
theorem mapWs_ints {h : Bool → Bool} {g : Nat → D} : ∀ l : List Int, mapWs h g (l.map .int) = l.map .int
  | [] => rfl
  | _ :: l => by simp only [List.map_cons, mapWs, mapW, mapWs_ints l]
theorem mapWs_strs {h : Bool → Bool} {g : Nat → D} : ∀ l : List Str, mapWs h g (l.map .str) = l.map .str
  | [] => rfl
  | _ :: l => by simp only [List.map_cons, mapWs, mapW, mapWs_strs l]
theorem okWs_ints {h : Bool → Bool} : ∀ l : List Int, okWs h (l.map .int) = true
  | [] => rfl
  | _ :: l => by simp only [List.map_cons, okWs, okW, okWs_ints l, Bool.and_true]
theorem okWs_strs {h : Bool → Bool} : ∀ l : List Str, okWs h (l.map .str) = true
  | [] => rfl
  | _ :: l => by simp only [List.map_cons, okWs, okW, okWs_strs l, Bool.and_true]
theorem noptrs_ints : ∀ l : List Int, noptrs (l.map .int) = true
  | [] => rfl
  | _ :: l => by simp only [List.map_cons, noptrs, noptr, noptrs_ints l, Bool.and_true]
theorem noptrs_strs : ∀ l : List Str, noptrs (l.map .str) = true
  | [] => rfl
  | _ :: l => by simp only [List.map_cons, noptrs, noptr, noptrs_strs l, Bool.and_true]
theorem flat_ints : ∀ l : List Int, flatDs (l.map .int) = true
  | [] => rfl
  | _ :: l => by simp only [List.map_cons, flatDs, flatD, flat_ints l, Bool.and_true]
/-! ### comprehensions, loops -/
theorem lcW_run {G : GV} {B : BV} {E : EV} {Γ : Slots} {ok : Store → Prop} {Q : Cell → Store → Prop} (I : List D → List D → Store → Prop)
    (step : ∀ d ds acc C, I (d :: ds) acc C → ∀ R : List D → Store → Prop, (∀ acc' C', I ds acc' C' → R acc' C') →
      G d Γ C fun Γ1 C1 => B Γ1 C1 fun k C2 => if k = true then E Γ1 C2 fun y C3 => acc.length < sizeLine ∧ ok C3 ∧ R (acc ++ [y]) C3 else ok C2 ∧ R acc C2)
    (stop : ∀ acc C, I [] acc C → Q (.lst acc) C) : ∀ ds acc C, I ds acc C → lcW G B E Γ ok Q ds acc C
  | [], acc, C, h => stop acc C h
  | d :: ds, acc, C, h => step d ds acc C h _ fun acc' C' h' => lcW_run I step stop ds acc' C' h'
theorem forW_run {G : GV} {T : SV} {De : En} (I : List D → Slots → Store → Prop)
    (step : ∀ d ds Γ C, I (d :: ds) Γ C → ∀ R : Slots → Store → Prop, (∀ Γ' C', I ds Γ' C' → R Γ' C') → G d Γ C fun Γ1 C1 => T { De with nx := R, ct := R, bk := De.nx } Γ1 C1)
    (stop : ∀ Γ C, I [] Γ C → De.nx Γ C) : ∀ ds Γ C, I ds Γ C → forW G T De ds Γ C
  | [], Γ, C, h => stop Γ C h
  | d :: ds, Γ, C, h => step d ds Γ C h _ fun Γ' C' h' => forW_run I step stop ds Γ' C' h'
/-- a pure element for each item -/
theorem lc_map {G : GV} {E : EV} {Γ : Slots} {ok : Store → Prop} {Q : Cell → Store → Prop} {C : Store} (f : D → D) (ds : List D) (hok : ok C) (hl : ds.length ≤ sizeLine)
    (h : ∀ d, d ∈ ds → ∀ R : D → Store → Prop, R (f d) C → G d Γ C fun Γ1 C1 => E Γ1 C1 R) (q : Q (.lst (ds.map f)) C) : lcW G bYes E Γ ok Q ds [] C := by
  refine lcW_run (fun r acc C' => C' = C ∧ ∃ p, ds = p ++ r ∧ acc = p.map f) (fun d r acc C' ⟨e, p, e1, e2⟩ R hR => ?_) (fun acc C' ⟨e, p, e1, e2⟩ => ?_) ds [] C ⟨rfl, [], rfl, rfl⟩
  · subst e e2
    refine h d (by rw [e1]; simp) _ ⟨?_, hok, hR _ _ ⟨rfl, p ++ [d], by rw [e1]; simp, by simp⟩⟩
    rw [e1] at hl
    simp at hl ⊢
    omega
  · subst e e2
    rw [List.append_nil] at e1
    subst e1
    exact q
/-- a pure test and element for each item -/
theorem lc_filter {G : GV} {B : BV} {E : EV} {Γ : Slots} {ok : Store → Prop} {Q : Cell → Store → Prop} {C : Store} (t : D → Bool) (f : D → D) (ds : List D) (hok : ok C) (hl : ds.length ≤ sizeLine)
    (h : ∀ d, d ∈ ds → ∀ R : D → Store → Prop, ∀ R' : Store → Prop, (t d = true → R (f d) C) → (t d = false → R' C) → G d Γ C fun Γ1 C1 => B Γ1 C1 fun k C2 => if k = true then E Γ1 C2 R else R' C2) (q : Q (.lst ((ds.filter t).map f)) C) : lcW G B E Γ ok Q ds [] C := by
  refine lcW_run (fun r acc C' => C' = C ∧ ∃ p, ds = p ++ r ∧ acc = (p.filter t).map f) (fun d r acc C' ⟨e, p, e1, e2⟩ R hR => ?_) (fun acc C' ⟨e, p, e1, e2⟩ => ?_) ds [] C ⟨rfl, [], rfl, rfl⟩
  · subst e e2
    refine h d (by rw [e1]; simp) _ _ (fun ht => ⟨?_, hok, hR _ _ ⟨rfl, p ++ [d], by rw [e1]; simp, by simp [List.filter_append, ht]⟩⟩) (fun ht => ⟨hok, hR _ _ ⟨rfl, p ++ [d], by rw [e1]; simp, by simp [List.filter_append, ht]⟩⟩)
    have := List.length_filter_le t p
    rw [e1] at hl
    simp at hl ⊢
    omega
  · subst e e2
    rw [List.append_nil] at e1
    subst e1
    exact q
end L3

/-! more rules: remove, count, index, repetition, [::-1], items of a list or a tuple -/
namespace L3
open PySem PySem.Spec PyProof.Rows L2
section
variable {K : PySem.W.Frag} {X : Cx} {e a b c o : Expr} {es : List Expr} {t ta tb tc te to : TE} {E Ea Eb Ec Eo : EV} {F : FV} {pos p p2 p3 p4 : Pos}
/-- xs[i] of a tuple or a list -/
def oIxA : O2 := fun C x y Q => match x with
  | .tup xs => ∃ i d, y = .int i ∧ atI xs i = some d ∧ Q d
  | _ => oIxL C x y Q
theorem sr_ixA : SimR K (fun x y H Q => rIxT K x y H Q ∨ rIxL K x y H Q) oIxA := by
  intro H0 A0 av ad Γ C σ H x y dx dy Q3 Q R d1 d2 h q
  unfold oIxA at h
  split at h
  · obtain ⟨i, d, e1, e2, q3⟩ := h
    exact .inl (sr_ixT H0 A0 av ad Γ C σ H x y _ dy Q3 Q R d1 d2 ⟨_, i, d, rfl, e1, e2, q3⟩ q)
  · exact .inr (sr_ixL H0 A0 av ad Γ C σ H x y dx dy Q3 Q R d1 d2 h q)
theorem ix_seqA (hK : X.K = K) : IxR X (fun x y H Q => rIxT K x y H Q ∨ rIxL K x y H Q) := (ix_tupA hK).or (ix_listA hK)
@[simp] theorem u_ixAT {C : Store} {xs : List D} {y : D} {q : D → Prop} : oIxA C (.tup xs) y q = ∃ i d, y = .int i ∧ atI xs i = some d ∧ q d := rfl
@[simp] theorem u_ixAL {C : Store} {b : Bool} {xs : List D} {y : D} {q : D → Prop} : oIxA C (.lst b xs) y q = oIxL C (.lst b xs) y q := rfl
/-- [..] * n -/
theorem sf_rep : SimRF K rRep nRep := by
  intro H0 A0 av ad Γ C σ H x y dx dy Q3 Q R d1 d2 ⟨xs, i, e1, e2, h1, h2, hl, ho, q3⟩ q
  subst e2
  have hx : ∃ a vs, x = .ref a ∧ H a = some (.lst vs) ∧ DenAll K H0 av ad H vs xs := by
    cases d1 with
    | lst r o y =>
      have e : _ = xs := Option.some.inj e1
      subst e
      exact ⟨_, _, rfl, (o ho).2, y⟩
    | @ptr a k h =>
      obtain ⟨v, vs, e3, e4, e5⟩ := R.lst (.ptr h) e1
      simp only [lstOf] at e1
      cases q2 : C[k]? with
      | none => rw [q2] at e1; cases e1
      | some c =>
        rw [q2] at e1
        cases c with
        | lst ys =>
          cases e1
          obtain ⟨vs, e6, r6⟩ := R.cells k a _ h q2
          exact ⟨a, vs, rfl, e6, r6⟩
        | _ => cases e1
    | _ => cases e1
  obtain ⟨a, vs, rfl, hH, r⟩ := hx
  exact ⟨a, i, vs, rfl, den_int d2, hH, h1, h2, by rw [r.length]; exact hl, fun p np => q H p _ (.lst _) (fun _ _ h => h) np noTup_lst (den_rep r _) q3⟩
theorem op_repR : OpR X (binaryOp .Mult) rRep := op_rep
/-- remove of a list of ints -/
def mRemove : OM := fun C x ds Q => ∃ (k : Nat) (ns : List Int) (z : Int) (j : Nat), x = .ptr k ∧ ds = [.int z] ∧ C[k]? = some (.lst (ns.map .int)) ∧ ns[j]? = some z ∧ (∀ m : Nat, m < j → ns[m]? ≠ some z) ∧ Q .non (C.set k (.lst ((ns.eraseIdx j).map .int)))
theorem sm_remove : SimM K rRemI mRemove := by
  intro H0 A0 av ad Γ C σ H x vs dx ds Q3 Q R d1 d2 ⟨k, ns, z, j, e1, e2, e3, h1, h2, q3⟩ q
  subst e1 e2
  obtain ⟨v, rfl, r⟩ := den1 d2
  obtain ⟨p, us, rfl, hp, hu, ru⟩ := R.lstCell d1 e3
  rw [den_ints ru] at hu
  obtain ⟨R2, l2⟩ := R.lstWrite hp e3 (us := (ns.eraseIdx j).map V.int) (ints_den (is := ns.eraseIdx j))
  exact ⟨p, ns, z, j, rfl, by rw [den_int r], hu, h1, h2, q _ _ _ _ R2 l2 .non q3⟩
/-- how often an int stands in a list of ints -/
def mCount : OM := fun C x ds Q => ∃ (ns : List Int) (z : Int), lstOf C x = some (ns.map .int) ∧ ds = [.int z] ∧ Q (.int (ns.count z : Nat)) C
theorem sm_count : SimM K (rCntI K) mCount := by
  intro H0 A0 av ad Γ C σ H x vs dx ds Q3 Q R d1 d2 ⟨ns, z, e1, e2, q3⟩ q
  subst e2
  obtain ⟨v, rfl, r⟩ := den1 d2
  obtain ⟨p, us, rfl, hp, ru⟩ := R.lst d1 e1
  rw [den_ints ru] at hp
  exact ⟨p, ns, z, rfl, by rw [den_int r], .inl hp, q _ _ _ _ R Le.refl .int q3⟩
theorem mt_countA (hK : X.K = K) : MtR X "list.count" (rCntI K) := by subst hK; exact mt_lcount
/-- the place of an int in a list of ints -/
def mIndex : OM := fun C x ds Q => ∃ (ns : List Int) (z : Int) (j : Nat), lstOf C x = some (ns.map .int) ∧ ds = [.int z] ∧ ns[j]? = some z ∧ (∀ m : Nat, m < j → ns[m]? ≠ some z) ∧ Q (.int (j : Nat)) C
theorem sm_index : SimM K (rIndex K) mIndex := by
  intro H0 A0 av ad Γ C σ H x vs dx ds Q3 Q R d1 d2 ⟨ns, z, j, e1, e2, h1, h2, q3⟩ q
  subst e2
  obtain ⟨v, rfl, r⟩ := den1 d2
  obtain ⟨p, us, rfl, hp, ru⟩ := R.lst d1 e1
  rw [den_ints ru] at hp
  refine ⟨p, ns.map V.int, .int z, j, .int z, rfl, by rw [den_int r], .inl hp, rfl, ?_, by rw [List.getElem?_map, h1]; rfl, ?_, fun m z' hm e => ?_, q _ _ _ _ R Le.refl .int q3⟩
  · rw [List.all_map]
    exact List.all_eq_true.mpr fun _ _ => rfl
  · simp [eqV]
  · rw [List.getElem?_map] at e
    cases q2 : ns[m]? with
    | none => rw [q2] at e; cases e
    | some w =>
      rw [q2] at e
      cases e
      have : w ≠ z := fun h => h2 m hm (by rw [q2, h])
      simp [eqV, this]
theorem mt_indexA (hK : X.K = K) : MtR X "list.index" (rIndex K) := by subst hK; exact mt_index
/-- [::-1] -/
def fRev (Ea : EV) : FV := fun Γ C Q => Ea Γ C fun x C1 => ∃ xs, lstOf C1 x = some xs ∧ Q (.lst xs.reverse) C1
theorem vf_rev {k : Nat} (hK : X.K = K) (h : VE K X a ta Ea) : VF K X (.Subscript a (.Slice none none (some (.UnaryOp .USub (.Constant (.int 1) k p) p2)) p3) pos) (tRevL K ta) (fRev Ea) := by
  subst hK
  refine ⟨pe_revL h.pe, fun H0 A0 av ad Γ C σ H Q3 Q R h3 q => ?_⟩
  refine h.sim H0 A0 av ad Γ C σ H _ _ R h3 fun v H1 av1 ad1 d C1 R1 l1 d1 ⟨xs, e, q3⟩ => ?_
  obtain ⟨a, vs, rfl, hs, rs⟩ := R1.lst d1 e
  exact ⟨a, vs, rfl, .inl hs, fun p np => fin_new R1 l1 (fun _ _ h => h) np noTup_lst (c := .lst _) rs.reverse q3 q⟩
@[simp] theorem u_fRev {Γ : Slots} {C : Store} {Qc : Cell → Store → Prop} : fRev Ea Γ C Qc = Ea Γ C fun x C1 => ∃ xs, lstOf C1 x = some xs ∧ Qc (.lst xs.reverse) C1 := rfl
end

/-! ### calls with keywords, in the parameters' order -/
def tApp (t tk : TA) : TA := fun σ H Q => t σ H fun vs H1 => tk σ H1 fun zs H2 => Q (vs ++ zs) H2
def aApp (L Lk : AV) : AV := fun Γ C Q => L Γ C fun ds C1 => Lk Γ C1 fun es C2 => Q (ds ++ es) C2
structure VKw (K : PySem.W.Frag) (X : Cx) (kws : List Keyword) (t : TA) (L : AV) : Prop where
  pk : PK X kws t
  sim : SimA K t L
section
variable {K : PySem.W.Frag} {X : Cx} {k n : Nat} {f : Addr} {fd : FuncData} {ps ks : List Str} {P : PV} {x : Str} {st : Stmt} {p pos kpos : Pos} {e : Expr} {es : List Expr} {kws : List Keyword} {te : TE} {tl tk : TA} {E : EV} {L Lk : AV} {nm : Option Str}
theorem DenAll.app {H0 : Hp} {av : Av} {ad : Ads} {H : Hp} {vs us : List V} {ds es : List D} (a : DenAll K H0 av ad H vs ds) (b : DenAll K H0 av ad H us es) : DenAll K H0 av ad H (vs ++ us) (ds ++ es) := a.append b
theorem vk_nil : VKw K X [] tNil aNil := ⟨pk_nil, fun H0 A0 av ad Γ C σ H Q3 Q R h q => q [] H av ad [] C R Le.refl .nil h⟩
theorem sim_cons {t : TE} {E : EV} (h : SimE K t E) (h' : SimA K tl L) : SimA K (tCons t tl) (aCons E L) := fun H0 A0 av ad Γ C σ H Q3 Q R h3 q =>
  h H0 A0 av ad Γ C σ H _ _ R h3 fun v H1 av1 ad1 d C1 R1 l1 d1 h4 => h' H0 A0 av1 ad1 Γ C1 σ H1 _ _ R1 h4 fun vs H2 av2 ad2 ds C2 R2 l2 d2 h5 => q (v :: vs) H2 av2 ad2 (d :: ds) C2 R2 (l1.trans l2) (.cons (d1.le l2) d2) h5
theorem vk_cons (h : VE K X e te E) (h' : VKw K X kws tl L) : VKw K X (⟨nm, e, kpos⟩ :: kws) (tCons te tl) (aCons E L) := ⟨pk_cons h.pe h'.pk, sim_cons h.sim h'.sim⟩
theorem sim_app (h : SimA K tl L) (h' : SimA K tk Lk) : SimA K (tApp tl tk) (aApp L Lk) := fun H0 A0 av ad Γ C σ H Q3 Q R h3 q =>
  h H0 A0 av ad Γ C σ H _ _ R h3 fun v H1 av1 ad1 d C1 R1 l1 d1 h4 => h' H0 A0 av1 ad1 Γ C1 σ H1 _ _ R1 h4 fun vs H2 av2 ad2 ds C2 R2 l2 d2 h5 => q (v ++ vs) H2 av2 ad2 (d ++ ds) C2 R2 (l1.trans l2) ((d1.le l2).app d2) h5
/-- how the keywords bind -/
def KwB (K : PySem.W.Frag) (fd : FuncData) (ps ks : List Str) : Prop := ∀ (s : Shared) (us ws : List Value), (us ++ ws).length = ps.length → us.length + ks.length = ps.length → BindsTo s fd ⟨us, ks.zip ws⟩ (ps.zip (us ++ ws))
theorem kwb_of (F : FnD K x st f fd) (h : ∀ (kV doc pm : Value) (an : Option Addr) (cdv ct : Value) (us ws : List Value), (us ++ ws).length = ps.length → us.length + ks.length = ps.length →
    bindArgs (PySem.W.fnOf x x (defArgs st) (defBody st) (defScope st) .none kV doc pm an cdv ct) ⟨us, ks.zip ws⟩ = pure (ps.zip (us ++ ws))) : KwB K fd ps ks := by
  obtain ⟨oc, od, dV, kV, doc, pm, an, cdv, ct, osl, rfl, lk, hcd, hD, hK⟩ := F.ex
  rcases hD with ⟨_, rfl⟩ | ⟨e, _⟩
  · exact fun s us ws h1 h2 => .of_eq (h kV doc pm an cdv ct us ws h1 h2)
  · exact absurd rfl e
theorem run_gk {sp : Sp} {Ex : XK} {pins : List (Addr × Obj)} {σ : L2.St} {H : Hp} {s : Shared} {Q : VK} {us ws : List Value} {vs zs : List V} (F : FnOkG X.prog X.w X.K X.mg X.base CX0 k f fd ps sp) (hr : RoomG k X.A) (hb : KwB X.K fd ps ks)
    (I : Inv X pins σ H s) (r : Vals vs us) (rz : Vals zs ws) (hn : us.length + ks.length = ps.length) (h : sp (vs ++ zs) H Q Ex) : wpAny (model X.prog X.w) X.A (call (.ref f) us (ks.zip ws)) (EP X pins σ Q) X.xe s := by
  have r2 := r.append rz
  have hl : (us ++ ws).length = ps.length := by rw [← r2.length]; exact F.len _ _ _ _ h
  refine wpAny_call (codeAny_mono (F.run X.A X.stack s H ⟨us, ks.zip ws⟩ (us ++ ws) (vs ++ zs) Q Ex hr I.env0 (hb s us ws hl hn) r2 h) fun r s' hq => ?_)
  rcases r with e | fl
  · exact False.elim hq
  · cases fl with
    | ret u => exact I.after hq
    | _ => exact False.elim hq
/-- f(k = v, ..) -/
theorem ve_callKw0 (F : FnOkG X.prog X.w X.K X.mg X.base CX0 k f fd ps (Sp3 K 0 P)) (hr : RoomG k X.A) (hm : X.mg x = some (.ref f)) (hk : PySem.W.keepIn X.K (.ref f) = true) (hb : KwB X.K fd ps ks) (hkw : VKw K X kws tk Lk) (hn : ks.length = ps.length) (hg : Gl X x := by rfl)
    (hall : (backToKw pos (keywordEach kws X.env)).all (·.1.isSome) = true := by rfl) (hks : (backToKw pos (keywordEach kws X.env)).filterMap (·.1) = ks := by rfl) (hdb : (x == ("__debug__" : Str)) = false := by decide)
    (hpl : ((backTo pos (starEach [] X.env)).any (·.1) || (backToKw pos (keywordEach kws X.env)).any (·.1.isNone)) = false := by rfl) :
    VE K X (.Call (.Name x p) [] kws pos) (tCall (Sp3 K 0 P) [] E0 tk) (eCall P Lk) := by
  refine ⟨⟨fun pins s σ H Q I h => ?_⟩, sim_call hkw.sim E0⟩
  refine wpAny_Call_Name_kw (ld_glob I hg hm ?_ hdb)
  refine PySem.W.callWith_KW0 (h₀ := X.base) I.ok.mod.kin hk hall (thn (hkw.pk.run pos pins s σ H _ I h) fun ws s2 ⟨zs, H2, I2, rz, q2⟩ => ⟨I2.kIn, ?_⟩) hpl
  rw [hks]
  have q3 : Sp3 K 0 P (zs ++ []) H2 Q E0 := q2
  rw [List.append_nil] at q3
  exact run_gk (Ex := E0) (vs := []) F hr hb I2 .nil rz (by simpa using hn) q3
/-- f(v, .., k = w, ..) -/
theorem ve_callKw (F : FnOkG X.prog X.w X.K X.mg X.base CX0 k f fd ps (Sp3 K 0 P)) (hr : RoomG k X.A) (hm : X.mg x = some (.ref f)) (hk : PySem.W.keepIn X.K (.ref f) = true) (hb : KwB X.K fd ps ks) (ha : VA K X (e :: es) tl L) (hkw : VKw K X kws tk Lk) (hn : (e :: es).length + ks.length = ps.length)
    (hlen : ∀ (σ : L2.St) (H : Hp) (Q : List V → Hp → Prop), tl σ H Q → tl σ H fun vs H1 => vs.length = (e :: es).length ∧ Q vs H1) (hg : Gl X x := by rfl)
    (hall : (backToKw pos (keywordEach kws X.env)).all (·.1.isSome) = true := by rfl) (hks : (backToKw pos (keywordEach kws X.env)).filterMap (·.1) = ks := by rfl) (hdb : (x == ("__debug__" : Str)) = false := by decide) (he : starEach (e :: es) X.env = (false, eval e X.env) :: starEach es X.env := by rfl)
    (hpl : ((backTo pos (starEach (e :: es) X.env)).any (·.1) || (backToKw pos (keywordEach kws X.env)).any (·.1.isNone)) = false := by rfl) :
    VE K X (.Call (.Name x p) (e :: es) kws pos) (tCall (Sp3 K 0 P) [] E0 (tApp tl tk)) (eCall P (aApp L Lk)) := by
  refine ⟨⟨fun pins s σ H Q I h => ?_⟩, sim_call (sim_app ha.sim hkw.sim) E0⟩
  refine wpAny_Call_Name_kw (ld_glob I hg hm ?_ hdb)
  refine PySem.W.callWith_KW (h₀ := X.base) I.ok.mod.kin hk hall (thn (ha.pa.run pos pins s σ H _ I (hlen _ _ _ h)) fun us s1 ⟨vs, H1, I1, r, hl, q⟩ => ?_) hpl he
  refine thn (hkw.pk.run pos pins s1 σ H1 _ I1 q) fun ws s2 ⟨zs, H2, I2, rz, q2⟩ => ⟨I2.kIn, ?_⟩
  rw [hks]
  have q3 : Sp3 K 0 P ((vs ++ zs) ++ []) H2 Q E0 := q2
  rw [List.append_nil] at q3
  exact run_gk (us := us) (Ex := E0) F hr hb I2 r rz (by rw [← r.length, hl]; exact hn) q3
end
section
variable {K : PySem.W.Frag} {X : Cx} {e o : Expr} {te to : TE} {E Eo : EV} {apos pos : Pos}
/-- the place of a text in a text -/
def rSIx : V → List V → Hp → VK → Prop := fun x xs H Q => ∃ a b i rest, x = .str a ∧ xs = [.str b] ∧ Builtin.Str.occurrences a b 0 a.length 1 = i :: rest ∧ Q (.int (i : Nat)) H
def oSIndex : OM := fun C x ds Q => ∃ (a b : Str) (i : Nat) (rest : List Nat), x = .str a ∧ ds = [.str b] ∧ Builtin.Str.occurrences a b 0 a.length 1 = i :: rest ∧ Q (.int (i : Nat)) C
theorem ve_sindex (ho : VE K X o to Eo) (he : VE K X e te E) (hs : starEach [e] X.env = [(false, eval e X.env)] := by rfl) (hbase : attributeBase o "index" X.env (eval o X.env) = eval o X.env := by rfl) (hline : (apos.endLine == pos.line) = true := by rfl) :
    VE K X (.Call (.Attribute o "index" apos) [e] [] pos) (tM1 rSIx to te) (eM1 oSIndex Eo E) := by
  refine ⟨pe_m1 PySem.F.slot_str_index PySem.F.type_str_index mt_sindex ho.pe he.pe hs hbase hline, fun H0 A0 av ad Γ C σ H Q3 Q R h q => ?_⟩
  refine ho.sim H0 A0 av ad Γ C σ H _ _ R h fun x H1 av1 ad1 dx C1 R1 l1 d1 ⟨⟨s, e1⟩, h1⟩ => ?_
  subst e1
  refine ⟨⟨s, den_str d1⟩, he.sim H0 A0 av1 ad1 Γ C1 σ H1 _ _ R1 h1 fun v H2 av2 ad2 d C2 R2 l2 d2 ⟨a, b, i, rest, e2, e3, e4, h2⟩ => ?_⟩
  cases e2
  cases e3
  exact ⟨_, b, i, rest, den_str d1, by rw [den_str d2], e4, q _ _ _ _ _ _ R2 (l1.trans l2) .int h2⟩
end
end L3

/-! list(range(n)), sorted of pairs -/
namespace L3
open PySem PySem.Spec PyProof.Rows L2
section
variable {K : PySem.W.Frag} {X : Cx} {e : Expr} {te : TE} {E : EV} {p p2 pos pos2 : Pos}
def fListRange (E : EV) : FV := fun Γ C Q => E Γ C fun d C1 => ∃ n : Int, d = .int n ∧ 0 ≤ n ∧ n ≤ 2 ^ 24 ∧ Q (.lst (rgI 0 n.toNat)) C1
theorem den_rg {H0 : Hp} {av : Av} {ad : Ads} {H : Hp} {n : Int} : DenAll K H0 av ad H (rgV 0 n) (rgI 0 n.toNat) := by
  unfold rgV rgI
  rw [show (n - 0).toNat = n.toNat by simp]
  generalize List.range n.toNat = l
  induction l with
  | nil => exact .nil
  | cons i l ih => exact .cons .int ih
theorem vf_listRange (hc : X.calm = true) (ml : X.mg "list" = none) (mr : X.mg "range" = none) (h : VE K X e te E) (hg : Gl X "list" := by rfl) (hg2 : Gl X "range" := by rfl) (na : starEach [e] X.env = (false, eval e X.env) :: starEach [] X.env := by rfl)
    (nb : starEach [.Call (.Name "range" p2) [e] [] pos2] X.env = (false, eval (.Call (.Name "range" p2) [e] [] pos2) X.env) :: starEach [] X.env := by rfl) :
    VF K X (.Call (.Name "list" p) [.Call (.Name "range" p2) [e] [] pos2] [] pos) (tLstRg (tRg1 te)) (fListRange E) := by
  refine ⟨pe_listRg hc hg ml (prg_1 hg2 mr h.pe na) nb, fun H0 A0 av ad Γ C σ H Q3 Q R h3 q => ?_⟩
  refine h.sim H0 A0 av ad Γ C σ H _ _ R h3 fun v H1 av1 ad1 d C1 R1 l1 d1 ⟨n, e1, h0, h1, q3⟩ => ?_
  subst e1
  exact ⟨n, den_int d1, ⟨by omega, by omega, by omega, by omega, by omega⟩, fun r nr => fin_new R1 l1 (fun _ _ h => h) nr noTup_lst (c := .lst _) den_rg q3 q⟩
@[simp] theorem u_fListRange {Γ : Slots} {C : Store} {Qc : Cell → Store → Prop} : fListRange E Γ C Qc = E Γ C fun d C1 => ∃ n : Int, d = .int n ∧ 0 ≤ n ∧ n ≤ 2 ^ 24 ∧ Qc (.lst (rgI 0 n.toNat)) C1 := rfl
/-! ### pairs sorted -/
def pD (z : Int × Int) : D := .tup [.int z.1, .int z.2]
def kOf (H : Hp) : V → Int × Int
  | .ref t => match H t with
    | some (.tup [.int i, .int j]) => (i, j)
    | _ => (0, 0)
  | _ => (0, 0)
theorem den_pair {H0 : Hp} {av : Av} {ad : Ads} {H : Hp} {v : V} {z : Int × Int} (x : Den K H0 av ad H v (pD z)) : ∃ t, v = .ref t ∧ H t = some (.tup [.int z.1, .int z.2]) ∧ kOf H v = z := by
  cases x with
  | @tup a vs ds r y =>
    cases y with
    | cons y1 y2 =>
      cases y2 with
      | cons y3 y4 =>
        cases y4
        have e1 := den_int y1
        have e2 := den_int y3
        subst e1 e2
        have hr := r.1
        exact ⟨a, rfl, hr, by simp only [kOf, hr]⟩
theorem den_pairs {H0 : Hp} {av : Av} {ad : Ads} {H : Hp} : ∀ {vs : List V} {ps : List (Int × Int)}, DenAll K H0 av ad H vs (ps.map pD) → vs.map (kOf H) = ps ∧ ∀ v, v ∈ vs → Den K H0 av ad H v (pD (kOf H v))
  | [], [], _ => ⟨rfl, fun _ h => by simp at h⟩
  | v :: vs, z :: ps, .cons a b => by
    obtain ⟨h1, h2⟩ := den_pairs (vs := vs) (ps := ps) b
    obtain ⟨t, e1, e2, e3⟩ := den_pair a
    refine ⟨by rw [List.map_cons, h1, e3], fun w hw => ?_⟩
    rcases List.mem_cons.mp hw with rfl | hw
    · rw [e3]; exact a
    · exact h2 w hw
theorem denAll_of {H0 : Hp} {av : Av} {ad : Ads} {H : Hp} : ∀ ys : List V, (∀ v, v ∈ ys → Den K H0 av ad H v (pD (kOf H v))) → DenAll K H0 av ad H ys ((ys.map (kOf H)).map pD)
  | [], _ => .nil
  | y :: ys, h => .cons (h y (List.mem_cons_self ..)) (denAll_of ys fun v hv => h v (List.mem_cons_of_mem _ hv))
def nSortP : NN := fun C ds Q => ∃ (d : D) (ps : List (Int × Int)), ds = [d] ∧ lstOf C d = some (ps.map pD) ∧ ∀ qs : List (Int × Int), qs.Perm ps → qs.Pairwise (fun x y => SrtO.lexB y x = false) → Q (.lst (qs.map pD))
theorem sf_sortP : SimCF K (rSortedPO K) nSortP := by
  intro H0 A0 av ad Γ C σ H vs ds Q3 Q R d1 ⟨d, ps, e1, e2, q3⟩ q
  subst e1
  obtain ⟨v, rfl, r⟩ := den1 d1
  obtain ⟨a, us, rfl, h1, r1⟩ := R.lst r e2
  obtain ⟨m1, m2⟩ := den_pairs r1
  refine ⟨a, us, kOf H, rfl, .inl h1, fun x hx => ?_, fun ys l hs st nl => ?_⟩
  · obtain ⟨t, e, ht, _⟩ := den_pair (m2 x hx)
    exact ⟨t, e, ht⟩
  · refine q H l _ (.lst ((ys.map (kOf H)).map pD)) (fun _ _ h => h) nl noTup_lst (denAll_of ys fun v hv => m2 v (st.perm.mem_iff.mp hv)) (q3 _ ?_ ?_)
    · rw [← m1]
      exact st.perm.map _
    · exact List.pairwise_map.mpr hs
theorem call_sortP (hK : X.K = K) : CallR X (.builtin "sorted") (rSortedPO K) := by subst hK; exact cr_sortedPO
end
section
variable {K : PySem.W.Frag} {X : Cx} {elts : List Expr} {kk : Nat} {tpos p pos : Pos} {a b : Expr} {tl : TA} {L : AV}
/-- zip of two lists, of two tuples -/
def iZipS (L : AV) : IV := fun Γ C Q => L Γ C fun ds C1 => ∃ d d' xs ys, ds = [d, d'] ∧ ((lstOf C1 d = some xs ∧ lstOf C1 d' = some ys) ∨ (d = .tup xs ∧ d' = .tup ys)) ∧ (noptrs xs && noptrs ys) = true ∧ Q (zipD xs ys) (srcOf d ++ srcOf d') C1
theorem vi_zipS (hK : X.K = K) (hm : X.mg "zip" = none) (h : VA K X [a, b] tl L) (hg : Gl X "zip" := by rfl) (hs : starEach [a, b] X.env = (false, eval a X.env) :: starEach [b] X.env := by rfl) (hpl : (backTo pos (starEach [b] X.env)).any (·.1) = false := by rfl) :
    VI K X (.Tuple elts kk tpos) (.Call (.Name "zip" p) [a, b] [] pos) (RZ.iZipA K tl) (iZipS L) := by
  have base := vi_zip (elts := elts) (kk := kk) (tpos := tpos) (p := p) (pos := pos) hK hm h hg hs hpl
  subst hK
  refine ⟨RZ.pi_zipA hg hm h.pa hs hpl, fun H0 A0 av ad Γ C σ H Q3 Rr R h3 q => ?_⟩
  refine h.sim H0 A0 av ad Γ C σ H _ _ R h3 fun vs H' av' ad' ds C' R' l' dv ⟨d, d', xs, ys, e1, e, hnp, q3⟩ => ?_
  subst e1
  simp only [Bool.and_eq_true] at hnp
  obtain ⟨v, v', rfl, r, r'⟩ := den2 dv
  rcases e with ⟨e, e'⟩ | ⟨rfl, rfl⟩
  · obtain ⟨a, rfl, ⟨vs, hs⟩, later⟩ := lst_later (ds := zipD xs ys) (src := srcOf d ++ srcOf d') R' r e (fun _ z => List.mem_append_left _ z) (fun _ => hnp.1)
    obtain ⟨b, rfl, ⟨us, hs2⟩, later2⟩ := lst_later (ds := zipD xs ys) (src := srcOf d ++ srcOf d') R' r' e' (fun _ z => List.mem_append_right _ z) (fun _ => hnp.2)
    refine ⟨a, b, vs, us, rfl, .inl ⟨hs, hs2, q _ H' av' ad' C' _ _ R' l' (fun av1 ad1 Γ1 C1 σ1 H1 i R1 k => ?_) q3⟩⟩
    obtain ⟨vs1, s1, r1⟩ := later av1 ad1 Γ1 C1 σ1 H1 R1 k
    obtain ⟨us1, s2, r2⟩ := later2 av1 ad1 Γ1 C1 σ1 H1 R1 k
    have l1 := r1.length
    have l2 := r2.length
    rw [zipD_len]
    refine ⟨fun hi => ⟨⟨vs1, us1, vs1[i]'(by omega), us1[i]'(by omega), s1, s2, by simp, by simp⟩, fun y H2 ⟨T, x, z, e1, e2, e3, e4, e5⟩ => ?_⟩, fun hi => ⟨vs1, us1, s1, s2, by omega⟩⟩
    subst e1 e3
    obtain ⟨dx, e6, rx⟩ := r1.get' (e4 vs1 s1)
    obtain ⟨dz, e7, rz⟩ := r2.get' (e5 us1 s2)
    exact ⟨same_upd e2, _, zipD_get xs ys i e6 e7, .tup ⟨upd_same, R1.nav e2⟩ (.cons (rx.le (Le.new e2)) (.cons (rz.le (Le.new e2)) .nil))⟩
  · cases r with
    | @tup a vs _ t1 rs =>
    cases r' with
    | @tup b us _ t2 rs' =>
    refine ⟨a, b, vs, us, rfl, .inr ⟨t1.sq, t2.sq, q (RZ.ItzT X.K a b) H' av' ad' C' _ _ R' l' (fun av1 ad1 Γ1 C1 σ1 H1 i R1 k => ?_) q3⟩⟩
    have s1 : SqT X.K H1 a vs := (k.1.tup t1).sq
    have s2 : SqT X.K H1 b us := (k.1.tup t2).sq
    have r1 := rs.np (ad' := ad1) k.1 hnp.1
    have r2 := rs'.np (ad' := ad1) k.1 hnp.2
    have l1 := r1.length
    have l2 := r2.length
    rw [zipD_len]
    refine ⟨fun hi => ⟨⟨vs, us, vs[i]'(by omega), us[i]'(by omega), s1, s2, by simp, by simp⟩, fun y H2 ⟨T, x, z, e1, e2, e3, e4, e5⟩ => ?_⟩, fun hi => ⟨vs, us, s1, s2, by omega⟩⟩
    subst e1 e3
    obtain ⟨dx, e6, rx⟩ := r1.get' (e4 vs s1)
    obtain ⟨dz, e7, rz⟩ := r2.get' (e5 us s2)
    exact ⟨same_upd e2, _, zipD_get xs ys i e6 e7, .tup ⟨upd_same, R1.nav e2⟩ (.cons (rx.le (Le.new e2)) (.cons (rz.le (Le.new e2)) .nil))⟩
end
end L3

/-! range with a step -/
namespace L3
open PySem PySem.Spec PyProof.Rows L2
section
variable {K : PySem.W.Frag} {X : Cx} {tg a b c : Expr} {tl : TA} {L : AV} {p pos : Pos}
def rgC (lo st : Int) (n : Nat) : List D := (List.range n).map fun i => .int (lo + (i : Nat) * st)
theorem yields_rangeC {H0 : Hp} {A0 : List Addr} {lo st : Int} {n : Nat} {St : Av → Ads → Store → Hp → Prop} : Yields K H0 A0 (Itc lo st n) St (rgC lo st n) := fun av ad Γ C σ H i R _ => by
  have hl : (rgC lo st n).length = n := by simp [rgC]
  refine ⟨fun hi => ⟨by rw [hl] at hi; exact hi, fun y H2 ⟨e1, e2⟩ => ?_⟩, fun hi => by rw [hl] at hi; exact hi⟩
  subst e1 e2
  rw [hl] at hi
  exact ⟨fun _ _ h => h, .int (lo + i * st), by simp [rgC, hi], .int⟩
theorem rgC_np {lo st : Int} {n : Nat} : noptrs (rgC lo st n) = true := noptrs_map _ fun _ _ => rfl
/-- range(i, j, -1) -/
def iRangeDn (L : AV) : IV := fun Γ C Q => L Γ C fun ds C1 => ∃ i j : Int, ds = [.int i, .int j, .int (-1)] ∧ (-(2 ^ 62) ≤ i ∧ i < 2 ^ 62 ∧ -(2 ^ 62) ≤ j ∧ j < 2 ^ 62) ∧ Q (rgC i (-1) (i - j).toNat) [] C1
theorem den3 {H0 : Hp} {av : Av} {ad : Ads} {H : Hp} {vs : List V} {d d' d'' : D} (x : DenAll K H0 av ad H vs [d, d', d'']) : ∃ v v' v'', vs = [v, v', v''] ∧ Den K H0 av ad H v d ∧ Den K H0 av ad H v' d' ∧ Den K H0 av ad H v'' d'' := by
  cases x with
  | cons a b => obtain ⟨v, u, rfl, r, r2⟩ := den2 b; exact ⟨_, v, u, rfl, a, r, r2⟩
theorem vi_rangeDn (hm : X.mg "range" = none) (h : VA K X [a, b, c] tl L) (hg : Gl X "range" := by rfl) (hs : starEach [a, b, c] X.env = (false, eval a X.env) :: starEach [b, c] X.env := by rfl) (hpl : (backTo pos (starEach [b, c] X.env)).any (·.1) = false := by rfl) :
    VI K X tg (.Call (.Name "range" p) [a, b, c] [] pos) (iRng3 tl) (iRangeDn L) :=
  ⟨pi_range3 hg hm h.pa hs hpl, fun H0 A0 av ad Γ C σ H Q3 Rr R h3 q =>
    h.sim H0 A0 av ad Γ C σ H _ _ R h3 fun vs H' av' ad' ds C' R' l' dv ⟨i, j, e, ⟨b1, b2, b3, b4⟩, q3⟩ => by
      subst e
      obtain ⟨v, u, w, rfl, r, r2, r3⟩ := den3 dv
      exact ⟨i, j, -1, (i - j).toNat, by rw [den_int r, den_int r2, den_int r3], RgC.neg b1 b2 b3 b4, q _ H' av' ad' C' _ _ R' l' yields_rangeC q3⟩⟩
end

/-! ### keywords in another order -/
/-- those at the places ix -/
def pick {α : Type} (ix : List Nat) (l : List α) : List α := ix.filterMap fun i => l[i]?
def aPick (ix : List Nat) (L : AV) : AV := fun Γ C Q => L Γ C fun ds C1 => (∀ i, i ∈ ix → i < ds.length) ∧ Q (pick ix ds) C1
theorem den_pick {K : PySem.W.Frag} {H0 : Hp} {av : Av} {ad : Ads} {H : Hp} {vs : List V} {ds : List D} (x : DenAll K H0 av ad H vs ds) : ∀ ix : List Nat, (∀ i, i ∈ ix → i < ds.length) → DenAll K H0 av ad H (pick ix vs) (pick ix ds)
  | [], _ => .nil
  | i :: ix, h => by
    have hi := h i (List.mem_cons_self ..)
    have e := List.getElem?_eq_getElem hi
    obtain ⟨v, e1, r⟩ := x.get e
    unfold pick
    rw [List.filterMap_cons_some e1, List.filterMap_cons_some e]
    exact .cons r (den_pick x ix fun j hj => h j (List.mem_cons_of_mem _ hj))
theorem vals_pick {vs : List V} {us : List Value} (x : Vals vs us) : ∀ ix : List Nat, (∀ i, i ∈ ix → i < vs.length) → Vals (pick ix vs) (pick ix us)
  | [], _ => .nil
  | i :: ix, h => by
    have hi := h i (List.mem_cons_self ..)
    have e := List.getElem?_eq_getElem hi
    obtain ⟨u, e1, r⟩ := x.get e
    unfold pick
    rw [List.filterMap_cons_some e1, List.filterMap_cons_some e]
    exact .cons r (vals_pick x ix fun j hj => h j (List.mem_cons_of_mem _ hj))
def tPick (ix : List Nat) (t : TA) : TA := fun σ H Q => t σ H fun vs H1 => (∀ i, i ∈ ix → i < vs.length) ∧ Q (pick ix vs) H1
theorem sim_pick {K : PySem.W.Frag} {tl : TA} {L : AV} {ix : List Nat} (h : SimA K tl L) : SimA K (tPick ix tl) (aPick ix L) := fun H0 A0 av ad Γ C σ H Q3 Q R h3 q =>
  h H0 A0 av ad Γ C σ H _ _ R h3 fun vs H1 av1 ad1 ds C1 R1 l1 d1 ⟨hl, h4⟩ => ⟨by rw [d1.length]; exact hl, q _ H1 av1 ad1 _ C1 R1 l1 (den_pick d1 ix hl) h4⟩
section
variable {K : PySem.W.Frag} {X : Cx} {k : Nat} {f : Addr} {fd : FuncData} {ps ks : List Str} {P : PV} {x : Str} {st : Stmt} {p pos : Pos} {kws : List Keyword} {tk : TA} {Lk : AV} {ix : List Nat}
/-- how the keywords bind, in another order -/
def KwP (K : PySem.W.Frag) (fd : FuncData) (ps ks : List Str) (ix : List Nat) : Prop := ∀ (s : Shared) (ws : List Value), ks.length ≤ ws.length → BindsTo s fd ⟨[], ks.zip ws⟩ (ps.zip (pick ix ws))
theorem kwp_of (F : FnD K x st f fd) (h : ∀ (kV doc pm : Value) (an : Option Addr) (cdv ct : Value) (ws : List Value), ks.length ≤ ws.length →
    bindArgs (PySem.W.fnOf x x (defArgs st) (defBody st) (defScope st) .none kV doc pm an cdv ct) ⟨[], ks.zip ws⟩ = pure (ps.zip (pick ix ws))) : KwP K fd ps ks ix := by
  obtain ⟨oc, od, dV, kV, doc, pm, an, cdv, ct, osl, rfl, lk, hcd, hD, hK⟩ := F.ex
  rcases hD with ⟨_, rfl⟩ | ⟨e, _⟩
  · exact fun s ws h1 => .of_eq (h kV doc pm an cdv ct ws h1)
  · exact absurd rfl e
theorem ve_callKwP (F : FnOkG X.prog X.w X.K X.mg X.base CX0 k f fd ps (Sp3 K 0 P)) (hr : RoomG k X.A) (hm : X.mg x = some (.ref f)) (hk : PySem.W.keepIn X.K (.ref f) = true) (hb : KwP X.K fd ps ks ix) (hkw : VKw K X kws tk Lk) (hix : ks.length - 1 ∈ ix) (hpos : 0 < ks.length) (hg : Gl X x := by rfl)
    (hall : (backToKw pos (keywordEach kws X.env)).all (·.1.isSome) = true := by rfl) (hks : (backToKw pos (keywordEach kws X.env)).filterMap (·.1) = ks := by rfl) (hdb : (x == ("__debug__" : Str)) = false := by decide)
    (hpl : ((backTo pos (starEach [] X.env)).any (·.1) || (backToKw pos (keywordEach kws X.env)).any (·.1.isNone)) = false := by rfl) :
    VE K X (.Call (.Name x p) [] kws pos) (tCall (Sp3 K 0 P) [] E0 (tPick ix tk)) (eCall P (aPick ix Lk)) := by
  refine ⟨⟨fun pins s σ H Q I h => ?_⟩, sim_call (sim_pick hkw.sim) E0⟩
  refine wpAny_Call_Name_kw (ld_glob I hg hm ?_ hdb)
  refine PySem.W.callWith_KW0 (h₀ := X.base) I.ok.mod.kin hk hall (thn (hkw.pk.run pos pins s σ H _ I h) fun ws s2 ⟨zs, H2, I2, rz, hl, q2⟩ => ⟨I2.kIn, ?_⟩) hpl
  rw [hks]
  have q3 : Sp3 K 0 P (pick ix zs ++ []) H2 Q E0 := q2
  rw [List.append_nil] at q3
  have hw : ks.length ≤ ws.length := by
    have := hl _ hix
    rw [rz.length] at this
    omega
  refine wpAny_call (codeAny_mono (F.run X.A X.stack s2 H2 ⟨[], ks.zip ws⟩ (pick ix ws) (pick ix zs) Q E0 hr I2.env0 (hb s2 ws hw) (vals_pick rz ix hl) q3) fun r s' hq => ?_)
  rcases r with e | fl
  · exact False.elim hq
  · cases fl with
    | ret u => exact I2.after hq
    | _ => exact False.elim hq
end
end L3

/-! a call's told tuple whose new list is to be written to; a text times a number -/
namespace L2
open PySem PySem.Spec PyProof.Rows
def repS (a : Str) (k : Nat) : Str := ⟨(List.replicate k a.cps).foldl (· ++ ·) #[]⟩
theorem rep_sz (xs : Array Nat) : ∀ (k : Nat) (acc : Array Nat), ((List.replicate k xs).foldl (· ++ ·) acc).size = acc.size + k * xs.size
  | 0, acc => by simp
  | k + 1, acc => by
    rw [List.replicate_succ, List.foldl_cons, rep_sz xs k, Array.size_append, Nat.add_mul, Nat.one_mul]
    omega
theorem repS_len (a : Str) (k : Nat) : (repS a k).length = k * a.length := by
  show ((List.replicate k a.cps).foldl (· ++ ·) #[]).size = _
  rw [rep_sz]
  simp
  rfl
section
variable {X : Cx}
def rMulG : R2 := fun x y H Q => ∃ (a : Str) (k : Nat), x = .str a ∧ y = .int (k : Nat) ∧ 2 ≤ k ∧ k < 2 ^ 20 ∧ 0 < a.length ∧ a.length * k ≤ 2 ^ 20 ∧ Q (.str (repS a k)) H
theorem op_mulG : OpR X (binaryOp .Mult) rMulG := by
  intro pins s σ H x y v u Q I rx ry h
  obtain ⟨a, k, rfl, rfl, h2, hk, ha, hak, q⟩ := h
  obtain ⟨t, rfl⟩ := rx
  obtain ⟨t2, rfl⟩ := ry
  have hz : sizeLine = 16777216 := sizeLine_eq
  have hor : (((k : Nat) : Int) == 1 || a.length == 0) = false := by
    simp only [Bool.or_eq_false_iff, beq_eq_false_iff_ne]
    omega
  refine PySem.P.mul_str (by simp; omega) (fun _ _ hlt => ?_) (fun _ _ => ?_) ?_
  · have h1 : (((k : Nat) : Int)) ≤ 2 ^ 20 := by omega
    have h3 : (a.length : Int) ≤ 2 ^ 20 := by
      have : a.length * 1 ≤ a.length * k := Nat.mul_le_mul_left _ (by omega)
      omega
    have h4 : (2 ^ 63 - 1 : Int) / 2 ^ 20 ≤ (2 ^ 63 - 1) / (k : Nat) := by
      refine Int.le_ediv_of_mul_le (by omega) ?_
      have : (2 ^ 63 - 1 : Int) / 2 ^ 20 = 8796093022207 := by decide
      rw [this]
      omega
    have : (2 ^ 63 - 1 : Int) / 2 ^ 20 = 8796093022207 := by decide
    omega
  · simp only [Builtin.Str.tooLong, Int.toNat_natCast]
    simp
    omega
  · rw [if_neg (by omega), hor, if_neg (by decide)]
    refine ⟨?_, .str (repS a k), H, I.tok _, ⟨_, rfl⟩, q⟩
    have := repS_len a k
    show (repS a k).length ≤ sizeLine
    rw [this, Nat.mul_comm]
    omega
end
end L2
namespace L3
open PySem PySem.Spec PyProof.Rows L2
def oMulG : O2 := fun _ x y Q => ∃ (a : Str) (k : Nat), x = .str a ∧ y = .int (k : Nat) ∧ 2 ≤ k ∧ k < 2 ^ 20 ∧ 0 < a.length ∧ a.length * k ≤ 2 ^ 20 ∧ Q (.str (repS a k))
theorem sr_mulG {K : PySem.W.Frag} : SimR K rMulG oMulG := by
  intro H0 A0 av ad Γ C σ H x y dx dy Q3 Q R d1 d2 h3 q
  obtain ⟨a, k, rfl, rfl, h1, h2, h4, h5, q3⟩ := h3
  exact ⟨a, k, den_str d1, den_int d2, h1, h2, h4, h5, q _ H _ (fun _ _ h => h) .str q3⟩
def flatC : Cell → Bool
  | .lst xs => flatDs xs
  | .dead => true
  | _ => false
section
variable {K : PySem.W.Frag} {H0 : Hp} {A0 : List Addr} {av : Av} {ad : Ads} {Γ : Slots} {C C' : Store} {σ : L2.St} {H H' : Hp}
theorem Rep.banned (R : Rep K H0 A0 av ad Γ C σ H) (R' : Rep K H0 A0 av ad Γ C' σ H') (l : Le av ad H av ad H') {p : Addr} {ws : List V} (n : H p = none) (hp : H' p = some (.lst ws)) (fl : ∀ (i : Nat) c, C'[i]? = some c → flatC c = true) :
    Rep K H0 A0 (fun b => av b ∨ b = p) ad Γ C' σ H' := by
  have f : Fz av H (fun b => av b ∨ b = p) H' := fun a o ha na => ⟨(l.fz a o ha na).1, fun z => z.elim (l.fz a o ha na).2 fun e => ne_of_none ha n e⟩
  exact { R' with
    sub := fun a h => .inl (R'.sub a h)
    dom := fun a h => h.elim (R'.dom a) fun e => by rw [e, hp]; exact fun z => by cases z
    avt := fun a xs h r => h.elim (fun z => R'.avt a xs z r) fun e => by rw [e, hp] at r; cases r
    cells := fun i a c h1 h2 => by
      have ok := R'.cells i a c h1 h2
      have hf := fl i c h2
      cases c with
      | lst xs => obtain ⟨vs, e, r⟩ := ok; exact ⟨vs, e, r.ban hp hf⟩
      | dk _ _ => cases hf
      | dt _ _ => cases hf
      | ins _ _ _ => cases hf
      | dead => exact ok
    slot := fun i d h => by
      obtain ⟨v, h1, h2⟩ := R.slot i d h
      exact ⟨v, h1, h2.mono f Pre.refl⟩ }
end
def eCallT (n : Nat) (kf : List D → List Nat) (P : PV) (L : AV) : EV := fun Γ C Q => L Γ C fun ds C1 => (kf ds).length = n ∧ (kf ds).Nodup ∧ (∀ k, k ∈ kf ds → ∃ c, C1[k]? = some c ∧ c ≠ Cell.dead) ∧
  P (views (kf ds) C1 ds) (viewC (kf ds) C1) fun d Cc => ∃ x y xs, d = .tup [x, y, .lst false xs] ∧ flatDs [x, y] = true ∧ flatDs xs = true ∧ (∀ c, c ∈ Cc → c.okC (fun o => !o) = true) ∧
    (∀ (i : Nat) c, (putS (kf ds) (Cc.map (backs (kf ds))) C1)[i]? = some c → flatC c = true) ∧ Q (.tup [x, y, .ptr C1.length]) (putS (kf ds) (Cc.map (backs (kf ds))) C1 ++ [.lst xs])
/-- the cell that is the first argument, and the list in the tuple behind it -/
def kf2t : List D → List Nat
  | .ptr k :: .tup [_, _, .ptr m] :: _ => [k, m]
  | _ => []
section
variable {K : PySem.W.Frag} {X : Cx} {k n : Nat} {f : Addr} {fd : FuncData} {ps : List Str} {P : PV} {x : Str} {p pos : Pos} {e : Expr} {es : List Expr} {tl : TA} {L : AV}
theorem sim_callT {kf : List D → List Nat} (hl : SimA K tl L) (E : XK) : SimE K (tCall (Sp3 K n P) [] E tl) (eCallT n kf P L) := fun H0 A0 av ad Γ C σ H Q3 Q R h q => by
  refine hl H0 A0 av ad Γ C σ H _ _ R h fun vs H1 av1 ad1 ds C1 R1 l1 dv ⟨h0, h1, h2, h3⟩ => ?_
  subst h0
  rw [List.append_nil]
  refine R1.call (ks := kf ds) (Q3 := fun d C' => ∃ x y xs, d = .tup [x, y, .lst false xs] ∧ flatDs [x, y] = true ∧ flatDs xs = true ∧ (∀ (i : Nat) c, C'[i]? = some c → flatC c = true) ∧ Q3 (.tup [x, y, .ptr C1.length]) (C' ++ [.lst xs])) dv h1 h2 h3 (fun d Cc hC h4 => ?_) (fun v H' C' d R' l' den den2 s q3 => ?_) E
  · obtain ⟨x, y, xs, rfl, f1, f2, ok, fl, q4⟩ := h4
    have n1 := flats_np f1
    have n2 := flats_np f2
    simp only [noptrs, okWs, Bool.and_eq_true] at n1
    refine ⟨?_, ok, ?_⟩
    · simp only [noold, okW, okWs, n1.2.1, n1.2.2.1, n2.2]
      rfl
    · rw [mapW_np.1 (.tup [x, y, .lst false xs]) (by simp only [noptr, noptrs, n1.1.1, n1.1.2.1, n2.1]; rfl)]
      exact ⟨x, y, xs, rfl, f1, f2, fl, q4⟩
  · obtain ⟨x, y, xs, rfl, f1, f2, fl, q4⟩ := q3
    simp only [flatDs, Bool.and_eq_true] at f1
    cases den with
    | @tup t vs1 _ r z =>
      cases z with
      | cons a z =>
        cases z with
        | cons b z =>
          cases z with
          | cons c z =>
            cases z
            cases den2 with
            | @tup _ vs2 _ r2 z2 =>
              have ev := r.1.symm.trans r2.1
              simp only [Option.some.injEq, HO.tup.injEq] at ev
              subst ev
              cases z2 with
              | cons a2 z2 =>
                cases z2 with
                | cons b2 z2 =>
                  cases z2 with
                  | cons c2 z2 =>
                    cases c2 with
                    | @lst p ws2 _ _ rr2 o2 y2 =>
                      obtain ⟨n1, hp⟩ := o2 rfl
                      cases c with
                      | @lst _ ws _ _ rr o1 y1 =>
                        have hp1 := (o1 rfl).2
                        have ew : ws = ws2 := by
                          rw [hp] at hp1
                          cases hp1
                          rfl
                        subst ew
                        have RB := R1.banned R' l' n1 hp fl
                        have np : some p ∉ ad1 := fun z => R1.dom _ (R1.sub _ z) n1
                        have RP := RB.push (c := .lst xs) (R1.there p n1) np (fun a h => R1.sub a h) ⟨ws, hp, y1.ban hp f2⟩
                        have pr : Pre ad1 (ad1 ++ [some p]) := fun k a h => by
                          have hlt : k < ad1.length := (List.getElem?_eq_some_iff.mp h).1
                          rw [List.getElem?_append_left hlt]; exact h
                        have tn : ∀ z, t = z → H' z = some (.tup _) := fun z e => by subst e; exact r.1
                        refine q _ H' _ _ _ _ RP (l1.trans ⟨fun a o ha na => ⟨(l'.fz a o ha na).1, fun z => z.elim (l'.fz a o ha na).2 fun e => ne_of_none ha n1 e⟩, pr, l'.there, fun _ z => .inl z, fun a h => ?_, l'.kp⟩) (.tup ⟨r.1, fun z => z.elim r.2 fun e => by have := tn p e; rw [hp] at this; cases this⟩ ?_) q4
                        · rcases List.mem_append.mp h with h | h
                          · exact .inl h
                          · simp at h
                            subst h
                            exact .inr n1
                        · refine .cons ((a.ban hp f1.1).mono Fz.refl pr) (.cons ((b.ban hp f1.2.1).mono Fz.refl pr) (.cons (.ptr ?_) .nil))
                          rw [← R1.len, List.getElem?_append_right (Nat.le_refl _), Nat.sub_self]
                          rfl
theorem ve_callT {kf : List D → List Nat} (F : FnOkG X.prog X.w X.K X.mg X.base CX0 k f fd ps (Sp3 K n P)) (hr : RoomG k X.A) (hm : X.mg x = some (.ref f)) (hk : PySem.W.keepIn X.K (.ref f) = true) (hb : Binds X.K fd ps []) (ha : VA K X (e :: es) tl L) (hg : Gl X x := by rfl)
    (hdb : (x == ("__debug__" : Str)) = false := by decide) (he : starEach (e :: es) X.env = (false, eval e X.env) :: starEach es X.env := by rfl) (hpl : (backTo pos (starEach es X.env)).any (·.1) = false := by rfl) :
    VE K X (.Call (.Name x p) (e :: es) [] pos) (tCall (Sp3 K n P) [] E0 tl) (eCallT n kf P L) := ⟨pe_callG F hr hg hm hk hb pass0 ha.pa hdb he hpl, sim_callT ha.sim E0⟩
end
@[simp] theorem u_eCallT {n : Nat} {kf : List D → List Nat} {P : PV} {L : AV} {Γ : Slots} {C : Store} {Q : D → Store → Prop} : eCallT n kf P L Γ C Q = L Γ C fun ds C1 => (kf ds).length = n ∧ (kf ds).Nodup ∧ (∀ k, k ∈ kf ds → ∃ c, C1[k]? = some c ∧ c ≠ Cell.dead) ∧
  P (views (kf ds) C1 ds) (viewC (kf ds) C1) fun d Cc => ∃ x y xs, d = .tup [x, y, .lst false xs] ∧ flatDs [x, y] = true ∧ flatDs xs = true ∧ (∀ c, c ∈ Cc → c.okC (fun o => !o) = true) ∧
    (∀ (i : Nat) c, (putS (kf ds) (Cc.map (backs (kf ds))) C1)[i]? = some c → flatC c = true) ∧ Q (.tup [x, y, .ptr C1.length]) (putS (kf ds) (Cc.map (backs (kf ds))) C1 ++ [.lst xs]) := rfl
end L3

/-! range(i, j, 2) -/
namespace L3
open PySem PySem.Spec PyProof.Rows L2
theorem size_two (i j : Int) : Builtin.Range.rangeSize i j 2 = (((j - i + 1) / 2).toNat : Nat) := by
  unfold Builtin.Range.rangeSize
  rw [if_pos (by decide)]
  split <;> omega
theorem small_two {a b : Int} (ha : -(2 ^ 61) ≤ a) (ha' : a < 2 ^ 61) (hb : -(2 ^ 61) ≤ b) (hb' : b < 2 ^ 61) : Builtin.Range.small a b 2 = true := by
  unfold Builtin.Range.small
  rw [size_two]
  simp only [Builtin.Range.rangeFitsLong, Bool.and_eq_true, Bool.or_eq_true, decide_eq_true_eq, beq_iff_eq, show ((2 : Int) > 0) by decide, if_true]
  omega
theorem rgc_two {i j : Int} (ha : -(2 ^ 61) ≤ i) (ha' : i < 2 ^ 61) (hb : -(2 ^ 61) ≤ j) (hb' : j < 2 ^ 61) : RgC i j 2 ((j - i + 1) / 2).toNat := ⟨by decide, by decide, small_two ha ha' hb hb', size_two i j⟩
section
variable {K : PySem.W.Frag} {X : Cx} {tg a b c : Expr} {tl : TA} {L : AV} {p pos : Pos}
/-- range(i, j, 2) -/
def iRangeTwo (L : AV) : IV := fun Γ C Q => L Γ C fun ds C1 => ∃ i j : Int, ds = [.int i, .int j, .int 2] ∧ (-(2 ^ 61) ≤ i ∧ i < 2 ^ 61 ∧ -(2 ^ 61) ≤ j ∧ j < 2 ^ 61) ∧ Q (rgC i 2 ((j - i + 1) / 2).toNat) [] C1
theorem vi_rangeTwo (hm : X.mg "range" = none) (h : VA K X [a, b, c] tl L) (hg : Gl X "range" := by rfl) (hs : starEach [a, b, c] X.env = (false, eval a X.env) :: starEach [b, c] X.env := by rfl) (hpl : (backTo pos (starEach [b, c] X.env)).any (·.1) = false := by rfl) :
    VI K X tg (.Call (.Name "range" p) [a, b, c] [] pos) (iRng3 tl) (iRangeTwo L) :=
  ⟨pi_range3 hg hm h.pa hs hpl, fun H0 A0 av ad Γ C σ H Q3 Rr R h3 q =>
    h.sim H0 A0 av ad Γ C σ H _ _ R h3 fun vs H' av' ad' ds C' R' l' dv ⟨i, j, e, ⟨b1, b2, b3, b4⟩, q3⟩ => by
      subst e
      obtain ⟨v, u, w, rfl, r, r2, r3⟩ := den3 dv
      exact ⟨i, j, 2, ((j - i + 1) / 2).toNat, by rw [den_int r, den_int r2, den_int r3], rgc_two b1 b2 b3 b4, q _ H' av' ad' C' _ _ R' l' yields_rangeC q3⟩⟩
end
end L3

/-! dicts with numbers or texts as keys -/
namespace L3
open PySem PySem.Spec PyProof.Rows L2
def kD : Key → D
  | .inl i => .int i
  | .inr s => .str s
def dAt (k : Key) : List Key → List D → Option D
  | q :: qs, x :: xs => if q = k then some x else dAt k qs xs
  | _, _ => none
def hasK (k : Key) (ks : List Key) : Bool := ks.any fun q => decide (q = k)
def kPut (k : Key) (ks : List Key) : List Key := if hasK k ks = true then ks else ks ++ [k]
def xPut (k : Key) (y : D) (ks : List Key) (xs : List D) : List D := if hasK k ks = true then (ks.zip xs).map (fun z => if z.1 = k then y else z.2) else xs ++ [y]
def dkOf (C : Store) : D → Option (List Key × List D)
  | .dk _ ks xs => some (ks, xs)
  | .ptr k => match C[k]? with
    | some (.dk ks xs) => some (ks, xs)
    | _ => none
  | _ => none
section
variable {K : PySem.W.Frag} {H0 : Hp} {A0 : List Addr} {av : Av} {ad : Ads} {Γ : Slots} {C : Store} {σ : L2.St} {H : Hp}
theorem den_kD {v : V} {k : Key} (x : Den K H0 av ad H v (kD k)) : v = kV k := by
  cases k with
  | inl i => exact den_int x
  | inr s => exact den_str x
theorem dAt_den {k : Key} : ∀ {kvs : List (Key × V)} {xs : List D}, DenAll K H0 av ad H (kvs.map (·.2)) xs →
    (∀ d, dAt k (kvs.map (·.1)) xs = some d → ∃ v, valV kvs k = some v ∧ Den K H0 av ad H v d) ∧ (dAt k (kvs.map (·.1)) xs = none → valV kvs k = none)
  | [], xs, x => ⟨fun d h => by simp [dAt] at h, fun _ => valV_nil⟩
  | p :: r, xs, x => by
    rw [List.map_cons] at x
    cases x with
    | @cons _ _ d ds a b =>
      have ih := dAt_den (k := k) b
      by_cases e : p.1 = k
      · refine ⟨fun d' h => ?_, fun h => ?_⟩
        · simp only [List.map_cons, dAt, if_pos e, Option.some.injEq] at h
          subst h
          exact ⟨p.2, valV_pos e, a⟩
        · simp only [List.map_cons, dAt, if_pos e] at h
          cases h
      · refine ⟨fun d' h => ?_, fun h => ?_⟩
        · simp only [List.map_cons, dAt, if_neg e] at h
          rw [valV_neg e]
          exact ih.1 d' h
        · simp only [List.map_cons, dAt, if_neg e] at h
          rw [valV_neg e]
          exact ih.2 h
theorem any_mem {kvs : List (Key × V)} {k : Key} : (kvs.any fun kv => decide (kv.1 = k)) = hasK k (kvs.map (·.1)) := by
  unfold hasK
  rw [List.any_map]
  rfl
theorem put_keys {kvs : List (Key × V)} {k : Key} {v : V} : (putK kvs k v).map (·.1) = kPut k (kvs.map (·.1)) := by
  unfold putK kPut
  rw [any_mem]
  by_cases h : hasK k (kvs.map (·.1)) = true
  · rw [if_pos h, if_pos h, List.map_map]
    apply List.map_congr_left
    intro kv _
    show (if kv.1 = k then (kv.1, v) else kv).1 = kv.1
    split <;> rfl
  · rw [if_neg h, if_neg h, List.map_append]
    rfl
theorem put_den {k : Key} {v : V} {y : D} {kvs : List (Key × V)} {xs : List D} (x : DenAll K H0 av ad H (kvs.map (·.2)) xs) (z : Den K H0 av ad H v y) : DenAll K H0 av ad H ((putK kvs k v).map (·.2)) (xPut k y (kvs.map (·.1)) xs) := by
  have all : ∀ {kvs : List (Key × V)} {xs : List D}, DenAll K H0 av ad H (kvs.map (·.2)) xs → DenAll K H0 av ad H ((kvs.map fun kv => if kv.1 = k then (kv.1, v) else kv).map (·.2)) (((kvs.map (·.1)).zip xs).map fun z => if z.1 = k then y else z.2) := by
    intro kvs
    induction kvs with
    | nil => intro xs x; exact .nil
    | cons p r ih =>
      intro xs x
      rw [List.map_cons] at x
      cases x with
      | @cons _ _ d ds a b =>
        simp only [List.map_cons, List.zip_cons_cons]
        refine .cons ?_ (ih b)
        by_cases e : p.1 = k
        · rw [if_pos e, if_pos e]; exact z
        · rw [if_neg e, if_neg e]; exact a
  unfold putK xPut
  rw [any_mem]
  by_cases h : hasK k (kvs.map (·.1)) = true
  · rw [if_pos h, if_pos h]
    exact all x
  · rw [if_neg h, if_neg h, List.map_append]
    exact x.append (.cons z .nil)
theorem Rep.dk (R : Rep K H0 A0 av ad Γ C σ H) {v : V} {d : D} {ks : List Key} {xs : List D} (x : Den K H0 av ad H v d) (e : dkOf C d = some (ks, xs)) :
    ∃ a kvs, v = .ref a ∧ Rd H a (.dK kvs) ∧ kvs.map (·.1) = ks ∧ DenAll K H0 av ad H (kvs.map (·.2)) xs := by
  cases d with
  | dk o ks' xs' =>
    cases e
    cases x with
    | dk r n o k y => exact ⟨_, _, rfl, r, k, y⟩
  | ptr k =>
    cases x with
    | ptr h =>
      simp only [dkOf] at e
      split at e
      · rename_i ks' xs' hc
        cases e
        obtain ⟨kvs, e1, e2, r⟩ := R.cells _ _ _ h hc
        exact ⟨_, kvs, rfl, .inl e1, e2, r⟩
      · cases e
  | bad => cases e
  | non => cases e
  | bl _ => cases e
  | int _ => cases e
  | str _ => cases e
  | lst _ _ => cases e
  | tup _ => cases e
  | dt _ _ _ => cases e
  | obj _ _ _ => cases e
theorem Rep.dget (R : Rep K H0 A0 av ad Γ C σ H) {v u : V} {d : D} {ks : List Key} {xs : List D} {k : Key} (x : Den K H0 av ad H v d) (e : dkOf C d = some (ks, xs)) (y : Den K H0 av ad H u (kD k)) :
    ∃ a o, v = .ref a ∧ IsD H a ∧ DGet H a u o ∧ o.isSome = (dAt k ks xs).isSome ∧ (∀ d', dAt k ks xs = some d' → ∃ w, o = some w ∧ Den K H0 av ad H w d') ∧ (dAt k ks xs = none → o = none) := by
  obtain ⟨a, kvs, rfl, rd, rfl, r⟩ := R.dk x e
  have ek := den_kD y
  obtain ⟨h1, h2⟩ := dAt_den (k := k) r
  refine ⟨a, valV kvs k, rfl, .inl ⟨kvs, rd⟩, .inl ⟨kvs, k, rd, ek, rfl⟩, ?_, h1, h2⟩
  cases q : dAt k (kvs.map (·.1)) xs with
  | none => rw [h2 q]; rfl
  | some d' => obtain ⟨w, e, _⟩ := h1 d' q; rw [e]; rfl
end
theorem u1 {k : Nat} {A : Around} (r : RoomG k A) : A.units + 1 < cLine := by have := r.rm.un; omega
section
variable {K : PySem.W.Frag} {X : Cx} {o i e f : Expr} {td ty tk tv tx : TE} {Eo Ei Ek Ev Ef : EV} {pos apos cpos p : Pos}
/-- d[k] -/
def eDGet (Eo Ei : EV) : EV := fun Γ C Q => Eo Γ C fun x C1 => Ei Γ C1 fun y C2 => ∃ ks xs k d, dkOf C2 x = some (ks, xs) ∧ y = kD k ∧ dAt k ks xs = some d ∧ Q d C2
theorem ve_dget (ho : VE K X o td Eo) (hi : VE K X i ty Ei) (hu : X.A.units + 1 < cLine) (hs : NoSl i := by intro _ _; rfl) : VE K X (.Subscript o i pos) (tDGet td ty) (eDGet Eo Ei) := by
  refine ⟨pe_dget hu ho.pe hi.pe hs, fun H0 A0 av ad Γ C σ H Q3 Q R h q => ?_⟩
  refine ho.sim H0 A0 av ad Γ C σ H _ _ R h fun v H1 av1 ad1 d C1 R1 l1 d1 h1 => ?_
  refine hi.sim H0 A0 av1 ad1 Γ C1 σ H1 _ _ R1 h1 fun u H2 av2 ad2 d2 C2 R2 l2 e2 ⟨ks, xs, k, d', e3, e4, e5, h2⟩ => ?_
  subst e4
  obtain ⟨a, o, rfl, _, g, _, h3, _⟩ := R2.dget (d1.le l2) e3 e2
  obtain ⟨w, rfl, dw⟩ := h3 d' e5
  exact ⟨a, w, rfl, g, q w H2 av2 ad2 d' C2 R2 (l1.trans l2) dw h2⟩
/-- k in d -/
def rDIn : R2 := fun x y H Q => ∃ a o, y = .ref a ∧ DGet H a x o ∧ Q (.bl o.isSome) H
def rDNi : R2 := fun x y H Q => ∃ a o, y = .ref a ∧ DGet H a x o ∧ Q (.bl (!o.isSome)) H
theorem op_din (hu : X.A.units + 1 < cLine) : OpR X (compareOp .In) rDIn := by
  intro pins s σ H x y v u Q I rx ry h
  obtain ⟨a, o, rfl, g, q⟩ := h
  obtain rfl : u = Value.ref a := ry
  exact d_in hu I g rx fun s3 I3 => ⟨.bl o.isSome, H, I3, rfl, q⟩
theorem op_dnotIn (hu : X.A.units + 1 < cLine) : OpR X (compareOp .NotIn) rDNi := by
  intro pins s σ H x y v u Q I rx ry h
  obtain ⟨a, o, rfl, g, q⟩ := h
  obtain rfl : u = Value.ref a := ry
  exact d_notIn hu I g rx fun s3 I3 => ⟨.bl (!o.isSome), H, I3, rfl, q⟩
def oDIn (neg : Bool) : O2 := fun C x y Q => ∃ ks xs k, dkOf C y = some (ks, xs) ∧ x = kD k ∧ Q (.bl (neg != (dAt k ks xs).isSome))
theorem sr_din : SimR K rDIn (oDIn false) := by
  intro H0 A0 av ad Γ C σ H x y dx dy Q3 Q R d1 d2 ⟨ks, xs, k, e1, e2, q3⟩ q
  subst e2
  obtain ⟨a, o, rfl, _, g, hs, _, _⟩ := R.dget d2 e1 d1
  refine ⟨a, o, rfl, g, q _ H _ (fun _ _ h => h) .bl ?_⟩
  rw [hs]
  rw [eqN] at q3
  exact q3
theorem sr_dnotIn : SimR K rDNi (oDIn true) := by
  intro H0 A0 av ad Γ C σ H x y dx dy Q3 Q R d1 d2 ⟨ks, xs, k, e1, e2, q3⟩ q
  subst e2
  obtain ⟨a, o, rfl, _, g, hs, _, _⟩ := R.dget d2 e1 d1
  refine ⟨a, o, rfl, g, q _ H _ (fun _ _ h => h) .bl ?_⟩
  rw [hs]
  rw [eqP] at q3
  exact q3
/-- d.get(k), d.get(k, x) -/
def eDGet1 (Eo Ei : EV) : EV := fun Γ C Q => Eo Γ C fun x C1 => (∃ r, dkOf C1 x = some r) ∧ Ei Γ C1 fun y C2 => ∃ ks xs k, dkOf C2 x = some (ks, xs) ∧ y = kD k ∧ Q ((dAt k ks xs).getD .non) C2
def eDGet2 (Eo Ei Ef : EV) : EV := fun Γ C Q => Eo Γ C fun x C1 => (∃ r, dkOf C1 x = some r) ∧ Ei Γ C1 fun y C2 => Ef Γ C2 fun z C3 => ∃ ks xs k, dkOf C3 x = some (ks, xs) ∧ y = kD k ∧ Q ((dAt k ks xs).getD z) C3
theorem ve_dget1 (ho : VE K X o td Eo) (he : VE K X e ty Ei) (hu : X.A.units + 1 < cLine) (m : M1 X o "get" apos e cpos := by exact ⟨rfl, rfl, rfl, rfl⟩) : VE K X (.Call (.Attribute o "get" apos) [e] [] cpos) (tDGet1 td ty) (eDGet1 Eo Ei) := by
  refine ⟨pe_dget1 hu ho.pe he.pe m, fun H0 A0 av ad Γ C σ H Q3 Q R h q => ?_⟩
  refine ho.sim H0 A0 av ad Γ C σ H _ _ R h fun v H1 av1 ad1 d C1 R1 l1 d1 ⟨⟨⟨ks0, xs0⟩, e0⟩, h1⟩ => ?_
  obtain ⟨a0, kvs0, ea, rd0, _, _⟩ := R1.dk d1 e0
  subst ea
  refine ⟨a0, rfl, .inl ⟨kvs0, rd0⟩, ?_⟩
  refine he.sim H0 A0 av1 ad1 Γ C1 σ H1 _ _ R1 h1 fun u H2 av2 ad2 d2 C2 R2 l2 e2 ⟨ks, xs, k, e3, e4, h2⟩ => ?_
  subst e4
  obtain ⟨a, o, ea, _, g, hs, h3, h4⟩ := R2.dget (d1.le l2) e3 e2
  cases ea
  refine ⟨o, g, ?_⟩
  cases hd : dAt k ks xs with
  | none =>
    rw [hd] at h2
    rw [h4 hd]
    exact q .non H2 av2 ad2 .non C2 R2 (l1.trans l2) .non h2
  | some d' =>
    rw [hd] at h2
    obtain ⟨w, rfl, dw⟩ := h3 d' hd
    exact q w H2 av2 ad2 d' C2 R2 (l1.trans l2) dw h2
theorem ve_dget2 (ho : VE K X o td Eo) (he : VE K X e ty Ei) (hf : VE K X f tx Ef) (hu : X.A.units + 1 < cLine) (m : M2 X o "get" apos e f cpos := by exact ⟨rfl, rfl, rfl, rfl⟩) : VE K X (.Call (.Attribute o "get" apos) [e, f] [] cpos) (tDGet2 td ty tx) (eDGet2 Eo Ei Ef) := by
  refine ⟨pe_dget2 hu ho.pe he.pe hf.pe m, fun H0 A0 av ad Γ C σ H Q3 Q R h q => ?_⟩
  refine ho.sim H0 A0 av ad Γ C σ H _ _ R h fun v H1 av1 ad1 d C1 R1 l1 d1 ⟨⟨⟨ks0, xs0⟩, e0⟩, h1⟩ => ?_
  obtain ⟨a0, kvs0, ea, rd0, _, _⟩ := R1.dk d1 e0
  subst ea
  refine ⟨a0, rfl, .inl ⟨kvs0, rd0⟩, ?_⟩
  refine he.sim H0 A0 av1 ad1 Γ C1 σ H1 _ _ R1 h1 fun u H2 av2 ad2 d2 C2 R2 l2 e2 h2 => ?_
  refine hf.sim H0 A0 av2 ad2 Γ C2 σ H2 _ _ R2 h2 fun z H3 av3 ad3 dz C3 R3 l3 ez ⟨ks, xs, k, e3, e4, h5⟩ => ?_
  subst e4
  obtain ⟨a, o, ea, _, g, hs, h3, h4⟩ := R3.dget ((d1.le l2).le l3) e3 (e2.le l3)
  cases ea
  refine ⟨o, g, ?_⟩
  cases hd : dAt k ks xs with
  | none =>
    rw [hd] at h5
    rw [h4 hd]
    exact q z H3 av3 ad3 dz C3 R3 ((l1.trans l2).trans l3) ez h5
  | some d' =>
    rw [hd] at h5
    obtain ⟨w, rfl, dw⟩ := h3 d' hd
    exact q w H3 av3 ad3 d' C3 R3 ((l1.trans l2).trans l3) dw h5
/-- d[k] = v, d a cell -/
def gvSubD (Eo Ei : EV) : GV := fun d Γ C Q => Eo Γ C fun x C1 => Ei Γ C1 fun y C2 => ∃ (k : Nat) (ks : List Key) (xs : List D) (q : Key), x = .ptr k ∧ y = kD q ∧ C2[k]? = some (.dk ks xs) ∧ ks.length < sizeLine ∧ Q Γ (C2.set k (.dk (kPut q ks) (xPut q d ks xs)))
theorem vg_subD (hu : X.A.units + 1 < cLine) (ho : VE K X o td Eo) (hi : VE K X i ty Ei) (ha : ∀ v, assign (.Subscript o i pos) X.env v = (do
      let ov ← holding [v] (eval o X.env)
      let iv ← holding [v, ov] (eval i X.env)
      standAt pos
      holding [v, ov, iv] (setItem ov iv v)
      release [v, ov, iv] []) := by intro _; rfl) : VG K X (.Subscript o i pos) (gSub td ty rSetD) (gvSubD Eo Ei) := by
  refine ⟨pg_sub ho.pe hi.pe (set_dict hu) ha, fun H0 A0 av ad Γ C σ H v d Q3 Q R dv h q => ?_⟩
  refine ho.sim H0 A0 av ad Γ C σ H _ _ R h fun vo H1 av1 ad1 d1 C1 R1 l1 e1 h1 => ?_
  refine hi.sim H0 A0 av1 ad1 Γ C1 σ H1 _ _ R1 h1 fun vi H2 av2 ad2 d2 C2 R2 l2 e2 ⟨k, ks, xs, qk, e3, e4, e5, hl, h2⟩ => ?_
  subst e3 e4
  have e1' := e1.le l2
  cases e1' with
  | @ptr a _ hp =>
    obtain ⟨kvs, he, rfl, r⟩ := R2.cells k a _ hp e5
    have ek := den_kD e2
    have hlt : k < C2.length := (List.getElem?_eq_some_iff.mp e5).1
    have dv2 := (dv.le l1).le l2
    have fz : Fz av2 H2 av2 (upd H2 a (.dK (putK kvs qk v))) := fun b u h n => ⟨by rw [upd_ne (fun e => n (by rw [e]; exact R2.av_of hp))]; exact h, n⟩
    have R3 := R2.write (o := .dK (putK kvs qk v)) (c := .dk (kPut qk (kvs.map (·.1))) (xPut qk d (kvs.map (·.1)) xs)) hp hlt (fun _ z => nomatch z) fun f => ⟨_, upd_same, put_keys, (put_den r dv2).mono f Pre.refl⟩
    have l3 : Le av2 ad2 H2 av2 ad2 (upd H2 a (.dK (putK kvs qk v))) := ⟨fz, Pre.refl, fun b e => by
      by_cases q : b = a
      · subst q; rw [upd_same] at e; cases e
      · rw [upd_ne q] at e; exact e, fun _ h => h, fun _ h => .inl h, fun b u h n => by rw [upd_ne (fun e => n (by rw [e]; exact mem_ads hp))]; exact h⟩
    rw [List.length_map] at hl
    refine ⟨a, _, rfl, ?_, q av2 ad2 Γ _ σ _ R3 ((l1.trans l2).trans l3) h2⟩
    rw [ek]
    exact DPut.k he hl
/-- {k: v} -/
def fDisp1 (Ek Ev : EV) : FV := fun Γ C Q => Ek Γ C fun x C1 => Ev Γ C1 fun y C2 => ∃ k, x = kD k ∧ Q (.dk [k] [y]) C2
theorem vf_disp1 (hk : VE K X e tk Ek) (hv : VE K X f tv Ev) : VF K X (.Dict [some e] [f] pos) (tDisp [(tk, tv)]) (fDisp1 Ek Ev) := by
  refine ⟨pe_disp (pps_cons hk.pe hv.pe pps_nil) rfl rfl (by simp) (by simp), fun H0 A0 av ad Γ C σ H Q3 Q R h q p np => ?_⟩
  have n0 : H0 p = none := R.there p np
  have nad : some p ∉ ad := fun z => R.nav np (R.sub p z)
  have R1 : Rep K H0 A0 (fun b => av b ∨ b = p) ad Γ C σ (upd H p (.dK [])) := R.ban np (fun _ z => nomatch z)
  have l0 : Le av ad H (fun b => av b ∨ b = p) ad (upd H p (.dK [])) := by
    refine ⟨?_, Pre.refl, fun a e => ?_, fun _ h => .inl h, fun _ h => .inl h, fun a u h _ => same_upd np a u h⟩
    · exact fun a u h na => ⟨same_upd np a u h, fun z => z.elim na fun e => ne_of_none h np e⟩
    · by_cases h : a = p
      · subst h; exact np
      · rw [upd_ne h] at e; exact e
  refine hk.sim H0 A0 _ ad Γ C σ _ _ _ R1 h fun x H1 av1 ad1 dx C1 R2 l1 d1 h1 => ?_
  refine hv.sim H0 A0 av1 ad1 Γ C1 σ H1 _ _ R2 h1 fun y H2 av2 ad2 dy C2 R3 l2 d2 ⟨k, e, q3⟩ => ?_
  subst e
  have ek := den_kD (d1.le l2)
  have l12 := l1.trans l2
  have hp2 : H2 p = some (.dK []) := l12.kp p _ upd_same nad
  have pv2 : av2 p := l12.avm p (.inr rfl)
  have np2 : some p ∉ ad2 := fun z => (l12.adn p z).elim nad fun e => by rw [upd_same] at e; cases e
  refine ⟨hp2, [(k, y)], by rw [ek]; rfl, by simp, ?_⟩
  obtain ⟨R4, f4⟩ := R3.poke (o := .dK [(k, y)]) pv2 n0 np2 (fun _ z => nomatch z)
  have L := l0.trans l12
  have ok : CellOk K H0 av2 ad2 (upd H2 p (.dK [(k, y)])) p (.dk [k] [dy]) := ⟨[(k, y)], upd_same, rfl, .cons (d2.mono f4 Pre.refl) .nil⟩
  have L4 : Le av ad H av2 ad2 (upd H2 p (.dK [(k, y)])) := by
    refine ⟨L.fz.trans f4, L.pre, fun a e => ?_, L.avm, L.adn, fun a u h n => ?_⟩
    · by_cases h : a = p
      · subst h; exact np
      · rw [upd_ne h] at e; exact L.there a e
    · rw [upd_ne (ne_of_none h np)]; exact L.kp a u h n
  have ea : av2 = fun b => (av2 b ∧ b ≠ p) ∨ b = p := by
    funext b
    refine propext ⟨fun h => ?_, fun h => h.elim (fun z => z.1) fun z => by rw [z]; exact pv2⟩
    by_cases e : b = p
    · exact .inr e
    · exact .inl ⟨h, e⟩
  rw [ea] at R4 L4 ok
  exact q p _ (fun b => av2 b ∧ b ≠ p) ad2 (.dk [k] [dy]) C2 R4 (fun b hb => ⟨(R4.sub b hb).elim (fun z => z.1) fun z => by rw [z] at hb; exact absurd hb np2, fun z => np2 (by rw [← z]; exact hb)⟩) (fun z => z.2 rfl) np L4 ok q3
end
/-! ### repr of a number or None -/
section
variable {K : PySem.W.Frag} {X : Cx}
def rReprS : List V → Hp → VK → Prop := fun xs H Q => (∃ i, xs = [.int i] ∧ i.natAbs.log2 < 1920 ∧ Q (.str (toString i)) H) ∨ (xs = [.non] ∧ Q (.str "None") H)
theorem call_reprS : CallR X (.builtin "repr") rReprS := by
  intro pins s σ H xs us Q I r h
  rcases h with ⟨i, rfl, hz, q⟩ | ⟨rfl, q⟩
  · exact SkE.call_repr_int pins s σ H _ us Q I r ⟨i, rfl, hz, q⟩
  · obtain ⟨u, rfl, rfl⟩ := vals1 r
    exact PySem.P.repr_of_none ⟨.str _, H, I.tok _, ⟨_, rfl⟩, q⟩
def oReprS : ON := fun C ds Q => match ds with
  | [.int i] => i.natAbs.log2 < 1920 ∧ Q (.str (toString i))
  | [.non] => Q (.str "None")
  | _ => False
theorem sc_reprS : SimC K rReprS oReprS := by
  intro H0 A0 av ad Γ C σ H vs ds Q3 Q R d1 h q
  unfold oReprS at h
  split at h
  · obtain ⟨v, rfl, r⟩ := den1 d1
    exact .inl ⟨_, by rw [den_int r], h.1, q _ H _ (fun _ _ h => h) .str h.2⟩
  · obtain ⟨v, rfl, r⟩ := den1 d1
    cases r
    exact .inr ⟨rfl, q _ H _ (fun _ _ h => h) .str h⟩
  · exact h.elim
end
end L3

/-! list(zip(a, b)) -/
namespace L2
open PySem PySem.Spec PyProof.Rows
theorem zip_no_len : typeLookup (.type "zip") "__len__" = pure none := by rw [typeLookup_type, builtinLookup_eq_fast]; kernel_rfl
theorem zip_no_hint : typeLookup (.type "zip") "__length_hint__" = pure none := by rw [typeLookup_type, builtinLookup_eq_fast]; kernel_rfl
/-- the walk's state at turn i -/
def ZRun (z TI TO i1 i2 l1 l2 S : Addr) (xs ys : Array Value) (i : Nat) (h : Heap) : Prop :=
  IsPair h TI (.ref i1) (.ref i2) ∧ h.IsListIter i1 l1 i ∧ h.IsListIter i2 l2 i ∧ h.IsList l1 xs ∧ h.IsList l2 ys ∧
    ((IsZip h z TI TO .none ∧ ∃ a b, IsPair h TO a b) ∨ ∃ T f oT, IsZipHeld h z TI TO T f ∧ h.get? T = some oT ∧ T ≠ z ∧ T ≠ i1 ∧ T ≠ i2 ∧ T ≠ S)
/-- the pairs that were handed out -/
def ZOut (base : Nat) (xs ys : Array Value) (h : Heap) (Ts : List Addr) : Prop :=
  Ts.Nodup ∧ ∀ (j : Nat) (T : Addr), Ts[j]? = some T → base ≤ T ∧ ∃ x y, xs[j]? = some x ∧ ys[j]? = some y ∧ IsPair h T x y
section
variable {prog : Program} {w : World} {A : Around} {s : Shared} {z TI TO i1 i2 l1 l2 S : Addr} {xs ys : Array Value} {E : Value → Shared → Prop}
theorem ZRun.frame {i : Nat} {h h' : Heap} (k : ∀ b o, b ≠ S → h.get? b = some o → h'.get? b = some o) (d : S ∉ [z, TI, TO, i1, i2, l1, l2]) (st : ZRun z TI TO i1 i2 l1 l2 S xs ys i h) : ZRun z TI TO i1 i2 l1 l2 S xs ys i h' := by
  simp only [List.mem_cons, List.not_mem_nil, or_false, not_or] at d
  obtain ⟨dz, dTI, dTO, di1, di2, dl1, dl2⟩ := d
  obtain ⟨hTI, h1, h2, hl1, hl2, hz⟩ := st
  refine ⟨k _ _ (Ne.symm dTI) hTI, h1.at fun o e => k _ o (Ne.symm di1) e, h2.at fun o e => k _ o (Ne.symm di2) e, hl1.at fun o e => k _ o (Ne.symm dl1) e, hl2.at fun o e => k _ o (Ne.symm dl2) e, ?_⟩
  rcases hz with ⟨hz, a, b, hTO⟩ | ⟨T, f, oT, hz, hT, r1, r2, r3, r4⟩
  · exact .inl ⟨k _ _ (Ne.symm dz) hz, a, b, k _ _ (Ne.symm dTO) hTO⟩
  · exact .inr ⟨T, f, oT, k _ _ (Ne.symm dz) hz, k _ _ r4 hT, r1, r2, r3, r4⟩
theorem ZOut.at {base : Nat} {h h' : Heap} {Ts : List Addr} (k : ∀ b o, base ≤ b → h.get? b = some o → h'.get? b = some o) (z : ZOut base xs ys h Ts) : ZOut base xs ys h' Ts :=
  ⟨z.1, fun j T e => let ⟨b, x, y, e1, e2, p⟩ := z.2 j T e; ⟨b, x, y, e1, e2, k _ _ b p⟩⟩
theorem ZOut.push {base : Nat} {h : Heap} {Ts : List Addr} {T : Addr} {x y : Value} (z : ZOut base xs ys h Ts) (b : base ≤ T) (n : T ∉ Ts) (e1 : xs[Ts.length]? = some x) (e2 : ys[Ts.length]? = some y) (p : IsPair h T x y) : ZOut base xs ys h (Ts ++ [T]) := by
  refine ⟨List.nodup_append.mpr ⟨z.1, List.nodup_cons.mpr ⟨by simp, List.nodup_nil⟩, fun a ha b hb e => by simp at hb; subst e; subst hb; exact n ha⟩, fun j U e => ?_⟩
  by_cases hj : j < Ts.length
  · rw [List.getElem?_append_left hj] at e
    exact z.2 j U e
  · rw [List.getElem?_append_right (Nat.le_of_not_lt hj)] at e
    have : j - Ts.length = 0 := by
      have := (List.getElem?_eq_some_iff.mp e).1
      simp at this
      omega
    rw [this] at e
    simp at e
    subst e
    have ej : j = Ts.length := by omega
    subst ej
    exact ⟨b, x, y, e1, e2, p⟩
abbrev lsO (Ts : List Addr) (c : Nat) : Obj := { cls := .type "list", dict := none, data := .seq (Ts.map Value.ref).toArray c, slots := #[] }
theorem zl_loop {R : Result → Shared → Prop} (hh : A.in1.handled = none) (D : ZipApart z TI TO i1 i2 l1 l2) (hn : min xs.size ys.size ≤ sizeLine) (d : S ∉ [z, TI, TO, i1, i2, l1, l2]) (res : Value) (base : Nat) (bz : z < base) (bTO : TO < base) (b1 : i1 < base) (b2 : i2 < base) (bS : S < base) :
    ∀ (k i : Nat) (s : Shared) (Ts : List Addr) (c : Nat), min xs.size ys.size - i = k → i ≤ min xs.size ys.size → base ≤ s.heap.objs.size → ZRun z TI TO i1 i2 l1 l2 S xs ys i s.heap → s.heap.get? S = some (lsO Ts c) → Ts.length = i → ZOut base xs ys s.heap Ts →
    (∀ h' tk Ts' c', (∀ b o, b ∉ [S, z, TO, i1, i2] → s.heap.get? b = some o → h'.get? b = some o) → h'.get? S = some (lsO Ts' c') → Ts'.length = min xs.size ys.size → ZOut base xs ys h' Ts' → R (.ok (.ret res)) { s with heap := h', toks := tk }) →
    codeAny (model prog w) A (.builtin "list.extend.loop" ⟨[.ref S, .ref z, res], []⟩) R s := by
  have d' := d
  simp only [List.mem_cons, List.not_mem_nil, or_false, not_or] at d'
  obtain ⟨dz, dTI, dTO, di1, di2, dl1, dl2⟩ := d'
  intro k
  induction k with
  | zero =>
    intro i s Ts c hk hi hsz st hS hl hO hR
    have hin : i = min xs.size ys.size := by omega
    refine codeAny_builtin F.entry_extend_loop ?_
    rw [Around.under_plainId F.plain_extend_loop _]
    show wpAny _ A.in1 (pyNext (.ref z) >>= _) _ _ s
    obtain ⟨hTI, h1, h2, hl1, hl2, hz⟩ := st
    have hend : xs[i]? = none ∨ ys[i]? = none := by
      rcases Nat.le_total xs.size ys.size with h | h
      · exact .inl (Array.getElem?_eq_none (by rw [hin, Nat.min_eq_left h]; exact Nat.le_refl _))
      · exact .inr (Array.getElem?_eq_none (by rw [hin, Nat.min_eq_right h]; exact Nat.le_refl _))
    have fin : ∀ h', (∀ b o, b ≠ z → b ≠ TO → b ≠ i1 → b ≠ i2 → s.heap.get? b = some o → h'.get? b = some o) → R (.ok (.ret res)) { s with heap := h' } := fun h' hk' => by
      refine hR h' s.toks Ts c (fun b o hb e => hk' b o (fun q => hb (by simp [q])) (fun q => hb (by simp [q])) (fun q => hb (by simp [q])) (fun q => hb (by simp [q])) e) (hk' _ _ dz dTO di1 di2 hS) (hl.trans hin) (hO.at fun b o hb e => hk' b o (Nat.ne_of_gt (Nat.lt_of_lt_of_le bz hb)) (Nat.ne_of_gt (Nat.lt_of_lt_of_le bTO hb)) (Nat.ne_of_gt (Nat.lt_of_lt_of_le b1 hb)) (Nat.ne_of_gt (Nat.lt_of_lt_of_le b2 hb)) e)
    rcases hz with ⟨hz, a, b, hTO⟩ | ⟨T, f, oT, hz, hT, r1, r2, r3, r4⟩
    · exact wpAny_bind (wpAny_pyNext_zip_end hh D hz hTI hTO h1 h2 hl1 hl2 hend fun h' hk' => wpAny_pure (fin h' hk'))
    · exact wpAny_bind (wpAny_pyNext_zip_end_held hh D hz hT hTI h1 h2 hl1 hl2 hend fun h' hk' => wpAny_pure (fin h' fun b o q1 q2 q3 q4 e => hk' b o q1 q3 q4 e))
  | succ k ih =>
    intro i s Ts c hk hi hsz st hS hl hO hR
    have hlt : i < min xs.size ys.size := by omega
    have hix : i < xs.size := by omega
    have hiy : i < ys.size := by omega
    have ex := Array.getElem?_eq_getElem hix
    have ey := Array.getElem?_eq_getElem hiy
    refine codeAny_builtin F.entry_extend_loop ?_
    rw [Around.under_plainId F.plain_extend_loop _]
    show wpAny _ A.in1 (pyNext (.ref z) >>= _) _ _ s
    have step : ∀ h', (∃ T f oT, IsZipHeld h' z TI TO T f ∧ h'.get? T = some oT ∧ T ≠ z ∧ T ≠ i1 ∧ T ≠ i2 ∧ T ≠ S) → IsPair h' TI (.ref i1) (.ref i2) → h'.IsListIter i1 l1 (i + 1) → h'.IsListIter i2 l2 (i + 1) → h'.IsList l1 xs → h'.IsList l2 ys → IsPair h' s.heap.objs.size xs[i] ys[i] → h'.objs.size = s.heap.objs.size + 1 →
        (∀ b o, b ≠ z → b ≠ TO → b ≠ i1 → b ≠ i2 → s.heap.get? b = some o → h'.get? b = some o) →
        wpAny (model prog w) A.in1 (updateSeq S (·.push (Value.ref s.heap.objs.size)) >>= fun _ => again (.builtin "list.extend.loop" ⟨[.ref S, .ref z, res], []⟩))
          (fun fin s' => match fin with | .done f => R (.ok f) s' | .again c' => c'.quiet = true ∧ codeAny (model prog w) A c' R s') (fun e s' => R (.error e) s') { s with heap := h' } := by
      intro h' hz' hTI' h1' h2' hl1' hl2' hp hsz' hk'
      have hS' : h'.get? S = some (lsO Ts c) := hk' _ _ dz dTO di1 di2 hS
      have sz : (Ts.map Value.ref).toArray.size = i := by rw [List.size_toArray, List.length_map]; exact hl
      have sz1 : (Ts.map Value.ref).toArray.size ≤ sizeLine := by rw [sz]; exact Nat.le_trans hi hn
      have sz2 : ((Ts.map Value.ref).toArray.push (Value.ref s.heap.objs.size)).size ≤ sizeLine + 1 := by rw [Array.size_push, sz]; exact Nat.succ_le_succ (Nat.le_trans hi hn)
      refine wpAny_bind ?_
      refine wpAny_updateSeq (s := { s with heap := h' }) hS' rfl (wpAny_pure ⟨plainId_quiet F.plain_extend_loop _, ?_⟩) sz1 sz2
      have up : ∀ b o, b ≠ S → h'.get? b = some o → (h'.update S (Obj.mapSeq (·.push (Value.ref s.heap.objs.size)))).get? b = some o := fun b o hb e => (Heap.get?_update_other _ _ (fun q : S = b => hb q.symm)).trans e
      have st' : ZRun z TI TO i1 i2 l1 l2 S xs ys (i + 1) h' := ⟨hTI', h1', h2', hl1', hl2', .inr hz'⟩
      refine ih (i + 1) _ (Ts ++ [s.heap.objs.size]) _ (by omega) hlt ?_ (st'.frame up d) (by
        have := Heap.get?_update_self (Obj.mapSeq (·.push (Value.ref s.heap.objs.size))) hS' rfl
        rw [this]
        simp [Obj.mapSeq, lsO]
        rfl) (by simp [hl]) ?_ fun h'' tk Ts' c' hk'' hS'' hl'' hO'' => ?_
      · show base ≤ (h'.update S _).objs.size
        rw [Heap.size_update, hsz']
        omega
      · refine ZOut.push ?_ hsz (fun hm => ?_) (by rw [hl]; exact ex) (by rw [hl]; exact ey) (up _ _ (Nat.ne_of_gt (Nat.lt_of_lt_of_le bS hsz)) hp)
        · exact hO.at fun b o hb e => up b o (Nat.ne_of_gt (Nat.lt_of_lt_of_le bS hb)) (hk' b o (Nat.ne_of_gt (Nat.lt_of_lt_of_le bz hb)) (Nat.ne_of_gt (Nat.lt_of_lt_of_le bTO hb)) (Nat.ne_of_gt (Nat.lt_of_lt_of_le b1 hb)) (Nat.ne_of_gt (Nat.lt_of_lt_of_le b2 hb)) e)
        · obtain ⟨j, hj, e⟩ := List.mem_iff_getElem.mp hm
          obtain ⟨_, x, y, _, _, p⟩ := hO.2 j _ (List.getElem?_eq_getElem hj)
          rw [e] at p
          exact Nat.lt_irrefl _ (Heap.lt_size p)
      · refine hR h'' tk Ts' c' (fun b o hb e => ?_) hS'' hl'' hO''
        have hb' := hb
        simp only [List.mem_cons, List.not_mem_nil, or_false, not_or] at hb'
        exact hk'' b o hb (up b o hb'.1 (hk' b o hb'.2.1 hb'.2.2.1 hb'.2.2.2.1 hb'.2.2.2.2 e))
    obtain ⟨hTI, h1, h2, hl1, hl2, hz⟩ := st
    have lt : ∀ {c o}, s.heap.get? c = some o → s.heap.objs.size ≠ c := fun e => Nat.ne_of_gt (Heap.lt_size e)
    have n1 : s.heap.objs.size ≠ i1 := let ⟨_, e, _⟩ := h1; lt e
    have n2 : s.heap.objs.size ≠ i2 := let ⟨_, e, _⟩ := h2; lt e
    rcases hz with ⟨hz, a, b, hTO⟩ | ⟨T, f, oT, hz, hT, r1, r2, r3, r4⟩
    · refine wpAny_bind (wpAny_pyNext_zip_item D hz hTI hTO h1 h2 hl1 hl2 ex ey fun h' a1 a2 a3 a4 a5 a6 hk' => ?_)
      exact step h' ⟨s.heap.objs.size, false, _, a1, a5, lt hz, n1, n2, lt hS⟩ (hk' _ _ D.TIz D.TITO D.TIi1 D.TIi2 hTI) a3 a4 (hl1.at fun o e => hk' _ o D.l1z D.l1TO D.l1i1 D.l1i2 e) (hl2.at fun o e => hk' _ o D.l2z D.l2TO D.l2i1 D.l2i2 e) a5 a6 hk'
    · refine wpAny_bind (wpAny_pyNext_zip_item_held D hz hT hTI h1 h2 hl1 hl2 ex ey fun h' a1 a3 a4 a5 a6 hk' => ?_)
      exact step h' ⟨T, true, oT, a1, hk' _ _ r1 r2 r3 hT, r1, r2, r3, r4⟩ (hk' _ _ D.TIz D.TIi1 D.TIi2 hTI) a3 a4 (hl1.at fun o e => hk' _ o D.l1z D.l1i1 D.l1i2 e) (hl2.at fun o e => hk' _ o D.l2z D.l2i1 D.l2i2 e) a5 a6 fun b o q1 q2 q3 q4 e => hk' b o q1 q3 q4 e
theorem zl_hint {Q : Bool → Shared → Prop} (hT : s.TypeIs (.ref z) "zip") (h : Q true s) : wpAny (model prog w) A (Builtin.List.listLengthHint (.ref z)) Q E s := by
  unfold Builtin.List.listLengthHint
  refine wpAny_bind (wpAny_specialOf hT zip_no_len ?_)
  show wpAny _ A (specialOf (Value.ref z) (Str.ofString "__length_hint__") >>= _) _ _ _
  refine wpAny_bind (wpAny_specialOf hT zip_no_hint ?_)
  exact wpAny_pure h
theorem zl_extend {R : Result → Shared → Prop} (hh : A.handled = none) (D : ZipApart z TI TO i1 i2 l1 l2) (hn : min xs.size ys.size ≤ sizeLine) (d : S ∉ [z, TI, TO, i1, i2, l1, l2]) (res : Value) (base : Nat) (bz : z < base) (bTO : TO < base) (b1 : i1 < base) (b2 : i2 < base) (bS : S < base) (bs : base ≤ s.heap.objs.size)
    (st : ZRun z TI TO i1 i2 l1 l2 S xs ys 0 s.heap) (hz : IsZip s.heap z TI TO .none) (c₀ : Nat) (hS : s.heap.get? S = some { cls := .type "list", data := .seq #[] c₀ })
    (hR : ∀ h' tk Ts' c', (∀ b o, b ∉ [S, z, TO, i1, i2] → s.heap.get? b = some o → h'.get? b = some o) → h'.get? S = some (lsO Ts' c') → Ts'.length = min xs.size ys.size → ZOut base xs ys h' Ts' → R (.ok (.ret res)) { s with heap := h', toks := tk }) :
    wpAny (model prog w) A.in1 (Builtin.List.listExtendWith (.ref S) (.ref z) res)
      (fun fin s' => match fin with | .done f => R (.ok f) s' | .again c' => c'.quiet = true ∧ codeAny (model prog w) A c' R s') (fun e s' => R (.error e) s') s := by
  have hT : s.TypeIs (.ref z) "zip" := ⟨_, hz, rfl⟩
  have dz : S ≠ z := fun e => d (by simp [e])
  have key : ∀ (h : Heap) (c₁ : Nat), h.objs.size = s.heap.objs.size → (∀ b o, b ≠ S → s.heap.get? b = some o → h.get? b = some o) →
      h.get? S = some { cls := .type "list", data := .seq #[] c₁ } → codeAny (model prog w) A (.builtin "list.extend.loop" ⟨[.ref S, .ref z, res], []⟩) R { s with heap := h } := by
    intro h c₁ hsz hk hS₁
    refine zl_loop (A := A) hh D hn d res base bz bTO b1 b2 bS _ 0 { s with heap := h } [] c₁ rfl (Nat.zero_le _) (by show base ≤ h.objs.size; rw [hsz]; exact bs) (st.frame hk d) hS₁ rfl ⟨List.nodup_nil, fun j T e => by simp at e⟩ fun h' tk Ts' c' hk' hS' hl hO => ?_
    refine hR h' tk Ts' c' (fun b o hb e => hk' b o hb (hk b o (fun q => hb (by simp [q])) e)) hS' hl hO
  unfold Builtin.List.listExtendWith
  refine wpAny_bind (wpAny_typeOf (T := "zip") hT ?_)
  have h1 : Builtin.List.listSameRef (.ref S) (.ref z) = false := by simp [Builtin.List.listSameRef, dz]
  have h2 : (Value.type "zip" == Value.type "list") = false := by decide
  have h3 : (Value.type "zip" == Value.type "tuple") = false := by decide
  simp only [h1, h2, h3, Bool.or_false, Bool.false_eq_true, if_false]
  refine wpAny_bind (wpAny_pyIter_zip hz ?_)
  refine wpAny_bind (wpAny_holding (zl_hint hT ?_))
  refine wpAny_ite_split (fun _ => ?_) (fun _ => wpAny_pure ⟨plainId_quiet PySem.F.plain_extend_loop _, key s.heap c₀ rfl (fun _ _ _ e => e) hS⟩)
  refine wpAny_bind (wpAny_rule ?_)
  refine wpAny_bind ?_
  show wpAny _ _ (updateSeq S (·.push .none) >>= fun _ => updateSeq S (·.pop)) _ _ _
  refine wpAny_bind (wpAny_updateSeq hS rfl ?_)
  have hS₂ := Heap.get?_update_self (Obj.mapSeq (·.push Value.none)) hS rfl
  refine wpAny_updateSeq (hz := by seq_fits) hS₂ rfl ?_
  have hS₃ := Heap.get?_update_self (Obj.mapSeq (·.pop)) hS₂ rfl
  refine wpAny_pure ⟨plainId_quiet PySem.F.plain_extend_loop _, key _ _ (by rw [Heap.size_update, Heap.size_update]) (fun b o hb e => ?_) hS₃⟩
  exact (Heap.get?_update_other _ _ (Ne.symm hb)).trans ((Heap.get?_update_other _ _ (Ne.symm hb)).trans e)
theorem zl_call {Q : Value → Shared → Prop} (hh : A.handled = none) (D : ZipApart z TI TO i1 i2 l1 l2) (hn : min xs.size ys.size ≤ sizeLine) (bz : z < s.heap.objs.size) (bTI : TI < s.heap.objs.size) (bTO : TO < s.heap.objs.size) (b1 : i1 < s.heap.objs.size) (b2 : i2 < s.heap.objs.size) (bl1 : l1 < s.heap.objs.size) (bl2 : l2 < s.heap.objs.size)
    (hz : IsZip s.heap z TI TO .none) (hTI : IsPair s.heap TI (.ref i1) (.ref i2)) (hTO : ∃ a b, IsPair s.heap TO a b) (h1 : s.heap.IsListIter i1 l1 0) (h2 : s.heap.IsListIter i2 l2 0) (hl1 : s.heap.IsList l1 xs) (hl2 : s.heap.IsList l2 ys)
    (hQ : ∀ h' tk Ts' c', (∀ b o, b ∉ [z, TO, i1, i2] → s.heap.get? b = some o → h'.get? b = some o) → h'.get? s.heap.objs.size = some (lsO Ts' c') → Ts'.length = min xs.size ys.size → ZOut (s.heap.objs.size + 1) xs ys h' Ts' → Q (.ref s.heap.objs.size) { s with heap := h', toks := tk }) :
    wpAny (model prog w) A (call (.type "list") [.ref z]) Q E s := by
  refine callType_codes (Q₁ := fun obj s₁ => obj = .ref s.heap.objs.size ∧ s₁ = { s with heap := s.heap.push { cls := .type "list", data := .seq #[] } }) PySem.F.called_list (PySem.F.typeCall_list_1 _) PySem.F.entry_list_init
    (code_list_new _ ⟨rfl, rfl⟩) fun obj s₁ h₁ => ?_
  obtain ⟨rfl, rfl⟩ := h₁
  have hS : (s.heap.push { cls := .type "list", data := .seq #[] }).get? s.heap.objs.size = some { cls := .type "list", data := .seq #[] } := Heap.get?_push_size _ rfl
  have up : ∀ b o, s.heap.get? b = some o → (s.heap.push { cls := .type "list", data := .seq #[] }).get? b = some o := fun b o e => Heap.get?_push_of_some _ e
  refine ⟨⟨_, hS, rfl⟩, PySem.F.args_list_init_2 _ _, ?_⟩
  show wpAny _ _ (do let old ← Builtin.List.listItems (.ref s.heap.objs.size); Builtin.List.listUpdate (.ref s.heap.objs.size) (fun _ => #[]); letGo old.toList.reverse; Builtin.List.listExtendWith (.ref s.heap.objs.size) (.ref z) .none) _ _ _
  refine wpAny_bind ?_
  unfold Builtin.List.listItems
  refine wpAny_bind (wpAny_seqItems hS rfl (wpAny_pure ?_))
  show wpAny _ _ (updateSeq s.heap.objs.size (fun _ => #[]) >>= fun _ => letGo (#[] : Array Value).toList.reverse >>= fun _ => Builtin.List.listExtendWith (.ref s.heap.objs.size) (.ref z) .none) _ _ _
  refine wpAny_bind (wpAny_updateSeq hS rfl ?_)
  have hS₂ := Heap.get?_update_self (Obj.mapSeq (fun _ => (#[] : Array Value))) hS rfl
  have oth : ∀ b o, s.heap.get? b = some o → ((s.heap.push { cls := .type "list", data := .seq #[] }).update s.heap.objs.size (Obj.mapSeq (fun _ => (#[] : Array Value)))).get? b = some o :=
    fun b o e => (Heap.get?_update_other _ _ (Ne.symm (Nat.ne_of_lt (Heap.lt_size e)))).trans (up b o e)
  refine wpAny_bind (wpAny_letGo ?_)
  obtain ⟨a, b, hTO⟩ := hTO
  have hsz : ((s.heap.push { cls := .type "list", data := .seq #[] }).update s.heap.objs.size (Obj.mapSeq (fun _ => (#[] : Array Value)))).objs.size = s.heap.objs.size + 1 := by rw [Heap.size_update, Heap.size_push]
  refine zl_extend (A := A.in1) (s := { s with heap := (s.heap.push { cls := .type "list", data := .seq #[] }).update s.heap.objs.size (Obj.mapSeq (fun _ => (#[] : Array Value))) }) hh D hn (by
    simp only [List.mem_cons, List.not_mem_nil, or_false, not_or]
    exact ⟨Nat.ne_of_gt bz, Nat.ne_of_gt bTI, Nat.ne_of_gt bTO, Nat.ne_of_gt b1, Nat.ne_of_gt b2, Nat.ne_of_gt bl1, Nat.ne_of_gt bl2⟩) .none (s.heap.objs.size + 1) (Nat.lt_succ_of_lt bz) (Nat.lt_succ_of_lt bTO) (Nat.lt_succ_of_lt b1) (Nat.lt_succ_of_lt b2) (Nat.lt_succ_self _) (Nat.le_of_eq hsz.symm)
    ⟨oth _ _ hTI, h1.at fun o e => oth _ o e, h2.at fun o e => oth _ o e, hl1.at fun o e => oth _ o e, hl2.at fun o e => oth _ o e, .inl ⟨oth _ _ hz, a, b, oth _ _ hTO⟩⟩ (oth _ _ hz) _ hS₂ fun h' tk Ts' c' hk hS' hl hO => ?_
  refine ⟨rfl, hQ h' tk Ts' c' (fun b o hb e => hk b o (fun hm => ?_) (oth b o e)) hS' hl hO⟩
  rcases List.mem_cons.mp hm with q | q
  · exact absurd (Heap.lt_size e) (by rw [q]; exact Nat.lt_irrefl _)
  · exact hb q
end
/-! ### tracked -/
section
variable {X : Cx} {pins : List (Addr × Obj)} {σ : L2.St} {H : Hp} {s : Shared} {h' : Heap}
structure LaidBy (X : Cx) (H : Hp) (s : Shared) (h' : Heap) (H2 : Hp) : Prop where
  un : Un X.fs [] H H2 s.heap h'
  ok : HOk X.prog X.w H2 h'
  keep : ∀ c o, H c = some o → H2 c = some o
theorem LaidBy.start (I : Inv X pins σ H s) (k : ∀ b u, s.heap.get? b = some u → h'.get? b = some u) : LaidBy X H s h' H := ⟨Un.kept k, I.hok.kept k, fun _ _ e => e⟩
theorem LaidBy.step {H2 : Hp} {a : Addr} {o : HO} (L : LaidBy X H s h' H2) (hs : s.heap.objs.size ≤ a) (hn : H2 a = none) (new : ObjOk X.prog X.w (upd H2 a o) h' a o) : LaidBy X H s h' (upd H2 a o) := by
  have na : ∀ {b : Addr} {u : HO}, H b = some u → b ≠ a := fun e q => by subst q; rw [L.keep _ _ e] at hn; cases hn
  refine ⟨⟨L.un.keep, L.un.slot, fun b u q n hx => ?_, L.un.there, fun b xs q => ?_, fun b u xs q => ?_, fun b ps q => ?_⟩, fun b u e => ?_, fun c u e => ?_⟩
  · rw [upd_ne (Nat.ne_of_lt (Nat.lt_of_lt_of_le (Heap.lt_size q) hs))]; exact L.un.free b u q n hx
  · rw [upd_ne (na q)]; exact L.un.tups b xs q
  · rw [upd_ne (na q)]; exact L.un.frzs b u xs q
  · rw [upd_ne (na q)]; exact L.un.tbls b ps q
  · by_cases hb : b = a
    · subst hb; rw [upd_same] at e; cases e; exact new
    · rw [upd_ne hb] at e
      exact (L.ok b u e).stay (fun c v _ q => q) (fun c q => by rw [upd_ne (ne_of_none q hn)]; exact q) fun c xs q => by rw [upd_ne (ne_of_none q hn)]; exact q
  · rw [upd_ne (na e)]; exact L.keep c u e
/-- the pairs are laid -/
theorem LaidBy.pairs (I : Inv X pins σ H s) (k : ∀ b u, s.heap.get? b = some u → h'.get? b = some u) : ∀ (Ts : List Addr) (f : Nat → V × V), Ts.Nodup → (∀ (j : Nat) (T : Addr), Ts[j]? = some T → s.heap.objs.size ≤ T ∧ ∃ u v, RelV (f j).1 u ∧ RelV (f j).2 v ∧ IsPair h' T u v) →
    ∃ H2, LaidBy X H s h' H2 ∧ (∀ (j : Nat) (T : Addr), Ts[j]? = some T → H T = none ∧ H2 T = some (.tup [(f j).1, (f j).2])) ∧ ∀ c, H c = none → c ∉ Ts → H2 c = none := by
  intro Ts
  induction Ts with
  | nil => exact fun f _ _ => ⟨H, LaidBy.start I k, fun j T e => by simp at e, fun c e _ => e⟩
  | cons T Ts ih =>
    intro f nd hp
    obtain ⟨n1, n2⟩ := List.nodup_cons.mp nd
    obtain ⟨H2, L, h1, h2⟩ := ih (fun j => f (j + 1)) n2 (fun j U e => hp (j + 1) U (by simpa using e))
    obtain ⟨hs, u, v, r1, r2, p⟩ := hp 0 T rfl
    have hT : H T = none := I.hok.fresh hs
    have hn : H2 T = none := h2 T hT n1
    refine ⟨upd H2 T (.tup [(f 0).1, (f 0).2]), L.step hs hn ⟨by show 2 ≤ sizeLine; decide, [u, v], .cons r1 (.cons r2 .nil), ⟨_, p, rfl, _, rfl⟩⟩, fun j U e => ?_, fun c e hc => ?_⟩
    · cases j with
      | zero => simp at e; subst e; exact ⟨hT, upd_same⟩
      | succ j =>
        have e' : Ts[j]? = some U := by simpa using e
        refine ⟨(h1 j U e').1, ?_⟩
        rw [upd_ne (fun q => n1 (by rw [← q]; exact List.mem_of_getElem? e'))]
        exact (h1 j U e').2
    · rw [upd_ne (fun q => hc (by rw [q]; exact List.mem_cons_self ..))]
      exact h2 c e fun z => hc (List.mem_cons_of_mem _ z)
end
/-- list(zip(a, b)) of two lists -/
def tLstZip (K : PySem.W.Frag) (ta : TA) : TE := fun σ H Q => ta σ H fun vs H1 => ∃ a b xs ys, vs = [.ref a, .ref b] ∧ SqL K H1 a xs ∧ SqL K H1 b ys ∧
  ∀ (Ts : List Addr) (H2 : Hp) (l : Addr), (∀ c o, H1 c = some o → H2 c = some o) → Ts.length = min xs.length ys.length → (∀ (j : Nat) (T : Addr), Ts[j]? = some T → H1 T = none ∧ ∃ x y, xs[j]? = some x ∧ ys[j]? = some y ∧ H2 T = some (.tup [x, y])) → H2 l = none → Q (.ref l) (upd H2 l (.lst (Ts.map V.ref)))
theorem pe_listZip {X : Cx} {e e2 : Expr} {ta : TA} {p p2 pos pos2 : Pos} (hc : X.calm = true) (ml : X.mg "list" = none) (mz : X.mg "zip" = none) (ha : PA X [e, e2] ta) (hg : Gl X "list" := by rfl) (hg2 : Gl X "zip" := by rfl)
    (hs : starEach [e, e2] X.env = (false, eval e X.env) :: starEach [e2] X.env := by rfl) (hpl : (backTo pos2 (starEach [e2] X.env)).any (·.1) = false := by rfl)
    (nb : starEach [.Call (.Name "zip" p2) [e, e2] [] pos2] X.env = (false, eval (.Call (.Name "zip" p2) [e, e2] [] pos2) X.env) :: starEach [] X.env := by rfl) :
    PE X (.Call (.Name "list" p) [.Call (.Name "zip" p2) [e, e2] [] pos2] [] pos) (tLstZip X.K ta) := by
  refine ⟨fun pins s σ H Q I h => ?_⟩
  refine Call_ (ld_blt I hg ml boot_list (PyProof.Rows.callWith_type1 (args_cons ?_ nb) nb))
  refine Call_ (ld_blt I hg2 mz PyProof.Rows.boot_zip (PyProof.Rows.callWith_type1 (thn (ha.run pos2 pins s σ H _ I h) fun us s1 ⟨vs, H1, I1, r1, q1⟩ => ?_) hs hpl))
  obtain ⟨a, b, xs, ys, ex, hqx, hqy, q⟩ := q1
  subst ex
  cases r1 with
  | cons r rr =>
    cases rr with
    | cons r' rr =>
      cases rr
      cases r
      cases r'
      obtain ⟨its, rv, p1, z1⟩ := I1.list hqx
      obtain ⟨its2, rv2, p2, z2⟩ := I1.list hqy
      have la : a < s1.heap.objs.size := p1.lt
      have lb : b < s1.heap.objs.size := p2.lt
      have e1 := rv.length
      have e2 := rv2.length
      refine call_zip_2 p1.isList p2.isList fun h' hz hTI hTO h1 h2 hsz hk => args_nil ?_
      have lt : ∀ {c : Nat} (m : Nat), c < s1.heap.objs.size + m → m ≤ 5 → c < h'.objs.size := fun m q w => by rw [hsz]; omega
      have at_ : ∀ m : Nat, m < 5 → s1.heap.objs.size + m < h'.objs.size := fun m w => by rw [hsz]; omega
      refine zl_call (s := { s1 with heap := h' }) (I1.ok.hd hc) (PySem.W.ktu_apart s1.heap.objs.size a b la lb) (xs := its.toArray) (ys := its2.toArray) (by simp only [List.size_toArray]; omega) (at_ 4 (by decide)) (at_ 2 (by decide)) (at_ 3 (by decide)) (at_ 0 (by decide)) (at_ 1 (by decide)) (Nat.lt_of_lt_of_le la (by rw [hsz]; exact Nat.le_add_right _ _)) (Nat.lt_of_lt_of_le lb (by rw [hsz]; exact Nat.le_add_right _ _))
        hz hTI ⟨_, _, hTO⟩ h1 h2 (p1.isList.at fun o z => hk _ o z) (p2.isList.at fun o z => hk _ o z) fun h2' tk Ts c' hk2 hS hl hO => ?_
      have kk : ∀ b u, s1.heap.get? b = some u → h2'.get? b = some u := fun c u z => by
        have hlt := Heap.lt_size z
        refine hk2 c u (fun hm => ?_) (hk c u z)
        simp only [List.mem_cons, List.not_mem_nil, or_false] at hm
        rcases hm with e | e | e | e
        · rw [e] at hlt; exact absurd hlt (Nat.not_lt.mpr (Nat.le_add_right _ _))
        · rw [e] at hlt; exact absurd hlt (Nat.not_lt.mpr (Nat.le_add_right _ _))
        · rw [e] at hlt; exact Nat.lt_irrefl _ hlt
        · rw [e] at hlt; exact absurd hlt (Nat.not_lt.mpr (Nat.le_add_right _ _))
      have lT : Ts.length = min xs.length ys.length := by rw [hl]; simp only [List.size_toArray]; rw [e1, e2]
      have hgt : s1.heap.objs.size < h'.objs.size := at_ 0 (by decide)
      obtain ⟨H2, LB, hT, hfree⟩ := LaidBy.pairs I1 kk Ts (fun j => (xs[j]?.getD .non, ys[j]?.getD .non)) hO.1 (fun j T e => by
        obtain ⟨hb, u, v, q1, q2, ip⟩ := hO.2 j T e
        have hj : j < Ts.length := (List.getElem?_eq_some_iff.mp e).1
        have hx : xs[j]? = some xs[j] := List.getElem?_eq_getElem (by omega)
        have hy : ys[j]? = some ys[j] := List.getElem?_eq_getElem (by omega)
        obtain ⟨u', g1, g2⟩ := rv.get hx
        obtain ⟨v', g3, g4⟩ := rv2.get hy
        have q1' : its[j]? = some u := by simpa using q1
        have q2' : its2[j]? = some v := by simpa using q2
        rw [q1'] at g1
        rw [q2'] at g3
        cases g1
        cases g3
        refine ⟨Nat.le_of_lt (Nat.lt_of_lt_of_le hgt (Nat.le_of_succ_le hb)), u, v, ?_, ?_, ip⟩
        · rw [hx]; exact g2
        · rw [hy]; exact g4)
      have nS : h'.objs.size ∉ Ts := fun hm => by
        obtain ⟨j, hj, e⟩ := List.mem_iff_getElem.mp hm
        have := (hO.2 j _ (List.getElem?_eq_getElem hj)).1
        rw [e] at this
        exact Nat.not_succ_le_self _ this
      have hlS : s1.heap.objs.size ≤ h'.objs.size := Nat.le_of_lt hgt
      have hnS : H2 h'.objs.size = none := hfree _ (I1.hok.fresh hlS) nS
      have LB2 := LB.step (a := h'.objs.size) (o := .lst (Ts.map V.ref)) hlS hnS ⟨by rw [List.length_map]; omega, Ts.map Value.ref, c', vals_refs Ts, hS⟩
      refine ⟨V.ref h'.objs.size, _, I1.un (h' := h2') (t' := tk) LB2.un LB2.ok, rfl, q Ts H2 _ LB.keep lT (fun j T e => ?_) hnS⟩
      obtain ⟨w1, w2⟩ := hT j T e
      have hj : j < Ts.length := (List.getElem?_eq_some_iff.mp e).1
      have hx : xs[j]? = some xs[j] := List.getElem?_eq_getElem (by omega)
      have hy : ys[j]? = some ys[j] := List.getElem?_eq_getElem (by omega)
      refine ⟨w1, xs[j], ys[j], hx, hy, ?_⟩
      rw [w2, hx, hy]
      rfl
end L2
namespace L3
open PySem PySem.Spec PyProof.Rows L2
def fListZip (L : AV) : FV := fun Γ C Q => L Γ C fun ds C1 => ∃ d d' xs ys, ds = [d, d'] ∧ lstOf C1 d = some xs ∧ lstOf C1 d' = some ys ∧ Q (.lst (zipD xs ys)) C1
section
variable {K : PySem.W.Frag} {X : Cx} {e e2 : Expr} {tl : TA} {L : AV} {p p2 pos pos2 : Pos}
theorem den_zip {H0 : Hp} {av : Av} {ad : Ads} {H : Hp} : ∀ {vs us : List V} {xs ys : List D} {Ts : List Addr}, DenAll K H0 av ad H vs xs → DenAll K H0 av ad H us ys → Ts.length = min vs.length us.length →
    (∀ (j : Nat) (T : Addr), Ts[j]? = some T → ¬ av T ∧ ∃ x y, vs[j]? = some x ∧ us[j]? = some y ∧ H T = some (.tup [x, y])) → DenAll K H0 av ad H (Ts.map V.ref) (zipD xs ys)
  | _, _, _, _, Ts, .nil, _, h, _ => by
    have : Ts = [] := List.eq_nil_of_length_eq_zero (by simpa using h)
    subst this
    exact .nil
  | _, _, _, _, Ts, .cons _ _, .nil, h, _ => by
    have : Ts = [] := List.eq_nil_of_length_eq_zero (by simpa using h)
    subst this
    exact .nil
  | _, _, _, _, [], .cons _ _, .cons _ _, h, _ => by simp at h
  | _, _, _, _, T :: Ts, .cons a b, .cons c d, h, q => by
    obtain ⟨n, x, y, e1, e2, e3⟩ := q 0 T rfl
    simp at e1 e2
    subst e1 e2
    refine .cons (.tup ⟨e3, n⟩ (.cons a (.cons c .nil))) (den_zip b d (by simp at h ⊢; omega) fun j U e => ?_)
    obtain ⟨n', x', y', g1, g2, g3⟩ := q (j + 1) U (by simpa using e)
    exact ⟨n', x', y', by simpa using g1, by simpa using g2, g3⟩
theorem vf_listZip (hK : X.K = K) (hc : X.calm = true) (ml : X.mg "list" = none) (mz : X.mg "zip" = none) (h : VA K X [e, e2] tl L) (hg : Gl X "list" := by rfl) (hg2 : Gl X "zip" := by rfl)
    (hs : starEach [e, e2] X.env = (false, eval e X.env) :: starEach [e2] X.env := by rfl) (hpl : (backTo pos2 (starEach [e2] X.env)).any (·.1) = false := by rfl)
    (nb : starEach [.Call (.Name "zip" p2) [e, e2] [] pos2] X.env = (false, eval (.Call (.Name "zip" p2) [e, e2] [] pos2) X.env) :: starEach [] X.env := by rfl) :
    VF K X (.Call (.Name "list" p) [.Call (.Name "zip" p2) [e, e2] [] pos2] [] pos) (tLstZip K tl) (fListZip L) := by
  subst hK
  refine ⟨pe_listZip hc ml mz h.pa hg hg2 hs hpl nb, fun H0 A0 av ad Γ C σ H Q3 Q R h3 q => ?_⟩
  refine h.sim H0 A0 av ad Γ C σ H _ _ R h3 fun vs H1 av1 ad1 ds C1 R1 l1 dv ⟨d, d', xs, ys, e1, q1, q2, q3⟩ => ?_
  subst e1
  obtain ⟨v, v', rfl, r1, r2⟩ := den2 dv
  obtain ⟨a, us, rfl, g1, w1⟩ := R1.lst r1 q1
  obtain ⟨b, us', rfl, g2, w2⟩ := R1.lst r2 q2
  refine ⟨a, b, us, us', rfl, .inl g1, .inl g2, fun Ts H2 l kp hl hT hn => ?_⟩
  refine fin_new R1 l1 kp hn noTup_lst (c := .lst (zipD xs ys)) (den_zip (w1.le (Le.same kp)) (w2.le (Le.same kp)) hl fun j T e => ?_) q3 q
  obtain ⟨n, x, y, g3, g4, g5⟩ := hT j T e
  exact ⟨R1.nav n, x, y, g3, g4, g5⟩
end
@[simp] theorem u_fListZip {L : AV} {Γ : Slots} {C : Store} {Q : Cell → Store → Prop} : fListZip L Γ C Q = L Γ C fun ds C1 => ∃ d d' xs ys, ds = [d, d'] ∧ lstOf C1 d = some xs ∧ lstOf C1 d' = some ys ∧ Q (.lst (zipD xs ys)) C1 := rfl
end L3

/-! classes: instances made, fields read and set, methods called -/
namespace L3
open PySem PySem.Spec PyProof.Rows L2
theorem RoomG.make {k : Nat} {A : Around} (r : RoomG (k + 1) A) (C : Addr) (us : List Value) (kw : List (Str × Value)) : RoomG k (A.under (.builtin "type.__call__" ⟨.ref C :: us, kw⟩)) := ⟨r.rm.make C us kw, r.gd⟩
section
variable {X : Cx} {CX : CXT} {k : Nat} {f C : Addr} {fd : FuncData} {ps : List Str} {sp : Sp} {E : XK} {x m : Str} {p pos apos : Pos} {e o : Expr} {es : List Expr} {ta : TE} {t : TA}
theorem run_makeG {pins : List (Addr × Obj)} {σ : L2.St} {H : Hp} {s : Shared} {Q : VK} {us : List Value} {vs : List V} (M : Mk X.K C f) (F : FnOkG X.prog X.w X.K X.mg X.base CX k f fd ps sp) (hr : RoomG (k + 1) X.A) (hb : Binds X.K fd ps [])
    (hx : Passes CX X E) (I : Inv X pins σ H s) (r : Vals vs us)
    (h : ∀ x dx, H x = none → H dx = none → dx ≠ x → sp (.ref x :: vs) (upd (upd H dx (.own x)) x (.ins C dx [])) (fun v H2 => v = .non ∧ Q (.ref x) H2) E) :
    wpAny (model X.prog X.w) X.A (call (.ref C) us) (EP X pins σ Q) X.xe s := by
  have hq := h (s.heap.objs.size + 1) s.heap.objs.size (I.hok.fresh (Nat.le_succ _)) (I.hok.fresh (Nat.le_refl _)) (Nat.ne_of_lt (Nat.lt_succ_self _))
  have I2 := Inv.made (C := C) I
  have r2 : Vals (V.ref (s.heap.objs.size + 1) :: vs) (Value.ref (s.heap.objs.size + 1) :: us) := .cons rfl r
  have hl : (Value.ref (s.heap.objs.size + 1) :: us).length = ps.length := by
    have e := r2.length
    rw [F.len _ _ _ _ hq] at e
    exact e.symm
  have b := hb _ (Value.ref (s.heap.objs.size + 1) :: us) I2.kIn (by rw [List.append_nil]; exact hl)
  rw [List.append_nil] at b
  refine wpAny_call (make_map (f := f) I.kIn M.makes M.init (beq_iff_eq.mp M.fn) (codeAny_mono (F.run _ X.stack _ _ ⟨Value.ref (s.heap.objs.size + 1) :: us, []⟩ (Value.ref (s.heap.objs.size + 1) :: us) _ _ E (hr.make C us [])
    (I2.env0.make C us []) b r2 hq) fun r s' hq' => ?_))
  cases r with
  | error e => exact hx pins σ _ _ e s' I2 hq'
  | ok fl =>
    cases fl with
    | ret u =>
      obtain ⟨v, H', I3, rv, ev, q3⟩ := I2.after hq'
      subst ev
      exact ⟨rv, ⟨V.ref (s.heap.objs.size + 1), H', I3, rfl, q3⟩⟩
    | next => exact False.elim hq'
    | brk => exact False.elim hq'
    | cont => exact False.elim hq'
theorem pe_makeG (M : Mk X.K C f) (F : FnOkG X.prog X.w X.K X.mg X.base CX k f fd ps sp) (hr : RoomG (k + 1) X.A) (hg : Gl X x) (hm : X.mg x = some (.ref C)) (hb : Binds X.K fd ps []) (hx : Passes CX X E)
    (ha : PA X (e :: es) t) (hdb : (x == ("__debug__" : Str)) = false := by decide) (he : starEach (e :: es) X.env = (false, eval e X.env) :: starEach es X.env := by rfl) (hpl : (backTo pos (starEach es X.env)).any (·.1) = false := by rfl) :
    PE X (.Call (.Name x p) (e :: es) [] pos) (tMake C sp [] E t) := by
  refine ⟨fun pins s σ H Q I h => ?_⟩
  refine wpAny_Call_Name_kw (ld_glob I hg hm ?_ hdb)
  refine PySem.W.callWith_K (h₀ := X.base) I.ok.mod.kin M.kp (thn (ha.run pos pins s σ H _ I h) fun us s1 ⟨vs, H1, I1, r, q⟩ => ⟨I1.kIn, ?_⟩) he hpl
  exact run_makeG M F hr hb hx I1 r fun x dx n1 n2 n3 => by
    have := q x dx n1 n2 n3
    rw [List.append_nil] at this
    exact this
theorem pe_makeG0 (M : Mk X.K C f) (F : FnOkG X.prog X.w X.K X.mg X.base CX k f fd ps sp) (hr : RoomG (k + 1) X.A) (hg : Gl X x) (hm : X.mg x = some (.ref C)) (hb : Binds X.K fd ps []) (hx : Passes CX X E)
    (hdb : (x == ("__debug__" : Str)) = false := by decide) : PE X (.Call (.Name x p) [] [] pos) (tMake C sp [] E tNil) := by
  refine ⟨fun pins s σ H Q I h => ?_⟩
  refine wpAny_Call_Name_kw (ld_glob I hg hm ?_ hdb)
  exact PySem.W.callWith_K0 I.kIn M.kp (run_makeG (us := []) (vs := []) M F hr hb hx I .nil fun x dx n1 n2 n3 => h x dx n1 n2 n3)
theorem pe_methG {pl : Sem Bool} (he : PE X o ta) (c : Cls X.K C) (hm : Meth X.K C m f) (F : FnOkG X.prog X.w X.K X.mg X.base CX k f fd ps sp) (hr : RoomG k X.A) (hb : Binds X.K fd ps []) (hx : Passes CX X E) (ha : PA X (e :: es) t)
    (hst : starEach (e :: es) X.env = (false, eval e X.env) :: starEach es X.env := by rfl) (hpl : (backTo pos (starEach es X.env)).any (·.1) = false := by rfl)
    (ht : eval (.Call (.Attribute o m apos) (e :: es) [] pos) X.env = (do
      let ov ← eval o X.env
      standAt apos.atName
      let (f, first) ← holding [ov] (getMethod ov m pl)
      callWith pos f first (backTo pos (starEach (e :: es) X.env)) (backToKw pos (keywordEach [] X.env))) := by rfl) :
    PE X (.Call (.Attribute o m apos) (e :: es) [] pos) (tMeth C m sp [] E ta t) := by
  refine ⟨fun pins s σ H Q I h => ?_⟩
  refine PySem.W.methodCall_KW (pl := pl) (thn (he.run pins s σ H _ I h) fun u s1 ⟨x, H1, I1, rx, a, dx, fs, ex, ea, l, q⟩ => ?_) ht
  subst ex
  obtain rfl : u = Value.ref a := rx
  refine getmeth_ok I1 ea c hm l ?_
  refine PySem.W.callWith_K (first := [.ref a]) (h₀ := X.base) I.ok.mod.kin hm.kp (thn (ha.run pos pins s1 σ H1 _ I1 q) fun us s2 ⟨vs, H2, I2, r, q2⟩ => ⟨I2.kIn, ?_⟩) hst hpl
  have q2 : sp (.ref a :: (vs ++ [])) H2 Q E := q2
  rw [List.append_nil] at q2
  exact run_g (us := .ref a :: us) (vs := .ref a :: vs) F hr hb hx I2 (.cons rfl r) q2
theorem pe_methG0 {pl : Sem Bool} (he : PE X o ta) (c : Cls X.K C) (hm : Meth X.K C m f) (F : FnOkG X.prog X.w X.K X.mg X.base CX k f fd ps sp) (hr : RoomG k X.A) (hb : Binds X.K fd ps []) (hx : Passes CX X E)
    (ht : eval (.Call (.Attribute o m apos) [] [] pos) X.env = (do
      let ov ← eval o X.env
      standAt apos.atName
      let (f, first) ← holding [ov] (getMethod ov m pl)
      callWith pos f first (backTo pos (starEach [] X.env)) (backToKw pos (keywordEach [] X.env))) := by rfl) :
    PE X (.Call (.Attribute o m apos) [] [] pos) (tMeth C m sp [] E ta tNil) := by
  refine ⟨fun pins s σ H Q I h => ?_⟩
  refine PySem.W.methodCall_KW (pl := pl) (thn (he.run pins s σ H _ I h) fun u s1 ⟨x, H1, I1, rx, a, dx, fs, ex, ea, l, q⟩ => ?_) ht
  subst ex
  obtain rfl : u = Value.ref a := rx
  refine getmeth_ok I1 ea c hm l ?_
  exact PySem.W.callWith_K0 (first := [.ref a]) I1.kIn hm.kp (run_g (us := [.ref a]) (vs := [.ref a]) F hr hb hx I1 (.cons rfl .nil) q)
end
/-! ### readings -/
/-- a field of an instance -/
def fldOf : List Str → List D → Str → Option D
  | n :: ns, x :: xs, f => if f = n then some x else fldOf ns xs f
  | _, _, _ => none
def putN (f : Str) : List Str → List Str
  | [] => [f]
  | n :: ns => if n = f then n :: ns else n :: putN f ns
def putX (f : Str) (d : D) : List Str → List D → List D
  | [], _ => [d]
  | n :: ns, x :: xs => if n = f then d :: xs else x :: putX f d ns xs
  | _ :: _, [] => []
section
variable {K : PySem.W.Frag} {H0 : Hp} {av : Av} {ad : Ads} {H : Hp}
theorem fld_den : ∀ {fs : List (Str × V)} {xs : List D} {f : Str} {d : D}, DenAll K H0 av ad H (fs.map (·.2)) xs → fldOf (fs.map (·.1)) xs f = some d → ∃ v, fs.lookup f = some v ∧ Den K H0 av ad H v d
  | [], _, f, d, _, e => by simp [fldOf] at e
  | (n, v) :: fs, _, f, d, .cons (d := x) (ds := xs) a b, e => by
    simp only [List.map_cons, fldOf] at e
    by_cases h : f = n
    · rw [if_pos h] at e
      cases e
      have hb : (f == n) = true := beq_iff_eq.mpr h
      exact ⟨v, by simp only [List.lookup, hb], a⟩
    · rw [if_neg h] at e
      have hb : (f == n) = false := beq_eq_false_iff_ne.mpr h
      obtain ⟨u, h1, h2⟩ := fld_den b e
      exact ⟨u, by simp only [List.lookup, hb]; exact h1, h2⟩
theorem fld_none : ∀ {fs : List (Str × V)} {f : Str}, f ∉ fs.map (·.1) → fs.lookup f = none
  | [], _, _ => rfl
  | (n, v) :: fs, f, h => by
    simp only [List.map_cons, List.mem_cons, not_or] at h
    have hb : (f == n) = false := beq_eq_false_iff_ne.mpr h.1
    simp only [List.lookup, hb]
    exact fld_none h.2
theorem put_names : ∀ (fs : List (Str × V)) (f : Str) (v : V), (putF f v fs).map (·.1) = putN f (fs.map (·.1))
  | [], _, _ => rfl
  | (n, x) :: fs, f, v => by
    simp only [putF, List.map_cons, putN]
    split
    · rfl
    · rw [List.map_cons, put_names fs f v]
theorem putF_den {v : V} {d : D} (r : Den K H0 av ad H v d) : ∀ {fs : List (Str × V)} {xs : List D} (f : Str), DenAll K H0 av ad H (fs.map (·.2)) xs → DenAll K H0 av ad H ((putF f v fs).map (·.2)) (putX f d (fs.map (·.1)) xs)
  | [], _, f, .nil => .cons r .nil
  | (n, x) :: fs, _, f, .cons a b => by
    simp only [putF, List.map_cons, putX]
    split
    · exact .cons r b
    · exact .cons a (putF_den r f b)
end
/-- an instance: a cell or data -/
def insOf (C : Store) : D → Option (Str × List Str × List D)
  | .obj nm ns xs => some (nm, ns, xs)
  | .ptr k => match C[k]? with
    | some (.ins nm ns xs) => some (nm, ns, xs)
    | _ => none
  | _ => none
def eFld (nm f : Str) (E : EV) : EV := fun Γ C Q => E Γ C fun d C1 => ∃ (d' : D) (ns : List Str) (xs : List D) (v : D), d = d' ∧ insOf C1 d' = some (nm, ns, xs) ∧ fldOf ns xs f = some v ∧ Q v C1
def sFldS (nm f : Str) (Eo Ev : EV) : SV := fun D Γ C => Ev Γ C fun y C1 => Eo Γ C1 fun x C2 => ∃ k ns xs, x = .ptr k ∧ C2[k]? = some (.ins nm ns xs) ∧ ns.length < 1000 ∧ D.nx Γ (C2.set k (.ins nm (putN f ns) (putX f y ns xs)))
/-- an instance made; __init__ writes to it -/
def eMake (nm : Str) (P : PV) (L : AV) : EV := fun Γ C Q => L Γ C fun ds C1 =>
  P (views [C1.length] (C1 ++ [.ins nm [] []]) (.ptr C1.length :: ds)) (viewC [C1.length] (C1 ++ [.ins nm [] []])) fun d Cc => d = .non ∧ (∀ c, c ∈ Cc → c.okC (fun o => !o) = true) ∧
    Q (.ptr C1.length) (putS [C1.length] (Cc.map (backs [C1.length])) (C1 ++ [.ins nm [] []]))
/-- a method of an instance -/
def eMeth (nm m : Str) (P : PV) (Eo : EV) (L : AV) : EV := fun Γ C Q => Eo Γ C fun x C1 => ∃ k ns xs, x = .ptr k ∧ C1[k]? = some (.ins nm ns xs) ∧ m ∉ ns ∧ L Γ C1 fun ds C2 => (∃ c, C2[k]? = some c ∧ c ≠ Cell.dead) ∧
  P (views [k] C2 (.ptr k :: ds)) (viewC [k] C2) fun d Cc => noold d = true ∧ (∀ c, c ∈ Cc → c.okC (fun o => !o) = true) ∧ Q (mapW id (backG [k]) d) (putS [k] (Cc.map (backs [k])) C2)
section
variable {K : PySem.W.Frag} {H0 : Hp} {A0 : List Addr} {av : Av} {ad : Ads} {Γ : Slots} {C : Store} {σ : L2.St} {H : Hp}
theorem Rep.insCell (R : Rep K H0 A0 av ad Γ C σ H) {k : Nat} {v : V} {nm : Str} {ns : List Str} {xs : List D} (x : Den K H0 av ad H v (.ptr k)) (hc : C[k]? = some (.ins nm ns xs)) :
    ∃ a dx fs, v = .ref a ∧ ad[k]? = some (some a) ∧ H a = some (.ins (He.ga K nm) dx fs) ∧ fs.map (·.1) = ns ∧ DenAll K H0 av ad H (fs.map (·.2)) xs := by
  cases x with
  | ptr h =>
    obtain ⟨dx, fs, e, n, r⟩ := R.cells k _ _ h hc
    exact ⟨_, dx, fs, rfl, h, e, n, r⟩
end
section
variable {K : PySem.W.Frag} {H0 : Hp} {A0 : List Addr} {av : Av} {ad : Ads} {Γ : Slots} {C : Store} {σ : L2.St} {H : Hp}
theorem Rep.insD (R : Rep K H0 A0 av ad Γ C σ H) {v : V} {d : D} {nm : Str} {ns : List Str} {xs : List D} (x : Den K H0 av ad H v d) (e : insOf C d = some (nm, ns, xs)) :
    ∃ a dx fs, v = .ref a ∧ H a = some (.ins (He.ga K nm) dx fs) ∧ fs.map (·.1) = ns ∧ DenAll K H0 av ad H (fs.map (·.2)) xs := by
  cases d with
  | obj nm' ns' xs' =>
    cases e
    cases x with
    | obj r n k y => exact ⟨_, _, _, rfl, r, k, y⟩
  | ptr k =>
    simp only [insOf] at e
    split at e
    · rename_i hc
      cases e
      obtain ⟨a, dx, fs, h1, _, h3, h4, h5⟩ := R.insCell x hc
      exact ⟨a, dx, fs, h1, h3, h4, h5⟩
    · cases e
  | bad => cases e
  | non => cases e
  | bl _ => cases e
  | int _ => cases e
  | str _ => cases e
  | lst _ _ => cases e
  | tup _ => cases e
  | dk _ _ _ => cases e
  | dt _ _ _ => cases e
end
/-- a method that only reads -/
def eMethR (nm m : Str) (P : PV) (Eo : EV) (L : AV) : EV := fun Γ C Q => Eo Γ C fun x C1 => (∃ ns xs, insOf C1 x = some (nm, ns, xs) ∧ m ∉ ns) ∧ L Γ C1 fun ds C2 => P (views [] C2 (x :: ds)) [] fun d _ => (noold d && noptr d) = true ∧ Q d C2
section
variable {K : PySem.W.Frag} {X : Cx} {e o value : Expr} {es : List Expr} {ta tv : TE} {Eo Ev : EV} {tl : TA} {L : AV} {nm f m x : Str} {pos pos' p apos : Pos} {k : Nat} {fa : Addr} {fd : FuncData} {ps : List Str} {P : PV}
theorem ve_fld (hK : X.K = K) (c : Cls K (He.ga K nm)) (n : NoAttr K (He.ga K nm) f) (h : VE K X o ta Eo) (hb : attributeBase o f X.env (eval o X.env) = eval o X.env := by rfl) : VE K X (.Attribute o f pos) (tFld K ta f) (eFld nm f Eo) := by
  subst hK
  refine ⟨pe_fld h.pe hb, fun H0 A0 av ad Γ C σ H Q3 Q R h3 q => ?_⟩
  refine h.sim H0 A0 av ad Γ C σ H _ _ R h3 fun v H1 av1 ad1 d C1 R1 l1 dv ⟨d', ns, xs, u, e1, e2, e3, q3⟩ => ?_
  subst e1
  obtain ⟨a, dx, fs, rfl, hH, hn, r⟩ := R1.insD dv e2
  subst hn
  obtain ⟨w, h1, h2⟩ := fld_den r e3
  exact ⟨a, _, dx, fs, w, rfl, hH, c, n, h1, q w H1 av1 ad1 u C1 R1 l1 h2 q3⟩
theorem vs_fld (hK : X.K = K) (c : Cls K (He.ga K nm)) (n : NoAttr K (He.ga K nm) f) (ho : VE K X o ta Eo) (hv : VE K X value tv Ev) (hs : swapsWith value (some (.Attribute o f pos')) pos.line X.env = pure false := by rfl) :
    VS K X (.Assign [.Attribute o f pos'] value pos) (sFld K ta tv f) (sFldS nm f Eo Ev) := by
  subst hK
  refine ⟨ps_fld ho.pe hv.pe hs, fun H0 A0 av ad Γ C σ H D3 D R h3 l => ?_⟩
  refine hv.sim H0 A0 av ad Γ C σ H _ _ R h3 fun v H1 av1 ad1 d C1 R1 l1 dv h4 => ?_
  refine ho.sim H0 A0 av1 ad1 Γ C1 σ H1 _ _ R1 h4 fun u H2 av2 ad2 d2 C2 R2 l2 dv2 ⟨k, ns, xs, e1, e2, e3, q3⟩ => ?_
  subst e1
  obtain ⟨a, dx, fs, rfl, ha, hH, hn, r⟩ := R2.insCell dv2 e2
  subst hn
  have hlt : k < C2.length := (List.getElem?_eq_some_iff.mp e2).1
  refine ⟨a, _, dx, fs, rfl, hH, c, n, by simpa using e3, ?_⟩
  have fz : Fz av2 H2 av2 (upd H2 a (.ins (He.ga X.K nm) dx (putF f v fs))) := fun b u h n => ⟨by rw [upd_ne (fun e => n (by rw [e]; exact R2.av_of ha))]; exact h, n⟩
  refine l.nx av2 ad2 Γ _ σ _ (R2.write (c := .ins nm (putN f (fs.map (·.1))) (putX f d (fs.map (·.1)) xs)) ha hlt (fun _ z => nomatch z) fun g => ⟨dx, _, upd_same, put_names fs f v, (putF_den (dv.le l2) f r).mono g Pre.refl⟩) ((l1.trans l2).trans ⟨fz, Pre.refl, fun b e => ?_, fun _ h => h, fun _ h => .inl h, fun b u h n => by rw [upd_ne (fun e => n (by rw [e]; exact mem_ads ha))]; exact h⟩) q3
  by_cases q : b = a
  · subst q; rw [upd_same] at e; cases e
  · rw [upd_ne q] at e; exact e
theorem sim_make (hK : X.K = K) (hl : SimA K tl L) (E : XK) : SimE K (tMake (He.ga K nm) (Sp3 K 1 P) [] E tl) (eMake nm P L) := fun H0 A0 av ad Γ C σ H Q3 Q R h q => by
  refine hl H0 A0 av ad Γ C σ H _ _ R h fun vs H1 av1 ad1 ds C1 R1 l1 dv hp => ?_
  intro x dx nx nd ne
  rw [List.append_nil]
  have nx2 : upd H1 dx (.own x) x = none := by rw [upd_ne (fun e => ne e.symm)]; exact nx
  have R2 : Rep K H0 A0 av1 ad1 Γ C1 σ (upd H1 dx (.own x)) := R1.new nd
  have R3 := R2.ban (o := .ins (He.ga K nm) dx []) nx2 (fun _ z => nomatch z)
  have np : some x ∉ ad1 := fun z => R1.dom _ (R1.sub _ z) nx
  have R4 := R3.push (c := .ins nm [] []) (R1.there x nx) np R1.sub ⟨dx, [], upd_same, rfl, .nil⟩
  have pr : Pre ad1 (ad1 ++ [some x]) := fun k a h => by
    have hlt : k < ad1.length := (List.getElem?_eq_some_iff.mp h).1
    rw [List.getElem?_append_left hlt]; exact h
  have keepH : ∀ a o, H1 a = some o → upd (upd H1 dx (.own x)) x (.ins (He.ga K nm) dx []) a = some o := fun a o e => by
    rw [upd_ne (ne_of_none e nx), upd_ne (ne_of_none e nd)]; exact e
  have l2 : Le av1 ad1 H1 (fun a => av1 a ∨ a = x) (ad1 ++ [some x]) (upd (upd H1 dx (.own x)) x (.ins (He.ga K nm) dx [])) := ⟨fun a o e na => ⟨keepH a o e, fun z => z.elim na fun w => ne_of_none e nx w⟩, pr, (fun a e => by
    cases w : H1 a with
    | none => rfl
    | some o => (rw [keepH a o w] at e; cases e)), fun _ z => .inl z, fun a z => by
      rcases List.mem_append.mp z with z | z
      · exact .inl z
      · simp at z; subst z; exact .inr nx, fun a o e _ => keepH a o e⟩
  have dx4 : Den K H0 (fun a => av1 a ∨ a = x) (ad1 ++ [some x]) (upd (upd H1 dx (.own x)) x (.ins (He.ga K nm) dx [])) (.ref x) (.ptr C1.length) := .ptr (by
    rw [← R1.len, List.getElem?_append_right (Nat.le_refl _), Nat.sub_self]; rfl)
  refine R4.call (ks := [C1.length]) (vs := .ref x :: vs) (ds := .ptr C1.length :: ds) (Q3 := fun d C' => d = .non ∧ Q3 (.ptr C1.length) C') (.cons dx4 (dv.le l2)) (List.nodup_cons.mpr ⟨by simp, List.nodup_nil⟩) (fun k hk => ?_) hp (fun d Cc _ ⟨e, ok, q4⟩ => ?_) (fun v H' C' d R' l' den _ _ ⟨e, q4⟩ => ?_) E
  · simp at hk
    subst hk
    exact ⟨.ins nm [] [], by rw [List.getElem?_append_right (Nat.le_refl _), Nat.sub_self]; rfl, fun z => nomatch z⟩
  · subst e
    exact ⟨rfl, ok, rfl, q4⟩
  · subst e
    exact ⟨den_non den, q _ H' _ _ _ C' R' ((l1.trans l2).trans l') (dx4.mono l'.fz l'.pre) q4⟩
theorem ve_make {f : Addr} (hK : X.K = K) (M : Mk K (He.ga K nm) f) (F : FnOkG X.prog X.w K X.mg X.base CX0 k f fd ps (Sp3 K 1 P)) (hr : RoomG (k + 1) X.A) (hm : X.mg nm = some (.ref (He.ga K nm))) (hb : Binds K fd ps []) (ha : VA K X (e :: es) tl L) (hg : Gl X nm := by rfl)
    (hdb : (nm == ("__debug__" : Str)) = false := by decide) (he : starEach (e :: es) X.env = (false, eval e X.env) :: starEach es X.env := by rfl) (hpl : (backTo pos (starEach es X.env)).any (·.1) = false := by rfl) :
    VE K X (.Call (.Name nm p) (e :: es) [] pos) (tMake (He.ga K nm) (Sp3 K 1 P) [] E0 tl) (eMake nm P L) := by
  subst hK
  exact ⟨pe_makeG M F hr hg hm hb pass0 ha.pa hdb he hpl, sim_make rfl ha.sim E0⟩
theorem ve_make0 {f : Addr} (hK : X.K = K) (M : Mk K (He.ga K nm) f) (F : FnOkG X.prog X.w K X.mg X.base CX0 k f fd ps (Sp3 K 1 P)) (hr : RoomG (k + 1) X.A) (hm : X.mg nm = some (.ref (He.ga K nm))) (hb : Binds K fd ps []) (hg : Gl X nm := by rfl)
    (hdb : (nm == ("__debug__" : Str)) = false := by decide) :
    VE K X (.Call (.Name nm p) [] [] pos) (tMake (He.ga K nm) (Sp3 K 1 P) [] E0 tNil) (eMake nm P aNil) := by
  subst hK
  exact ⟨pe_makeG0 M F hr hg hm hb pass0 hdb, sim_make rfl (va_nil (X := X)).sim E0⟩
theorem sim_meth (ho : SimE K ta Eo) (hl : SimA K tl L) (E : XK) : SimE K (tMeth (He.ga K nm) m (Sp3 K 1 P) [] E ta tl) (eMeth nm m P Eo L) := fun H0 A0 av ad Γ C σ H Q3 Q R h q => by
  refine ho H0 A0 av ad Γ C σ H _ _ R h fun v H1 av1 ad1 d C1 R1 l1 dv ⟨k, ns, xs, e1, e2, e3, h4⟩ => ?_
  subst e1
  obtain ⟨a, dx, fs, rfl, ha, hH, hn, r⟩ := R1.insCell dv e2
  subst hn
  refine ⟨a, dx, fs, rfl, hH, fld_none e3, ?_⟩
  refine hl H0 A0 av1 ad1 Γ C1 σ H1 _ _ R1 h4 fun vs H2 av2 ad2 ds C2 R2 l2 dvs ⟨hc, hp⟩ => ?_
  rw [List.append_nil]
  refine R2.call (ks := [k]) (vs := .ref a :: vs) (ds := .ptr k :: ds) (Q3 := fun d C' => Q3 d C') (.cons (dv.le l2) dvs) (List.nodup_cons.mpr ⟨by simp, List.nodup_nil⟩) (fun j hj => ?_) hp (fun d Cc _ h5 => h5) (fun v H' C' d R' l' x _ _ q3 => q v H' av2 ad2 d C' R' ((l1.trans l2).trans l') x q3) E
  simp at hj
  subst hj
  exact hc
theorem sim_methR (ho : SimE K ta Eo) (hl : SimA K tl L) (E : XK) : SimE K (tMeth (He.ga K nm) m (Sp3 K 0 P) [] E ta tl) (eMethR nm m P Eo L) := fun H0 A0 av ad Γ C σ H Q3 Q R h q => by
  refine ho H0 A0 av ad Γ C σ H _ _ R h fun v H1 av1 ad1 d C1 R1 l1 dv ⟨⟨ns, xs, e2, e3⟩, h4⟩ => ?_
  obtain ⟨a, dx, fs, rfl, hH, hn, r⟩ := R1.insD dv e2
  subst hn
  refine ⟨a, dx, fs, rfl, hH, fld_none e3, ?_⟩
  refine hl H0 A0 av1 ad1 Γ C1 σ H1 _ _ R1 h4 fun vs H2 av2 ad2 ds C2 R2 l2 dvs hp => ?_
  rw [List.append_nil]
  refine R2.call (ks := []) (vs := .ref a :: vs) (ds := d :: ds) (Q3 := fun d C' => Q3 d C') (.cons (dv.le l2) dvs) List.nodup_nil (fun _ z => nomatch z) hp (fun d Cc hC ⟨h2, h3⟩ => ?_) (fun v H' C' d R' l' x _ _ q3 => q v H' av2 ad2 d C' R' ((l1.trans l2).trans l') x q3) E
  simp only [Bool.and_eq_true] at h2
  refine ⟨h2.1, fun c hc => ?_, ?_⟩
  · rw [List.length_nil, List.length_eq_zero_iff] at hC
    rw [hC] at hc
    simp at hc
  · rw [mapW_np.1 d h2.2]
    exact h3
theorem ve_methR {f : Addr} {pl : Sem Bool} (hK : X.K = K) (c : Cls K (He.ga K nm)) (M : Meth K (He.ga K nm) m f) (F : FnOkG X.prog X.w K X.mg X.base CX0 k f fd ps (Sp3 K 0 P)) (hr : RoomG k X.A) (hb : Binds K fd ps []) (ho : VE K X o ta Eo) (ha : VA K X (e :: es) tl L)
    (hst : starEach (e :: es) X.env = (false, eval e X.env) :: starEach es X.env := by rfl) (hpl : (backTo pos (starEach es X.env)).any (·.1) = false := by rfl)
    (ht : eval (.Call (.Attribute o m apos) (e :: es) [] pos) X.env = (do
      let ov ← eval o X.env
      standAt apos.atName
      let (f, first) ← holding [ov] (getMethod ov m pl)
      callWith pos f first (backTo pos (starEach (e :: es) X.env)) (backToKw pos (keywordEach [] X.env))) := by rfl) :
    VE K X (.Call (.Attribute o m apos) (e :: es) [] pos) (tMeth (He.ga K nm) m (Sp3 K 0 P) [] E0 ta tl) (eMethR nm m P Eo L) := by
  subst hK
  exact ⟨pe_methG ho.pe c M F hr hb pass0 ha.pa hst hpl ht, sim_methR ho.sim ha.sim E0⟩
theorem ve_methR0 {f : Addr} {pl : Sem Bool} (hK : X.K = K) (c : Cls K (He.ga K nm)) (M : Meth K (He.ga K nm) m f) (F : FnOkG X.prog X.w K X.mg X.base CX0 k f fd ps (Sp3 K 0 P)) (hr : RoomG k X.A) (hb : Binds K fd ps []) (ho : VE K X o ta Eo)
    (ht : eval (.Call (.Attribute o m apos) [] [] pos) X.env = (do
      let ov ← eval o X.env
      standAt apos.atName
      let (f, first) ← holding [ov] (getMethod ov m pl)
      callWith pos f first (backTo pos (starEach [] X.env)) (backToKw pos (keywordEach [] X.env))) := by rfl) :
    VE K X (.Call (.Attribute o m apos) [] [] pos) (tMeth (He.ga K nm) m (Sp3 K 0 P) [] E0 ta tNil) (eMethR nm m P Eo aNil) := by
  subst hK
  exact ⟨pe_methG0 ho.pe c M F hr hb pass0 ht, sim_methR ho.sim (va_nil (X := X)).sim E0⟩
theorem ve_meth {f : Addr} {pl : Sem Bool} (hK : X.K = K) (c : Cls K (He.ga K nm)) (M : Meth K (He.ga K nm) m f) (F : FnOkG X.prog X.w K X.mg X.base CX0 k f fd ps (Sp3 K 1 P)) (hr : RoomG k X.A) (hb : Binds K fd ps []) (ho : VE K X o ta Eo) (ha : VA K X (e :: es) tl L)
    (hst : starEach (e :: es) X.env = (false, eval e X.env) :: starEach es X.env := by rfl) (hpl : (backTo pos (starEach es X.env)).any (·.1) = false := by rfl)
    (ht : eval (.Call (.Attribute o m apos) (e :: es) [] pos) X.env = (do
      let ov ← eval o X.env
      standAt apos.atName
      let (f, first) ← holding [ov] (getMethod ov m pl)
      callWith pos f first (backTo pos (starEach (e :: es) X.env)) (backToKw pos (keywordEach [] X.env))) := by rfl) :
    VE K X (.Call (.Attribute o m apos) (e :: es) [] pos) (tMeth (He.ga K nm) m (Sp3 K 1 P) [] E0 ta tl) (eMeth nm m P Eo L) := by
  subst hK
  exact ⟨pe_methG ho.pe c M F hr hb pass0 ha.pa hst hpl ht, sim_meth ho.sim ha.sim E0⟩
theorem ve_meth0 {f : Addr} {pl : Sem Bool} (hK : X.K = K) (c : Cls K (He.ga K nm)) (M : Meth K (He.ga K nm) m f) (F : FnOkG X.prog X.w K X.mg X.base CX0 k f fd ps (Sp3 K 1 P)) (hr : RoomG k X.A) (hb : Binds K fd ps []) (ho : VE K X o ta Eo)
    (ht : eval (.Call (.Attribute o m apos) [] [] pos) X.env = (do
      let ov ← eval o X.env
      standAt apos.atName
      let (f, first) ← holding [ov] (getMethod ov m pl)
      callWith pos f first (backTo pos (starEach [] X.env)) (backToKw pos (keywordEach [] X.env))) := by rfl) :
    VE K X (.Call (.Attribute o m apos) [] [] pos) (tMeth (He.ga K nm) m (Sp3 K 1 P) [] E0 ta tNil) (eMeth nm m P Eo aNil) := by
  subst hK
  exact ⟨pe_methG0 ho.pe c M F hr hb pass0 ht, sim_meth ho.sim (va_nil (X := X)).sim E0⟩
end
/-! ### a def as one that calls it wants it -/
def CalM (P : Program) (w : World) (K : PySem.W.Frag) (mg : Str → Option Value) (base : Heap) (k : Nat) (cl m : Str) (ps : List Str) (n : Nat) (Pv : PV) : Prop :=
  ∃ (f : Addr) (fd : FuncData), FnOkG P w K mg base CX0 k f fd ps (Sp3 K n Pv) ∧ Meth K (He.ga K cl) m f ∧ Binds K fd ps []
def CalI (P : Program) (w : World) (K : PySem.W.Frag) (mg : Str → Option Value) (base : Heap) (k : Nat) (cl : Str) (ps : List Str) (Pv : PV) : Prop :=
  ∃ (f : Addr) (fd : FuncData), FnOkG P w K mg base CX0 k f fd ps (Sp3 K 1 Pv) ∧ Mk K (He.ga K cl) f ∧ mg cl = some (.ref (He.ga K cl)) ∧ Binds K fd ps []
section
theorem monos_nil (vs : List V) (σ : L2.St) (H : Hp) (Q Q' : L2.St → Hp → Prop) (h : ∀ σ H, Q σ H → Q' σ H) (q : gNil vs σ H Q) : gNil vs σ H Q' := ⟨q.1, h _ _ q.2⟩
theorem monos_cons {g : TG} {gs : TGs} (a : ∀ (v : V) (σ : L2.St) (H : Hp) (Q Q' : L2.St → Hp → Prop), (∀ σ H, Q σ H → Q' σ H) → g v σ H Q → g v σ H Q') (b : ∀ (v : List V) (σ : L2.St) (H : Hp) (Q Q' : L2.St → Hp → Prop), (∀ σ H, Q σ H → Q' σ H) → gs v σ H Q → gs v σ H Q')
    (vs : List V) (σ : L2.St) (H : Hp) (Q Q' : L2.St → Hp → Prop) (h : ∀ σ H, Q σ H → Q' σ H) (q : gCons g gs vs σ H Q) : gCons g gs vs σ H Q' := by
  obtain ⟨v, r, e, q⟩ := q
  exact ⟨v, r, e, a v σ H _ _ (fun σ' H' z => b r σ' H' _ _ h z) q⟩
theorem mono_tup {K : PySem.W.Frag} {n : Nat} {gs : TGs} (b : ∀ (v : List V) (σ : L2.St) (H : Hp) (Q Q' : L2.St → Hp → Prop), (∀ σ H, Q σ H → Q' σ H) → gs v σ H Q → gs v σ H Q')
    (v : V) (σ : L2.St) (H : Hp) (Q Q' : L2.St → Hp → Prop) (h : ∀ σ H, Q σ H → Q' σ H) (q : gTup K n gs v σ H Q) : gTup K n gs v σ H Q' := by
  obtain ⟨a, xs, e1, e2, e3, q⟩ := q
  exact ⟨a, xs, e1, e2, e3, b xs σ H _ _ h q⟩
end
section
variable {nm f m : Str} {E Eo Ev : EV} {L : AV} {P : PV} {Γ : Slots} {C : Store} {Q : D → Store → Prop} {De : En}
@[simp] theorem u_eFld : eFld nm f E Γ C Q = E Γ C fun d C1 => ∃ (d' : D) (ns : List Str) (xs : List D) (v : D), d = d' ∧ insOf C1 d' = some (nm, ns, xs) ∧ fldOf ns xs f = some v ∧ Q v C1 := rfl
@[simp] theorem u_sFldS : sFldS nm f Eo Ev De Γ C = Ev Γ C fun y C1 => Eo Γ C1 fun x C2 => ∃ k ns xs, x = .ptr k ∧ C2[k]? = some (.ins nm ns xs) ∧ ns.length < 1000 ∧ De.nx Γ (C2.set k (.ins nm (putN f ns) (putX f y ns xs))) := rfl
@[simp] theorem u_eMake : eMake nm P L Γ C Q = L Γ C fun ds C1 =>
  P (views [C1.length] (C1 ++ [.ins nm [] []]) (.ptr C1.length :: ds)) (viewC [C1.length] (C1 ++ [.ins nm [] []])) fun d Cc => d = .non ∧ (∀ c, c ∈ Cc → c.okC (fun o => !o) = true) ∧
    Q (.ptr C1.length) (putS [C1.length] (Cc.map (backs [C1.length])) (C1 ++ [.ins nm [] []])) := rfl
@[simp] theorem u_eMethR : eMethR nm m P Eo L Γ C Q = Eo Γ C fun x C1 => (∃ ns xs, insOf C1 x = some (nm, ns, xs) ∧ m ∉ ns) ∧ L Γ C1 fun ds C2 => P (views [] C2 (x :: ds)) [] fun d _ => (noold d && noptr d) = true ∧ Q d C2 := rfl
@[simp] theorem u_eMeth : eMeth nm m P Eo L Γ C Q = Eo Γ C fun x C1 => ∃ k ns xs, x = .ptr k ∧ C1[k]? = some (.ins nm ns xs) ∧ m ∉ ns ∧ L Γ C1 fun ds C2 => (∃ c, C2[k]? = some c ∧ c ≠ Cell.dead) ∧
  P (views [k] C2 (.ptr k :: ds)) (viewC [k] C2) fun d Cc => noold d = true ∧ (∀ c, c ∈ Cc → c.okC (fun o => !o) = true) ∧ Q (mapW id (backG [k]) d) (putS [k] (Cc.map (backs [k])) C2) := rfl
end
/-! ### {}, list(range(a, b)) -/
def fDk0 : FV := fun _ C Q => Q (.dk [] []) C
def fDt0 : FV := fun _ C Q => Q (.dt [] []) C
def fListRange2 (E F : EV) : FV := fun Γ C Q => E Γ C fun d C1 => F Γ C1 fun d' C2 => ∃ i j : Int, d = .int i ∧ d' = .int j ∧ 0 ≤ i ∧ 0 ≤ j ∧ i ≤ 2 ^ 24 ∧ j ≤ 2 ^ 24 ∧ Q (.lst (rgI i (j - i).toNat)) C2
section
variable {K : PySem.W.Frag} {X : Cx} {e f : Expr} {te tf : TE} {E F : EV} {p p2 pos pos2 : Pos}
theorem vf_dk0 : VF K X (.Dict [] [] pos) tDNewK fDk0 := ⟨pe_dnewK, fun H0 A0 av ad Γ C σ H Q3 Q R h q p np => fin_new R Le.refl (fun _ _ h => h) np noTup_dk (c := .dk [] []) ⟨rfl, .nil⟩ h q⟩
theorem vf_dt0 : VF K X (.Dict [] [] pos) tDNewT fDt0 := ⟨pe_dnewT, fun H0 A0 av ad Γ C σ H Q3 Q R h q p np => fin_new R Le.refl (fun _ _ h => h) np noTup_dt (c := .dt [] []) ⟨rfl, .nil⟩ h q⟩
theorem den_rg2 {H0 : Hp} {av : Av} {ad : Ads} {H : Hp} {i j : Int} : DenAll K H0 av ad H (rgV i j) (rgI i (j - i).toNat) := by
  unfold rgV rgI
  generalize List.range (j - i).toNat = l
  induction l with
  | nil => exact .nil
  | cons k l ih => exact .cons .int ih
theorem vf_listRange2 (hc : X.calm = true) (ml : X.mg "list" = none) (mr : X.mg "range" = none) (h : VE K X e te E) (h' : VE K X f tf F) (hg : Gl X "list" := by rfl) (hg2 : Gl X "range" := by rfl) (na : starEach [e, f] X.env = (false, eval e X.env) :: starEach [f] X.env := by rfl) (na2 : starEach [f] X.env = (false, eval f X.env) :: starEach [] X.env := by rfl)
    (hp : (backTo pos2 (starEach [f] X.env)).any (·.1) = false := by rfl) (nb : starEach [.Call (.Name "range" p2) [e, f] [] pos2] X.env = (false, eval (.Call (.Name "range" p2) [e, f] [] pos2) X.env) :: starEach [] X.env := by rfl) :
    VF K X (.Call (.Name "list" p) [.Call (.Name "range" p2) [e, f] [] pos2] [] pos) (tLstRg (tRg2 te tf)) (fListRange2 E F) := by
  refine ⟨pe_listRg hc hg ml (prg_2 hg2 mr h.pe h'.pe na na2 hp) nb, fun H0 A0 av ad Γ C σ H Q3 Q R h3 q => ?_⟩
  refine h.sim H0 A0 av ad Γ C σ H _ _ R h3 fun v H1 av1 ad1 d C1 R1 l1 d1 h4 => ?_
  refine h'.sim H0 A0 av1 ad1 Γ C1 σ H1 _ _ R1 h4 fun u H2 av2 ad2 d' C2 R2 l2 d2 ⟨i, j, e1, e2, b1, b2, b3, b4, q3⟩ => ?_
  subst e1 e2
  exact ⟨i, j, den_int d1, den_int d2, ⟨by omega, by omega, by omega, by omega, by omega⟩, fun r nr => fin_new R2 (l1.trans l2) (fun _ _ h => h) nr noTup_lst (c := .lst _) den_rg2 q3 q⟩
end
@[simp] theorem u_fDk0 {Γ : Slots} {C : Store} {Q : Cell → Store → Prop} : fDk0 Γ C Q = Q (.dk [] []) C := rfl
@[simp] theorem u_fDt0 {Γ : Slots} {C : Store} {Q : Cell → Store → Prop} : fDt0 Γ C Q = Q (.dt [] []) C := rfl
@[simp] theorem u_fListRange2 {E F : EV} {Γ : Slots} {C : Store} {Q : Cell → Store → Prop} : fListRange2 E F Γ C Q = E Γ C fun d C1 => F Γ C1 fun d' C2 => ∃ i j : Int, d = .int i ∧ d' = .int j ∧ 0 ≤ i ∧ 0 ≤ j ∧ i ≤ 2 ^ 24 ∧ j ≤ 2 ^ 24 ∧ Q (.lst (rgI i (j - i).toNat)) C2 := rfl
end L3

/-! min of a list of alike data (lists of numbers) -/
namespace L2
open PySem PySem.W PySem.Spec PyProof.Rows
theorem minD_in (x : PyData) : ∀ xs : List PyData, minD x xs ∈ x :: xs := by
  intro xs
  unfold minD
  induction xs generalizing x with
  | nil => simp
  | cons y xs ih =>
    rw [List.foldl_cons]
    have h := ih (if dataLt y x then y else x)
    rcases List.mem_cons.mp h with h | h
    · rw [h]
      split <;> simp
    · exact List.mem_cons_of_mem _ (List.mem_cons_of_mem _ h)
theorem readsAll_get {h : Heap} : ∀ {vs : List Value} {ds : List PyData} {as : List Addr} {i : Nat} {v : Value}, ReadsAll h vs ds as → vs[i]? = some v → ∃ d bs, ds[i]? = some d ∧ Reads h v d bs
  | _, _, _, _, _, .nil, e => by simp at e
  | _, _, _, 0, _, .cons r _, e => by simp at e; subst e; exact ⟨_, _, rfl, r⟩
  | _, _, _, i + 1, _, .cons _ rs, e => by
    obtain ⟨d, bs, h1, h2⟩ := readsAll_get (i := i) rs (by simpa using e)
    exact ⟨d, bs, by simpa using h1, h2⟩
def rMinD (K : PySem.W.Frag) : List V → Hp → VK → Prop := fun xs H Q => ∃ (a : Addr) (us : List V) (p : PyData) (ps : List PyData), xs = [.ref a] ∧ SqL K H a us ∧ DpAll K H us (p :: ps) ∧ AlikeAll (p :: ps) ∧ PyData.depthAll (p :: ps) ≤ 60 ∧
  ∀ (i : Nat) (v : V), us[i]? = some v → (p :: ps)[i]? = some (minD p ps) → Q v H
theorem call_minDR {X : Cx} (hc : X.calm = true) (hu : X.A.units + 65 < cLine) : CallR X (.builtin "min") (rMinD X.K) := by
  intro pins s σ H xs us Q I r h
  obtain ⟨a, ws, p, ps, rfl, hs, hd, ha, hz, q⟩ := h
  obtain ⟨u, rfl, ru⟩ := vals1 r
  obtain rfl : u = Value.ref a := ru
  obtain ⟨its, rv, pl, _⟩ := I.list hs
  obtain ⟨as, hr⟩ := Dp.readsAll I (p :: ps) ws its hd rv
  refine min_list_data (I.ok.hd hc) pl.isList hr ha (by omega) fun i v h' tk bs hi rd hk => ?_
  have hi' : its[i]? = some v := by simpa using hi
  obtain ⟨d, bs', e1, r1⟩ := readsAll_get hr hi'
  have e2 : d = minD p ps := alike_unique d (minD p ps) v bs' bs (ha.1 d (List.mem_of_getElem? e1) _ (minD_in p ps)) (reads_keeps hk r1) rd
  subst e2
  have hw : i < ws.length := by rw [rv.length]; exact (List.getElem?_eq_some_iff.mp hi').1
  obtain ⟨v', g1, g2⟩ := rv.get (List.getElem?_eq_getElem hw)
  rw [hi'] at g1
  cases g1
  exact ⟨ws[i], H, I.kept hk, g2, q i _ (List.getElem?_eq_getElem hw) e1⟩
end L2
namespace L3
open PySem PySem.W PySem.Spec PyProof.Rows L2
def oMinD : ON := fun C ds Q => ∃ (d : D) (xs : List D) (p : PyData) (ps : List PyData), ds = [d] ∧ lstOf C d = some xs ∧ pyWs (pyG C 2) xs = some (p :: ps) ∧ AlikeAll (p :: ps) ∧ PyData.depthAll (p :: ps) ≤ 60 ∧
  ∀ (i : Nat) (x : D), xs[i]? = some x → (p :: ps)[i]? = some (minD p ps) → Q x
section
variable {K : PySem.W.Frag} {X : Cx}
theorem sc_minD : SimC K (rMinD K) oMinD := by
  intro H0 A0 av ad Γ C σ H vs ds Q3 Q R d1 ⟨d, xs, p, ps, e1, e2, e3, ha, hz, q3⟩ q
  subst e1
  obtain ⟨v, rfl, r⟩ := den1 d1
  obtain ⟨a, us, rfl, h1, r1⟩ := R.lst r e2
  refine ⟨a, us, p, ps, rfl, .inl h1, R.dps r1 e3, ha, hz, fun i w hw hm => ?_⟩
  obtain ⟨x, e4, r4⟩ := r1.get' hw
  exact q w H x (fun _ _ h => h) r4 (q3 i x e4 hm)
theorem call_minD (hK : X.K = K) (hc : X.calm = true) (hu : X.A.units + 65 < cLine) : CallR X (.builtin "min") (rMinD K) := by subst hK; exact call_minDR hc hu
end
/-! ### lists of numbers, ordered -/
def lexI : List Int → List Int → Bool
  | _, [] => false
  | [], _ :: _ => true
  | a :: as, b :: bs => if a = b then lexI as bs else decide (a < b)
def asP (l : List Int) : PyData := .list (l.map .int)
theorem one_lex (a b : Int) (l m : List (Int ⊕ List Nat)) : PyProof.Rows.lexLt itemOrd (.inl a :: l) (.inl b :: m) = if a = b then PyProof.Rows.lexLt itemOrd l m else decide (a < b) := by
  by_cases h : a = b
  · rw [if_pos h, h]
    exact PyProof.Rows.lex_self (O := itemOrd) _ l m
  · rw [if_neg h, lex_atom (fun q => h (Sum.inl.inj q)) l m, ← dataLt_int a b]
    rfl
theorem lex_lists : ∀ as bs : List Int, PyProof.Rows.lexLt itemOrd (keyToksAll (as.map .int)) (keyToksAll (bs.map .int)) = lexI as bs
  | [], [] => by
    simp only [List.map_nil, keyToksAll]
    rw [one_lex, if_pos rfl]
    rfl
  | [], b :: bs => by
    simp only [List.map_nil, List.map_cons, keyToksAll]
    rw [one_lex]
    rfl
  | a :: as, [] => by
    simp only [List.map_nil, List.map_cons, keyToksAll]
    rw [one_lex]
    rfl
  | a :: as, b :: bs => by
    simp only [List.map_cons, keyToksAll, keyToks, List.cons_append, List.nil_append]
    rw [one_lex, if_pos rfl, one_lex, lex_lists as bs]
    rfl
theorem lt_asP (as bs : List Int) : dataLt (asP as) (asP bs) = lexI as bs := by
  unfold asP
  rw [dataLt_list, lex_lists]
theorem lexI_irr : ∀ a : List Int, lexI a a = false
  | [] => rfl
  | x :: a => by unfold lexI; rw [if_pos rfl]; exact lexI_irr a
theorem lexI_tri : ∀ a b : List Int, lexI a b = false → lexI b a = false → a = b
  | [], [], _, _ => rfl
  | [], b :: bs, h, _ => by simp [lexI] at h
  | a :: as, [], _, h => by simp [lexI] at h
  | a :: as, b :: bs, h1, h2 => by
    unfold lexI at h1 h2
    by_cases e : a = b
    · subst e
      rw [if_pos rfl] at h1 h2
      rw [lexI_tri as bs h1 h2]
    · rw [if_neg e] at h1
      rw [if_neg (fun q => e q.symm)] at h2
      simp only [decide_eq_false_iff_not] at h1 h2
      omega
theorem lexI_trans : ∀ a b c : List Int, lexI a b = true → lexI b c = true → lexI a c = true
  | _, [], _, h, _ => by cases ‹List Int› <;> simp [lexI] at h
  | _, _ :: _, [], _, h => by simp [lexI] at h
  | [], _ :: _, _ :: _, _, _ => rfl
  | a :: as, b :: bs, c :: cs, h1, h2 => by
    unfold lexI at h1 h2 ⊢
    by_cases e : a = b
    · subst e
      rw [if_pos rfl] at h1
      by_cases e2 : a = c
      · rw [if_pos e2] at h2 ⊢
        exact lexI_trans as bs cs h1 h2
      · rw [if_neg e2] at h2 ⊢
        exact h2
    · rw [if_neg e] at h1
      simp only [decide_eq_true_eq] at h1
      by_cases e2 : b = c
      · subst e2
        rw [if_neg e]
        exact decide_eq_true h1
      · rw [if_neg e2] at h2
        simp only [decide_eq_true_eq] at h2
        rw [if_neg (by omega)]
        exact decide_eq_true (by omega)
/-- the least of some lists -/
theorem minD_least : ∀ (ls : List (List Int)) (x : List Int), ∃ m, m ∈ x :: ls ∧ minD (asP x) (ls.map asP) = asP m ∧ ∀ l, l ∈ x :: ls → lexI l m = false
  | [], x => ⟨x, by simp, rfl, fun l h => by simp at h; subst h; exact lexI_irr _⟩
  | y :: ls, x => by
    have e : minD (asP x) ((y :: ls).map asP) = minD (asP (if lexI y x = true then y else x)) (ls.map asP) := by
      show (ls.map asP).foldl _ (if dataLt (asP y) (asP x) = true then asP y else asP x) = _
      rw [lt_asP]
      unfold minD
      split <;> rfl
    obtain ⟨m, h1, h2, h3⟩ := minD_least ls (if lexI y x = true then y else x)
    refine ⟨m, ?_, e.trans h2, fun l hl => ?_⟩
    · rcases List.mem_cons.mp h1 with h | h
      · rw [h]; split <;> simp
      · simp [h]
    · have h0 := h3 _ (List.mem_cons_self ..)
      have key : ∀ a b : List Int, lexI a b = false → lexI b m = false → lexI a m = false := fun a b ha hb => by
        cases hc : lexI a m with
        | false => rfl
        | true =>
          by_cases hab : lexI b a = true
          · rw [lexI_trans b a m hab hc] at hb; cases hb
          · have := lexI_tri a b ha (by simpa using hab)
            subst this
            rw [hc] at hb; cases hb
      by_cases hyx : lexI y x = true
      · rw [if_pos hyx] at h0 h3
        rcases List.mem_cons.mp hl with rfl | hl
        · cases hc : lexI l m with
          | false => rfl
          | true => rw [lexI_trans y l m hyx hc] at h0; cases h0
        · rcases List.mem_cons.mp hl with rfl | hl
          · exact h0
          · exact h3 l (List.mem_cons_of_mem _ hl)
      · rw [if_neg hyx] at h0 h3
        rcases List.mem_cons.mp hl with rfl | hl
        · exact h0
        · rcases List.mem_cons.mp hl with rfl | hl
          · exact key l x (by simpa using hyx) h0
          · exact h3 l (List.mem_cons_of_mem _ hl)
theorem alike_asP : ∀ as bs : List Int, alikeAll (as.map PyData.int) (bs.map PyData.int) = true
  | [], bs => by cases bs <;> simp [alikeAll]
  | _ :: _, [] => by simp [alikeAll]
  | a :: as, b :: bs => by
    simp only [List.map_cons, alikeAll, alike, Bool.true_and]
    exact alike_asP as bs
theorem alikes (ls : List (List Int)) : AlikeAll (ls.map asP) := by
  refine ⟨fun x hx y hy => ?_, fun x hx e => ?_⟩
  · obtain ⟨a, _, rfl⟩ := List.mem_map.mp hx
    obtain ⟨b, _, rfl⟩ := List.mem_map.mp hy
    show alike (.list (a.map .int)) (.list (b.map .int)) = true
    rw [alike]
    exact alike_asP a b
  · obtain ⟨a, _, rfl⟩ := List.mem_map.mp hx
    cases e
@[simp] theorem u_oMinD {C : Store} {ds : List D} {Q : D → Prop} : oMinD C ds Q = ∃ (d : D) (xs : List D) (p : PyData) (ps : List PyData), ds = [d] ∧ lstOf C d = some xs ∧ pyWs (pyG C 2) xs = some (p :: ps) ∧ AlikeAll (p :: ps) ∧ PyData.depthAll (p :: ps) ≤ 60 ∧
  ∀ (i : Nat) (x : D), xs[i]? = some x → (p :: ps)[i]? = some (minD p ps) → Q x := rfl
end L3

/-! dicts with pairs of numbers as keys: stored in, looked into, sorted -/
namespace L3
open PySem PySem.Spec PyProof.Rows L2
def kP (z : Int × Int) : List Key := [.inl z.1, .inl z.2]
theorem kOf_ref {H : Hp} {b : Addr} {i j : Int} (h : H b = some (.tup [.int i, .int j])) : kOf H (.ref b) = (i, j) := by
  simp only [kOf, h]
theorem keys_pairs {H : Hp} : ∀ {kvs : List (List Key × V)} {bs : List Addr} {ps : List (Int × Int)}, IsKeys H kvs bs → kvs.map (·.1) = ps.map kP →
    (bs.map V.ref).map (kOf H) = ps ∧ ∀ b, b ∈ bs → ∃ z : Int × Int, H b = some (.tup [.int z.1, .int z.2])
  | _, _, ps, .nil, e => by
    have : ps = [] := by
      cases ps with
      | nil => rfl
      | cons _ _ => simp at e
    subst this
    exact ⟨rfl, fun b hb => by simp at hb⟩
  | _, _, [], .cons _ _, e => by simp at e
  | _, _, z :: ps, .cons h t, e => by
    simp only [List.map_cons, List.cons.injEq] at e
    obtain ⟨h1, h2⟩ := keys_pairs t e.2
    have hz := h
    rw [e.1] at hz
    refine ⟨?_, fun b hb => ?_⟩
    · rw [List.map_cons, List.map_cons, h1, kOf_ref hz]
    · rcases List.mem_cons.mp hb with rfl | hb
      · exact ⟨z, hz⟩
      · exact h2 b hb
end L3
namespace L2
open PySem PySem.Spec PyProof.Rows
def rSortDT : List V → Hp → VK → Prop := fun xs H Q => ∃ (a : Addr) (kvs : List (List Key × V)) (ps : List (Int × Int)), xs = [.ref a] ∧ Rd H a (.dT kvs) ∧ kvs.map (·.1) = ps.map L3.kP ∧
  ∀ (bs : List Addr) (ys : List V) (p : Addr), IsKeys H kvs bs → ys.Perm (bs.map V.ref) → SrtO.Srtd (ltP (L3.kOf H)) ys → H p = none → Q (.ref p) (upd H p (.lst ys))
theorem call_sortDT {X : Cx} (hcalm : X.calm = true) : CallR X (.builtin "sorted") rSortDT := by
  intro pins s σ H xs us Q I r hq
  obtain ⟨a, kvs, ps, rfl, hrd, hks, q⟩ := hq
  obtain ⟨u, rfl, rx⟩ := r.one
  cases rx
  obtain ⟨z, nsys, ks, pr, ob, ents, ep, hob, hex, hdat, hent, _⟩ := (show ObjOk X.prog X.w H s.heap a (.dT kvs) from hrd.ok I.hok)
  have c1 : ents.size = ks.length := size_of_entries hent
  have c2 : kvs.length = ks.length := Paired.length pr
  refine Calls.call_function_entry PyProof.Rows.kind_sorted PyProof.Rows.plain_sorted PyProof.Rows.entry_sorted (PyProof.Rows.args_sorted1 _) ?_
  unfold Builtin.«sorted»
  refine wpAny_bind (m := checkCount "sorted" 1 1 _) (wpAny_pure ?_)
  refine wpAny_bind (PySem.W.kdu_collect (A := X.A.in1) (kdl_raw nsys hex hdat) (I.ok.hd hcalm) hob (by omega) fun h1 tk acc kept its => ?_)
  obtain ⟨bs, ebs⟩ : ∃ bs, bs = ks.map fun x => x.2.1 := ⟨_, rfl⟩
  have accs : acc.toList = bs.map Value.ref := by
    have hl : acc.toList.length = ks.length := by rw [Array.length_toList, its.1]; exact c1
    refine List.ext_getElem (by rw [hl, ebs, List.length_map, List.length_map]) fun j g1 g2 => ?_
    have gj : acc[j]? = some acc.toList[j] := by rw [← Array.getElem?_toList]; exact List.getElem?_eq_getElem g1
    obtain ⟨en, hen, hv⟩ := its.2 j _ gj
    have qe := entry_at hent j
    have hj : j < ks.length := by omega
    rw [hen, List.getElem?_eq_getElem hj] at qe
    have e2 : en = entryOfKey (tupleKind (mixKind X.prog X.w)) ks[j] := Option.some.inj qe
    rw [hv, e2]
    simp [ebs]
    rfl
  have keys : IsKeys H kvs bs := by rw [ebs]; exact isKeys_of pr
  obtain ⟨km, kt⟩ := L3.keys_pairs keys hks
  have szl : acc.toList.length ≤ sizeLine := by rw [accs, List.length_map, ebs, List.length_map]; omega
  have I1 : Inv X pins σ H { s with heap := h1, toks := tk } := I.kept kept
  refine wpAny_bind (wpAny_newList ?_ szl)
  have hoL : (h1.push (seqObj "list" acc.toList.toArray 0)).get? h1.objs.size = some (seqObj "list" acc.toList.toArray 0) := Heap.get?_push_size _ rfl
  show wpAny _ _ _ _ _ { s with heap := h1.push (seqObj "list" acc.toList.toArray 0), toks := tk }
  have isp : ∀ v ∈ acc.toList, Srt.IsPair h1 v (L3.kOf H (backV v)).1 (L3.kOf H (backV v)).2 := fun v hv => by
    rw [accs] at hv
    obtain ⟨b, hb, rfl⟩ := List.mem_map.mp hv
    obtain ⟨w, hw⟩ := kt b hb
    obtain ⟨_, its2, r2, o2, ho2, hc2, n2, hd2⟩ := I1.hok _ _ hw
    obtain ⟨u1, u2, rfl, ri, rj⟩ := vals2 r2
    obtain ⟨t1, rfl⟩ := ri
    obtain ⟨t2, rfl⟩ := rj
    have ek : L3.kOf H (backV (.ref b)) = w := L3.kOf_ref hw
    rw [ek]
    exact ⟨b, o2, t1, t2, n2, rfl, ho2, hc2, hd2⟩
  refine wpAny_bind (wpAny_holding (wpAny_call_entry PyProof.Rows.slot_list_sort ⟨_, hoL, rfl⟩ PyProof.Rows.entry_list_sort
    (SrtO.list_sort_ord (s := { s with heap := h1.push (seqObj "list" acc.toList.toArray 0), toks := tk }) (SrtO.swo_lex fun v => L3.kOf H (backV v)) hoL szl
      (fun h2 => SrtO.pairs_sortableO (by omega) (fun v hv => (isp v hv).keeps fun b o e _ => Heap.get?_push_of_some _ e) fun o e c => by
        have e' : some o = some (seqObj "list" acc.toList.toArray 0) := e.symm.trans hoL
        cases e'
        exact absurd (Value.type.inj c) (by decide))
      fun out g1 g2 => ⟨_, rfl, ?_⟩) (PyProof.Rows.args_list_sort _)))
  obtain ⟨e', he'⟩ := PyProof.Rows.sortedHeap_at (vs := acc.toList) (out := out.toArray) hoL
  have refs : ∀ u ∈ out, ∃ b, u = Value.ref b := fun u hu => by
    have hm := g2.perm.mem_iff.mp hu
    rw [accs] at hm
    obtain ⟨b, _, rfl⟩ := List.mem_map.mp hm
    exact ⟨b, rfl⟩
  have perm : (out.map backV).Perm (bs.map V.ref) := by
    have h1 := g2.perm.map backV
    rw [accs, List.map_map] at h1
    exact h1
  have hlen : (out.map backV).length ≤ sizeLine := by
    rw [List.length_map, g2.len]
    exact szl
  refine wpAny_pure ⟨_, rfl, .ref h1.objs.size, upd H h1.objs.size (.lst (out.map backV)), I1.laid (t' := tk) (fun b u e => ?_) (Nat.le_refl _) ⟨hlen, out, e', vals_back refs, he'⟩, rfl,
    q bs _ _ keys perm (SrtO.srtd_map g1) (I1.hok.fresh (Nat.le_refl _))⟩
  have hb : b < h1.objs.size := Heap.lt_size e
  rw [PyProof.Rows.sortedHeap_old (Nat.ne_of_lt hb) (by rw [size_push']; exact Nat.lt_succ_of_lt hb)]
  exact Heap.get?_push_of_some _ e
/-! ### the least and the greatest of a tuple of numbers -/
section
variable {prog : Program} {w : World} {A : Around} {E : Value → Shared → Prop} {s : Shared} {l : Addr} {xs : Array (Int × Tok)}
theorem iter_intTup {Q : Value → Shared → Prop} (hl : s.heap.IsTuple l (intItems xs))
    (h : ∀ h2 : Heap, h2 = s.heap.push { cls := .type "tuple_iterator", data := .fields #[.ref l, .int 0 0] } → h2.IsTupleIter s.heap.objs.size l 0 ∧ h2.IsTuple l (intItems xs) → (∀ b ∈ [s.heap.objs.size, l], b < h2.objs.size) → l ≠ s.heap.objs.size → Q (.ref s.heap.objs.size) { s with heap := h2 }) :
    wpAny (model prog w) A (pyIter (.ref l)) Q E s := by
  have lt0 : l < s.heap.objs.size := let ⟨_, e, _⟩ := hl; Heap.lt_size e
  refine wpAny_pyIter_tuple hl (h _ rfl ⟨⟨_, Heap.get?_push_size _ rfl, rfl, rfl⟩, hl.push _⟩ (fun b hb => ?_) (Nat.ne_of_lt lt0))
  rw [Heap.size_push]
  have hb' : b = s.heap.objs.size ∨ b = l := by simpa using hb
  rcases hb' with rfl | rfl
  · exact Nat.lt_succ_self _
  · exact Nat.lt_succ_of_lt lt0
theorem keptT {h2 h' : Heap} {o2 : Obj} (e2 : h2 = s.heap.push o2) (hk : ∀ b o, b ∉ [s.heap.objs.size] → h2.get? b = some o → h'.get? b = some o) : ∀ b o, s.heap.get? b = some o → h'.get? b = some o := fun b o e => by
  subst e2
  refine hk b o (fun hm => ?_) (Heap.get?_push_of_some _ e)
  have : b = s.heap.objs.size := by simpa using hm
  exact Nat.lt_irrefl _ (this ▸ Heap.lt_size e)
theorem max_tup_raw {its : List Value} {ns : List Int} {Q : Value → Shared → Prop} (hh : A.handled = none) (hl : s.heap.IsTuple l its.toArray) (hi : IntsAre its ns) (hne : 0 < ns.length)
    (h : ∀ h' tk M t', (∀ b o, s.heap.get? b = some o → h'.get? b = some o) → M ∈ ns → (∀ a, a ∈ ns → a ≤ M) → Q (.int M t') { s with heap := h', toks := tk }) : wpAny (model prog w) A (call (.builtin "max") [.ref l]) Q E s := by
  obtain ⟨xs, e⟩ := hi.allInts.items
  have hn : numsOf (intItems xs).toList = ns := by rw [← e]; exact hi.numsOf
  rw [nums_intItems] at hn
  subst hn
  rw [e] at hl
  have hsz : 0 < xs.size := by simpa using hne
  refine call_max_walk (iter_intTup hl fun h2 e2 st hfp hlI => ?_)
  refine ⟨_, _, _, _, _, _, _, rfl, Walks.tuple (A := A.in1) hh _ l hlI (intItems xs), st, hfp, by simpa [intItems] using hsz, CmpOf.ints_gt (numAt xs) (fun _ _ => intItems_at), fun v h' tk hv hk => ?_⟩
  have hv' : (intItems xs)[argBest (fun i j => decide (numAt xs i > numAt xs j)) (xs.size - 1)]? = some v := by simpa [intItems] using hv
  obtain ⟨t, rfl⟩ := intItems_at hv'
  obtain ⟨a1, a2⟩ := argBest_gt (numAt xs) (xs.size - 1)
  refine h h' tk _ t (keptT e2 hk) ?_ fun a ha => ?_
  · rw [numAt_eq]; exact PySem.getD_mem (by rw [List.length_map, Array.length_toList]; omega)
  · obtain ⟨j, hj, rfl⟩ := mem_getD ha
    rw [List.length_map, Array.length_toList] at hj
    rw [← numAt_eq]; exact a2 j (by omega)
theorem min_tup_raw {its : List Value} {ns : List Int} {Q : Value → Shared → Prop} (hh : A.handled = none) (hl : s.heap.IsTuple l its.toArray) (hi : IntsAre its ns) (hne : 0 < ns.length)
    (h : ∀ h' tk M t', (∀ b o, s.heap.get? b = some o → h'.get? b = some o) → M ∈ ns → (∀ a, a ∈ ns → M ≤ a) → Q (.int M t') { s with heap := h', toks := tk }) : wpAny (model prog w) A (call (.builtin "min") [.ref l]) Q E s := by
  obtain ⟨xs, e⟩ := hi.allInts.items
  have hn : numsOf (intItems xs).toList = ns := by rw [← e]; exact hi.numsOf
  rw [nums_intItems] at hn
  subst hn
  rw [e] at hl
  have hsz : 0 < xs.size := by simpa using hne
  refine call_min_walk (iter_intTup hl fun h2 e2 st hfp hlI => ?_)
  refine ⟨_, _, _, _, _, _, _, rfl, Walks.tuple (A := A.in1) hh _ l hlI (intItems xs), st, hfp, by simpa [intItems] using hsz, CmpOf.ints_lt (numAt xs) (fun _ _ => intItems_at), fun v h' tk hv hk => ?_⟩
  have hv' : (intItems xs)[argBest (fun i j => decide (numAt xs i < numAt xs j)) (xs.size - 1)]? = some v := by simpa [intItems] using hv
  obtain ⟨t, rfl⟩ := intItems_at hv'
  obtain ⟨a1, a2⟩ := argBest_lt (numAt xs) (xs.size - 1)
  refine h h' tk _ t (keptT e2 hk) ?_ fun a ha => ?_
  · rw [numAt_eq]; exact PySem.getD_mem (by rw [List.length_map, Array.length_toList]; omega)
  · obtain ⟨j, hj, rfl⟩ := mem_getD ha
    rw [List.length_map, Array.length_toList] at hj
    rw [← numAt_eq]; exact a2 j (by omega)
end
section
variable {X : Cx}
def rMaxT (K : PySem.W.Frag) : List V → Hp → VK → Prop := fun vs H Q => ∃ (a : Addr) (ns : List Int), vs = [V.ref a] ∧ SqT K H a (ns.map V.int) ∧ 0 < ns.length ∧ ∀ m, m ∈ ns → (∀ y, y ∈ ns → y ≤ m) → Q (.int m) H
def rMinT (K : PySem.W.Frag) : List V → Hp → VK → Prop := fun vs H Q => ∃ (a : Addr) (ns : List Int), vs = [V.ref a] ∧ SqT K H a (ns.map V.int) ∧ 0 < ns.length ∧ ∀ m, m ∈ ns → (∀ y, y ∈ ns → m ≤ y) → Q (.int m) H
theorem cr_maxT (hc : X.calm = true) : CallR X (.builtin "max") (rMaxT X.K) := fun pins s σ H vs us Q I r ⟨a, ns, e, hs, hne, q⟩ => by
  subst e
  obtain ⟨its, rv, tp, _⟩ := I.tuple hs
  rw [Vals.ref1 r]
  exact max_tup_raw (I.ok.hd hc) tp rv.ints hne fun h' tk m t' hk h1 h2 => ⟨.int _, H, I.kept hk, ⟨_, rfl⟩, q m h1 h2⟩
theorem cr_minT (hc : X.calm = true) : CallR X (.builtin "min") (rMinT X.K) := fun pins s σ H vs us Q I r ⟨a, ns, e, hs, hne, q⟩ => by
  subst e
  obtain ⟨its, rv, tp, _⟩ := I.tuple hs
  rw [Vals.ref1 r]
  exact min_tup_raw (I.ok.hd hc) tp rv.ints hne fun h' tk m t' hk h1 h2 => ⟨.int _, H, I.kept hk, ⟨_, rfl⟩, q m h1 h2⟩
end
end L2
namespace L3
open PySem PySem.Spec PyProof.Rows L2
def dtOf (C : Store) : D → Option (List (List Key) × List D)
  | .dt _ ks xs => some (ks, xs)
  | .ptr k => match C[k]? with
    | some (.dt ks xs) => some (ks, xs)
    | _ => none
  | _ => none
def tAt (k : List Key) : List (List Key) → List D → Option D
  | q :: qs, x :: xs => if q = k then some x else tAt k qs xs
  | _, _ => none
def hasT (k : List Key) (ks : List (List Key)) : Bool := ks.any fun q => decide (q = k)
def tPut (k : List Key) (ks : List (List Key)) : List (List Key) := if hasT k ks = true then ks else ks ++ [k]
def yPut (k : List Key) (y : D) (ks : List (List Key)) (xs : List D) : List D := if hasT k ks = true then (ks.zip xs).map (fun z => if z.1 = k then y else z.2) else xs ++ [y]
section
variable {K : PySem.W.Frag} {H0 : Hp} {A0 : List Addr} {av : Av} {ad : Ads} {Γ : Slots} {C : Store} {σ : L2.St} {H : Hp}
theorem den_kDs {H0 : Hp} {av : Av} {ad : Ads} {H : Hp} : ∀ {vs : List V} {ks : List Key}, DenAll K H0 av ad H vs (ks.map kD) → vs = ks.map kV
  | _, [], .nil => rfl
  | _, k :: ks, .cons a b => by rw [List.map_cons, den_kD a, den_kDs b]
theorem tAt_den {k : List Key} : ∀ {kvs : List (List Key × V)} {xs : List D}, DenAll K H0 av ad H (kvs.map (·.2)) xs →
    (∀ d, tAt k (kvs.map (·.1)) xs = some d → ∃ v, valV kvs k = some v ∧ Den K H0 av ad H v d) ∧ (tAt k (kvs.map (·.1)) xs = none → valV kvs k = none)
  | [], xs, x => ⟨fun d h => by simp [tAt] at h, fun _ => valV_nil⟩
  | p :: r, xs, x => by
    rw [List.map_cons] at x
    cases x with
    | @cons _ _ d ds a b =>
      have ih := tAt_den (k := k) b
      by_cases e : p.1 = k
      · refine ⟨fun d' h => ?_, fun h => ?_⟩
        · simp only [List.map_cons, tAt, if_pos e, Option.some.injEq] at h
          subst h
          exact ⟨p.2, valV_pos e, a⟩
        · simp only [List.map_cons, tAt, if_pos e] at h
          cases h
      · refine ⟨fun d' h => ?_, fun h => ?_⟩
        · simp only [List.map_cons, tAt, if_neg e] at h
          rw [valV_neg e]
          exact ih.1 d' h
        · simp only [List.map_cons, tAt, if_neg e] at h
          rw [valV_neg e]
          exact ih.2 h
theorem any_memT {kvs : List (List Key × V)} {k : List Key} : (kvs.any fun kv => decide (kv.1 = k)) = hasT k (kvs.map (·.1)) := by
  unfold hasT
  rw [List.any_map]
  rfl
theorem tput_keys {kvs : List (List Key × V)} {k : List Key} {v : V} : (putK kvs k v).map (·.1) = tPut k (kvs.map (·.1)) := by
  unfold putK tPut
  rw [any_memT]
  by_cases h : hasT k (kvs.map (·.1)) = true
  · rw [if_pos h, if_pos h, List.map_map]
    apply List.map_congr_left
    intro kv _
    show (if kv.1 = k then (kv.1, v) else kv).1 = kv.1
    split <;> rfl
  · rw [if_neg h, if_neg h, List.map_append]
    rfl
theorem tput_den {k : List Key} {v : V} {y : D} {kvs : List (List Key × V)} {xs : List D} (x : DenAll K H0 av ad H (kvs.map (·.2)) xs) (z : Den K H0 av ad H v y) : DenAll K H0 av ad H ((putK kvs k v).map (·.2)) (yPut k y (kvs.map (·.1)) xs) := by
  have all : ∀ {kvs : List (List Key × V)} {xs : List D}, DenAll K H0 av ad H (kvs.map (·.2)) xs → DenAll K H0 av ad H ((kvs.map fun kv => if kv.1 = k then (kv.1, v) else kv).map (·.2)) (((kvs.map (·.1)).zip xs).map fun z => if z.1 = k then y else z.2) := by
    intro kvs
    induction kvs with
    | nil => intro xs x; exact .nil
    | cons p r ih =>
      intro xs x
      rw [List.map_cons] at x
      cases x with
      | @cons _ _ d ds a b =>
        simp only [List.map_cons, List.zip_cons_cons]
        refine .cons ?_ (ih b)
        by_cases e : p.1 = k
        · rw [if_pos e, if_pos e]; exact z
        · rw [if_neg e, if_neg e]; exact a
  unfold putK yPut
  rw [any_memT]
  by_cases h : hasT k (kvs.map (·.1)) = true
  · rw [if_pos h, if_pos h]
    exact all x
  · rw [if_neg h, if_neg h, List.map_append]
    exact x.append (.cons z .nil)
theorem Rep.dt (R : Rep K H0 A0 av ad Γ C σ H) {v : V} {d : D} {ks : List (List Key)} {xs : List D} (x : Den K H0 av ad H v d) (e : dtOf C d = some (ks, xs)) :
    ∃ a kvs, v = .ref a ∧ Rd H a (.dT kvs) ∧ kvs.map (·.1) = ks ∧ DenAll K H0 av ad H (kvs.map (·.2)) xs := by
  cases d with
  | dt o ks' xs' =>
    cases e
    cases x with
    | dt r n o k y => exact ⟨_, _, rfl, r, k, y⟩
  | ptr k =>
    cases x with
    | ptr h =>
      simp only [dtOf] at e
      split at e
      · rename_i ks' xs' hc
        cases e
        obtain ⟨kvs, e1, e2, r⟩ := R.cells _ _ _ h hc
        exact ⟨_, kvs, rfl, .inl e1, e2, r⟩
      · cases e
  | bad => cases e
  | non => cases e
  | bl _ => cases e
  | int _ => cases e
  | str _ => cases e
  | lst _ _ => cases e
  | tup _ => cases e
  | dk _ _ _ => cases e
  | obj _ _ _ => cases e
theorem Rep.tget (R : Rep K H0 A0 av ad Γ C σ H) {v u : V} {d : D} {ks : List (List Key)} {xs : List D} {k : List Key} (x : Den K H0 av ad H v d) (e : dtOf C d = some (ks, xs)) (y : Den K H0 av ad H u (.tup (k.map kD))) :
    ∃ a o, v = .ref a ∧ IsD H a ∧ DGet H a u o ∧ o.isSome = (tAt k ks xs).isSome ∧ (∀ d', tAt k ks xs = some d' → ∃ w, o = some w ∧ Den K H0 av ad H w d') ∧ (tAt k ks xs = none → o = none) := by
  obtain ⟨a, kvs, rfl, rd, rfl, r⟩ := R.dt x e
  cases y with
  | @tup b vs _ ht hd =>
    have ek := den_kDs hd
    subst ek
    obtain ⟨h1, h2⟩ := tAt_den (k := k) r
    refine ⟨a, valV kvs k, rfl, .inr ⟨kvs, rd⟩, .inr ⟨kvs, k, b, rd, rfl, ht.1, rfl⟩, ?_, h1, h2⟩
    cases q : tAt k (kvs.map (·.1)) xs with
    | none => rw [h2 q]; rfl
    | some d' => obtain ⟨w, e, _⟩ := h1 d' q; rw [e]; rfl
end
section
variable {K : PySem.W.Frag} {X : Cx} {o i e f : Expr} {td ty tk tv tx : TE} {Eo Ei Ek Ev Ef : EV} {pos apos cpos p : Pos}
def gvSubT (Eo Ei : EV) : GV := fun d Γ C Q => Eo Γ C fun x C1 => Ei Γ C1 fun y C2 => ∃ (k : Nat) (ks : List (List Key)) (xs : List D) (q : List Key), x = .ptr k ∧ y = .tup (q.map kD) ∧ C2[k]? = some (.dt ks xs) ∧ ks.length < sizeLine ∧ Q Γ (C2.set k (.dt (tPut q ks) (yPut q d ks xs)))
theorem vg_subT (hu : X.A.units + 1 < cLine) (ho : VE K X o td Eo) (hi : VE K X i ty Ei) (ha : ∀ v, assign (.Subscript o i pos) X.env v = (do
      let ov ← holding [v] (eval o X.env)
      let iv ← holding [v, ov] (eval i X.env)
      standAt pos
      holding [v, ov, iv] (setItem ov iv v)
      release [v, ov, iv] []) := by intro _; rfl) : VG K X (.Subscript o i pos) (gSub td ty rSetD) (gvSubT Eo Ei) := by
  refine ⟨pg_sub ho.pe hi.pe (set_dict hu) ha, fun H0 A0 av ad Γ C σ H v d Q3 Q R dv h q => ?_⟩
  refine ho.sim H0 A0 av ad Γ C σ H _ _ R h fun vo H1 av1 ad1 d1 C1 R1 l1 e1 h1 => ?_
  refine hi.sim H0 A0 av1 ad1 Γ C1 σ H1 _ _ R1 h1 fun vi H2 av2 ad2 d2 C2 R2 l2 e2 ⟨k, ks, xs, qk, e3, e4, e5, hl, h2⟩ => ?_
  subst e3 e4
  have e1' := e1.le l2
  cases e1' with
  | @ptr a _ hp =>
  cases e2 with
  | @tup b vs _ ht hd =>
    have ek := den_kDs hd
    subst ek
    obtain ⟨kvs, he, rfl, r⟩ := R2.cells k a _ hp e5
    have hlt : k < C2.length := (List.getElem?_eq_some_iff.mp e5).1
    have dv2 := (dv.le l1).le l2
    have fz : Fz av2 H2 av2 (upd H2 a (.dT (putK kvs qk v))) := fun b u h n => ⟨by rw [upd_ne (fun e => n (by rw [e]; exact R2.av_of hp))]; exact h, n⟩
    have R3 := R2.write (o := .dT (putK kvs qk v)) (c := .dt (tPut qk (kvs.map (·.1))) (yPut qk d (kvs.map (·.1)) xs)) hp hlt (fun _ z => nomatch z) fun f => ⟨_, upd_same, tput_keys, (tput_den r dv2).mono f Pre.refl⟩
    have l3 : Le av2 ad2 H2 av2 ad2 (upd H2 a (.dT (putK kvs qk v))) := ⟨fz, Pre.refl, fun b e => by
      by_cases q : b = a
      · subst q; rw [upd_same] at e; cases e
      · rw [upd_ne q] at e; exact e, fun _ h => h, fun _ h => .inl h, fun b u h n => by rw [upd_ne (fun e => n (by rw [e]; exact mem_ads hp))]; exact h⟩
    rw [List.length_map] at hl
    refine ⟨a, _, rfl, ?_, q av2 ad2 Γ _ σ _ R3 ((l1.trans l2).trans l3) h2⟩
    exact DPut.t he ht.1 hl
def eTGet (Eo Ei : EV) : EV := fun Γ C Q => Eo Γ C fun x C1 => Ei Γ C1 fun y C2 => ∃ ks xs k d, dtOf C2 x = some (ks, xs) ∧ y = .tup (k.map kD) ∧ tAt k ks xs = some d ∧ Q d C2
theorem ve_tget (ho : VE K X o td Eo) (hi : VE K X i ty Ei) (hu : X.A.units + 1 < cLine) (hs : NoSl i := by intro _ _; rfl) : VE K X (.Subscript o i pos) (tDGet td ty) (eTGet Eo Ei) := by
  refine ⟨pe_dget hu ho.pe hi.pe hs, fun H0 A0 av ad Γ C σ H Q3 Q R h q => ?_⟩
  refine ho.sim H0 A0 av ad Γ C σ H _ _ R h fun v H1 av1 ad1 d C1 R1 l1 d1 h1 => ?_
  refine hi.sim H0 A0 av1 ad1 Γ C1 σ H1 _ _ R1 h1 fun u H2 av2 ad2 d2 C2 R2 l2 e2 ⟨ks, xs, k, d', e3, e4, e5, h2⟩ => ?_
  subst e4
  obtain ⟨a, o, rfl, _, g, _, h3, _⟩ := R2.tget (d1.le l2) e3 e2
  obtain ⟨w, rfl, dw⟩ := h3 d' e5
  exact ⟨a, w, rfl, g, q w H2 av2 ad2 d' C2 R2 (l1.trans l2) dw h2⟩
def oTIn (neg : Bool) : O2 := fun C x y Q => ∃ ks xs k, dtOf C y = some (ks, xs) ∧ x = .tup (k.map kD) ∧ Q (.bl (neg != (tAt k ks xs).isSome))
theorem sr_tin : SimR K rDIn (oTIn false) := by
  intro H0 A0 av ad Γ C σ H x y dx dy Q3 Q R d1 d2 ⟨ks, xs, k, e1, e2, q3⟩ q
  subst e2
  obtain ⟨a, o, rfl, _, g, hs, _, _⟩ := R.tget d2 e1 d1
  refine ⟨a, o, rfl, g, q _ H _ (fun _ _ h => h) .bl ?_⟩
  rw [hs]
  rw [eqN] at q3
  exact q3
theorem sr_tnotIn : SimR K rDNi (oTIn true) := by
  intro H0 A0 av ad Γ C σ H x y dx dy Q3 Q R d1 d2 ⟨ks, xs, k, e1, e2, q3⟩ q
  subst e2
  obtain ⟨a, o, rfl, _, g, hs, _, _⟩ := R.tget d2 e1 d1
  refine ⟨a, o, rfl, g, q _ H _ (fun _ _ h => h) .bl ?_⟩
  rw [hs]
  rw [eqP] at q3
  exact q3
/-- sorted(d) -/
def nSortT : NN := fun C ds Q => ∃ (d : D) (ps : List (Int × Int)) (xs : List D), ds = [d] ∧ dtOf C d = some (ps.map kP, xs) ∧ ∀ qs : List (Int × Int), qs.Perm ps → qs.Pairwise (fun x y => SrtO.lexB y x = false) → Q (.lst (qs.map pD))
theorem sf_sortT : SimCF K rSortDT nSortT := by
  intro H0 A0 av ad Γ C σ H vs ds Q3 Q R d1 ⟨d, ps, xs, e1, e2, q3⟩ q
  subst e1
  obtain ⟨v, rfl, r⟩ := den1 d1
  obtain ⟨a, kvs, rfl, h1, hk, _⟩ := R.dt r e2
  refine ⟨a, kvs, ps, rfl, h1, hk, fun bs ys p keys perm srt np => ?_⟩
  obtain ⟨m1, m2⟩ := keys_pairs keys hk
  refine q H p _ (.lst ((ys.map (kOf H)).map pD)) (fun _ _ h => h) np noTup_lst (denAll_of ys fun v hv => ?_) (q3 _ ?_ (List.pairwise_map.mpr srt))
  · obtain ⟨b, hb, rfl⟩ := List.mem_map.mp (perm.mem_iff.mp hv)
    obtain ⟨z, hz⟩ := m2 b hb
    rw [kOf_ref hz]
    exact .tup ⟨hz, fun h => R.avt b _ h hz⟩ (.cons .int (.cons .int .nil))
  · rw [← m1]
    exact perm.map _
/-- the least, the greatest of a tuple -/
def oMaxT : ON := fun _ ds Q => ∃ (ns : List Int), ds = [.tup (ns.map .int)] ∧ 0 < ns.length ∧ ∀ m, m ∈ ns → (∀ y, y ∈ ns → y ≤ m) → Q (.int m)
def oMinT : ON := fun _ ds Q => ∃ (ns : List Int), ds = [.tup (ns.map .int)] ∧ 0 < ns.length ∧ ∀ m, m ∈ ns → (∀ y, y ∈ ns → m ≤ y) → Q (.int m)
theorem sc_maxT : SimC K (rMaxT K) oMaxT := by
  intro H0 A0 av ad Γ C σ H vs ds Q3 Q R d1 ⟨ns, e1, h0, q3⟩ q
  subst e1
  obtain ⟨v, rfl, r⟩ := den1 d1
  cases r with
  | @tup a us _ ht hd =>
    rw [den_ints hd] at ht
    exact ⟨a, ns, rfl, ht.sq, h0, fun m h1 h2 => q _ H _ (fun _ _ h => h) .int (q3 m h1 h2)⟩
theorem sc_minT : SimC K (rMinT K) oMinT := by
  intro H0 A0 av ad Γ C σ H vs ds Q3 Q R d1 ⟨ns, e1, h0, q3⟩ q
  subst e1
  obtain ⟨v, rfl, r⟩ := den1 d1
  cases r with
  | @tup a us _ ht hd =>
    rw [den_ints hd] at ht
    exact ⟨a, ns, rfl, ht.sq, h0, fun m h1 h2 => q _ H _ (fun _ _ h => h) .int (q3 m h1 h2)⟩
theorem call_maxT (hK : X.K = K) (hc : X.calm = true) : CallR X (.builtin "max") (rMaxT K) := by subst hK; exact cr_maxT hc
theorem call_minT (hK : X.K = K) (hc : X.calm = true) : CallR X (.builtin "min") (rMinT K) := by subst hK; exact cr_minT hc
end
end L3

/-! comprehensions with two sources -/
namespace L3
open PySem PySem.Spec PyProof.Rows L2
/-- the outer list's turns: within each the inner one's -/
def lc2W (G : GV) (B : BV) (I1 : IV) (G1 : GV) (B1 : BV) (E : EV) (vs1 : List Nat) (Γ : Slots) (ok : Store → Prop) (Q : Cell → Store → Prop) : List D → List D → Store → Prop
  | [], acc, C => Q (.lst acc) C
  | d :: ds, acc, C => G d Γ C fun Γ1 C1 => B Γ1 C1 fun k C2 =>
    if k = true then I1 Γ1 C2 fun es src1 C3 => lcW G1 B1 E (wipe3 Γ1 vs1) (fun C' => ok C' ∧ srcOk src1 C3 C') (fun c C' => match c with
      | .lst acc' => ok C' ∧ lc2W G B I1 G1 B1 E vs1 Γ ok Q ds acc' C'
      | _ => False) es acc C3
    else ok C2 ∧ lc2W G B I1 G1 B1 E vs1 Γ ok Q ds acc C2
def fLc2 (vs vs1 : List Nat) (I : IV) (G : GV) (B : BV) (I1 : IV) (G1 : GV) (B1 : BV) (E : EV) : FV := fun Γ C Q => I Γ C fun ds src C1 => lc2W G B I1 G1 B1 E vs1 (wipe3 Γ vs) (srcOk src C1) Q ds [] C1
section
variable {K : PySem.W.Frag} {X : Cx} {elt tg iter tg1 iter1 : Expr} {ifs ifs1 : List Expr} {scope : Scope} {own : List (Str × Nat)} {pos spos py : Pos} {wi wi1 : TI} {g g1 : TG} {tt tt1 : TT} {te : TE} {I I1 : IV} {G G1 : GV} {B B1 : BV} {E : EV} {F : FV} {x y : Str}
theorem keeps_of {H0 : Hp} {A0 : List Addr} {av av2 : Av} {ad ad2 : Ads} {C C2 : Store} {Γ Γ2 : Slots} {σ σ2 : L2.St} {H H2 : Hp} {src : List Nat} {ds : List D} (R1 : Rep K H0 A0 av ad Γ C σ H) (R2 : Rep K H0 A0 av2 ad2 Γ2 C2 σ2 H2) (fz : Fz av H av2 H2) (pr : Pre ad ad2) (ok : srcOk src C C2) : Keeps av ad C H src ds av2 ad2 C2 H2 := by
  refine ⟨fz, .inr pr, fun k hk => ⟨?_, ok k hk⟩⟩
  have h2 := ok k hk
  cases e : ad[k]? with
  | none =>
    have h1 := R1.len
    have h3 : C[k]? = none := by rw [List.getElem?_eq_none_iff] at e ⊢; omega
    rw [h3] at h2
    rw [List.getElem?_eq_none_iff] at h2 ⊢
    have := R2.len
    omega
  | some o =>
    cases o with
    | some a => exact pr k a e
    | none =>
      rw [R1.gone k e] at h2
      have hlt : k < ad2.length := by rw [R2.len]; exact (List.getElem?_eq_some_iff.mp h2).1
      cases q2 : ad2[k]? with
      | none => rw [List.getElem?_eq_getElem hlt] at q2; cases q2
      | some o =>
        cases o with
        | none => rfl
        | some a => exact (R2.cells k a _ q2 h2).elim
/-- what stands between the turns of the inner walk and of the outer one: the new list is at p -/
structure Mid (K : PySem.W.Frag) (H0 : Hp) (A0 : List Addr) (av1 : Av) (ad1 : Ads) (H1 : Hp) (p : Addr) (Γ : Slots) (σ : L2.St) (av : Av) (ad : Ads) (C : Store) (acc : List D) (H : Hp) : Prop where
  rep : Rep K H0 A0 av ad Γ C σ H
  pv : av p
  np : some p ∉ ad
  le : Le av1 ad1 H1 av ad H
  lst : ∃ us, H p = some (.lst us) ∧ DenAll K H0 av ad H us acc
theorem Mid.go {H0 : Hp} {A0 : List Addr} {av1 av av' : Av} {ad1 ad ad' : Ads} {H1 H H' : Hp} {p : Addr} {Γ Γ' : Slots} {σ σ' : L2.St} {C C' : Store} {acc : List D} (m : Mid K H0 A0 av1 ad1 H1 p Γ σ av ad C acc H) (l : Le av ad H av' ad' H') (R' : Rep K H0 A0 av' ad' Γ' C' σ' H') : Mid K H0 A0 av1 ad1 H1 p Γ' σ' av' ad' C' acc H' := by
  obtain ⟨us, e, d⟩ := m.lst
  refine ⟨R', l.avm p m.pv, fun z => (l.adn p z).elim m.np fun e' => (by rw [e] at e'; cases e'), m.le.trans l, us, l.kp p _ e m.np, d.le l⟩
theorem Mid.add {H0 : Hp} {A0 : List Addr} {av1 av : Av} {ad1 ad : Ads} {H1 H : Hp} {p : Addr} {Γ : Slots} {σ : L2.St} {C : Store} {acc : List D} (n0 : H0 p = none) (n1 : H1 p = none) (m : Mid K H0 A0 av1 ad1 H1 p Γ σ av ad C acc H) {v : V} {d : D} (r : Den K H0 av ad H v d) (hz : acc.length < sizeLine) :
    ∃ us, H p = some (.lst us) ∧ us.length < sizeLine ∧ Mid K H0 A0 av1 ad1 H1 p Γ σ av ad C (acc ++ [d]) (upd H p (.lst (us ++ [v]))) ∧ Fz av H av (upd H p (.lst (us ++ [v]))) := by
  obtain ⟨us, e, da⟩ := m.lst
  obtain ⟨R7, f7⟩ := m.rep.poke (o := .lst (us ++ [v])) m.pv n0 m.np (fun _ z => nomatch z)
  refine ⟨us, e, by rw [da.length]; exact hz, ⟨R7, m.pv, m.np, ⟨m.le.fz.trans f7, m.le.pre, fun a e => ?_, m.le.avm, m.le.adn, fun a u h n => ?_⟩, us ++ [v], upd_same, (da.append (.cons r .nil)).mono f7 Pre.refl⟩, f7⟩
  · by_cases h : a = p
    · subst h; exact n1
    · rw [upd_ne h] at e; exact m.le.there a e
  · rw [upd_ne (ne_of_none h n1)]; exact m.le.kp a u h n
theorem sim_lc2 {vs vs1 : List Nat} (hi : SimI K wi I) (hg : SimG K g G) (ho : GOwn vs g) (ht : SimT K tt B) (hi1 : SimI K wi1 I1) (hg1 : SimG K g1 G1) (ho1 : GOwn vs1 g1) (ht1 : SimT K tt1 B1) (he : SimE K te E) :
    SimF K (tLc2 wi g tt wi1 g1 tt1 te vs vs1) (fLc2 vs vs1 I G B I1 G1 B1 E) := by
  intro H0 A0 av ad Γ C σ H Q3 Q R h q
  refine hi H0 A0 av ad Γ C σ H _ _ R h fun J H1 av1 ad1 C1 ds src R1 l1 Y w0 p np => ?_
  have n0 : H0 p = none := R1.there p np
  have nad : some p ∉ ad1 := fun z => R1.nav np (R1.sub p z)
  let Iv : Nat → Hp → Prop := fun i H2 => i ≤ ds.length ∧ ∃ av2 ad2 C2 acc, Mid K H0 A0 av1 ad1 H1 p Γ σ av2 ad2 C2 acc H2 ∧ srcOk src C1 C2 ∧ lc2W G B I1 G1 B1 E vs1 (wipe3 Γ vs) (srcOk src C1) Q3 (ds.drop i) acc C2
  have start : Iv 0 (upd H1 p (.lst [])) := by
    refine ⟨Nat.zero_le _, _, ad1, C1, [], ⟨R1.ban np (fun _ z => nomatch z), .inr rfl, nad, ⟨?_, Pre.refl, fun a e => ?_, fun _ h => .inl h, fun _ h => .inl h, fun a u h _ => same_upd np a u h⟩, [], upd_same, .nil⟩, fun _ _ => rfl, w0⟩
    · exact fun a u h na => ⟨same_upd np a u h, fun z => z.elim na fun e => ne_of_none h np e⟩
    · by_cases h : a = p
      · subst h; exact np
      · rw [upd_ne h] at e; exact e
  refine ⟨fun i m H2 => m = ds.length - i ∧ Iv i H2, ⟨ds.length, by simp, start⟩, ?_⟩
  rintro i m H2 ⟨rfl, hil, av2, ad2, C2, acc, M2, ok2, w2⟩
  have R2 := M2.rep
  obtain ⟨y1, y2⟩ := Y av2 ad2 Γ C2 σ H2 i R2 (keeps_of R1 R2 M2.le.fz M2.le.pre ok2)
  by_cases hlt : i < ds.length
  · obtain ⟨hgo, hy⟩ := y1 hlt
    refine .inr ⟨hgo, Iv (i + 1), fun H' h' => ⟨ds.length - (i + 1), by omega, rfl, h'⟩, fun x H3 hx => ?_⟩
    obtain ⟨s3, d, e3, r3⟩ := hy x H3 hx
    have ed : ds.drop i = d :: ds.drop (i + 1) := by
      rw [List.drop_eq_getElem_cons hlt]
      have : ds[i] = d := by
        rw [List.getElem?_eq_getElem hlt] at e3
        exact Option.some.inj e3
      rw [this]
    rw [ed] at w2
    have R3 := R2.same s3
    have M3 : Mid K H0 A0 av1 ad1 H1 p Γ σ av2 ad2 C2 acc H3 := M2.go (Le.same s3) R3
    have wiped : ∀ {Γ : Slots} {σ : L2.St} {av : Av} {ad : Ads} {C : Store} {H : Hp} (vs : List Nat), Rep K H0 A0 av ad Γ C σ H → Rep K H0 A0 av ad (wipe3 Γ vs) C (wipe σ vs) H := fun vs R => R.slots (by rw [wipe_length, wipe3_length]; exact R.slen) fun j d hj => by
      obtain ⟨h1, h2⟩ := wipe3_some hj
      obtain ⟨v, h3, h4⟩ := R.slot j d h1
      exact ⟨v, by rw [wipe_other h2]; exact h3, h4⟩
    have back : ∀ {Γ Γ' : Slots} {σ σ' : L2.St} {av av' : Av} {ad ad' : Ads} {C C' : Store} {H H' : Hp}, Rep K H0 A0 av ad Γ C σ H → Rep K H0 A0 av' ad' Γ' C' σ' H' → Fz av H av' H' → Pre ad ad' → Rep K H0 A0 av' ad' Γ C' σ H' := fun R R' f pr => R'.slots R.slen fun j d hj => by
      obtain ⟨v, h3, h4⟩ := R.slot j d hj
      exact ⟨v, h3, h4.mono f pr⟩
    refine ho x (wipe σ vs) σ H3 _ (wipe_idem vs vs fun _ h => h) ?_
    refine hg H0 A0 av2 ad2 (wipe3 Γ vs) C2 (wipe σ vs) H3 x d _ _ (wiped vs R3) r3 w2 fun av4 ad4 Γ4 C4 σ4 H4 R4 l4 w4 => ?_
    refine ht H0 A0 av4 ad4 Γ4 C4 σ4 H4 _ _ R4 w4 fun k H5 av5 ad5 C5 R5 l5 w5 => ?_
    have l45 := l4.trans l5
    cases k with
    | false =>
      obtain ⟨w5, w6⟩ := w5
      exact ⟨hlt, av5, ad5, C5, acc, M3.go l45 (back R3 R5 l45.fz l45.pre), w5, w6⟩
    | true =>
      rw [if_pos rfl] at w5 ⊢
      refine hi1 H0 A0 av5 ad5 Γ4 C5 σ4 H5 _ _ R5 w5 fun J1 H6 av6 ad6 C6 es src1 R6 l6 Y1 w6 => ?_
      have M6 : Mid K H0 A0 av1 ad1 H1 p Γ4 σ4 av6 ad6 C6 acc H6 := M3.go (l45.trans l6) R6
      have f36 := (l45.trans l6).fz
      have p36 := (l45.trans l6).pre
      let Jv : Nat → Hp → Prop := fun j H7 => j ≤ es.length ∧ ∃ av7 ad7 C7 acc7, Mid K H0 A0 av1 ad1 H1 p Γ4 σ4 av7 ad7 C7 acc7 H7 ∧ Fz av6 H6 av7 H7 ∧ Pre ad6 ad7 ∧ (j = 0 ∨ srcOk src C1 C7) ∧ srcOk src1 C6 C7 ∧
        lcW G1 B1 E (wipe3 Γ4 vs1) (fun C' => srcOk src C1 C' ∧ srcOk src1 C6 C') (fun c C' => match c with
          | .lst acc' => srcOk src C1 C' ∧ lc2W G B I1 G1 B1 E vs1 (wipe3 Γ vs) (srcOk src C1) Q3 (ds.drop (i + 1)) acc' C'
          | _ => False) (es.drop j) acc7 C7
      refine ⟨fun j m H7 => m = es.length - j ∧ Jv j H7, ⟨es.length, by simp, Nat.zero_le _, av6, ad6, C6, acc, M6, Fz.refl, Pre.refl, .inl rfl, fun _ _ => rfl, w6⟩, ?_⟩
      rintro j m H7 ⟨rfl, hjl, av7, ad7, C7, acc7, M7, f7, p7, ok7, ok17, w7⟩
      have R7 := M7.rep
      obtain ⟨z1, z2⟩ := Y1 av7 ad7 Γ4 C7 σ4 H7 j R7 (keeps_of R6 R7 f7 p7 ok17)
      by_cases hlt1 : j < es.length
      · obtain ⟨hgo1, hy1⟩ := z1 hlt1
        refine .inr ⟨hgo1, Jv (j + 1), fun H' h' => ⟨es.length - (j + 1), by omega, rfl, h'⟩, fun x1 H8 hx1 => ?_⟩
        obtain ⟨s8, d1, e8, r8⟩ := hy1 x1 H8 hx1
        have ee : es.drop j = d1 :: es.drop (j + 1) := by
          rw [List.drop_eq_getElem_cons hlt1]
          have : es[j] = d1 := by
            rw [List.getElem?_eq_getElem hlt1] at e8
            exact Option.some.inj e8
          rw [this]
        rw [ee] at w7
        have R8 := R7.same s8
        have M8 : Mid K H0 A0 av1 ad1 H1 p Γ4 σ4 av7 ad7 C7 acc7 H8 := M7.go (Le.same s8) R8
        have f8 : Fz av6 H6 av7 H8 := f7.trans (Fz.same s8)
        refine ho1 x1 (wipe σ4 vs1) σ4 H8 _ (wipe_idem vs1 vs1 fun _ h => h) ?_
        refine hg1 H0 A0 av7 ad7 (wipe3 Γ4 vs1) C7 (wipe σ4 vs1) H8 x1 d1 _ _ (wiped vs1 R8) r8 w7 fun av9 ad9 Γ9 C9 σ9 H9 R9 l9 w9 => ?_
        refine ht1 H0 A0 av9 ad9 Γ9 C9 σ9 H9 _ _ R9 w9 fun k1 H10 av10 ad10 C10 R10 l10 w10 => ?_
        have l90 := l9.trans l10
        cases k1 with
        | false =>
          obtain ⟨⟨w10, w10'⟩, w11⟩ := w10
          exact ⟨hlt1, av10, ad10, C10, acc7, M8.go l90 (back R8 R10 l90.fz l90.pre), f8.trans l90.fz, p7.trans l90.pre, .inr w10, w10', w11⟩
        | true =>
          rw [if_pos rfl] at w10 ⊢
          refine he H0 A0 av10 ad10 Γ9 C10 σ9 H10 _ _ R10 w10 fun v H11 av11 ad11 dv C11 R11 l11 r11 ⟨hz, ⟨w11, w11'⟩, w12⟩ => ?_
          have l91 := l90.trans l11
          have M11 : Mid K H0 A0 av1 ad1 H1 p Γ4 σ4 av11 ad11 C11 acc7 H11 := M8.go l91 (back R8 R11 l91.fz l91.pre)
          obtain ⟨us, eu, hu, M12, f12⟩ := M11.add n0 np r11 hz
          exact ⟨us, eu, hu, hlt1, av11, ad11, C11, acc7 ++ [dv], M12, (f8.trans l91.fz).trans f12, p7.trans l91.pre, .inr w11, w11', w12⟩
      · have e : j = es.length := by omega
        subst e
        rw [List.drop_length] at w7
        obtain ⟨w8, w9⟩ := w7
        have fz3 := f36.trans f7
        have pr3 := p36.trans p7
        exact .inl ⟨z2 (Nat.le_refl _), hlt, av7, ad7, C7, acc7, ⟨back R3 R7 fz3 pr3, M7.pv, M7.np, M7.le, M7.lst⟩, w8, w9⟩
  · have e : i = ds.length := by omega
    subst e
    rw [List.drop_length] at w2
    refine .inl ⟨y2 (Nat.le_refl _), ?_⟩
    have pv2 := M2.pv
    have ea : av2 = fun b => (av2 b ∧ b ≠ p) ∨ b = p := by
      funext b
      refine propext ⟨fun h => ?_, fun h => h.elim (fun z => z.1) fun z => by rw [z]; exact pv2⟩
      by_cases e : b = p
      · exact .inr e
      · exact .inl ⟨h, e⟩
    have l3 := l1.trans M2.le
    have np2 := M2.np
    obtain ⟨us, hp2, da2⟩ := M2.lst
    rw [ea] at R2 l3 da2
    exact q p H2 (fun b => av2 b ∧ b ≠ p) ad2 (.lst acc) C2 R2 (fun b hb => ⟨(R2.sub b hb).elim (fun z => z.1) fun z => by rw [z] at hb; exact absurd hb np2, fun z => np2 (by rw [← z]; exact hb)⟩) (fun z => z.2 rfl) (l1.there p np) l3 ⟨us, hp2, da2⟩ w2
theorem vf_lc2 {vs1 : List Nat} (hc : X.calm = true) (hN : X.N.Nodup) (hi : VI K X tg iter wi I) (ok : BlkOk X.N X.env.scope scope own) (hv : ∀ i ∈ vs1, i ∈ own.map (·.2)) (ho : GOwn (own.map (·.2)) g) (ho1 : GOwn vs1 g1)
    (hg : ∀ (s : Shared) (H : Hp) (C : Addr) (cl : List (Str × Addr)) (fp : List Addr), VG K (X.blk s H scope (compEnvC scope cl C X.env) fp) tg g G) (ht : ∀ (s : Shared) (H : Hp) (C : Addr) (cl : List (Str × Addr)) (fp : List Addr), VTs K (X.blk s H scope (compEnvC scope cl C X.env) fp) ifs tt B)
    (hi1 : ∀ (s : Shared) (H : Hp) (C : Addr) (cl : List (Str × Addr)) (fp : List Addr), VI K (X.blk s H scope (compEnvC scope cl C X.env) fp) tg1 iter1 wi1 I1)
    (hg1 : ∀ (s : Shared) (H : Hp) (C : Addr) (cl : List (Str × Addr)) (fp : List Addr), VG K (X.blk s H scope (compEnvC scope cl C X.env) fp) tg1 g1 G1) (ht1 : ∀ (s : Shared) (H : Hp) (C : Addr) (cl : List (Str × Addr)) (fp : List Addr), VTs K (X.blk s H scope (compEnvC scope cl C X.env) fp) ifs1 tt1 B1)
    (he : ∀ (s : Shared) (H : Hp) (C : Addr) (cl : List (Str × Addr)) (fp : List Addr), VE K (X.blk s H scope (compEnvC scope cl C X.env) fp) elt te E) (hs : ∀ x, foldedSetIterable iter X.env x = pure x := by intro _; rfl) (hs1 : ∀ env x, foldedSetIterable iter1 env x = pure x := by intro _ _; rfl) :
    VF K X (.ListComp elt [⟨tg, iter, ifs, 0⟩, ⟨tg1, iter1, ifs1, 0⟩] scope pos) (tLc2 wi g tt wi1 g1 tt1 te (own.map (·.2)) vs1) (fLc2 (own.map (·.2)) vs1 I G B I1 G1 B1 E) :=
  ⟨pe_lc2 hc hN hi.pi ok hv (fun s H C cl fp => (hg s H C cl fp).pg) (fun s H C cl fp => (ht s H C cl fp).pt) (fun s H C cl fp => (hi1 s H C cl fp).pi) (fun s H C cl fp => (hg1 s H C cl fp).pg) (fun s H C cl fp => (ht1 s H C cl fp).pt) (fun s H C cl fp => (he s H C cl fp).pe) hs hs1,
    sim_lc2 hi.sim (hg X.s_0 X.H_0 0 [] []).sim ho (ht X.s_0 X.H_0 0 [] []).sim (hi1 X.s_0 X.H_0 0 [] []).sim (hg1 X.s_0 X.H_0 0 [] []).sim ho1 (ht1 X.s_0 X.H_0 0 [] []).sim (he X.s_0 X.H_0 0 [] []).sim⟩
theorem vs_setLc2 {vs1 : List Nat} (i : Nat) (m : Bool) (hc : X.calm = true) (hN : X.N.Nodup) (hi : VI K X tg iter wi I) (ok : BlkOk X.N X.env.scope scope own) (hv : ∀ i ∈ vs1, i ∈ own.map (·.2)) (ho : GOwn (own.map (·.2)) g) (ho1 : GOwn vs1 g1)
    (hg : ∀ (s : Shared) (H : Hp) (C : Addr) (cl : List (Str × Addr)) (fp : List Addr), VG K (X.blk s H scope (compEnvC scope cl C X.env) fp) tg g G) (ht : ∀ (s : Shared) (H : Hp) (C : Addr) (cl : List (Str × Addr)) (fp : List Addr), VTs K (X.blk s H scope (compEnvC scope cl C X.env) fp) ifs tt B)
    (hi1 : ∀ (s : Shared) (H : Hp) (C : Addr) (cl : List (Str × Addr)) (fp : List Addr), VI K (X.blk s H scope (compEnvC scope cl C X.env) fp) tg1 iter1 wi1 I1)
    (hg1 : ∀ (s : Shared) (H : Hp) (C : Addr) (cl : List (Str × Addr)) (fp : List Addr), VG K (X.blk s H scope (compEnvC scope cl C X.env) fp) tg1 g1 G1) (ht1 : ∀ (s : Shared) (H : Hp) (C : Addr) (cl : List (Str × Addr)) (fp : List Addr), VTs K (X.blk s H scope (compEnvC scope cl C X.env) fp) ifs1 tt1 B1)
    (he : ∀ (s : Shared) (H : Hp) (C : Addr) (cl : List (Str × Addr)) (fp : List Addr), VE K (X.blk s H scope (compEnvC scope cl C X.env) fp) elt te E) (hy : X.N[i]? = some y := by rfl) (hyl : X.env.scope.names.lookup y = some .local := by rfl)
    (hsw : swapsWith (.ListComp elt [⟨tg, iter, ifs, 0⟩, ⟨tg1, iter1, ifs1, 0⟩] scope pos) (some (.Name y py)) spos.line X.env = pure true := by exact sw_true rfl rfl rfl (by decide +kernel)) (hs : ∀ x, foldedSetIterable iter X.env x = pure x := by intro _; rfl) (hs1 : ∀ env x, foldedSetIterable iter1 env x = pure x := by intro _ _; rfl) :
    VS K X (.Assign [.Name y py] (.ListComp elt [⟨tg, iter, ifs, 0⟩, ⟨tg1, iter1, ifs1, 0⟩] scope pos) spos) (tAsg (tLc2 wi g tt wi1 g1 tt1 te (own.map (·.2)) vs1) (gName i)) (sAsg (if m then eCell (fLc2 (own.map (·.2)) vs1 I G B I1 G1 B1 E) else eFrz (fLc2 (own.map (·.2)) vs1 I G B I1 G1 B1 E)) (gvName i)) := by
  have V := vf_lc2 (pos := pos) hc hN hi ok hv ho ho1 hg ht hi1 hg1 ht1 he hs hs1
  refine ⟨ps_setLc2 hc hN hy hyl hsw hi.pi ok hv (fun s H C cl fp => (hg s H C cl fp).pg) (fun s H C cl fp => (ht s H C cl fp).pt) (fun s H C cl fp => (hi1 s H C cl fp).pi) (fun s H C cl fp => (hg1 s H C cl fp).pg) (fun s H C cl fp => (ht1 s H C cl fp).pt) (fun s H C cl fp => (he s H C cl fp).pe) hs hs1, ?_⟩
  refine sim_asg ?_ fun H0 A0 av ad Γ C σ H v d Q3 Q R dv h q => q av ad _ C _ H (R.store i dv) Le.refl h
  cases m with
  | true => exact V.cell.sim
  | false => exact V.frz.sim
end
end L3

/-! zip of two lists whose pairs go to one name -/
namespace RZ
open PySem PySem.Spec PyProof.Rows L2
section
variable {prog : Program} {w : World} {A : Around} {E : Value → Shared → Prop} {s : Shared}
/-- a zip: what it says of the pair that it gave last, and its parts -/
abbrev ZipF (h : Heap) (q ti po : Addr) (v : Value) (f : Bool) : Prop := h.get? q = some { cls := .type "zip", dict := none, data := .fields #[v, .bool f, .bool false, .ref ti, .ref po], slots := #[] }
/-- the pair that it gave last is gone: it may use its own again -/
theorem free_gone {q ti po T : Addr} {f : Bool} {Q : Bool → Shared → Prop} (hq : ZipF s.heap q ti po (rawInt T) f) (gone : s.heap.get? T = none) (h : Q true s) : wpAny (model prog w) A (Builtin.SmallTypes.ownedTupleIsFree (.ref q)) Q E s := by
  have alive : ∀ {R : Option Obj → Shared → Prop}, R none s → wpAny (model prog w) A (loadIfAlive T) R E s := fun {R} r => by
    have r' : R (s.heap.get? T) s := by rw [gone]; exact r
    exact fun _ _ _ => r'
  unfold Builtin.SmallTypes.ownedTupleIsFree
  refine wpAny_bind (wpAny_field hq rfl (x := rawInt T) rfl ?_)
  show wpAny _ _ (loadIfAlive ((T : Int).toNat) >>= _) _ _ _
  rw [Int.toNat_natCast]
  refine wpAny_bind (alive ?_)
  simp only [Option.isNone_none, if_true]
  exact wpAny_pure h
theorem gone_item {q ti po T i1 i2 a b : Addr} {f : Bool} {n1 n2 : Nat} {xs ys : Array Value} {x y u v : Value} {Q : Value → Shared → Prop} (D : ZipApart q ti po i1 i2 a b)
    (hq : ZipF s.heap q ti po (rawInt T) f) (gone : s.heap.get? T = none) (pti : IsPair s.heap ti (.ref i1) (.ref i2)) (ppo : IsPair s.heap po u v)
    (w1 : s.heap.IsListIter i1 a n1) (w2 : s.heap.IsListIter i2 b n2) (la : s.heap.IsList a xs) (lb : s.heap.IsList b ys) (ex : xs[n1]? = some x) (ey : ys[n2]? = some y)
    (k : ∀ h', ZipF h' q ti po (rawInt s.heap.objs.size) false → IsPair h' po x y → h'.IsListIter i1 a (n1 + 1) → h'.IsListIter i2 b (n2 + 1) → IsPair h' s.heap.objs.size x y → h'.objs.size = s.heap.objs.size + 1 →
      (∀ c o, c ≠ q → c ≠ po → c ≠ i1 → c ≠ i2 → s.heap.get? c = some o → h'.get? c = some o) → Q (.ref s.heap.objs.size) { s with heap := h' }) :
    wpAny (model prog w) A (Builtin.«zip.__next__» ⟨[.ref q], []⟩) (fun r s' => ∃ v, r = .done (.ret v) ∧ Q v s') E s := by
  show wpAny _ _ (field (.ref q) 2 >>= _) _ _ _
  refine wpAny_bind (wpAny_field hq rfl (x := .bool false) rfl ?_)
  show wpAny _ _ (field (.ref q) 3 >>= _) _ _ _
  refine wpAny_bind (wpAny_field hq rfl (x := .ref ti) rfl (wpAny_bind (wpAny_seqItems pti rfl ?_)))
  show wpAny _ _ (Builtin.SmallTypes.ownedTupleIsFree (.ref q) >>= _) _ _ _
  refine wpAny_bind (free_gone hq gone ?_)
  simp only [if_true]
  refine wpAny_bind (wpAny_rule (wpAny_bind (wpAny_field hq rfl (x := .ref po) rfl (wpAny_bind (wpAny_setField_rec hq (by simp) fun g1 q1 s1 => ?_)))))
  replace q1 : ZipF g1 q ti po .ellipsis f := q1
  refine wpAny_bind ?_
  simp only [List.zipIdx_cons, List.zipIdx_nil, List.forIn_cons, List.forIn_nil]
  refine wpAny_bind (wpAny_bind (wpAny_onRaise ?_))
  show wpAny _ _ (Builtin.SmallTypes.nextOf (.ref i1) >>= _) _ _ _
  refine wpAny_bind (wpAny_nextOf_list_item (w1.extBut s1.extBut D.i1z) (la.extBut s1.extBut D.l1z) ex fun g2 w1' s2 => wpAny_pure ?_)
  have p2 : IsPair g2 po u v := s2.extBut _ _ D.TOi1 (s1.extBut _ _ D.TOz ppo)
  refine wpAny_bind (wpAny_seqItems p2 rfl (wpAny_bind (wpAny_updateSeq_pair p2 fun g3 p3 s3 => ?_)))
  replace p3 : IsPair g3 po x v := p3
  refine wpAny_bind (wpAny_letGo (wpAny_pure ?_))
  refine wpAny_bind (wpAny_bind (wpAny_onRaise ?_))
  show wpAny _ _ (Builtin.SmallTypes.nextOf (.ref i2) >>= _) _ _ _
  refine wpAny_bind (wpAny_nextOf_list_item (((w2.extBut s1.extBut D.i2z).extBut s2.extBut D.i12.symm).extBut s3.extBut D.TOi2.symm) (((lb.extBut s1.extBut D.l2z).extBut s2.extBut D.l2i1).extBut s3.extBut D.l2TO) ey fun g4 w2' s4 => wpAny_pure ?_)
  have p4 : IsPair g4 po x v := s4.extBut _ _ D.TOi2 p3
  refine wpAny_bind (wpAny_seqItems p4 rfl (wpAny_bind (wpAny_updateSeq_pair p4 fun g5 p5 s5 => ?_)))
  replace p5 : IsPair g5 po x y := p5
  refine wpAny_bind (wpAny_letGo (wpAny_pure (wpAny_pure (wpAny_bind (wpAny_seqItems p5 rfl (wpAny_bind (wpAny_newTuple ?_)))))))
  have sz : g5.objs.size = s.heap.objs.size := by rw [s5.1, s4.1, s3.1, s2.1, s1.1]
  have q5 : ZipF g5 q ti po .ellipsis f := s5.extBut _ _ D.TOz.symm (s4.extBut _ _ D.i2z.symm (s3.extBut _ _ D.TOz.symm (s2.extBut _ _ D.i1z.symm q1)))
  have keep : ∀ c o, c ≠ q → c ≠ po → c ≠ i1 → c ≠ i2 → s.heap.get? c = some o → g5.get? c = some o := fun c o e1 e2 e3 e4 e =>
    s5.extBut _ _ e2 (s4.extBut _ _ e4 (s3.extBut _ _ e2 (s2.extBut _ _ e3 (s1.extBut _ _ e1 e))))
  have w15 : g5.IsListIter i1 a (n1 + 1) := ((w1'.extBut s3.extBut D.TOi1.symm).extBut s4.extBut D.i12).extBut s5.extBut D.TOi1.symm
  have w25 : g5.IsListIter i2 b (n2 + 1) := w2'.extBut s5.extBut D.TOi2.symm
  have qlt : q < g5.objs.size := Heap.lt_size q5
  show wpAny _ _ (Builtin.SmallTypes.ownedTupleHandOut (.ref q) (.ref g5.objs.size) >>= _) _ _ _
  refine wpAny_bind ?_
  unfold Builtin.SmallTypes.ownedTupleHandOut
  have q6 : ZipF (g5.push { cls := .type "tuple", data := .seq #[x, y] }) q ti po .ellipsis f := Heap.get?_push_of_some _ q5
  refine wpAny_bind (wpAny_setField_rec q6 (by simp) fun g7 q7 s7 => ?_)
  replace q7 : ZipF g7 q ti po (rawInt g5.objs.size) f := q7
  refine wpAny_setField_rec q7 (by simp) fun g8 q8 s8 => ?_
  replace q8 : ZipF g8 q ti po (rawInt g5.objs.size) false := q8
  have up : ∀ c o, c ≠ q → g5.get? c = some o → g8.get? c = some o := fun c o e1 e => s8.extBut _ _ e1 (s7.extBut _ _ e1 (Heap.get?_push_of_some _ e))
  have p8 : IsPair g8 g5.objs.size x y := s8.extBut _ _ (Nat.ne_of_gt qlt) (s7.extBut _ _ (Nat.ne_of_gt qlt) (Heap.get?_push_size _ rfl))
  have sz8 : g8.objs.size = g5.objs.size + 1 := by rw [s8.1, s7.1, Heap.size_push]
  rw [sz] at q8 p8 sz8
  refine wpAny_pure ⟨_, rfl, ?_⟩
  show Q (.ref g5.objs.size) _
  rw [sz]
  exact k g8 q8 (up _ _ D.TOz p5) (w15.at fun o e => up _ o D.i1z e) (w25.at fun o e => up _ o D.i2z e) p8 sz8 fun c o e1 e2 e3 e4 e => up c o e1 (keep c o e1 e2 e3 e4 e)
theorem gone_end {q ti po T i1 i2 a b : Addr} {f : Bool} {n1 n2 : Nat} {xs ys : Array Value} {u v : Value} {Q : Fin → Shared → Prop} (hh : A.handled = none) (D : ZipApart q ti po i1 i2 a b)
    (hq : ZipF s.heap q ti po (rawInt T) f) (gone : s.heap.get? T = none) (pti : IsPair s.heap ti (.ref i1) (.ref i2)) (ppo : IsPair s.heap po u v)
    (w1 : s.heap.IsListIter i1 a n1) (w2 : s.heap.IsListIter i2 b n2) (la : s.heap.IsList a xs) (lb : s.heap.IsList b ys) (over : xs[n1]? = none ∨ ys[n2]? = none)
    (k : ∀ h' e, (∀ c o, c ≠ q → c ≠ po → c ≠ i1 → c ≠ i2 → s.heap.get? c = some o → h'.get? c = some o) → (∃ o, h'.get? e = some o ∧ o.cls = .type "StopIteration") → E (.ref e) { s with heap := h' }) :
    wpAny (model prog w) A (Builtin.«zip.__next__» ⟨[.ref q], []⟩) Q E s := by
  show wpAny _ _ (field (.ref q) 2 >>= _) _ _ _
  refine wpAny_bind (wpAny_field hq rfl (x := .bool false) rfl ?_)
  show wpAny _ _ (field (.ref q) 3 >>= _) _ _ _
  refine wpAny_bind (wpAny_field hq rfl (x := .ref ti) rfl (wpAny_bind (wpAny_seqItems pti rfl ?_)))
  show wpAny _ _ (Builtin.SmallTypes.ownedTupleIsFree (.ref q) >>= _) _ _ _
  refine wpAny_bind (free_gone hq gone ?_)
  simp only [if_true]
  refine wpAny_bind (wpAny_rule (wpAny_bind (wpAny_field hq rfl (x := .ref po) rfl (wpAny_bind (wpAny_setField_rec hq (by simp) fun g1 q1 s1 => ?_)))))
  replace q1 : ZipF g1 q ti po .ellipsis f := q1
  refine wpAny_bind ?_
  simp only [List.zipIdx_cons, List.zipIdx_nil, List.forIn_cons, List.forIn_nil]
  refine wpAny_bind (wpAny_bind (wpAny_onRaise ?_))
  show wpAny _ _ (Builtin.SmallTypes.nextOf (.ref i1) >>= _) _ _ _
  cases ex : xs[n1]? with
  | none =>
    refine wpAny_bind (wpAny_nextOf_list_end hh (w1.extBut s1.extBut D.i1z) (la.extBut s1.extBut D.l1z) ex fun g2 e s2 he => ?_)
    obtain ⟨oe, hoe, hce⟩ := he
    have q2 : ZipF g2 q ti po .ellipsis f := s2 _ _ D.i1z.symm q1
    have ne : e ≠ q := fun z => by subst z; rw [q2] at hoe; cases hoe; simp at hce
    refine wpAny_setField_rec q2 (by simp) fun g3 _ s3 => k g3 e (fun c o e1 _ e3 _ z => s3.extBut _ _ e1 (s2 _ _ e3 (s1.extBut _ _ e1 z))) ⟨oe, s3.extBut _ _ ne hoe, hce⟩
  | some x =>
    have ey : ys[n2]? = none := over.elim (fun z => by rw [ex] at z; cases z) fun z => z
    refine wpAny_bind (wpAny_nextOf_list_item (w1.extBut s1.extBut D.i1z) (la.extBut s1.extBut D.l1z) ex fun g2 w1' s2 => wpAny_pure ?_)
    have p2 : IsPair g2 po u v := s2.extBut _ _ D.TOi1 (s1.extBut _ _ D.TOz ppo)
    refine wpAny_bind (wpAny_seqItems p2 rfl (wpAny_bind (wpAny_updateSeq_pair p2 fun g3 p3 s3 => ?_)))
    refine wpAny_bind (wpAny_letGo (wpAny_pure ?_))
    refine wpAny_bind (wpAny_bind (wpAny_onRaise ?_))
    show wpAny _ _ (Builtin.SmallTypes.nextOf (.ref i2) >>= _) _ _ _
    refine wpAny_bind (wpAny_nextOf_list_end hh (((w2.extBut s1.extBut D.i2z).extBut s2.extBut D.i12.symm).extBut s3.extBut D.TOi2.symm) (((lb.extBut s1.extBut D.l2z).extBut s2.extBut D.l2i1).extBut s3.extBut D.l2TO) ey fun g4 e s4 he => ?_)
    obtain ⟨oe, hoe, hce⟩ := he
    have q4 : ZipF g4 q ti po .ellipsis f := s4 _ _ D.i2z.symm (s3.extBut _ _ D.TOz.symm (s2.extBut _ _ D.i1z.symm q1))
    have ne : e ≠ q := fun z => by subst z; rw [q4] at hoe; cases hoe; simp at hce
    refine wpAny_setField_rec q4 (by simp) fun g5 _ s5 => k g5 e (fun c o e1 e2 e3 e4 z => s5.extBut _ _ e1 (s4 _ _ e4 (s3.extBut _ _ e2 (s2.extBut _ _ e3 (s1.extBut _ _ e1 z))))) ⟨oe, s5.extBut _ _ ne hoe, hce⟩
theorem next_gone_item {q ti po T i1 i2 a b : Addr} {f : Bool} {n1 n2 : Nat} {xs ys : Array Value} {x y u v : Value} {Q : Option Value → Shared → Prop} (D : ZipApart q ti po i1 i2 a b)
    (hq : ZipF s.heap q ti po (rawInt T) f) (gone : s.heap.get? T = none) (pti : IsPair s.heap ti (.ref i1) (.ref i2)) (ppo : IsPair s.heap po u v)
    (w1 : s.heap.IsListIter i1 a n1) (w2 : s.heap.IsListIter i2 b n2) (la : s.heap.IsList a xs) (lb : s.heap.IsList b ys) (ex : xs[n1]? = some x) (ey : ys[n2]? = some y)
    (k : ∀ h', ZipF h' q ti po (rawInt s.heap.objs.size) false → IsPair h' po x y → h'.IsListIter i1 a (n1 + 1) → h'.IsListIter i2 b (n2 + 1) → IsPair h' s.heap.objs.size x y → h'.objs.size = s.heap.objs.size + 1 →
      (∀ c o, c ≠ q → c ≠ po → c ≠ i1 → c ≠ i2 → s.heap.get? c = some o → h'.get? c = some o) → Q (some (.ref s.heap.objs.size)) { s with heap := h' }) : wpAny (model prog w) A (pyNext (.ref q)) Q E s := by
  have ty : s.TypeIs (.ref q) "zip" := ⟨_, hq, rfl⟩
  unfold pyNext
  exact wpAny_bind (wpAny_attempt (wpAny_callSpecial?_slot (name := Str.ofString "__next__") ty F.slot_zip_next (wpAny_call_entry F.slot_zip_next ty F.entry_zip_next (gone_item D hq gone pti ppo w1 w2 la lb ex ey fun h' a1 a2 a3 a4 a5 a6 a7 => wpAny_pure (k h' a1 a2 a3 a4 a5 a6 a7)) (F.args_zip_next_1 _))))
theorem next_gone_end {q ti po T i1 i2 a b : Addr} {f : Bool} {n1 n2 : Nat} {xs ys : Array Value} {u v : Value} {Q : Option Value → Shared → Prop} (hh : A.handled = none) (D : ZipApart q ti po i1 i2 a b)
    (hq : ZipF s.heap q ti po (rawInt T) f) (gone : s.heap.get? T = none) (pti : IsPair s.heap ti (.ref i1) (.ref i2)) (ppo : IsPair s.heap po u v)
    (w1 : s.heap.IsListIter i1 a n1) (w2 : s.heap.IsListIter i2 b n2) (la : s.heap.IsList a xs) (lb : s.heap.IsList b ys) (over : xs[n1]? = none ∨ ys[n2]? = none)
    (k : ∀ h', (∀ c o, c ≠ q → c ≠ po → c ≠ i1 → c ≠ i2 → s.heap.get? c = some o → h'.get? c = some o) → Q none { s with heap := h' }) : wpAny (model prog w) A (pyNext (.ref q)) Q E s := by
  have ty : s.TypeIs (.ref q) "zip" := ⟨_, hq, rfl⟩
  unfold pyNext
  refine wpAny_bind (wpAny_attempt (wpAny_callSpecial?_slot (name := Str.ofString "__next__") ty F.slot_zip_next (wpAny_call_entry F.slot_zip_next ty F.entry_zip_next (gone_end hh D hq gone pti ppo w1 w2 la lb over fun h' e hk he => ?_) (F.args_zip_next_1 _))))
  obtain ⟨o, ho, hc⟩ := he
  exact wpAny_bind (wpAny_isInstance (T := "StopIteration") (b := true) ⟨o, ho, hc⟩ isSubtype_stop (wpAny_pure (k _ hk)))
end
/-- how the zip stands between two turns -/
def ZipSt (q ti po i1 i2 a b : Addr) (i : Nat) (h : Heap) : Prop :=
  (∃ v f, ZipF h q ti po v f ∧ ((v = .none ∧ f = false) ∨ ∃ T : Addr, v = rawInt T)) ∧ IsPair h ti (.ref i1) (.ref i2) ∧ (∃ x y, IsPair h po x y) ∧ h.IsListIter i1 a i ∧ h.IsListIter i2 b i
theorem turn_zipN {P : Program} {w : World} {K : PySem.W.Frag} {nm : Str} {tpos : Pos} {a b q ti po i1 i2 : Addr} (D : ZipApart q ti po i1 i2 a b) : Turn P w K (.Name nm tpos) (Itz K a b) [q, ti, po, i1, i2] q (ZipSt q ti po i1 i2 a b) where
  mem := by simp
  obj := fun i h st c hc => by
    obtain ⟨⟨v, f, hz, _⟩, hti, ⟨x, y, hpo⟩, ⟨o1, e1, _, d1⟩, ⟨o2, e2, _, d2⟩⟩ := st
    have e' : c = q ∨ c = ti ∨ c = po ∨ c = i1 ∨ c = i2 := by simpa using hc
    rcases e' with z | z | z | z | z
    · rw [z]; exact ⟨_, hz, fun v q => nomatch q⟩
    · rw [z]; exact ⟨_, hti, fun v q => nomatch q⟩
    · rw [z]; exact ⟨_, hpo, fun v q => nomatch q⟩
    · rw [z]; exact ⟨o1, e1, fun v q => by rw [d1] at q; cases q⟩
    · rw [z]; exact ⟨o2, e2, fun v q => by rw [d2] at q; cases q⟩
  keep := fun i h h' st k => by
    obtain ⟨⟨v, f, hz, hv⟩, hti, ⟨x, y, hpo⟩, h1, h2⟩ := st
    exact ⟨⟨v, f, k q (by simp) _ hz, hv⟩, k ti (by simp) _ hti, ⟨x, y, k po (by simp) _ hpo⟩, h1.at fun o e => k i1 (by simp) o e, h2.at fun o e => k i2 (by simp) o e⟩
  item := by
    intro X hP hw hK hc i pins s σ H E I hf st hg
    subst hP hw hK
    obtain ⟨⟨v0, f0, hz, hv⟩, hti, ⟨x0, y0, hpo⟩, h1, h2⟩ := st
    obtain ⟨xs, ys, x, y, hqx, hqy, hx, hy⟩ := hg
    obtain ⟨its, rv, p, _⟩ := I.list hqx
    obtain ⟨its2, rv2, p2, _⟩ := I.list hqy
    obtain ⟨u, hu, ru⟩ := rv.get hx
    obtain ⟨u2, hu2, ru2⟩ := rv2.get hy
    have ex : its.toArray[i]? = some u := by simpa using hu
    have ey : its2.toArray[i]? = some u2 := by simpa using hu2
    have below : ∀ c, c ∈ [q, ti, po, i1, i2] → c < s.heap.objs.size := fun c hcm => by
      have e' : c = q ∨ c = ti ∨ c = po ∨ c = i1 ∨ c = i2 := by simpa using hcm
      rcases e' with z | z | z | z | z
      · rw [z]; exact Heap.lt_size hz
      · rw [z]; exact Heap.lt_size hti
      · rw [z]; exact Heap.lt_size hpo
      · rw [z]; obtain ⟨_, e1, _⟩ := h1; exact Heap.lt_size e1
      · rw [z]; obtain ⟨_, e2, _⟩ := h2; exact Heap.lt_size e2
    have fin : ∀ h' : Heap, (∃ v f, ZipF h' q ti po v f ∧ ((v = .none ∧ f = false) ∨ ∃ T : Addr, v = rawInt T)) → (∃ x y, IsPair h' po x y) → h'.IsListIter i1 a (i + 1) → h'.IsListIter i2 b (i + 1) → IsPair h' s.heap.objs.size u u2 →
        (∀ c o, c ≠ q → c ≠ po → c ≠ i1 → c ≠ i2 → s.heap.get? c = some o → h'.get? c = some o) →
        ∃ u, some (Value.ref s.heap.objs.size) = some u ∧ wpAny (model X.prog X.w) X.A (letOwnedTupleGo (.Name nm tpos) (.ref q) u) (fun _ s2 => ∃ x H', Inv X pins σ H' s2 ∧ RelV x u ∧ (Itz X.K a b).yld i H x H' ∧ ZipSt q ti po i1 i2 a b (i + 1) s2.heap ∧ ∀ c ∈ [q, ti, po, i1, i2], H' c = none) E { s with heap := h' } := by
      intro h' a1 a2 a3 a4 a5 hk
      refine ⟨_, rfl, wpAny_pure ?_⟩
      have new : ObjOk X.prog X.w (upd H s.heap.objs.size (.tup [x, y])) h' s.heap.objs.size (.tup [x, y]) := ⟨by show 2 ≤ sizeLine; decide, [u, u2], .cons ru (.cons ru2 .nil), ⟨_, a5, rfl, _, rfl⟩⟩
      have I1 : Inv X pins σ (upd H s.heap.objs.size (.tup [x, y])) { s with heap := h' } :=
        I.turnedNew (t' := s.toks) (ch := [q, ti, po, i1, i2]) (fun c o hb e => hk c o (fun z => hb (by simp [z])) (fun z => hb (by simp [z])) (fun z => hb (by simp [z])) (fun z => hb (by simp [z])) e) hf (Nat.le_refl _) new
      refine ⟨.ref s.heap.objs.size, _, I1, rfl, ⟨_, x, y, rfl, I.hok.fresh (Nat.le_refl _), rfl, fun l hl => by rw [I.list_inj hl hqx]; exact hx, fun l hl => by rw [I.list_inj hl hqy]; exact hy⟩, ⟨a1, hk _ _ D.TIz D.TITO D.TIi1 D.TIi2 hti, a2, a3, a4⟩, fun c hcm => ?_⟩
      rw [upd_ne (Nat.ne_of_lt (below c hcm))]
      exact (hf c hcm).1
    rcases hv with ⟨rfl, rfl⟩ | ⟨T, rfl⟩
    · exact wpAny_pyNext_zip_item D hz hti hpo h1 h2 p.isList p2.isList ex ey fun h' a1 a2 a3 a4 a5 _ hk => fin h' ⟨_, _, a1, .inr ⟨_, rfl⟩⟩ ⟨_, _, a2⟩ a3 a4 a5 hk
    · cases hT : s.heap.get? T with
      | some oT => exact wpAny_pyNext_zip_item_held D hz hT hti h1 h2 p.isList p2.isList ex ey fun h' a1 a3 a4 a5 _ hk => fin h' ⟨_, _, a1, .inr ⟨_, rfl⟩⟩ ⟨_, _, hk _ _ D.TOz D.TOi1 D.TOi2 hpo⟩ a3 a4 a5 fun c o e1 _ e3 e4 e => hk c o e1 e3 e4 e
      | none => exact next_gone_item D hz hT hti hpo h1 h2 p.isList p2.isList ex ey fun h' a1 a2 a3 a4 a5 _ hk => fin h' ⟨_, _, a1, .inr ⟨_, rfl⟩⟩ ⟨_, _, a2⟩ a3 a4 a5 hk
  done := by
    intro X hP hw hK hc i pins s σ H E I hf st hg
    subst hP hw hK
    obtain ⟨⟨v0, f0, hz, hv⟩, hti, ⟨x0, y0, hpo⟩, h1, h2⟩ := st
    obtain ⟨xs, ys, hqx, hqy, hend⟩ := hg
    obtain ⟨its, rv, p, _⟩ := I.list hqx
    obtain ⟨its2, rv2, p2, _⟩ := I.list hqy
    have l1 := rv.length
    have l2 := rv2.length
    have he : its.toArray[i]? = none ∨ its2.toArray[i]? = none := hend.elim (fun z => .inl (by simp; omega)) fun z => .inr (by simp; omega)
    have fin : ∀ h' : Heap, (∀ c o, c ≠ q → c ≠ po → c ≠ i1 → c ≠ i2 → s.heap.get? c = some o → h'.get? c = some o) → (none : Option Value) = none ∧ Inv X pins σ H { s with heap := h' } := fun h' hk => ⟨rfl, I.turnedL (t' := s.toks) (ch := [q, ti, po, i1, i2]) (fun c o hb e =>
      hk c o (fun z => hb (by simp [z])) (fun z => hb (by simp [z])) (fun z => hb (by simp [z])) (fun z => hb (by simp [z])) e) hf⟩
    rcases hv with ⟨rfl, rfl⟩ | ⟨T, rfl⟩
    · exact wpAny_pyNext_zip_end (I.ok.hd hc) D hz hti hpo h1 h2 p.isList p2.isList he fun h' hk => fin h' hk
    · cases hT : s.heap.get? T with
      | some oT => exact wpAny_pyNext_zip_end_held (I.ok.hd hc) D hz hT hti h1 h2 p.isList p2.isList he fun h' hk => fin h' fun c o e1 _ e3 e4 e => hk c o e1 e3 e4 e
      | none => exact next_gone_end (I.ok.hd hc) D hz hT hti hpo h1 h2 p.isList p2.isList he fun h' hk => fin h' hk
  self := fun A i s Q E st h => by
    obtain ⟨⟨v0, f0, hz, _⟩, _⟩ := st
    have ty : s.TypeIs (.ref q) "zip" := ⟨_, hz, rfl⟩
    refine wpAny_pyIter_slot ty F.slot_zip_iter (wpAny_call_entry F.slot_zip_iter ty F.entry_zip_iter ?_ (F.args_zip_iter_1 _))
    show wpAny _ _ (ret (.ref q)) _ _ s
    exact wpAny_pure ⟨_, rfl, "zip", _, ty, F.slot_zip_next.lookup, h⟩

def iZipN (K : PySem.W.Frag) (ta : TA) : TI := fun σ H R => ta σ H fun vs H1 => ∃ a b xs ys, vs = [.ref a, .ref b] ∧ SqL K H1 a xs ∧ SqL K H1 b ys ∧ R (Itz K a b) H1
theorem pi_zipN {X : Cx} {e e2 : Expr} {ta : TA} {p pos tpos : Pos} {nm : Str} (hg : Gl X "zip") (hm : X.mg "zip" = none) (ha : PA X [e, e2] ta)
    (hs : starEach [e, e2] X.env = (false, eval e X.env) :: starEach [e2] X.env := by rfl) (hpl : (backTo pos (starEach [e2] X.env)).any (·.1) = false := by rfl) :
    PI X (.Name nm tpos) (.Call (.Name "zip" p) [e, e2] [] pos) (iZipN X.K ta) := by
  refine ⟨fun pins s σ H R I h => Call_ (ld_blt I hg hm PyProof.Rows.boot_zip (PyProof.Rows.callWith_type1 (thn (ha.run pos pins s σ H _ I h) fun us s1 ⟨vs, H1, I1, r1, q1⟩ => ?_) hs hpl))⟩
  obtain ⟨a, b, xs, ys, rfl, hqx, hqy, q⟩ := q1
  obtain ⟨u, u2, rfl, ru, ru2⟩ := vals2 r1
  cases ru
  cases ru2
  have fresh5 : ∀ c, c ∈ [s1.heap.objs.size + 4, s1.heap.objs.size + 2, s1.heap.objs.size + 3, s1.heap.objs.size, s1.heap.objs.size + 1] → FpOk X pins H1 c := fun c hcm => by
    have hle : s1.heap.objs.size ≤ c := by
      simp only [List.mem_cons, List.not_mem_nil, or_false] at hcm
      rcases hcm with z | z | z | z | z <;> rw [z] <;> first | exact Nat.le_refl _ | exact Nat.le_add_right _ _
    exact I1.fpOk hle (I1.hok.fresh hle)
  obtain ⟨its, rv, p1, _⟩ := I1.list hqx
  obtain ⟨its2, rv2, p2, _⟩ := I1.list hqy
  refine call_zip_2 p1.isList p2.isList fun h' hz hTI hTO h1 h2 hsz hk => wpAny_pyIter_zip hz ?_
  have I2 : Inv X pins σ H1 { s1 with heap := h' } := I1.kept (t' := s1.toks) hk
  exact ⟨s1.heap.objs.size + 4, [s1.heap.objs.size + 4, s1.heap.objs.size + 2, s1.heap.objs.size + 3, s1.heap.objs.size, s1.heap.objs.size + 1], _, _, H1, rfl, I2, turn_zipN (PySem.W.ktu_apart s1.heap.objs.size a b p1.lt p2.lt), ⟨⟨.none, false, hz, .inl ⟨rfl, rfl⟩⟩, hTI, ⟨_, _, hTO⟩, h1, h2⟩, fresh5, q⟩
end RZ
namespace L3
open PySem PySem.Spec PyProof.Rows L2
section
variable {K : PySem.W.Frag} {X : Cx} {tpos p pos : Pos} {nm : Str} {a b : Expr} {tl : TA} {L : AV}
/-- zip of two lists, to one name -/
def iZipO (L : AV) : IV := fun Γ C Q => L Γ C fun ds C1 => ∃ d d' xs ys, ds = [d, d'] ∧ lstOf C1 d = some xs ∧ lstOf C1 d' = some ys ∧ (noptrs xs && noptrs ys) = true ∧ Q (zipD xs ys) (srcOf d ++ srcOf d') C1
theorem vi_zipO (hK : X.K = K) (hm : X.mg "zip" = none) (h : VA K X [a, b] tl L) (hg : Gl X "zip" := by rfl) (hs : starEach [a, b] X.env = (false, eval a X.env) :: starEach [b] X.env := by rfl) (hpl : (backTo pos (starEach [b] X.env)).any (·.1) = false := by rfl) :
    VI K X (.Name nm tpos) (.Call (.Name "zip" p) [a, b] [] pos) (RZ.iZipN K tl) (iZipO L) := by
  subst hK
  refine ⟨RZ.pi_zipN hg hm h.pa hs hpl, fun H0 A0 av ad Γ C σ H Q3 Rr R h3 q => ?_⟩
  refine h.sim H0 A0 av ad Γ C σ H _ _ R h3 fun vs H' av' ad' ds C' R' l' dv ⟨d, d', xs, ys, e1, e, e', hnp, q3⟩ => ?_
  subst e1
  simp only [Bool.and_eq_true] at hnp
  obtain ⟨v, v', rfl, r, r'⟩ := den2 dv
  obtain ⟨a, rfl, ⟨vs, hs⟩, later⟩ := lst_later (ds := zipD xs ys) (src := srcOf d ++ srcOf d') R' r e (fun _ z => List.mem_append_left _ z) (fun _ => hnp.1)
  obtain ⟨b, rfl, ⟨us, hs2⟩, later2⟩ := lst_later (ds := zipD xs ys) (src := srcOf d ++ srcOf d') R' r' e' (fun _ z => List.mem_append_right _ z) (fun _ => hnp.2)
  refine ⟨a, b, vs, us, rfl, hs, hs2, q _ H' av' ad' C' _ _ R' l' (fun av1 ad1 Γ1 C1 σ1 H1 i R1 k => ?_) q3⟩
  obtain ⟨vs1, s1, r1⟩ := later av1 ad1 Γ1 C1 σ1 H1 R1 k
  obtain ⟨us1, s2, r2⟩ := later2 av1 ad1 Γ1 C1 σ1 H1 R1 k
  have l1 := r1.length
  have l2 := r2.length
  rw [zipD_len]
  refine ⟨fun hi => ⟨⟨vs1, us1, vs1[i]'(by omega), us1[i]'(by omega), s1, s2, by simp, by simp⟩, fun y H2 ⟨T, x, z, e1, e2, e3, e4, e5⟩ => ?_⟩, fun hi => ⟨vs1, us1, s1, s2, by omega⟩⟩
  subst e1 e3
  obtain ⟨dx, e6, rx⟩ := r1.get' (e4 vs1 s1)
  obtain ⟨dz, e7, rz⟩ := r2.get' (e5 us1 s2)
  exact ⟨same_upd e2, _, zipD_get xs ys i e6 e7, .tup ⟨upd_same, R1.nav e2⟩ (.cons (rx.le (Le.new e2)) (.cons (rz.le (Le.new e2)) .nil))⟩
end
/-- the second argument is written to -/
def kf2 : List D → List Nat
  | _ :: .ptr k :: _ => [k]
  | _ => []
end L3

/-! a list's things to names -/
namespace L3
open PySem PySem.Spec PyProof.Rows L2
section
variable {K : PySem.W.Frag} {X : Cx} {es : List Expr} {gs : TGs} {Gs : GVs} {pos : Pos}
def gvLst (n : Nat) (Gs : GVs) : GV := fun d Γ C Q => ∃ ds, lstOf C d = some ds ∧ ds.length = n ∧ Gs ds Γ C Q
theorem vg_lst {k n : Nat} (hK : X.K = K) (hc : X.calm = true) (h : VGs K X es gs Gs) (hn : (assignEach es X.env).length = n := by rfl) (hst : (assignEach es X.env).findIdx? (·.1) = none := by rfl) : VG K X (.Tuple es k pos) (gLst K n gs) (gvLst n Gs) := by
  subst hK
  refine ⟨pg_lst hc h.pg hn hst, fun H0 A0 av ad Γ C σ H v d Q3 Q R dv ⟨ds, e, hl, h3⟩ q => ?_⟩
  obtain ⟨p, vs, rfl, hs, r⟩ := R.lst dv e
  exact ⟨p, vs, rfl, .inl hs, r.length.trans hl, h.sim H0 A0 av ad Γ C σ H vs ds Q3 Q R r h3 q⟩
end
end L3

/-! the law's end, the head's Hook without lists -/
namespace L3
open PySem PySem.Spec PyProof.Rows L2
theorem cal_never {P : Program} {w : World} {K : PySem.W.Frag} {mg : Str → Option Value} {base : Heap} {k n : Nat} {x : Str} {st : Stmt} {ps : List Str} {f : Addr} {fd : FuncData} (F : FnD K x st f fd) (g : mg x = some (.ref f)) (b : Binds K fd ps []) : Cal P w K mg base k x st ps n fun _ _ _ => False :=
  ⟨f, fd, ⟨fun _ _ _ _ ⟨_, _, _, _, _, _, _, h, _⟩ => h.elim, fun _ _ _ _ _ _ _ _ _ _ _ _ _ ⟨_, _, _, _, _, _, _, h, _⟩ => h.elim⟩, g, F.kp, b, F⟩
def isLstO (o : Obj) : Bool := match o.cls with
  | .type c => decide (c = "list")
  | _ => false
def frL (g : Addr → Option Obj) (as : List Addr) : PySem.W.Frag := (He.frG g as).filter fun q => !isLstO q.2
theorem frL_mem {g : Addr → Option Obj} {as : List Addr} {a : Addr} {o : Obj} (h : (frL g as).lookup a = some o) : g a = some o ∧ isLstO o = false := by
  obtain ⟨h1, h2⟩ := List.mem_filter.mp (He.lookup_mem h)
  refine ⟨He.frG_mem h1, ?_⟩
  have h3 : (!isLstO o) = true := h2
  simpa using h3
def NoL (K : PySem.W.Frag) : Prop := ∀ a o, K.lookup a = some o → isLstO o = false
def obsL (n : Nat) (fa : List He.Fa) (fn : List He.DefD) (g : Addr → Option Obj) : He.AlD := He.obsD fa fn (frL g (He.asD g n))
def hookL (n : Nat) (fa : List He.Fa) (fn : List He.DefD) : PySem.W.Hook where
  α := He.AlD
  obs := fun s => obsL n fa fn s.heap.get?
  val := fun _ => He.valD fn
  says := fun _ h => ∃ K : PySem.W.Frag, K.In h ∧ He.SaysD fa fn K ∧ NoL K
  of := fun _ _ e => ⟨_, fun _ _ h => (frL_mem h).1, e, fun _ _ h => (frL_mem h).2⟩
  keeps := fun _ _ _ ⟨K, hK, c, n⟩ k => ⟨K, PySem.W.Frag.In.keeps hK k, c, n⟩
theorem obsL_eq {n : Nat} {fa : List He.Fa} {fn : List He.DefD} {g : Addr → Option Obj} {s : Shared} (h : ∀ a, g a = s.heap.get? a) : obsL n fa fn g = (hookL n fa fn).obs s := by
  have e : g = s.heap.get? := funext h
  rw [e] <;> rfl
/-- the law's def called, on a script that the module does not hold -/
theorem law_callG {P : Program} {w : World} {K : PySem.W.Frag} {mg mb : Str → Option Value} {k : Nat} {fa a : Addr} {fd : FuncData} {x : Str} {Pv : PV} {s₁ : Shared} {vs : List Value} {ns : List Int}
    (KX : K.In s₁.heap) (hns : s₁.heap.Ns mainGlobals mg) (hb : s₁.heap.Ns builtinsNs mb) (hbb : ∀ x : Str, x ≠ "__name__" → mb x = bootBuiltins x) (hlim : s₁.heap.NoLimit) (hg : s₁.gens = #[])
    (ha : s₁.heap.get? a = some { cls := .type "list", data := .seq vs.toArray }) (hK : K.lookup a = none) (hi : IntsAre vs ns) (hl : ns.length ≤ sizeLine) (hr : Room k callerA)
    (F : ∀ base : Heap, K.In base → base.Ns mainGlobals mg → FnOkG P w K mg base CX0 k fa fd [x] (Sp3 K 0 Pv)) (hbind : ∀ (s : Shared) (u : Value), BindsTo s fd ⟨[u], []⟩ [(x, u)])
    (hP : Pv [.lst true (ns.map .int)] [] fun d _ => d = .bl true) :
    codeAny (model P w) callerA (.call (.ref fa) ⟨[.ref a], []⟩) (fun r s' => r = .ok (.ret (.bool true)) ∧ OldK s₁.heap s'.heap ∧ s'.os = s₁.os ∧ AllBare s'.gens) s₁ := by
  have rv := vals_ints hi
  let ob : Obj := { cls := .type "list", data := .seq vs.toArray }
  let H : Hp := fun b => if b = a then some (.frz ob (.lst (ns.map V.int))) else none
  have Ha : H a = some (.frz ob (.lst (ns.map V.int))) := if_pos rfl
  have Hn : ∀ b, b ≠ a → H b = none := fun b h => if_neg h
  have hok : HOk P w H s₁.heap := fun b u z => by
    by_cases h : b = a
    · subst h
      rw [Ha] at z
      cases z
      exact ⟨ha, by rw [List.length_map]; exact hl, vs, _, rv, ha⟩
    · rw [Hn b h] at z; cases z
  have noA : ∀ {b : Addr} {o : Obj}, s₁.heap.get? b = some o → (∀ q n, o.data ≠ .seq q n) → H b = none := fun {b o} e d => by
    refine Hn b fun h => ?_
    subst h
    rw [ha] at e
    cases e
    exact d _ _ rfl
  have nsK : ∀ {b : Addr} {m : Str → Option Value}, s₁.heap.Ns b m → (hidT s₁.heap H).Ns b m := fun ⟨o, es, ep, e, d, r⟩ => ⟨o, es, ep, hidT_get e (noA e fun q n z => by rw [d] at z; cases z), d, r⟩
  have hKb : K.In (hidT s₁.heap H) := fun b o e => hidT_get (KX b o e) (Hn b fun h => by subst h; rw [hK] at e; cases e)
  have hM : Mod K mg (hidT s₁.heap H) := ⟨hKb, nsK hns, ⟨mb, nsK hb, hbb⟩, let ⟨mc, h1, h2⟩ := hlim; ⟨mc, nsK h1, h2⟩⟩
  have e0 : Env0 P w K mg (hidT s₁.heap H) callerA [] s₁ H := ⟨rfl, hM, fun b o e => of_hidT e, Nat.le_of_eq (hidT_size _ _), trivial, fun b hb => absurd (show b ∈ ([] : List Addr) from hb) (by simp), hok, .of_eq hg⟩
  have R : Rep K H [] (fun _ => False) [] [some (.lst true (ns.map .int))] [] [some (.ref a)] H := by
    refine ⟨fun b h => by simp at h, fun b h => h.elim, fun b xs h => h.elim, fun i j b h => by simp at h, rfl, fun i b h => by simp at h, fun i b h => by simp at h, fun b o h _ => h, fun b h => h, fun i h => by simp at h, fun i b c h => by simp at h, rfl, fun i d h => ?_⟩
    cases i with
    | zero =>
      cases h
      exact ⟨.ref a, rfl, .lst ⟨.inr ⟨ob, Ha⟩, fun z => z⟩ (fun z => nomatch z) ints_den⟩
    | succ i => simp at h
  refine codeAny_mono ((F _ hKb (nsK hns)).run callerA [] s₁ H ⟨[.ref a], []⟩ [.ref a] [.ref a] (fun v _ => v = .bl true) (fun _ _ _ => False) ⟨hr, rfl⟩ e0 (hbind s₁ (.ref a)) (.cons rfl .nil)
    ⟨[], fun _ => False, [.lst true (ns.map .int)], [], fun d _ => d = .bl true, rfl, R, hP, fun av' v H' d C' _ _ x e => by subst e; cases x; rfl⟩) fun r s' h => ?_
  cases r with
  | error e => exact False.elim h
  | ok fl =>
    cases fl with
    | ret u =>
      obtain ⟨v, H', os, bare, un, hok', r', q⟩ := h
      have q' : v = .bl true := q
      subst q'
      obtain rfl : u = Value.bool true := r'
      refine ⟨rfl, OldK.of_keep fun b o e => ?_, os, bare⟩
      by_cases hba : b = a
      · subst hba
        have z2 := un.frzs b ob _ Ha
        obtain ⟨e1, _⟩ := hok b _ Ha
        obtain ⟨e2, _⟩ := hok' b _ z2
        rw [e] at e1
        cases e1
        exact e2
      · exact un.keep b o e (Hn b hba) (by intro z; exact absurd (show b ∈ ([] : List Addr) from z) (by simp)) (by simp)
    | _ => exact False.elim h
theorem walk_ofG {l : PySem.W.OpenLaw} {n k : Nat} {q : Program} {loose : List Str} {XP : (Str → Option Value) → Heap → Prop} {YP : World → Heap → Prop} {d : DefRec} {x : Str} {Pv : PV}
    (hn : l.most = some n) (hn2 : n ≤ sizeLine) (hdf : d.params.defaults = []) (hr : Room k callerA)
    (F : ∀ (w : World) (mg : Str → Option Value) (fa : Addr) (h : Heap), YP w h → h.Ns mainGlobals mg → mg d.name = some (.ref fa) →
      ∃ (K : PySem.W.Frag) (fd : FuncData), K.In h ∧ NoL K ∧ (∀ (s : Shared) (u : Value), BindsTo s fd ⟨[u], []⟩ [(x, u)]) ∧ ∀ base : Heap, K.In base → base.Ns mainGlobals mg → FnOkG l.prog w K mg base CX0 k fa fd [x] (Sp3 K 0 Pv))
    (hP : ∀ ns : List Int, ns.length ≤ n → Pv [.lst true (ns.map .int)] [] fun d _ => d = .bl true) :
    PySem.W.WalkO q loose XP YP l.row.toRowW d [] (fun f vs => PySem.call f vs) := by
  refine Att.attach_call hn hdf fun w s₀ s₁ mg mb fa o pm cd doc a vs ns G Y ho hd hcd hmg hobj hints hlen hg => ?_
  obtain ⟨K, fd, KX, hL, hb, hF⟩ := F w mg fa _ Y G.T.g hmg
  have hK : K.lookup a = none := by
    cases e : K.lookup a with
    | none => rfl
    | some o =>
      have h1 := hL a o e
      have h2 := KX a o e
      rw [hobj] at h2
      cases h2
      cases h1
  exact law_callG KX G.T.g G.T.b G.T.builtins G.T.nolimit hg hobj hK hints (Nat.le_trans hlen hn2) hr hF hb (hP ns hlen)
end L3

/-! texts of numbers, plain -/
namespace L3
open PySem PySem.NumText PySem.W.KIN PyProof.Rows
abbrev tx (n : Int) : Str := Str.ofString (toString n)
theorem bl_eq : (Str.ofString " ") = ⟨#[32]⟩ := by decide +kernel
theorem tx_digits {n : Int} (h0 : 0 ≤ n) : AllDigits (tx n).cps.toList := by
  obtain ⟨m, rfl⟩ := Int.eq_ofNat_of_zero_le h0
  intro c hc
  rw [signs_num] at hc
  obtain ⟨ch, hch, e⟩ := List.mem_map.mp hc
  rw [← e]
  exact digit_range (Nat.isDigit_of_mem_toDigits (by decide) (by decide) hch)
theorem tx_len {n : Int} (h0 : 0 ≤ n) {k : Nat} (hk : 0 < k) (h : n < 10 ^ k) : (tx n).length ≤ k := toString_length_le h0 hk h
theorem tx_ne {n : Int} (h0 : 0 ≤ n) : (tx n).cps.toList ≠ [] := by
  obtain ⟨m, rfl⟩ := Int.eq_ofNat_of_zero_le h0
  rw [signs_num]
  intro e
  have h := toDigits_len_ge 10 m
  rw [List.map_eq_nil_iff.mp e] at h
  exact absurd h (by decide)
theorem tx_reads {n : Int} (h0 : 0 ≤ n) (h : n < 10 ^ 600) : intText? (tx n) = some n := by
  have e := intText_digits (tx_digits h0) (tx_ne h0) (Nat.le_trans (tx_len h0 (by decide) h) (by decide))
  obtain ⟨m, rfl⟩ := Int.eq_ofNat_of_zero_le h0
  rw [signs_num, val_back] at e
  exact e
theorem head_zero (m : Nat) : ∀ c r, Nat.toDigits 10 m = c :: r → c = '0' → m = 0 := by
  induction m using Nat.strongRecOn with
  | _ m ih =>
    intro c r e hc
    by_cases h : m < 10
    · rw [Nat.toDigits_of_lt_base h] at e
      cases e
      have k : ∀ d : Nat, d < 10 → Nat.digitChar d = '0' → d = 0 := by decide
      exact k m h hc
    · have hm : m % 10 < 10 := Nat.mod_lt m (by decide)
      have t : Nat.toDigits 10 (m / 10) ++ Nat.toDigits 10 (m % 10) = Nat.toDigits 10 (10 * (m / 10) + m % 10) := Nat.toDigits_append_toDigits (by decide) (by omega) hm
      rw [Nat.div_add_mod, e] at t
      cases q : Nat.toDigits 10 (m / 10) with
      | nil => have := toDigits_len_ge 10 (m / 10); rw [q] at this; simp at this
      | cons d l =>
        rw [q] at t
        have e2 : d = c := by
          have := congrArg List.head? t
          simpa using this
        have := ih (m / 10) (by omega) d l q (e2.trans hc)
        omega
theorem tx_zero {n : Int} (h0 : 0 ≤ n) {c : Nat} {r : List Nat} (e : (tx n).cps.toList = c :: r) (hc : c = 48) : n = 0 := by
  obtain ⟨m, rfl⟩ := Int.eq_ofNat_of_zero_le h0
  rw [signs_num] at e
  cases q : Nat.toDigits 10 m with
  | nil => rw [q] at e; cases e
  | cons d l =>
    rw [q] at e
    simp only [List.map_cons, List.cons.injEq] at e
    have h1 : d = '0' := by
      apply Char.ext
      apply UInt32.toNat_inj.mp
      have : d.toNat = 48 := by rw [e.1, hc]
      exact this
    have := head_zero m d l q h1
    simp [this]
/-- the text of some numbers -/
def line (ns : List Int) : Str := Txt.join ⟨#[32]⟩ (ns.map tx)
theorem tx_free {n : Int} (h0 : 0 ≤ n) : 32 ∉ (tx n).cps.toList := fun h => by
  have := tx_digits h0 32 h
  omega
theorem split_line {ns : List Int} (hne : ns ≠ []) (h0 : ∀ n, n ∈ ns → 0 ≤ n) : Txt.split (line ns) ⟨#[32]⟩ = ns.map tx := by
  refine TL.split_join (s := 32) (S := []) (y := ⟨#[32]⟩) rfl (by decide +kernel) (by simpa using hne) (fun p hp => ?_)
  obtain ⟨n, hn, rfl⟩ := List.mem_map.mp hp
  exact tx_free (h0 n hn)
theorem line_nil : line [] = Str.empty := rfl
theorem join_snoc (z : Str) : ∀ l : List Str, l ≠ [] → Str.join ⟨#[32]⟩ (l ++ [z]) = Str.join ⟨#[32]⟩ l ++ ⟨#[32]⟩ ++ z
  | [], h => absurd rfl h
  | [x], _ => rfl
  | x :: y :: l, _ => by
    show x ++ ⟨#[32]⟩ ++ Str.join ⟨#[32]⟩ ((y :: l) ++ [z]) = x ++ ⟨#[32]⟩ ++ Str.join ⟨#[32]⟩ (y :: l) ++ ⟨#[32]⟩ ++ z
    rw [join_snoc z (y :: l) (by simp)]
    simp only [PySem.Str.append_assoc]
theorem line_snoc {ns : List Int} {n : Int} (h : ns ≠ []) : line (ns ++ [n]) = line ns ++ ⟨#[32]⟩ ++ tx n := by
  unfold line
  rw [TL.join_eq, TL.join_eq, List.map_append]
  exact join_snoc (tx n) (ns.map tx) (by simpa using h)
theorem line_one {n : Int} : line [n] = tx n := by
  unfold line
  rw [TL.join_eq]
  rfl
theorem join_len (c : Nat) (k : Nat) : ∀ l : List Str, (∀ p ∈ l, p.length ≤ k) → (Str.join ⟨#[c]⟩ l).length ≤ l.length * (k + 1)
  | [], _ => Nat.zero_le _
  | [x], h => by
    have := h x (by simp)
    show x.length ≤ 1 * (k + 1)
    omega
  | x :: y :: l, h => by
    have h1 := h x (by simp)
    have h2 := join_len c k (y :: l) fun p hp => h p (List.mem_cons_of_mem _ hp)
    have e : (x ++ ⟨#[c]⟩ ++ Str.join ⟨#[c]⟩ (y :: l)).length = x.length + 1 + (Str.join ⟨#[c]⟩ (y :: l)).length := by
      simp [PySem.Str.length, PySem.Str.cps_append]
    show (x ++ ⟨#[c]⟩ ++ Str.join ⟨#[c]⟩ (y :: l)).length ≤ _
    rw [e]
    simp only [List.length_cons] at h2 ⊢
    have : (l.length + 1 + 1) * (k + 1) = (l.length + 1) * (k + 1) + (k + 1) := by rw [Nat.add_mul (l.length + 1), Nat.one_mul]
    omega
theorem line_len {ns : List Int} {k : Nat} (hk : 0 < k) (h : ∀ n, n ∈ ns → 0 ≤ n ∧ n < 10 ^ k) : (line ns).length ≤ ns.length * (k + 1) := by
  have := join_len 32 k (ns.map tx) fun p hp => by
    obtain ⟨n, hn, rfl⟩ := List.mem_map.mp hp
    exact tx_len (h n hn).1 hk (h n hn).2
  unfold line
  rw [TL.join_eq]
  simpa using this
theorem tx_sum {k : Nat} (hk : 0 < k) : ∀ ns : List Int, (∀ n, n ∈ ns → 0 ≤ n ∧ n < 10 ^ k) → ((ns.map tx).map (·.length)).sum ≤ ns.length * k
  | [], _ => Nat.zero_le _
  | n :: ns, h => by
    have h1 := tx_len (h n (by simp)).1 hk (h n (by simp)).2
    have h2 := tx_sum hk ns fun m hm => h m (List.mem_cons_of_mem _ hm)
    simp only [List.map_cons, List.sum_cons, List.length_cons, Nat.add_mul, Nat.one_mul]
    omega
end L3

/-! data of ints and texts as the library's data -/
namespace L3
open PySem PySem.Spec PyProof.Rows L2
theorem pyWs_ints {g : Nat → Option PyData} : ∀ ns : List Int, pyWs g (ns.map .int) = some (ns.map .int)
  | [] => rfl
  | n :: ns => by simp only [List.map_cons, pyWs, pyW, pyWs_ints ns]; rfl
theorem pyWs_strs {g : Nat → Option PyData} : ∀ ns : List Str, pyWs g (ns.map .str) = some (ns.map .str)
  | [] => rfl
  | n :: ns => by simp only [List.map_cons, pyWs, pyW, pyWs_strs ns]; rfl
theorem pyD_ints {C : Store} {o : Bool} (ns : List Int) : pyD C (.lst o (ns.map .int)) = some (.list (ns.map .int)) := by
  unfold pyD
  rw [pyW, pyWs_ints]
  rfl
theorem pyD_strs {C : Store} {o : Bool} (ns : List Str) : pyD C (.lst o (ns.map .str)) = some (.list (ns.map .str)) := by
  unfold pyD
  rw [pyW, pyWs_strs]
  rfl
theorem depth_ints : ∀ ns : List Int, PyData.depthAll (ns.map .int) = 0
  | [] => rfl
  | n :: ns => by simp [PyData.depthAll, PyData.depth, depth_ints ns]
theorem depth_strs : ∀ ns : List Str, PyData.depthAll (ns.map .str) = 0
  | [] => rfl
  | n :: ns => by simp [PyData.depthAll, PyData.depth, depth_strs ns]
theorem lay_ints : ∀ ns : List Int, PyData.canLayAll0 (ns.map .int) = true
  | [] => rfl
  | n :: ns => by simp [PyData.canLayAll0, PyData.canLay0, lay_ints ns]
theorem lay_strs : ∀ ns : List Str, (∀ s, s ∈ ns → PyData.strOk s = true) → PyData.canLayAll0 (ns.map .str) = true
  | [], _ => rfl
  | n :: ns, h => by simp [PyData.canLayAll0, PyData.canLay0, lay_strs ns (fun s hs => h s (List.mem_cons_of_mem _ hs)), h n (List.mem_cons_self ..)]
theorem shaped_ints (ns : List Int) : SeqAt.shaped (.list (ns.map .int)) = true := by
  simp [SeqAt.shaped, PyData.canLay0, PyData.depth, lay_ints, depth_ints]
theorem shaped_strs (ns : List Str) (h : ∀ s, s ∈ ns → PyData.strOk s = true) : SeqAt.shaped (.list (ns.map .str)) = true := by
  simp [SeqAt.shaped, PyData.canLay0, PyData.depth, lay_strs ns h, depth_strs]
theorem eqvAll_ints : ∀ ns ms : List Int, PyData.eqvAll (ns.map .int) (ms.map .int) = decide (ns = ms)
  | [], [] => by simp [PyData.eqvAll]
  | [], _ :: _ => by simp [PyData.eqvAll]
  | _ :: _, [] => by simp [PyData.eqvAll]
  | n :: ns, m :: ms => by
    simp only [List.map_cons, PyData.eqvAll, PyData.eqv, eqvAll_ints ns ms, List.cons.injEq]
    rw [Bool.decide_and]
    rfl
theorem eqvAll_strs : ∀ ns ms : List Str, PyData.eqvAll (ns.map .str) (ms.map .str) = decide (ns = ms)
  | [], [] => by simp [PyData.eqvAll]
  | [], _ :: _ => by simp [PyData.eqvAll]
  | _ :: _, [] => by simp [PyData.eqvAll]
  | n :: ns, m :: ms => by
    simp only [List.map_cons, PyData.eqvAll, PyData.eqv, eqvAll_strs ns ms, List.cons.injEq]
    rw [Bool.decide_and]
    congr 1
theorem eqv_ints (ns ms : List Int) : PyData.eqv (.list (ns.map .int)) (.list (ms.map .int)) = decide (ns = ms) := by rw [PyData.eqv, eqvAll_ints]
theorem eqv_strs (ns ms : List Str) : PyData.eqv (.list (ns.map .str)) (.list (ms.map .str)) = decide (ns = ms) := by rw [PyData.eqv, eqvAll_strs]
theorem showable_ints : ∀ ns : List Int, (∀ n, n ∈ ns → n.natAbs.log2 < 1920) → PyData.showableAll (ns.map .int) = true
  | [], _ => rfl
  | n :: ns, h => by simp [PyData.showableAll, PyData.showable, h n (List.mem_cons_self ..), showable_ints ns fun m hm => h m (List.mem_cons_of_mem _ hm)]
theorem noDict_ints : ∀ ns : List Int, PyData.hasDictAll (ns.map .int) = false
  | [] => rfl
  | n :: ns => by simp [PyData.hasDictAll, PyData.hasDict, noDict_ints ns]
/-- x == y of two lists of ints -/
theorem oEq_ints {neg o o' : Bool} {C : Store} {ns ms : List Int} {q : D → Prop} (h : q (.bl (neg != decide (ns = ms)))) : oEq neg C (.lst o (ns.map .int)) (.lst o' (ms.map .int)) q :=
  ⟨_, _, pyD_ints ns, pyD_ints ms, shaped_ints ns, shaped_ints ms, by rw [eqv_ints]; exact h⟩
theorem oEq_strs {neg o o' : Bool} {C : Store} {ns ms : List Str} {q : D → Prop} (hn : ∀ s, s ∈ ns → PyData.strOk s = true) (hm : ∀ s, s ∈ ms → PyData.strOk s = true) (h : q (.bl (neg != decide (ns = ms)))) : oEq neg C (.lst o (ns.map .str)) (.lst o' (ms.map .str)) q :=
  ⟨_, _, pyD_strs ns, pyD_strs ms, shaped_strs ns hn, shaped_strs ms hm, by rw [eqv_strs]; exact h⟩
theorem np_ints {o : Bool} {ns : List Int} : (noold (.lst false (ns.map .int)) && noptr (.lst o (ns.map .int))) = true := by simp [noold, okW, okWs_ints, noptr, noptrs_ints]
theorem np_strs {o : Bool} {ns : List Str} : (noold (.lst false (ns.map .str)) && noptr (.lst o (ns.map .str))) = true := by simp [noold, okW, okWs_strs, noptr, noptrs_strs]
theorem views_ints {ks : List Nat} {C : Store} {o : Bool} {ns : List Int} {ds : List D} : views ks C (.lst o (ns.map .int) :: ds) = .lst true (ns.map .int) :: views ks C ds := by
  unfold views
  rw [mapWs, mapW, mapWs_ints]
theorem views_str {ks : List Nat} {C : Store} {s : Str} {ds : List D} : views ks C (.str s :: ds) = .str s :: views ks C ds := by
  unfold views
  rw [mapWs, mapW]
theorem views_int {ks : List Nat} {C : Store} {s : Int} {ds : List D} : views ks C (.int s :: ds) = .int s :: views ks C ds := by
  unfold views
  rw [mapWs, mapW]
theorem views_nil {ks : List Nat} {C : Store} : views ks C [] = [] := by
  unfold views
  rw [mapWs]
theorem fin_ints {n : Nat} {C : Store} {o : Bool} {ns : List Int} : fin n C (.lst o (ns.map .int)) = .lst o (ns.map .int) := by
  unfold fin
  rw [mapW, mapWs_ints]
  rfl
theorem fin_cell {C : Store} {k : Nat} {ns : List Int} (h : C[k]? = some (.lst (ns.map .int))) : fin 0 C (.ptr k) = .lst false (ns.map .int) := by
  unfold fin
  simp only [mapW, finG, h, Nat.not_lt_zero, if_false, mapWs_ints]
theorem finS0 {C : Store} : finS 0 C = [] := by simp [finS]
end L3

namespace L3
open PySem PySem.Spec PyProof.Rows L2
def T_Lw_cells : SV :=
  (sRet (eFrz (fBin nCat (eFrz (fSlL (eVar 0) oNone (oSome (eVar 1)))) (eFrz (fBin nRep (eFrz (fLst (aCons (eC (.int 0)) aNil))) (eCB oInt (aCons (eBin (oEq false) (eVar 0) (eFrz (fLst aNil))) aNil)))))))
abbrev N_Lw_cells : List Str := ["_law_script", "_law_most"]
def T_Lw_jar : SV :=
  (sRet (eFrz (fLst (aCons (eCB oMax2 (aCons (eC (.int 0)) (aCons (eBin oSub (eVar 0) (eBin oPowW (eC (.int 10)) (eC (.int 18)))) aNil))) (aCons (eBin oAdd (eBin oAdd (eBin oPowW (eBin oMod (eVar 0) (eBin oAdd (eBin oPowW (eC (.int 10)) (eC (.int 38))) (eC (.int 133)))) (eC (.int 3))) (eBin oMulW (eC (.int 746773)) (eVar 1))) (eC (.int 173205080756887729))) (aCons (eC (.int 0)) aNil))))))
abbrev N_Lw_jar : List Str := ["_law_cell", "_law_k"]
def T_Lw_pull : SV :=
  (sSeq (sIf (bB (eBin oGt (eBin oIxL (eVar 0) (eC (.int 0))) (eC (.int 0)))) (sSeq (sAsg (eBin oMod (eBin oIxL (eVar 0) (eC (.int 0))) (eVar 1)) (gvName 2))
  (sSeq (sAsg (eBin oDivW (eBin oIxL (eVar 0) (eC (.int 0))) (eVar 1)) (gvSubL (eVar 0) (eC (.int 0))))
  (sRet (eVar 2)))) sNext)
  (sSeq (sAsg (eBin oAdd (eBin oIxL (eVar 0) (eC (.int 2))) (eC (.int 1))) (gvSubL (eVar 0) (eC (.int 2))))
  (sSeq (sAsg (eBin oMod (eBin oAdd (eBin oAdd (eBin oPowW (eBin oIxL (eVar 0) (eC (.int 1))) (eC (.int 3))) (eBin oMulW (eC (.int 479001599)) (eBin oIxL (eVar 0) (eC (.int 2))))) (eC (.int 5))) (eBin oAdd (eBin oPowW (eC (.int 10)) (eC (.int 33))) (eC (.int 61)))) (gvSubL (eVar 0) (eC (.int 1))))
  (sRet (eBin oMod (eBin oDivW (eBin oIxL (eVar 0) (eC (.int 1))) (eBin oPowW (eC (.int 10)) (eC (.int 8)))) (eVar 1))))))
abbrev N_Lw_pull : List Str := ["_law_jar_here", "_law_count", "_law_found"]
def T_Lw_rules (P_Lw_pull : PV) : SV :=
  (sSeq (sAsg (eCallK 1 kf1 P_Lw_pull (aCons (eVar 0) (aCons (eC (.int 2)) aNil))) (gvName 3))
  (sSeq (sAsg (eCell (fLst aNil)) (gvName 4))
  (sSeq (sFor (iRange1 (aCons (eCallK 1 kf1 P_Lw_pull (aCons (eVar 0) (aCons (eBin oAdd (eVar 2) (eC (.int 1))) aNil))) aNil)) (gvName 5) (sSeq (sPar 6 7 (aCons (eCallK 1 kf1 P_Lw_pull (aCons (eVar 0) (aCons (eCB oLenA (aCons (eVar 1) aNil)) aNil))) (aCons (eCallK 1 kf1 P_Lw_pull (aCons (eVar 0) (aCons (eCB oLenA (aCons (eVar 1) aNil)) aNil))) aNil)))
  (sSeq (sIf (bB (eBin (oEq false) (eVar 3) (eC (.int 1)))) (sAsg (eCB oMin2 (aCons (eBin oSub (eCB oLenA (aCons (eVar 1) aNil)) (eC (.int 1))) (aCons (eBin oAdd (eBin oAdd (eVar 6) (eC (.int 1))) (eBin oDivW (eVar 7) (eC (.int 4)))) aNil))) (gvName 7)) sNext)
  (sSeq (sAsg (eTup (aCons (eBin oIxL (eVar 1) (eCB oMin2 (aCons (eVar 6) (aCons (eVar 7) aNil)))) (aCons (eBin oIxL (eVar 1) (eCB oMax2 (aCons (eVar 6) (aCons (eVar 7) aNil)))) aNil))) (gvName 8))
  (sIf (bAnd (bB (eBin (oEq true) (eVar 6) (eVar 7))) (bB (eBin (oIn true) (eVar 8) (eVar 4)))) (sDrop (eMl mAppend (eVar 4) (aCons (eVar 8) aNil))) sNext)))))
  (sRet (eFrz (fCB nSortP (aCons (eVar 4) aNil)))))))
abbrev N_Lw_rules : List Str := ["_law_jar_here", "_law_order", "_law_top", "_law_near", "_law_found", "_law_k", "_law_at", "_law_to", "_law_pair"]
def T_Lw_stack (P_Lw_pull P_Lw_rules : PV) : SV :=
  (sSeq (sAsg (eCell (fListRange (eVar 1))) (gvName 3))
  (sSeq (sAsg (eFrz (fLc [5] (iRange1 (aCons (eVar 1) aNil)) (gvName 5) bYes (eMl mPopAt (eVar 3) (aCons (eCallK 1 kf1 P_Lw_pull (aCons (eVar 0) (aCons (eCB oLenA (aCons (eVar 3) aNil)) aNil))) aNil)))) (gvName 4))
  (sSeq (sAsg (eCallK 1 kf1 P_Lw_pull (aCons (eVar 0) (aCons (eC (.int 3)) aNil))) (gvName 6))
  (sSeq (sAsg (eCell (fBin nRep (eFrz (fLst (aCons (eC (.str "")) aNil))) (eVar 1))) (gvName 7))
  (sSeq (sFor (iRange1 (aCons (eVar 1) aNil)) (gvName 5) (sSeq (sAsg (eBin oIxL (eFrz (fLst (aCons (eCallK 1 kf1 P_Lw_pull (aCons (eVar 0) (aCons (eC (.int 2)) aNil))) (aCons (eBin oMod (eVar 5) (eC (.int 2))) (aCons (eCB oInt (aCons (eBin (oEq false) (eCallK 1 kf1 P_Lw_pull (aCons (eVar 0) (aCons (eC (.int 6)) aNil))) (eC (.int 0))) aNil)) aNil))))) (eVar 6)) (gvName 8))
  (sAsg (eBin oIxS (eC (.str "RB")) (eVar 8)) (gvSubL (eVar 7) (eBin oIxL (eVar 4) (eVar 5))))))
  (sRet (eTup (aCons (eBin oIxS (eC (.str "RB")) (eCallK 1 kf1 P_Lw_pull (aCons (eVar 0) (aCons (eC (.int 2)) aNil)))) (aCons (eM1 oJoin (eC (.str "")) (eVar 7)) (aCons (eCallK 1 kf1 P_Lw_rules (aCons (eVar 0) (aCons (eVar 4) (aCons (eVar 2) aNil)))) aNil))))))))))
abbrev N_Lw_stack : List Str := ["_law_jar_here", "_law_size_here", "_law_top", "_law_left", "_law_order", "_law_k", "_law_kind", "_law_signs", "_law_sign"]
def T_is_stamp : SV :=
  (sRet (eAnd (eIsi .str (eVar 0)) (eAnd (eBin (oEq false) (eCB oLenA (aCons (eVar 0) aNil)) (eC (.int 1))) (eBin (oIn false) (eVar 0) (eC (.str "RB"))))))
abbrev N_is_stamp : List Str := ["thing"]
def T_are_stamps : SV :=
  (sRet (eAnd (eIsi .str (eVar 0)) (eAnd (eChain oLe oLe (eC (.int 1)) (eCB oLenA (aCons (eVar 0) aNil)) (eC (.int 24))) (eCB oAll (aCons (eFrz (fLc [1] (iSigns (eVar 0)) (gvName 1) bYes (eBin (oIn false) (eVar 1) (eC (.str "RB"))))) aNil)))))
abbrev N_are_stamps : List Str := ["thing", "sign"]
def T_is_between : SV :=
  (sRet (eAnd (eIsi .int (eVar 0)) (eAnd (eNot (eIsi .bool (eVar 0))) (eChain oLe oLe (eVar 1) (eVar 0) (eVar 2)))))
abbrev N_is_between : List Str := ["thing", "least", "most"]
def T_is_rule (P_is_between : PV) : SV :=
  (sSeq (sIf (bOr (bNot (bB (eIsi .tuple (eVar 0)))) (bOr (bB (eBin (oEq true) (eCB oLenA (aCons (eVar 0) aNil)) (eC (.int 2)))) (bNot (bB (eCB oAll (aCons (eFrz (fLc [2] (iTupl (eVar 0)) (gvName 2) bYes (eCall P_is_between (aCons (eVar 2) (aCons (eC (.int 0)) (aCons (eBin oSub (eVar 1) (eC (.int 1))) aNil)))))) aNil)))))) (sRet (eC (.bl false))) sNext)
  (sRet (eBin (oEq true) (eBin oIxT (eVar 0) (eC (.int 0))) (eBin oIxT (eVar 0) (eC (.int 1))))))
abbrev N_is_rule : List Str := ["thing", "many", "one"]
def T_are_rules (P_is_rule : PV) : SV :=
  (sSeq (sIf (bOr (bNot (bB (eIsi .list (eVar 0)))) (bOr (bB (eBin oGt (eCB oLenA (aCons (eVar 0) aNil)) (eC (.int 60)))) (bNot (bB (eCB oAll (aCons (eFrz (fLc [2] (iLst (eVar 0)) (gvName 2) bYes (eCall P_is_rule (aCons (eVar 2) (aCons (eVar 1) aNil))))) aNil)))))) (sRet (eC (.bl false))) sNext)
  (sRet (eCB oAll (aCons (eFrz (fLc [2, 3] (iZipD (aCons (eVar 0) (aCons (eFrz (fSlL (eVar 0) (oSome (eC (.int 1))) oNone)) aNil))) (gvTup 2 (gvCons (gvName 2) (gvCons (gvName 3) gvNil))) bYes (eBin oLtT (eVar 2) (eVar 3)))) aNil))))
abbrev N_are_rules : List Str := ["thing", "many", "one", "other"]
def T_is_heap (P_are_rules P_are_stamps P_is_stamp : PV) : SV :=
  (sSeq (sIf (bOr (bNot (bB (eIsi .tuple (eVar 0)))) (bB (eBin (oEq true) (eCB oLenA (aCons (eVar 0) aNil)) (eC (.int 3))))) (sRet (eC (.bl false))) sNext)
  (sRet (eAnd (eCall P_is_stamp (aCons (eBin oIxT (eVar 0) (eC (.int 0))) aNil)) (eAnd (eCall P_are_stamps (aCons (eBin oIxT (eVar 0) (eC (.int 1))) aNil)) (eCall P_are_rules (aCons (eBin oIxT (eVar 0) (eC (.int 2))) (aCons (eCB oLenA (aCons (eBin oIxT (eVar 0) (eC (.int 1))) aNil)) aNil)))))))
abbrev N_is_heap : List Str := ["thing"]
def T_straight_behind : SV :=
  (sSeq (sAsg (eCell (fLc [3] (iRange1 (aCons (eVar 0) aNil)) (gvName 3) bYes (eCell (fLst aNil)))) (gvName 2))
  (sSeq (sFor (iLst (eVar 1)) (gvTup 2 (gvCons (gvName 3) (gvCons (gvName 4) gvNil))) (sDrop (eMl mAppend (eBin oIxL (eVar 2) (eVar 3)) (aCons (eVar 4) aNil))))
  (sRet (eVar 2))))
abbrev N_straight_behind : List Str := ["many", "rules", "found", "paper", "other"]
def T_ordered (P_straight_behind : PV) : SV :=
  (sSeq (sAsg (eCell (fLst aNil)) (gvName 2))
  (sSeq (sAsg (eCell (fBin nRep (eFrz (fLst (aCons (eC (.int 0)) aNil))) (eVar 0))) (gvName 3))
  (sSeq (sFor (iLst (eVar 1)) (gvTup 2 (gvCons (gvName 4) (gvCons (gvName 5) gvNil))) (sAugL oAdd (eVar 3) (eVar 5) (eC (.int 1))))
  (sSeq (sAsg (eCall P_straight_behind (aCons (eVar 0) (aCons (eVar 1) aNil))) (gvName 6))
  (sSeq (sAsg (eCell (fLc [4] (iRange1 (aCons (eVar 0) aNil)) (gvName 4) (bB (eBin (oEq false) (eBin oIxL (eVar 3) (eVar 4)) (eC (.int 0)))) (eVar 4))) (gvName 7))
  (sSeq (sWhile (bB (eBin (oEq true) (eVar 7) (eFrz (fLst aNil)))) (sSeq (sAsg (eCB oMinL (aCons (eVar 7) aNil)) (gvName 4))
  (sSeq (sDrop (eMl mRemove (eVar 7) (aCons (eVar 4) aNil)))
  (sSeq (sDrop (eMl mAppend (eVar 2) (aCons (eVar 4) aNil)))
  (sFor (iLst (eBin oIxL (eVar 6) (eVar 4))) (gvName 5) (sSeq (sAugL oSub (eVar 3) (eVar 5) (eC (.int 1)))
  (sIf (bB (eBin (oEq false) (eBin oIxL (eVar 3) (eVar 5)) (eC (.int 0)))) (sDrop (eMl mAppend (eVar 7) (aCons (eVar 5) aNil))) sNext)))))))
  (sRet (eVar 2))))))))
abbrev N_ordered : List Str := ["many", "rules", "found", "waiting", "paper", "other", "behind", "free"]
def T_ring_by (P_ordered : PV) : SV :=
  (sSeq (sAsg (eCall P_ordered (aCons (eVar 0) (aCons (eVar 1) aNil))) (gvName 2))
  (sSeq (sAsg (eFrz (fLc [4] (iRange1 (aCons (eVar 0) aNil)) (gvName 4) (bB (eBin (oIn true) (eVar 4) (eVar 2))) (eVar 4))) (gvName 3))
  (sSeq (sIf (bB (eBin (oEq false) (eVar 3) (eFrz (fLst aNil)))) (sRet (eC .non)) sNext)
  (sSeq (sAsg (eCell (fLst (aCons (eBin oIxL (eVar 3) (eC (.int 0))) aNil))) (gvName 5))
  (sSeq (sWhile (bB (eBin oLt (eMl mCount (eVar 5) (aCons (eBin oIxL (eVar 5) (eUn oNeg (eC (.int 1)))) aNil)) (eC (.int 2)))) (sDrop (eMl mAppend (eVar 5) (aCons (eBin oIxL (eFrz (fLc [4, 6] (iLst (eVar 1)) (gvTup 2 (gvCons (gvName 4) (gvCons (gvName 6) gvNil))) (bAnd (bB (eBin (oEq false) (eVar 6) (eBin oIxL (eVar 5) (eUn oNeg (eC (.int 1)))))) (bB (eBin (oIn false) (eVar 4) (eVar 3)))) (eVar 4))) (eC (.int 0))) aNil))))
  (sSeq (sAsg (eFrz (fRev (eFrz (fSlL (eVar 5) (oSome (eBin oAdd (eMl mIndex (eVar 5) (aCons (eBin oIxL (eVar 5) (eUn oNeg (eC (.int 1)))) aNil)) (eC (.int 1)))) oNone)))) (gvName 7))
  (sSeq (sAsg (eMl mIndex (eVar 7) (aCons (eCB oMinL (aCons (eVar 7) aNil)) aNil)) (gvName 8))
  (sRet (eFrz (fBin nCat (eFrz (fSlL (eVar 7) (oSome (eVar 8)) oNone)) (eFrz (fSlL (eVar 7) oNone (oSome (eVar 8))))))))))))))
abbrev N_ring_by : List Str := ["many", "rules", "there", "left", "paper", "way", "other", "ring", "at"]
def T_is_pile (P_ring_by P_is_heap : PV) : SV :=
  (sRet (eAnd (eCall P_is_heap (aCons (eVar 0) aNil)) (eBin (oIsN false) (eCall P_ring_by (aCons (eCB oLenA (aCons (eBin oIxT (eVar 0) (eC (.int 1))) aNil)) (aCons (eBin oIxT (eVar 0) (eC (.int 2))) aNil))) (eC .non))))
abbrev N_is_pile : List Str := ["thing"]
def T_need_pile (P_is_pile : PV) : SV :=
  (sIf (bNot (bB (eCall P_is_pile (aCons (eVar 0) aNil)))) sNever sNext)
abbrev N_need_pile : List Str := ["pile"]
def T_in_order (P_ordered : PV) : SV :=
  (sRet (eCall P_ordered (aCons (eCB oLenA (aCons (eBin oIxT (eVar 0) (eC (.int 1))) aNil)) (aCons (eBin oIxT (eVar 0) (eC (.int 2))) aNil))))
abbrev N_in_order : List Str := ["pile"]
def T_base_of : SV :=
  (sRet (eCB oInt (aCons (eBin (oEq true) (eBin oIxS (eBin oIxT (eVar 0) (eC (.int 1))) (eVar 1)) (eBin oIxT (eVar 0) (eC (.int 0)))) aNil)))
abbrev N_base_of : List Str := ["pile", "paper"]
def T_change : SV :=
  (sRet (eCB oInt (aCons (eBin (oEq true) (eBin oIxS (eBin oIxT (eVar 0) (eC (.int 1))) (eVar 1)) (eBin oIxS (eBin oIxT (eVar 0) (eC (.int 1))) (eVar 2))) aNil)))
abbrev N_change : List Str := ["pile", "paper", "other"]
def T_earliest_of (P_base_of P_in_order P_change : PV) : SV :=
  (sSeq (sAsg (eCell (fLc [2] (iRange1 (aCons (eCB oLenA (aCons (eBin oIxT (eVar 0) (eC (.int 1))) aNil)) aNil)) (gvName 2) bYes (eCall P_base_of (aCons (eVar 0) (aCons (eVar 2) aNil))))) (gvName 1))
  (sSeq (sFor (iLst (eCall P_in_order (aCons (eVar 0) aNil))) (gvName 2) (sFor (iLst (eBin oIxT (eVar 0) (eC (.int 2)))) (gvTup 2 (gvCons (gvName 3) (gvCons (gvName 4) gvNil))) (sIf (bB (eBin (oEq false) (eVar 3) (eVar 2))) (sAsg (eCB oMax2 (aCons (eBin oIxL (eVar 1) (eVar 4)) (aCons (eBin oAdd (eBin oIxL (eVar 1) (eVar 3)) (eCall P_change (aCons (eVar 0) (aCons (eVar 3) (aCons (eVar 4) aNil))))) aNil))) (gvSubL (eVar 1) (eVar 4))) sNext)))
  (sRet (eVar 1))))
abbrev N_earliest_of : List Str := ["pile", "found", "paper", "one", "other"]
def T_by_first (P_need_pile P_earliest_of : PV) : SV :=
  (sSeq (sDrop (eCall P_need_pile (aCons (eVar 0) aNil)))
  (sRet (eCB oTupleL (aCons (eFrz (fLc [1] (iSigns (eC (.str "RB"))) (gvName 1) bYes (eCB oMaxL (aCons (eCall P_earliest_of (aCons (eTup (aCons (eVar 1) (aCons (eBin oIxT (eVar 0) (eC (.int 1))) (aCons (eBin oIxT (eVar 0) (eC (.int 2))) aNil)))) aNil)) aNil)))) aNil))))
abbrev N_by_first : List Str := ["pile", "first"]
def T_Lw_size (P_Lw_pull : PV) : SV :=
  (sSeq (sIf (bB (eBin (oEq false) (eVar 1) (eFrz (fLst aNil)))) (sRet (eBin oAdd (eC (.int 2)) (eCallK 1 kf1 P_Lw_pull (aCons (eVar 0) (aCons (eC (.int 2)) aNil))))) sNext)
  (sSeq (sAsg (eFrz (fLst (aCons (eC (.int 1)) (aCons (eBin oAdd (eC (.int 1)) (eCallK 1 kf1 P_Lw_pull (aCons (eVar 0) (aCons (eC (.int 5)) aNil)))) (aCons (eBin oAdd (eC (.int 1)) (eCallK 1 kf1 P_Lw_pull (aCons (eVar 0) (aCons (eC (.int 12)) aNil)))) (aCons (eVar 2) aNil)))))) (gvName 3))
  (sRet (eCB oMin2 (aCons (eVar 2) (aCons (eBin oIxL (eVar 3) (eCallK 1 kf1 P_Lw_pull (aCons (eVar 0) (aCons (eC (.int 4)) aNil)))) aNil))))))
abbrev N_Lw_size : List Str := ["_law_jar_here", "_law_script", "_law_top", "_law_some"]
def T_fewest (P_need_pile P_earliest_of : PV) : SV :=
  (sSeq (sDrop (eCall P_need_pile (aCons (eVar 0) aNil)))
  (sRet (eCB oMaxL (aCons (eCall P_earliest_of (aCons (eVar 0) aNil)) aNil))))
abbrev N_fewest : List Str := ["pile"]
def T_Lw_unlike : SV :=
  (sRet (eCB oInt (aCons (eBin (oEq true) (eBin oIxS (eBin oIxT (eVar 0) (eC (.int 1))) (eVar 1)) (eBin oIxS (eBin oIxT (eVar 0) (eC (.int 1))) (eVar 2))) aNil)))
abbrev N_Lw_unlike : List Str := ["_law_stack_here", "_law_one", "_law_two"]
def T_Lw_ends (P_Lw_unlike : PV) : SV :=
  (sSeq (sAsg (eCell (fLc [2] (iSigns (eBin oIxT (eVar 0) (eC (.int 1)))) (gvName 2) bYes (eCB oInt (aCons (eBin (oEq true) (eVar 2) (eBin oIxT (eVar 0) (eC (.int 0)))) aNil)))) (gvName 1))
  (sSeq (sFor (iRange1 (aCons (eCB oLenA (aCons (eVar 1) aNil)) aNil)) (gvName 3) (sFor (iLst (eBin oIxT (eVar 0) (eC (.int 2)))) (gvTup 2 (gvCons (gvName 4) (gvCons (gvName 5) gvNil))) (sAsg (eCB oMax2 (aCons (eBin oIxL (eVar 1) (eVar 5)) (aCons (eBin oAdd (eBin oIxL (eVar 1) (eVar 4)) (eCall P_Lw_unlike (aCons (eVar 0) (aCons (eVar 4) (aCons (eVar 5) aNil))))) aNil))) (gvSubL (eVar 1) (eVar 5)))))
  (sRet (eVar 1))))
abbrev N_Lw_ends : List Str := ["_law_stack_here", "_law_found", "_law_sign", "_law_lap", "_law_one", "_law_two"]
def T_Lw_exact (P_Lw_exact : PV) : SV :=
  (sSeq (sIf (bB (eBin (oIsN false) (eVar 1) (eC .non))) (sRet (eBin (oIsN false) (eVar 0) (eC .non))) sNext)
  (sSeq (sIf (bB (eIsi2 .list .tuple (eVar 1))) (sSeq (sIf (bOr (bB (eBin (oEq true) (eIsi .list (eVar 0)) (eIsi .list (eVar 1)))) (bB (eBin (oEq true) (eIsi .tuple (eVar 0)) (eIsi .tuple (eVar 1))))) (sRet (eC (.bl false))) sNext)
  (sRet (eAnd (eBin (oEq false) (eCB oLenA (aCons (eVar 0) aNil)) (eCB oLenA (aCons (eVar 1) aNil))) (eCB oAll (aCons (eFrz (fLc [2, 3] (iZipS (aCons (eVar 0) (aCons (eVar 1) aNil))) (gvTup 2 (gvCons (gvName 2) (gvCons (gvName 3) gvNil))) bYes (eCall P_Lw_exact (aCons (eVar 2) (aCons (eVar 3) aNil))))) aNil))))) sNext)
  (sRet (eAnd (eBin (oEq false) (eIsi .bool (eVar 0)) (eIsi .bool (eVar 1))) (eBin (oEq false) (eVar 0) (eVar 1))))))
abbrev N_Lw_exact : List Str := ["_law_found", "_law_due", "_law_one", "_law_other"]
end L3

/-! piles: stamps, rules -/
namespace L3
open PySem PySem.Spec PyProof.Rows L2
theorem goT {b : Bool} {X Y : Prop} (h : b = true) (x : X) : if b = true then X else Y := by rw [if_pos h]; exact x
theorem goF {b : Bool} {X Y : Prop} (h : b = false) (y : Y) : if b = true then X else Y := by rw [if_neg (by rw [h]; decide)]; exact y
mutual
theorem mapW_flat {h : Bool → Bool} {g : Nat → D} : ∀ {d : D}, flatD d = true → mapW h g d = d
  | .bad, e => by simp [flatD] at e
  | .non, _ => rfl
  | .bl _, _ => rfl
  | .int _, _ => rfl
  | .str _, _ => rfl
  | .tup xs, e => by
    rw [mapW, mapWs_flat (by simpa only [flatD] using e)]
  | .lst _ _, e => by simp [flatD] at e
  | .dk _ _ _, e => by simp [flatD] at e
  | .dt _ _ _, e => by simp [flatD] at e
  | .obj _ _ _, e => by simp [flatD] at e
  | .ptr _, e => by simp [flatD] at e
theorem mapWs_flat {h : Bool → Bool} {g : Nat → D} : ∀ {ds : List D}, flatDs ds = true → mapWs h g ds = ds
  | [], _ => rfl
  | x :: xs, e => by
    simp only [flatDs, Bool.and_eq_true] at e
    rw [mapWs, mapW_flat e.1, mapWs_flat e.2]
end
theorem flat_pairs : ∀ ps : List (Int × Int), flatDs (ps.map pD) = true
  | [] => rfl
  | z :: ps => by simp only [List.map_cons, flatDs, pD, flatD, flat_pairs ps, Bool.and_self]
/-- a pile's data -/
def pil (o : Bool) (f st : Str) (rs : List (Int × Int)) : D := .tup [.str f, .str st, .lst o (rs.map pD)]
def cR : Str := ⟨#[82]⟩
def cB : Str := ⟨#[66]⟩
theorem cR_eq : Str.ofString "R" = cR := by decide +kernel
theorem cB_eq : Str.ofString "B" = cB := by decide +kernel
theorem RB_cps : (Str.ofString "RB").cps.toList = [82, 66] := by decide +kernel
structure Rul (n : Nat) (rs : List (Int × Int)) : Prop where
  few : rs.length ≤ 60
  inn : ∀ z, z ∈ rs → 0 ≤ z.1 ∧ z.1 < n ∧ 0 ≤ z.2 ∧ z.2 < n ∧ z.1 ≠ z.2
  srt : rs.Pairwise fun x y => SrtO.lexB x y = true
structure Pil (f st : Str) (rs : List (Int × Int)) : Prop where
  fst : f = cR ∨ f = cB
  pos : 1 ≤ st.length
  top : st.length ≤ 24
  sts : ∀ c, c ∈ st.cps.toList → c = 82 ∨ c = 66
  rul : Rul st.length rs
  acy : ∃ rk : Int → Nat, ∀ z, z ∈ rs → rk z.1 < rk z.2
theorem views_nc {C : Store} {ds : List D} (h : flatDs ds = true) : views [] C ds = ds := mapWs_flat h
theorem views_pil {C : Store} {o : Bool} {f st : Str} {rs : List (Int × Int)} {ds : List D} : views [] C (pil o f st rs :: ds) = pil true f st rs :: views [] C ds := by
  unfold views pil
  simp only [mapWs, mapW, mapWs_flat (flat_pairs rs)]
theorem views_rs {ks : List Nat} {C : Store} {o : Bool} {rs : List (Int × Int)} {ds : List D} : views ks C (.lst o (rs.map pD) :: ds) = .lst true (rs.map pD) :: views ks C ds := by
  unfold views
  simp only [mapWs, mapW, mapWs_flat (flat_pairs rs)]
/-! ### one thing -/
def P_is_between : PV := fun ds C Q => ∃ i a b : Int, ds = [.int i, .int a, .int b] ∧ Q (.bl (decide (a ≤ i ∧ i ≤ b))) C
theorem v_is_between (ds : List D) (C : Store) (Q3 : D → Store → Prop) (h : P_is_between ds C Q3) (hC : C.length = 0) : T_is_between (enF 0 Q3) (start3 N_is_between ds) C := by
  obtain ⟨i, a, b, rfl, q⟩ := h
  rw [List.length_eq_zero_iff] at hC
  subst hC
  refine ⟨_, rfl, .int, rfl, true, rfl, ?_⟩
  refine goT rfl ?_
  refine ⟨_, rfl, .int, rfl, false, rfl, true, rfl, ?_⟩
  refine goT rfl ?_
  refine ⟨_, rfl, _, rfl, _, _, rfl, rfl, _, rfl, ?_⟩
  by_cases h1 : a ≤ i
  · refine goT (decide_eq_true h1) ?_
    refine ⟨_, rfl, _, _, rfl, rfl, ?_⟩
    have e : decide (a ≤ i ∧ i ≤ b) = decide (i ≤ b) := by simp [h1]
    rw [e] at q
    exact q
  · refine goF (decide_eq_false h1) ?_
    have e : decide (a ≤ i ∧ i ≤ b) = false := by simp [h1]
    rw [e] at q
    exact q
theorem sizeL : sizeLine = 16777216 := sizeLine_eq
def P_is_stamp : PV := fun ds C Q => ∃ f : Str, ds = [.str f] ∧ (f = cR ∨ f = cB) ∧ Q (.bl true) C
theorem in_RB {c : Nat} (h : c = 82 ∨ c = 66) : (!(Builtin.Str.occurrences (Str.ofString "RB") ⟨#[c]⟩ 0 (Str.ofString "RB").length 1).isEmpty) = true := by
  rw [StrLaws.found_one, RB_cps]
  simp
  omega
theorem v_is_stamp (ds : List D) (C : Store) (Q3 : D → Store → Prop) (h : P_is_stamp ds C Q3) (hC : C.length = 0) : T_is_stamp (enF 0 Q3) (start3 N_is_stamp ds) C := by
  obtain ⟨f, rfl, hf, q⟩ := h
  rw [List.length_eq_zero_iff] at hC
  subst hC
  obtain ⟨c, rfl, hc⟩ : ∃ c : Nat, f = ⟨#[c]⟩ ∧ (c = 82 ∨ c = 66) := hf.elim (fun e => ⟨82, e, .inl rfl⟩) fun e => ⟨66, e, .inr rfl⟩
  refine ⟨_, rfl, .str, rfl, true, rfl, ?_⟩
  refine goT rfl ?_
  refine ⟨_, rfl, (by rw [sizeL]; show 1 ≤ 16777216; decide), true, rfl, ?_⟩
  refine goT rfl ?_
  refine ⟨_, rfl, ?_⟩
  show Q3 (.bl (false != _)) _
  rw [in_RB hc]
  exact q
def P_are_stamps : PV := fun ds C Q => ∃ st : Str, ds = [.str st] ∧ 1 ≤ st.length ∧ st.length ≤ 24 ∧ (∀ c, c ∈ st.cps.toList → c = 82 ∨ c = 66) ∧ Q (.bl true) C
theorem v_are_stamps (ds : List D) (C : Store) (Q3 : D → Store → Prop) (h : P_are_stamps ds C Q3) (hC : C.length = 0) : T_are_stamps (enF 0 Q3) (start3 N_are_stamps ds) C := by
  obtain ⟨st, rfl, h1, h2, hs, q⟩ := h
  rw [List.length_eq_zero_iff] at hC
  subst hC
  have hz := sizeL
  refine ⟨_, rfl, .str, rfl, true, rfl, ?_⟩
  refine goT rfl ?_
  refine ⟨_, rfl, by omega, _, _, rfl, rfl, _, rfl, ?_⟩
  refine goT (decide_eq_true (by omega)) ?_
  refine ⟨_, _, rfl, rfl, _, rfl, ?_⟩
  refine goT (decide_eq_true (by omega)) ?_
  refine ⟨_, rfl, _, rfl, ?_⟩
  refine lc_map (fun _ => .bl true) (signs st) (fun _ _ => rfl) (by unfold signs; rw [List.length_map, Array.length_toList]; show st.length ≤ _; omega) (fun d hd R hR => ?_) ?_
  · obtain ⟨c, hc, rfl⟩ := List.mem_map.mp hd
    refine ⟨_, rfl, ?_⟩
    show R (.bl (false != _)) _
    rw [in_RB (hs c hc)]
    exact hR
  · refine ⟨_, (signs st).map fun _ => true, rfl, by simp [Cell.frz, lstOf], ?_⟩
    rw [show ((signs st).map fun _ => true).all (fun b => b) = true by simp]
    exact q
end L3

namespace L3
open PySem PySem.Spec PyProof.Rows L2
def P_is_rule : PV := fun ds C Q => ∃ (z : Int × Int) (n : Int), ds = [pD z, .int n] ∧ 0 ≤ z.1 ∧ z.1 < n ∧ 0 ≤ z.2 ∧ z.2 < n ∧ z.1 ≠ z.2 ∧ Q (.bl true) C
theorem v_is_rule (ds : List D) (C : Store) (Q3 : D → Store → Prop) (h : P_is_rule ds C Q3) (hC : C.length = 0) : T_is_rule P_is_between (enF 0 Q3) (start3 N_is_rule ds) C := by
  obtain ⟨z, n, rfl, h1, h2, h3, h4, h5, q⟩ := h
  rw [List.length_eq_zero_iff] at hC
  subst hC
  refine ⟨_, rfl, .tuple, rfl, true, rfl, ?_⟩
  refine goF rfl ?_
  refine ⟨_, rfl, _, _, rfl, rfl, _, rfl, ?_⟩
  refine goF rfl ?_
  refine ⟨_, rfl, _, rfl, ?_⟩
  refine lc_map (fun _ => .bl true) [.int z.1, .int z.2] (fun _ _ => rfl) (by rw [sizeL]; show 2 ≤ 16777216; decide) (fun d hd R hR => ?_) ?_
  · obtain ⟨i, rfl, hi1, hi2⟩ : ∃ i : Int, d = .int i ∧ 0 ≤ i ∧ i < n := by
      simp at hd
      rcases hd with rfl | rfl
      · exact ⟨_, rfl, h1, h2⟩
      · exact ⟨_, rfl, h3, h4⟩
    refine ⟨_, rfl, _, rfl, _, _, rfl, rfl, i, 0, n - 1, by rw [views_int, views_int, views_int, views_nil], rfl, ?_⟩
    rw [decide_eq_true (by omega)]
    exact hR
  · refine ⟨_, [true, true], rfl, rfl, _, rfl, ?_⟩
    refine goF rfl ?_
    refine ⟨_, rfl, _, _, _, rfl, rfl, rfl, _, rfl, _, _, _, rfl, rfl, rfl, ?_⟩
    show Q3 (.bl (true != decide (z.1 = z.2))) _
    rw [decide_eq_false h5]
    exact q
theorem np_pairs (rs : List (Int × Int)) : noptrs (rs.map pD) = true := (flats_np (flat_pairs rs)).1
def P_are_rules : PV := fun ds C Q => ∃ (o : Bool) (rs : List (Int × Int)) (n : Nat), ds = [.lst o (rs.map pD), .int (n : Nat)] ∧ Rul n rs ∧ Q (.bl true) C
theorem zip_tail : ∀ rs : List (Int × Int), rs.Pairwise (fun x y => SrtO.lexB x y = true) → ∀ d, d ∈ zipD (rs.map pD) ((rs.map pD).drop 1) → ∃ x y, d = .tup [pD x, pD y] ∧ SrtO.lexB x y = true
  | [], _, d, h => by simp [zipD] at h
  | [x], _, d, h => by simp [zipD] at h
  | x :: y :: rs, hp, d, h => by
    have h' : d ∈ D.tup [pD x, pD y] :: zipD ((y :: rs).map pD) (((y :: rs).map pD).drop 1) := h
    rcases List.mem_cons.mp h' with rfl | h'
    · exact ⟨x, y, rfl, (List.pairwise_cons.mp hp).1 y (by simp)⟩
    · exact zip_tail (y :: rs) (List.pairwise_cons.mp hp).2 d h'
theorem lex_lt {x y : Int × Int} (h : SrtO.lexB x y = true) : HT.lexLt [x.1, x.2] [y.1, y.2] = true := by
  have := SrtO.lexB_iff.mp h
  rw [HT.lexLt_cons, HT.lexLt_cons]
  by_cases e : x.1 = y.1
  · rw [if_pos e]
    by_cases e2 : x.2 = y.2
    · omega
    · rw [if_neg e2]
      exact decide_eq_true (by omega)
  · rw [if_neg e]
    exact decide_eq_true (by omega)
theorem v_are_rules (ds : List D) (C : Store) (Q3 : D → Store → Prop) (h : P_are_rules ds C Q3) (hC : C.length = 0) : T_are_rules P_is_rule (enF 0 Q3) (start3 N_are_rules ds) C := by
  obtain ⟨o, rs, n, rfl, hr, q⟩ := h
  rw [List.length_eq_zero_iff] at hC
  subst hC
  have hz := sizeL
  have hf := hr.few
  have hln : (rs.map pD).length = rs.length := List.length_map ..
  refine ⟨_, rfl, .list, rfl, true, rfl, ?_⟩
  refine goF rfl ?_
  refine ⟨_, rfl, _, _, rfl, rfl, _, _, rfl, rfl, _, rfl, ?_⟩
  refine goF (decide_eq_false (by rw [hln]; omega)) ?_
  refine ⟨_, rfl, _, rfl, ?_⟩
  refine lc_map (fun _ => .bl true) (rs.map pD) (fun _ _ => rfl) (by omega) (fun d hd R hR => ?_) ?_
  · obtain ⟨z, hm, rfl⟩ := List.mem_map.mp hd
    obtain ⟨a1, a2, a3, a4, a5⟩ := hr.inn z hm
    exact ⟨_, rfl, _, rfl, z, n, views_nc rfl, a1, a2, a3, a4, a5, rfl, hR⟩
  · refine ⟨_, (rs.map pD).map fun _ => true, rfl, by simp [Cell.frz, lstOf], _, rfl, ?_⟩
    refine goF (by simp) ?_
    refine ⟨_, rfl, _, rfl, _, rfl, _, rfl, ?_⟩
    have ec : cutD (rs.map pD) (some 1) none = (rs.map pD).drop 1 := by
      unfold cutD
      have e1 : HT.sIx (rs.map pD).length 0 (some 1) = min 1 (rs.map pD).length := HT.sIx_nat _ _ 1
      rw [e1, HT.sIx_none]
      rw [List.take_of_length_le (by simp)]
      cases rs with
      | nil => rfl
      | cons z rs => rw [show min 1 ((z :: rs).map pD).length = 1 by simp]
    refine ⟨_, _, _, _, rfl, rfl, rfl, by rw [np_pairs, ec, ← List.map_drop, np_pairs]; rfl, ?_⟩
    have hl2 : (zipD (rs.map pD) ((rs.map pD).drop 1)).length ≤ sizeLine := by rw [zipD_len]; omega
    rw [ec]
    refine lc_map (fun _ => .bl true) (zipD (rs.map pD) ((rs.map pD).drop 1)) (fun _ _ => rfl) hl2 (fun d hd R hR => ?_) ?_
    · obtain ⟨x, y, rfl, hxy⟩ := zip_tail rs hr.srt d hd
      refine ⟨_, rfl, rfl, _, _, rfl, _, _, rfl, rfl, ?_⟩
      refine ⟨_, rfl, _, rfl, [x.1, x.2], [y.1, y.2], rfl, rfl, ?_⟩
      rw [lex_lt hxy]
      exact hR
    · refine ⟨_, (zipD (rs.map pD) ((rs.map pD).drop 1)).map fun _ => true, rfl, by simp [Cell.frz, lstOf], ?_⟩
      rw [show ((zipD (rs.map pD) ((rs.map pD).drop 1)).map fun _ => true).all (fun b => b) = true by simp]
      exact q
def P_is_heap : PV := fun ds C Q => ∃ (o : Bool) (f st : Str) (rs : List (Int × Int)), ds = [pil o f st rs] ∧ (f = cR ∨ f = cB) ∧ 1 ≤ st.length ∧ st.length ≤ 24 ∧ (∀ c, c ∈ st.cps.toList → c = 82 ∨ c = 66) ∧ Rul st.length rs ∧ Q (.bl true) C
theorem v_is_heap (ds : List D) (C : Store) (Q3 : D → Store → Prop) (h : P_is_heap ds C Q3) (hC : C.length = 0) : T_is_heap P_are_rules P_are_stamps P_is_stamp (enF 0 Q3) (start3 N_is_heap ds) C := by
  obtain ⟨o, f, st, rs, rfl, hf, h1, h2, hs, hr, q⟩ := h
  rw [List.length_eq_zero_iff] at hC
  subst hC
  have hz := sizeL
  refine ⟨_, rfl, .tuple, rfl, true, rfl, ?_⟩
  refine goF rfl ?_
  refine ⟨_, rfl, _, _, rfl, rfl, _, rfl, ?_⟩
  refine goF rfl ?_
  refine ⟨_, rfl, _, _, _, rfl, rfl, rfl, f, views_nc rfl, hf, rfl, true, rfl, ?_⟩
  refine goT rfl ?_
  refine ⟨_, rfl, _, _, _, rfl, rfl, rfl, st, views_nc rfl, h1, h2, hs, rfl, true, rfl, ?_⟩
  refine goT rfl ?_
  refine ⟨_, rfl, _, _, _, rfl, rfl, rfl, _, rfl, _, _, _, rfl, rfl, rfl, by omega, ?_⟩
  exact ⟨true, rs, st.length, by rw [views_rs]; rw [views_nc rfl], hr, rfl, q⟩
end L3

namespace L3
open PySem PySem.Spec PyProof.Rows L2
/-- the papers straight behind i -/
def bh (rs : List (Int × Int)) (i : Nat) : List Int := (rs.filter fun z => z.1 = (i : Int)).map (·.2)
def bhD (n : Nat) (rs : List (Int × Int)) : D := .lst false ((List.range n).map fun i => .lst false ((bh rs i).map .int))
theorem bh_snoc {rs : List (Int × Int)} {z : Int × Int} {i : Nat} : bh (rs ++ [z]) i = if z.1 = (i : Int) then bh rs i ++ [z.2] else bh rs i := by
  unfold bh
  rw [List.filter_append, List.map_append]
  by_cases h : z.1 = (i : Int)
  · rw [if_pos h, List.filter_cons_of_pos (by simp [h])]
    rfl
  · rw [if_neg h, List.filter_cons_of_neg (by simp [h])]
    simp
theorem bh_len {rs : List (Int × Int)} {i : Nat} : (bh rs i).length ≤ rs.length := by
  unfold bh
  rw [List.length_map]
  exact List.length_filter_le _ _
def bhC (n : Nat) (rs : List (Int × Int)) : Store := (List.range n).map (fun i => Cell.lst ((bh rs i).map .int)) ++ [.lst ((List.range n).map .ptr)]
theorem bhC_at {n : Nat} {rs : List (Int × Int)} {i : Nat} (h : i < n) : (bhC n rs)[i]? = some (.lst ((bh rs i).map .int)) := by
  unfold bhC
  rw [List.getElem?_append_left (by simpa using h), List.getElem?_map, List.getElem?_range h]
  rfl
theorem bhC_top {n : Nat} {rs : List (Int × Int)} : (bhC n rs)[n]? = some (.lst ((List.range n).map .ptr)) := by
  unfold bhC
  rw [List.getElem?_append_right (by simp)]
  simp
theorem bhC_set {n : Nat} {rs : List (Int × Int)} {z : Int × Int} {i : Nat} (h : i < n) (e : z.1 = (i : Int)) : (bhC n rs).set i (.lst ((bh rs i).map .int ++ [.int z.2])) = bhC n (rs ++ [z]) := by
  unfold bhC
  rw [List.set_append_left _ _ (by simpa using h)]
  congr 1
  apply List.ext_getElem?
  intro j
  rw [List.getElem?_map]
  by_cases hj : j < n
  · rw [List.getElem?_range hj]
    by_cases hij : i = j
    · subst hij
      rw [List.getElem?_set_self (by simpa using h)]
      simp [bh_snoc, e]
    · rw [List.getElem?_set_ne hij, List.getElem?_map, List.getElem?_range hj]
      have : ¬ z.1 = (j : Int) := by omega
      simp [bh_snoc, this]
  · rw [List.getElem?_eq_none (by simpa using Nat.le_of_not_lt hj), List.getElem?_eq_none (by simpa using Nat.le_of_not_lt hj)]
    rfl
theorem fin_bh {n : Nat} {rs : List (Int × Int)} : fin 0 (bhC n rs) (.ptr n) = bhD n rs := by
  unfold fin bhD
  simp only [mapW, finG, Nat.not_lt_zero, if_false, bhC_top]
  congr 1
  have key : ∀ l : List Nat, (∀ i, i ∈ l → i < n) → mapWs id (finG 0 (bhC n rs) 2) (l.map .ptr) = l.map fun i => .lst false ((bh rs i).map .int) := by
    intro l
    induction l with
    | nil => intro _; rfl
    | cons i l ih =>
      intro h
      simp only [List.map_cons, mapWs, mapW]
      rw [ih fun j hj => h j (List.mem_cons_of_mem _ hj)]
      congr 1
      simp only [finG, Nat.not_lt_zero, if_false, bhC_at (h i (List.mem_cons_self ..)), mapWs_ints]
  exact key _ fun i hi => by simpa using hi
def P_straight_behind : PV := fun ds C Q => ∃ (o : Bool) (n : Nat) (rs : List (Int × Int)), ds = [.int (n : Nat), .lst o (rs.map pD)] ∧ n ≤ 24 ∧ Rul n rs ∧ Q (bhD n rs) C
theorem v_straight_behind (ds : List D) (C : Store) (Q3 : D → Store → Prop) (h : P_straight_behind ds C Q3) (hC : C.length = 0) : T_straight_behind (enF 0 Q3) (start3 N_straight_behind ds) C := by
  obtain ⟨o, n, rs, rfl, hn, hr, q⟩ := h
  rw [List.length_eq_zero_iff] at hC
  subst hC
  have hz := sizeL
  have hf := hr.few
  refine ⟨_, rfl, n, rfl, by omega, by omega, ?_⟩
  refine lcW_run (fun ds acc C => ∃ i, i + ds.length = n ∧ acc = (List.range i).map .ptr ∧ C = List.replicate i (.lst [])) ?step ?stop _ _ _ ⟨0, by simp [rgI], rfl, rfl⟩
  case step =>
    rintro d ds acc C ⟨i, hi, rfl, rfl⟩ R hR
    simp only [List.length_cons] at hi
    rw [u_gvName, u_bYes, if_pos rfl]
    refine ⟨Nat.zero_le _, by simp; omega, fun k hk => by simp at hk, ?_⟩
    refine hR _ _ ⟨i + 1, by omega, ?_, ?_⟩
    · rw [List.length_replicate, List.range_succ, List.map_append]
      rfl
    · rw [List.replicate_succ']
  case stop =>
    rintro acc C ⟨i, hi, rfl, rfl⟩
    simp only [List.length_nil, Nat.add_zero] at hi
    subst hi
    have e0 : List.replicate i (Cell.lst []) ++ [.lst ((List.range i).map .ptr)] = bhC i [] := by
      unfold bhC
      congr 1
      apply List.ext_getElem?
      intro j
      rw [List.getElem?_map]
      by_cases hj : j < i
      · rw [List.getElem?_range hj, List.getElem?_replicate, if_pos hj]
        rfl
      · rw [List.getElem?_eq_none (by simpa using Nat.le_of_not_lt hj), List.getElem?_eq_none (by simpa using Nat.le_of_not_lt hj)]
        rfl
    rw [List.length_replicate, e0]
    refine ⟨_, rfl, _, rfl, rfl, np_pairs rs, ?_⟩
    refine forW_run (fun ds Γ C => ∃ done rest, rs = done ++ rest ∧ ds = rest.map pD ∧ C = bhC i done ∧ ∃ a b, Γ = [some (.int (i : Nat)), some (.lst o (rs.map pD)), some (.ptr i), a, b]) ?step2 ?stop2 _ _ _ ⟨[], rs, rfl, rfl, rfl, _, _, rfl⟩
    case step2 =>
      rintro d ds Γ C ⟨done, rest, e1, e2, rfl, a, b, rfl⟩ R hR
      cases rest with
      | nil => cases e2
      | cons z rest =>
      simp only [List.map_cons, List.cons.injEq] at e2
      obtain ⟨rfl, rfl⟩ := e2
      obtain ⟨a1, a2, a3, a4, a5⟩ := hr.inn z (by rw [e1]; simp)
      obtain ⟨j, hj⟩ := Int.eq_ofNat_of_zero_le a1
      have hji : j < i := by omega
      refine ⟨_, rfl, rfl, _, _, rfl, _, _, rfl, rfl, ?_⟩
      refine ⟨_, rfl, _, rfl, (List.range i).map .ptr, z.1, .ptr j, by simp only [lstOf, bhC_top], rfl, ?_, ?_⟩
      · unfold atI ixN
        rw [List.length_map, List.length_range, if_pos a1, if_pos a2, hj]
        simp [hji]
      · refine ⟨(bh done j).map .int, by simp only [lstOf, bhC_at hji], _, rfl, j, (bh done j).map .int, _, rfl, rfl, bhC_at hji, ?_, ?_⟩
        · have := bh_len (rs := done) (i := j)
          have := congrArg List.length e1
          simp at this ⊢
          omega
        · rw [bhC_set hji hj]
          exact hR _ _ ⟨done ++ [z], rest, by rw [e1]; simp, rfl, rfl, _, _, rfl⟩
    case stop2 =>
      rintro Γ C ⟨done, rest, e1, e2, rfl, a, b, rfl⟩
      cases rest with
      | cons z rest => cases e2
      | nil =>
      rw [List.append_nil] at e1
      subst e1
      refine ⟨_, rfl, ?_⟩
      show Q3 (fin 0 _ _) (finS 0 _)
      rw [fin_bh, finS0]
      exact q
end L3

/-! the order of papers: the plain law of taking free papers -/
namespace L3
open PySem
/-- rules to j from papers that are not yet found -/
def cnt (rs : List (Int × Int)) (fd : List Int) (j : Int) : Nat := (rs.filter fun z => decide (z.2 = j) && !decide (z.1 ∈ fd)).length
def Topo (rs : List (Int × Int)) (ord : List Int) : Prop := ∀ pre x post, ord = pre ++ x :: post → ∀ z, z ∈ rs → z.2 = x → z.1 ∈ pre
structure OInv (n : Nat) (rs : List (Int × Int)) (fd fr : List Int) (w : Nat → Int) (rest : List Int) : Prop where
  nd : (fd ++ fr).Nodup
  inn : ∀ x, x ∈ fd ++ fr → 0 ≤ x ∧ x < n
  wt : ∀ j : Nat, j < n → w j = (cnt rs fd j : Nat) + (rest.count (j : Int) : Nat)
  iff : ∀ j : Nat, j < n → ((j : Int) ∈ fd ++ fr ↔ w j = 0)
  topo : Topo rs fd
theorem cnt_step {rs : List (Int × Int)} {fd : List Int} {p j : Int} (hp : p ∉ fd) : cnt rs fd j = cnt rs (fd ++ [p]) j + ((rs.filter fun z => decide (z.1 = p)).map (·.2)).count j := by
  unfold cnt
  induction rs with
  | nil => rfl
  | cons z rs ih =>
    simp only [List.filter_cons]
    by_cases h1 : z.1 = p
    · have h2 : z.1 ∉ fd := by rw [h1]; exact hp
      by_cases h3 : z.2 = j
      · simp [h1, h3, hp] at ih ⊢
        omega
      · simp [h1, h3, hp] at ih ⊢
        omega
    · by_cases h3 : z.2 = j
      · by_cases h4 : z.1 ∈ fd
        · simp [h1, h3, h4] at ih ⊢
          omega
        · simp [h1, h3, h4] at ih ⊢
          omega
      · simp [h1, h3] at ih ⊢
        omega
theorem cnt_zero {rs : List (Int × Int)} {fd : List Int} {j : Int} : cnt rs fd j = 0 ↔ ∀ z, z ∈ rs → z.2 = j → z.1 ∈ fd := by
  unfold cnt
  rw [List.length_eq_zero_iff, List.filter_eq_nil_iff]
  constructor
  · intro h z hz e
    have := h z hz
    simpa [e] using this
  · intro h z hz
    have := h z hz
    simp
    intro e
    exact this e
/-- a free paper is taken -/
theorem OInv.take {n : Nat} {rs : List (Int × Int)} {fd fr : List Int} {w : Nat → Int} {p : Nat} (I : OInv n rs fd fr w []) (hp : (p : Int) ∈ fr) : OInv n rs (fd ++ [(p : Int)]) (fr.erase p) w (bh rs p) := by
  have hnd := I.nd
  have pn := I.inn p (List.mem_append_right _ hp)
  have hpf : (p : Int) ∉ fd := fun h => (List.nodup_append.mp hnd).2.2 _ h _ hp rfl
  have perm : (fd ++ [(p : Int)] ++ fr.erase p).Perm (fd ++ fr) := by
    rw [List.append_assoc]
    exact (List.Perm.append_left fd (List.perm_cons_erase hp).symm)
  refine ⟨perm.nodup_iff.mpr hnd, fun x hx => I.inn x (perm.mem_iff.mp hx), fun j hj => ?_, fun j hj => ?_, ?_⟩
  · have h1 := I.wt j hj
    have h2 := cnt_step (rs := rs) (j := (j : Int)) hpf
    simp only [List.count_nil] at h1
    unfold bh
    omega
  · rw [perm.mem_iff]
    exact I.iff j hj
  · intro pre x post e z hz ez
    rcases List.append_eq_append_iff.mp e with ⟨a, e1, e2⟩ | ⟨a, e1, e2⟩
    · cases a with
      | nil =>
        simp at e1 e2
        have hw := (I.iff p (by omega)).mp (List.mem_append_right _ hp)
        have h1 := I.wt p (by omega)
        simp only [List.count_nil] at h1
        have hz0 : cnt rs fd p = 0 := by omega
        have := cnt_zero.mp hz0 z hz (by rw [ez]; exact e2.1.symm)
        rw [e1]
        exact this
      | cons b a => simp at e2
    · cases a with
      | nil =>
        simp at e1 e2
        have hw := (I.iff p (by omega)).mp (List.mem_append_right _ hp)
        have h1 := I.wt p (by omega)
        simp only [List.count_nil] at h1
        have hz0 : cnt rs fd p = 0 := by omega
        have := cnt_zero.mp hz0 z hz (by rw [ez]; exact e2.1)
        rw [← e1]
        exact this
      | cons b a =>
        simp only [List.cons_append, List.cons.injEq] at e2
        exact I.topo pre x a (by rw [e1, e2.1]) z hz ez
/-- one rule from it -/
theorem OInv.step {n : Nat} {rs : List (Int × Int)} {fd fr : List Int} {w : Nat → Int} {o : Nat} {rest : List Int} (I : OInv n rs fd fr w ((o : Int) :: rest)) (ho : o < n) :
    OInv n rs fd (if w o - 1 = 0 then fr ++ [(o : Int)] else fr) (fun i => if i = o then w o - 1 else w i) rest := by
  have h1 := I.wt o ho
  simp only [List.count_cons_self] at h1
  have hno : (o : Int) ∉ fd ++ fr := fun h => by
    have := (I.iff o ho).mp h
    omega
  have wt : ∀ j : Nat, j < n → (if j = o then w o - 1 else w j) = (cnt rs fd j : Nat) + (rest.count (j : Int) : Nat) := fun j hj => by
    by_cases e : j = o
    · subst e
      rw [if_pos rfl]
      omega
    · rw [if_neg e]
      have := I.wt j hj
      rw [List.count_cons_of_ne (by omega)] at this
      exact this
  by_cases hz : w o - 1 = 0
  · rw [if_pos hz]
    refine ⟨?_, fun x hx => ?_, wt, fun j hj => ?_, I.topo⟩
    · rw [← List.append_assoc]
      refine List.nodup_append.mpr ⟨I.nd, by simp, fun a ha b hb e => ?_⟩
      simp at hb
      subst e hb
      exact hno ha
    · rw [← List.append_assoc] at hx
      rcases List.mem_append.mp hx with hx | hx
      · exact I.inn x hx
      · simp at hx; subst hx; omega
    · rw [← List.append_assoc, List.mem_append, List.mem_singleton]
      by_cases e : j = o
      · subst e
        simp [hz]
      · have := I.iff j hj
        rw [if_neg e, this]
        constructor
        · rintro (h | h)
          · exact h
          · omega
        · exact fun h => .inl h
  · rw [if_neg hz]
    refine ⟨I.nd, I.inn, wt, fun j hj => ?_, I.topo⟩
    by_cases e : j = o
    · subst e
      rw [if_pos rfl]
      exact ⟨fun h => absurd h hno, fun h => absurd h hz⟩
    · rw [if_neg e]
      exact I.iff j hj
def upto (n : Nat) : List Int := (List.range n).map fun i : Nat => (i : Int)
/-- none free: all are found -/
theorem OInv.done {n : Nat} {rs : List (Int × Int)} {fd : List Int} {w : Nat → Int} (I : OInv n rs fd [] w []) (hr : ∀ z, z ∈ rs → 0 ≤ z.1 ∧ z.1 < n) (hk : ∃ rk : Int → Nat, ∀ z, z ∈ rs → rk z.1 < rk z.2) : fd.Perm (upto n) := by
  obtain ⟨rk, hrk⟩ := hk
  have nd := I.nd
  rw [List.append_nil] at nd
  have all : ∀ m : Nat, ∀ j : Nat, j < n → rk j < m → (j : Int) ∈ fd := by
    intro m
    induction m with
    | zero => intro j _ h; omega
    | succ m ih =>
      intro j hj hm
      have hc : cnt rs fd j = 0 := cnt_zero.mpr fun z hz ez => by
        obtain ⟨h0, h1⟩ := hr z hz
        obtain ⟨i, hi⟩ := Int.eq_ofNat_of_zero_le h0
        have h2 := hrk z hz
        rw [ez] at h2
        rw [hi] at h2 h1 ⊢
        exact ih i (by omega) (by omega)
      have h3 := I.wt j hj
      rw [hc] at h3
      simp at h3
      have := (I.iff j hj).mpr h3
      simpa using this
  have nd2 : (upto n).Nodup := by
    unfold upto
    exact List.pairwise_map.mpr (List.Pairwise.imp (fun h e => h (Int.ofNat.inj e)) (List.nodup_range (n := n)))
  refine (List.perm_ext_iff_of_nodup nd nd2).mpr fun x => ⟨fun hx => ?_, fun hx => ?_⟩
  · obtain ⟨h0, h1⟩ := I.inn x (by simpa using hx)
    obtain ⟨i, rfl⟩ := Int.eq_ofNat_of_zero_le h0
    exact List.mem_map.mpr ⟨i, by simp; omega, rfl⟩
  · obtain ⟨i, hi, rfl⟩ := List.mem_map.mp hx
    exact all (rk i + 1) i (by simpa using hi) (by omega)
end L3

namespace L3
open PySem PySem.Spec PyProof.Rows L2
def P_ordered : PV := fun ds C Q => ∃ (o : Bool) (n : Nat) (rs : List (Int × Int)), ds = [.int (n : Nat), .lst o (rs.map pD)] ∧ 1 ≤ n ∧ n ≤ 24 ∧ Rul n rs ∧ (∃ rk : Int → Nat, ∀ z, z ∈ rs → rk z.1 < rk z.2) ∧
  ∀ ord : List Int, ord.Perm (upto n) → Topo rs ord → Q (.lst false (ord.map .int)) C
def wL (n : Nat) (w : Nat → Int) : List D := (List.range n).map fun j => .int (w j)
theorem wL_len {n : Nat} {w : Nat → Int} : (wL n w).length = n := by simp [wL]
theorem wL_get {n : Nat} {w : Nat → Int} {j : Nat} (h : j < n) : (wL n w)[j]? = some (.int (w j)) := by
  unfold wL
  rw [List.getElem?_map, List.getElem?_range h]
  rfl
theorem wL_set {n : Nat} {w : Nat → Int} {j : Nat} {v : Int} (h : j < n) : (wL n w).set j (.int v) = wL n (fun i => if i = j then v else w i) := by
  apply List.ext_getElem?
  intro i
  by_cases hi : i < n
  · rw [wL_get hi]
    by_cases e : j = i
    · subst e
      rw [List.getElem?_set_self (by rw [wL_len]; exact h), if_pos rfl]
    · rw [List.getElem?_set_ne e, wL_get hi, if_neg (fun z => e z.symm)]
  · rw [List.getElem?_eq_none (by simp [wL]; omega), List.getElem?_eq_none (by simp [wL]; omega)]
theorem ix_nat {n j : Nat} (h : j < n) : ixN n (j : Int) = some j := by
  unfold ixN
  rw [if_pos (by omega), if_pos (by omega)]
  simp
theorem wL_at {n : Nat} {w : Nat → Int} {j : Nat} (h : j < n) : atI (wL n w) (j : Int) = some (.int (w j)) := by
  unfold atI
  rw [wL_len, ix_nat h]
  exact wL_get h
/-- how many rules lead to j -/
def cn (rs : List (Int × Int)) (j : Nat) : Int := (cnt rs [] (j : Int) : Nat)
theorem cn_snoc {rs : List (Int × Int)} {z : Int × Int} {j : Nat} : cn (rs ++ [z]) j = if z.2 = (j : Int) then cn rs j + 1 else cn rs j := by
  unfold cn cnt
  rw [List.filter_append, List.length_append]
  by_cases h : z.2 = (j : Int)
  · rw [if_pos h, List.filter_cons_of_pos (by simp [h])]
    simp
  · rw [if_neg h, List.filter_cons_of_neg (by simp [h])]
    simp
theorem idx_first : ∀ (l : List Int) (k : Int), k ∈ l → ∃ j : Nat, l[j]? = some k ∧ (∀ m : Nat, m < j → l[m]? ≠ some k) ∧ l.eraseIdx j = l.erase k
  | [], k, h => by simp at h
  | a :: l, k, h => by
    by_cases e : a = k
    · subst e
      exact ⟨0, rfl, fun m hm => by omega, by simp⟩
    · obtain ⟨j, h1, h2, h3⟩ := idx_first l k (by simpa [Ne.symm e] using h)
      refine ⟨j + 1, by simpa using h1, fun m hm => ?_, ?_⟩
      · cases m with
        | zero => simpa using e
        | succ m => simpa using h2 m (by omega)
      · rw [List.eraseIdx_cons_succ, h3, List.erase_cons_tail (by simpa using e)]
theorem rep0 (n : Nat) : (List.replicate (n : Int).toNat [D.int 0]).flatten = wL n fun _ => 0 := by
  unfold wL
  rw [Int.toNat_natCast]
  induction n with
  | zero => rfl
  | succ n ih => rw [List.replicate_succ', List.flatten_append, ih, List.range_succ, List.map_append]; rfl
theorem nodup_len : ∀ (n : Nat) (l : List Int), l.Nodup → (∀ x, x ∈ l → 0 ≤ x ∧ x < n) → l.length ≤ n
  | 0, l, _, h => by
    cases l with
    | nil => exact Nat.le_refl _
    | cons x l => have := h x (by simp); omega
  | n + 1, l, nd, h => by
    by_cases hm : (n : Int) ∈ l
    · have h1 := nodup_len n (l.erase (n : Int)) (nd.erase _) fun x hx => by
        have h2 := h x (List.mem_of_mem_erase hx)
        have h3 : x ≠ (n : Int) := fun e => by
          subst e
          exact (List.Nodup.not_mem_erase nd) hx
        omega
      rw [List.length_erase_of_mem hm] at h1
      omega
    · have h1 := nodup_len n l nd fun x hx => by
        have h2 := h x hx
        have h3 : x ≠ (n : Int) := fun e => by subst e; exact hm hx
        omega
      omega
/-- the loop over the papers straight behind -/
theorem inner_ok {De : En} {n : Nat} {rs : List (Int × Int)} {fd : List Int} {x0 x1 x6 : Option D} {p : Option D} (hn : n ≤ 24) : ∀ (rest : List Int) (fr : List Int) (w : Nat → Int) (q5 : Option D), OInv n rs fd fr w rest → (∀ x, x ∈ rest → 0 ≤ x ∧ x < n) →
    (∀ fr' w' q', OInv n rs fd fr' w' [] → De.nx [x0, x1, some (.ptr 0), some (.ptr 1), p, q', x6, some (.ptr 2)] [.lst (fd.map .int), .lst (wL n w'), .lst (fr'.map .int)]) →
    forW (gvName 5) (sSeq (sAugL oSub (eVar 3) (eVar 5) (eC (.int 1))) (sIf (bB (eBin (oEq false) (eBin oIxL (eVar 3) (eVar 5)) (eC (.int 0)))) (sDrop (eMl mAppend (eVar 7) (aCons (eVar 5) aNil))) sNext)) De (rest.map .int)
      [x0, x1, some (.ptr 0), some (.ptr 1), p, q5, x6, some (.ptr 2)] [.lst (fd.map .int), .lst (wL n w), .lst (fr.map .int)]
  | [], fr, w, q5, I, _, q => q fr w q5 I
  | x :: rest, fr, w, q5, I, hx, q => by
    obtain ⟨h0, h1⟩ := hx x (by simp)
    obtain ⟨o, rfl⟩ := Int.eq_ofNat_of_zero_le h0
    have ho : o < n := by omega
    have st := I.step ho
    have hz := sizeL
    have hfr : fr.length < sizeLine := by
      have h3 := nodup_len n (fd ++ fr) I.nd I.inn
      rw [List.length_append] at h3
      omega
    have go := fun fr' w' q5' I' => inner_ok (De := De) (x0 := x0) (x1 := x1) (x6 := x6) (p := p) hn rest fr' w' q5' I' (fun x hx' => hx x (List.mem_cons_of_mem _ hx')) q
    refine ⟨_, rfl, _, rfl, 1, _, _, o, _, rfl, rfl, rfl, by rw [wL_len]; exact ix_nat ho, wL_get ho, _, _, rfl, rfl, rfl, ?_⟩
    have es : (wL n w).set o (.int (w o - 1)) = wL n (fun i => if i = o then w o - 1 else w i) := wL_set ho
    refine ⟨_, rfl, _, rfl, wL n (fun i => if i = o then w o - 1 else w i), (o : Nat), .int (w o - 1), by rw [es]; rfl, rfl, by rw [wL_at ho, if_pos rfl], _, rfl, ?_⟩
    by_cases hw : w o - 1 = 0
    · refine goT (by simp [hw]) ?_
      rw [if_pos hw] at st
      refine ⟨_, rfl, fr.map .int, rfl, _, rfl, 2, fr.map .int, _, rfl, rfl, rfl, by simpa using hfr, ?_⟩
      have := go (fr ++ [(o : Int)]) _ (some (.int (o : Nat))) st
      rw [List.map_append] at this
      show forW _ _ _ _ _ [.lst (fd.map .int), .lst ((wL n w).set o (.int (w o - 1))), .lst (fr.map .int ++ [.int (o : Nat)])]
      rw [es]
      exact this
    · refine goF (by simp [hw]) ?_
      rw [if_neg hw] at st
      have := go fr _ (some (.int (o : Nat))) st
      show forW _ _ _ _ _ [.lst (fd.map .int), .lst ((wL n w).set o (.int (w o - 1))), .lst (fr.map .int)]
      rw [es]
      exact this
end L3

namespace L3
open PySem PySem.Spec PyProof.Rows L2
/-- those that nothing leads to -/
def fr0 (n : Nat) (w : Nat → Int) : List Int := ((List.range n).filter fun j => decide (w j = 0)).map fun j : Nat => (j : Int)
theorem rg_len' (lo : Int) (n : Nat) : (rgI lo n).length = n := by simp [rgI]
theorem bhD_ok {n : Nat} {rs : List (Int × Int)} : (noold (bhD n rs) && noptr (bhD n rs)) = true := by
  have h1 : ∀ l : List Nat, okWs (fun o => !o) (l.map fun i => .lst false ((bh rs i).map .int)) = true := by
    intro l
    induction l with
    | nil => rfl
    | cons i l ih => simp only [List.map_cons, okWs, okW, okWs_ints, ih]; rfl
  have h2 : ∀ l : List Nat, noptrs (l.map fun i => .lst false ((bh rs i).map .int)) = true := by
    intro l
    induction l with
    | nil => rfl
    | cons i l ih => simp only [List.map_cons, noptrs, noptr, noptrs_ints, ih]; rfl
  unfold bhD noold
  rw [okW, noptr, h1, h2]
  rfl
theorem bhD_at {n : Nat} {rs : List (Int × Int)} {i : Nat} (h : i < n) : atI ((List.range n).map fun i => D.lst false ((bh rs i).map .int)) (i : Int) = some (.lst false ((bh rs i).map .int)) := by
  unfold atI
  rw [List.length_map, List.length_range, ix_nat h]
  show ((List.range n).map fun i => D.lst false ((bh rs i).map .int))[i]? = _
  rw [List.getElem?_map, List.getElem?_range h]
  rfl
theorem start_inv {n : Nat} {rs : List (Int × Int)} : OInv n rs [] (fr0 n (cn rs)) (cn rs) [] := by
  have mem : ∀ x, x ∈ fr0 n (cn rs) ↔ ∃ j : Nat, j < n ∧ cn rs j = 0 ∧ x = (j : Int) := fun x => by
    unfold fr0
    constructor
    · intro h
      obtain ⟨j, hj, rfl⟩ := List.mem_map.mp h
      obtain ⟨h1, h2⟩ := List.mem_filter.mp hj
      exact ⟨j, by simpa using h1, by simpa using h2, rfl⟩
    · rintro ⟨j, h1, h2, rfl⟩
      exact List.mem_map.mpr ⟨j, List.mem_filter.mpr ⟨by simpa using h1, by simpa using h2⟩, rfl⟩
  refine ⟨?_, fun x hx => ?_, fun j hj => by simp [cn], fun j hj => ?_, fun pre x post e => by simp at e⟩
  · rw [List.nil_append]
    exact List.pairwise_map.mpr (List.Pairwise.imp (fun h e => h (Int.ofNat.inj e)) ((List.nodup_range (n := n)).filter _))
  · obtain ⟨j, h1, _, rfl⟩ := (mem x).mp (by simpa using hx)
    omega
  · rw [List.nil_append, mem]
    constructor
    · rintro ⟨i, h1, h2, e⟩
      have : j = i := by omega
      rw [this]; exact h2
    · exact fun h => ⟨j, hj, h, rfl⟩
theorem v_ordered (ds : List D) (C : Store) (Q3 : D → Store → Prop) (h : P_ordered ds C Q3) (hC : C.length = 0) : T_ordered P_straight_behind (enF 0 Q3) (start3 N_ordered ds) C := by
  obtain ⟨o, n, rs, rfl, h1, hn, hr, hk, q⟩ := h
  rw [List.length_eq_zero_iff] at hC
  subst hC
  have hz := sizeL
  have hf := hr.few
  refine ⟨Nat.zero_le _, ?_⟩
  refine ⟨by rw [hz]; show 1 ≤ 16777216; decide, _, rfl, _, n, rfl, rfl, by omega, by omega, by simp; omega, rfl, ?_⟩
  rw [rep0]
  refine ⟨_, rfl, _, rfl, rfl, np_pairs rs, ?_⟩
  refine forW_run (fun ds Γ C => ∃ done rest, rs = done ++ rest ∧ ds = rest.map pD ∧ C = [.lst [], .lst (wL n (cn done))] ∧ ∃ a b, Γ = [some (.int (n : Nat)), some (.lst o (rs.map pD)), some (.ptr 0), some (.ptr 1), a, b, none, none]) ?step ?stop _ _ _ ⟨[], rs, rfl, rfl, rfl, _, _, rfl⟩
  case step =>
    rintro d ds Γ C ⟨done, rest, e1, e2, rfl, a, b, rfl⟩ R hR
    cases rest with
    | nil => cases e2
    | cons z rest =>
    simp only [List.map_cons, List.cons.injEq] at e2
    obtain ⟨rfl, rfl⟩ := e2
    obtain ⟨a1, a2, a3, a4, a5⟩ := hr.inn z (by rw [e1]; simp)
    obtain ⟨j, hj⟩ := Int.eq_ofNat_of_zero_le a3
    have hji : j < n := by omega
    refine ⟨_, rfl, rfl, _, _, rfl, _, _, rfl, rfl, ?_⟩
    refine ⟨_, rfl, _, rfl, 1, _, _, j, _, rfl, rfl, rfl, by rw [wL_len, hj]; exact ix_nat hji, wL_get hji, _, _, rfl, rfl, rfl, ?_⟩
    refine hR _ _ ⟨done ++ [z], rest, by rw [e1]; simp, rfl, ?_, _, _, rfl⟩
    show [Cell.lst [], Cell.lst ((wL n (cn done)).set j (.int (cn done j + 1)))] = _
    rw [wL_set hji]
    congr 4
    funext i
    rw [cn_snoc, hj]
    by_cases e : i = j
    · subst e; simp
    · rw [if_neg e, if_neg (by omega)]
  case stop =>
    rintro Γ C ⟨done, rest, e1, e2, rfl, a, b, rfl⟩
    cases rest with
    | cons z rest => cases e2
    | nil =>
    rw [List.append_nil] at e1
    subst e1
    refine ⟨_, rfl, _, rfl, true, n, rs, by rw [views_int, views_rs, views_nil], hn, hr, bhD_ok, ?_⟩
    refine ⟨_, rfl, n, rfl, by omega, by omega, ?_⟩
    refine lc_filter (fun d => match d with | .int i => decide (cn rs i.toNat = 0) | _ => false) (fun d => d) (rgI 0 ((n : Int)).toNat) (fun _ h => by simp at h) (by rw [rg_len']; omega) (fun d hd R R' hR hR' => ?_) ?_
    · obtain ⟨i, hi, rfl⟩ := List.mem_map.mp hd
      have hin : i < n := by simpa using hi
      have ei : (0 : Int) + (i : Nat) = (i : Int) := by omega
      rw [ei] at hR hR' ⊢
      refine ⟨_, rfl, _, rfl, _, _, _, rfl, rfl, wL_at hin, _, rfl, ?_⟩
      by_cases hw : cn rs i = 0
      · refine goT (by simp [hw]) ?_
        exact ⟨_, rfl, hR (by simp [hw])⟩
      · refine goF (by simp [hw]) ?_
        exact hR' (by simp [hw])
    · have ef : ((rgI 0 ((n : Int)).toNat).filter fun d => match d with | .int i => decide (cn rs i.toNat = 0) | _ => false).map (fun d => d) = (fr0 n (cn rs)).map .int := by
        unfold rgI fr0
        rw [Int.toNat_natCast]
        simp only [List.filter_map, List.map_map]
        congr 1
        · funext i
          show D.int (0 + (i : Nat)) = D.int (i : Nat)
          rw [Int.zero_add]
        · apply List.filter_congr
          intro i _
          show decide (cn rs (0 + (i : Int)).toNat = 0) = _
          rw [Int.zero_add, Int.toNat_natCast]
      rw [ef]
      let Γ0 : Option D → Option D → Slots := fun p q => [some (.int (n : Nat)), some (.lst o (rs.map pD)), some (.ptr 0), some (.ptr 1), p, q, some (bhD n rs), some (.ptr 2)]
      refine ⟨fun m Γ C => ∃ (fd fr : List Int) (w : Nat → Int) (p q : Option D), m = n - fd.length ∧ OInv n rs fd fr w [] ∧ Γ = Γ0 p q ∧ C = [.lst (fd.map .int), .lst (wL n w), .lst (fr.map .int)], ⟨_, [], fr0 n (cn rs), cn rs, _, _, rfl, start_inv, rfl, rfl⟩, ?_⟩
      rintro m Γ C ⟨fd, fr, w, p, q5, rfl, I, rfl, rfl⟩
      refine ⟨_, rfl, Nat.zero_le _, ?_⟩
      refine ⟨_, _, (show pyD _ (.ptr 2) = some (.list (fr.map .int)) by simp [pyD, pyW, pyG, pyWs_ints]), pyD_ints (o := false) [], shaped_ints fr, shaped_ints [], _, rfl, ?_⟩
      rw [eqv_ints]
      by_cases he : fr = []
      · subst he
        refine goF (by simp) ?_
        have hp := I.done (fun z hz => ⟨(hr.inn z hz).1, (hr.inn z hz).2.1⟩) hk
        refine ⟨_, rfl, ?_⟩
        show Q3 (fin 0 _ (.ptr 0)) (finS 0 _)
        rw [fin_cell (ns := fd) rfl, finS0]
        exact q fd hp I.topo
      · refine goT (by simp [he]) ?_
        refine ⟨_, rfl, .ptr 2, fr, rfl, rfl, List.length_pos_iff.mpr he, fun mn hmn hle => ?_⟩
        obtain ⟨hm0, hm1⟩ := I.inn mn (List.mem_append_right _ hmn)
        obtain ⟨pp, rfl⟩ := Int.eq_ofNat_of_zero_le hm0
        have hpn : pp < n := by omega
        obtain ⟨j, hj1, hj2, hj3⟩ := idx_first fr _ hmn
        have hlen := nodup_len n (fd ++ fr) I.nd I.inn
        rw [List.length_append] at hlen
        have hfr0 : 0 < fr.length := List.length_pos_iff.mpr he
        refine ⟨_, rfl, fr.map .int, rfl, _, rfl, 2, fr, (pp : Int), j, rfl, rfl, rfl, hj1, hj2, ?_⟩
        rw [hj3]
        refine ⟨_, rfl, fd.map .int, rfl, _, rfl, 0, fd.map .int, _, rfl, rfl, rfl, by simp; omega, ?_⟩
        refine ⟨_, rfl, _, rfl, _, (pp : Int), .lst false ((bh rs pp).map .int), rfl, rfl, bhD_at hpn, _, rfl, rfl, noptrs_ints _, ?_⟩
        have It := I.take hmn
        have hb : ∀ x, x ∈ bh rs pp → 0 ≤ x ∧ x < n := fun x hx => by
          obtain ⟨z, hz, rfl⟩ := List.mem_map.mp hx
          have := hr.inn z (List.mem_filter.mp hz).1
          omega
        have e0 : fd.map D.int ++ [D.int (pp : Nat)] = (fd ++ [(pp : Int)]).map .int := by simp
        show forW _ _ _ _ _ [Cell.lst (fd.map D.int ++ [D.int (pp : Nat)]), .lst (wL n w), .lst ((fr.erase (pp : Int)).map .int)]
        rw [e0]
        refine inner_ok hn (bh rs pp) (fr.erase (pp : Int)) w q5 It hb fun fr' w' q' I' => ?_
        exact ⟨n - (fd ++ [(pp : Int)]).length, by simp; omega, fd ++ [(pp : Int)], fr', w', _, q', rfl, I', rfl, rfl⟩
end L3

namespace L3
open PySem PySem.Spec PyProof.Rows L2
def P_ring_none : PV := fun ds C Q => ∃ (o : Bool) (n : Nat) (rs : List (Int × Int)), ds = [.int (n : Nat), .lst o (rs.map pD)] ∧ 1 ≤ n ∧ n ≤ 24 ∧ Rul n rs ∧ (∃ rk : Int → Nat, ∀ z, z ∈ rs → rk z.1 < rk z.2) ∧ Q .non C
theorem in_ints {neg : Bool} {C : Store} {o : Bool} {z : Int} {ns : List Int} {q : D → Prop} (h : q (.bl (neg != decide (z ∈ ns)))) : oIn neg C (.int z) (.lst o (ns.map .int)) q := by
  refine ⟨.int z, ns.map .int, rfl, pyD_ints ns, by simp [SeqAt.shaped, PyData.canLay0, PyData.depth], shaped_ints ns, ?_⟩
  have e : ((ns.map PyData.int).any fun y => PyData.eqv y (.int z)) = decide (z ∈ ns) := by
    rw [List.any_map]
    by_cases hm : z ∈ ns
    · rw [decide_eq_true hm]
      exact List.any_eq_true.mpr ⟨z, hm, by simp [PyData.eqv]⟩
    · rw [decide_eq_false hm]
      apply Bool.eq_false_iff.mpr
      intro h
      obtain ⟨y, hy, e⟩ := List.any_eq_true.mp h
      have : y = z := by simpa [PyData.eqv] using e
      exact hm (this ▸ hy)
  rw [e]
  exact h
theorem v_ring_none (ds : List D) (C : Store) (Q3 : D → Store → Prop) (h : P_ring_none ds C Q3) (hC : C.length = 0) : T_ring_by P_ordered (enF 0 Q3) (start3 N_ring_by ds) C := by
  obtain ⟨o, n, rs, rfl, h1, hn, hr, hk, q⟩ := h
  rw [List.length_eq_zero_iff] at hC
  subst hC
  have hz := sizeL
  refine ⟨_, rfl, _, rfl, true, n, rs, by rw [views_int, views_rs, views_nil], h1, hn, hr, hk, fun ord hp ht => ⟨np_ints, ?_⟩⟩
  have mem : ∀ i : Nat, i < n → (i : Int) ∈ ord := fun i hi => hp.mem_iff.mpr (List.mem_map.mpr ⟨i, by simpa using hi, rfl⟩)
  refine ⟨_, rfl, n, rfl, by omega, by omega, ?_⟩
  refine lc_filter (fun _ => false) (fun d => d) (rgI 0 ((n : Int)).toNat) (fun _ h => by simp at h) (by rw [rg_len']; omega) (fun d hd R R' hR hR' => ?_) ?_
  · obtain ⟨i, hi, rfl⟩ := List.mem_map.mp hd
    have hin : i < n := by simpa using hi
    have ei : (0 : Int) + (i : Nat) = (i : Int) := by omega
    rw [ei]
    refine ⟨_, rfl, _, rfl, ?_⟩
    refine in_ints (ns := ord) ⟨_, rfl, ?_⟩
    refine goF ?_ (hR' rfl)
    rw [decide_eq_true (mem i hin)]
    rfl
  · rw [show ((rgI 0 ((n : Int)).toNat).filter fun _ => false).map (fun d => d) = [] by simp]
    refine ⟨_, rfl, Nat.zero_le _, ?_⟩
    refine oEq_ints (o := false) (o' := false) (ns := []) (ms := []) ⟨_, rfl, ?_⟩
    exact goT rfl q
theorem views_pil1 {C : Store} {o : Bool} {f st : Str} {rs : List (Int × Int)} : views [] C [pil o f st rs] = [pil true f st rs] := by rw [views_pil, views_nil]
def P_is_pile : PV := fun ds C Q => ∃ (o : Bool) (f st : Str) (rs : List (Int × Int)), ds = [pil o f st rs] ∧ Pil f st rs ∧ Q (.bl true) C
theorem v_is_pile (ds : List D) (C : Store) (Q3 : D → Store → Prop) (h : P_is_pile ds C Q3) (hC : C.length = 0) : T_is_pile P_ring_none P_is_heap (enF 0 Q3) (start3 N_is_pile ds) C := by
  obtain ⟨o, f, st, rs, rfl, hp, q⟩ := h
  rw [List.length_eq_zero_iff] at hC
  subst hC
  have hz := sizeL
  have h24 := hp.top
  refine ⟨_, rfl, true, f, st, rs, views_pil1, hp.fst, hp.pos, hp.top, hp.sts, hp.rul, rfl, true, rfl, ?_⟩
  refine goT rfl ?_
  refine ⟨_, rfl, _, _, _, rfl, rfl, rfl, by omega, _, rfl, _, _, _, rfl, rfl, rfl, ?_⟩
  exact ⟨true, st.length, rs, by rw [views_int, views_rs, views_nil], hp.pos, hp.top, hp.rul, hp.acy, rfl, rfl, true, rfl, q⟩
def P_need_pile : PV := fun ds C Q => ∃ (o : Bool) (f st : Str) (rs : List (Int × Int)), ds = [pil o f st rs] ∧ Pil f st rs ∧ Q .non C
theorem v_need_pile (ds : List D) (C : Store) (Q3 : D → Store → Prop) (h : P_need_pile ds C Q3) (hC : C.length = 0) : T_need_pile P_is_pile (enF 0 Q3) (start3 N_need_pile ds) C := by
  obtain ⟨o, f, st, rs, rfl, hp, q⟩ := h
  rw [List.length_eq_zero_iff] at hC
  subst hC
  refine ⟨_, rfl, true, f, st, rs, views_pil1, hp, rfl, true, rfl, ?_⟩
  exact goF rfl q
def P_in_order : PV := fun ds C Q => ∃ (o : Bool) (f st : Str) (rs : List (Int × Int)), ds = [pil o f st rs] ∧ Pil f st rs ∧ ∀ ord : List Int, ord.Perm (upto st.length) → Topo rs ord → Q (.lst false (ord.map .int)) C
theorem v_in_order (ds : List D) (C : Store) (Q3 : D → Store → Prop) (h : P_in_order ds C Q3) (hC : C.length = 0) : T_in_order P_ordered (enF 0 Q3) (start3 N_in_order ds) C := by
  obtain ⟨o, f, st, rs, rfl, hp, q⟩ := h
  rw [List.length_eq_zero_iff] at hC
  subst hC
  have hz := sizeL
  have h24 := hp.top
  refine ⟨_, rfl, _, _, _, rfl, rfl, rfl, by omega, _, rfl, _, _, _, rfl, rfl, rfl, ?_⟩
  refine ⟨true, st.length, rs, by rw [views_int, views_rs, views_nil], hp.pos, hp.top, hp.rul, hp.acy, fun ord h1 h2 => ⟨np_ints, ?_⟩⟩
  show Q3 (fin 0 _ _) _
  rw [fin_ints]
  exact q ord h1 h2
/-- the sign of a paper -/
def sg (st : Str) (i : Nat) : Nat := st.cps.toList.getD i 0
def neq (a b : Nat) : Int := if a = b then 0 else 1
/-- the first stamp's sign -/
def f0 (f : Str) : Nat := f.cps.toList.getD 0 0
theorem sg_at {st : Str} {i : Nat} (h : i < st.length) : atI st.cps.toList (i : Int) = some (sg st i) := by
  have hl : st.cps.toList.length = st.length := by rw [Array.length_toList]; rfl
  unfold atI sg
  rw [hl, ix_nat h]
  show st.cps.toList[i]? = _
  rw [List.getD_eq_getElem?_getD, List.getElem?_eq_getElem (by omega)]
  rfl
theorem one_ne {a b : Nat} : (if (true != decide ((⟨#[a]⟩ : Str) = ⟨#[b]⟩)) = true then (1 : Int) else 0) = neq a b := by
  unfold neq
  by_cases h : a = b
  · subst h; simp
  · simp [h]
def P_base_of : PV := fun ds C Q => ∃ (o : Bool) (f st : Str) (rs : List (Int × Int)) (i : Nat), ds = [pil o f st rs, .int (i : Nat)] ∧ Pil f st rs ∧ i < st.length ∧ Q (.int (neq (sg st i) (f0 f))) C
theorem f_one {f : Str} (h : f = cR ∨ f = cB) : f = ⟨#[f0 f]⟩ := by rcases h with rfl | rfl <;> decide
theorem v_base_of (ds : List D) (C : Store) (Q3 : D → Store → Prop) (h : P_base_of ds C Q3) (hC : C.length = 0) : T_base_of (enF 0 Q3) (start3 N_base_of ds) C := by
  obtain ⟨o, f, st, rs, i, rfl, hp, hi, q⟩ := h
  rw [List.length_eq_zero_iff] at hC
  subst hC
  have hz := sizeL
  have h24 := hp.top
  refine ⟨_, rfl, _, _, _, rfl, rfl, rfl, _, rfl, st, (i : Nat), sg st i, rfl, rfl, by omega, sg_at hi, _, rfl, _, _, _, rfl, rfl, rfl, ?_⟩
  show Q3 (.int (if (true != decide ((⟨#[sg st i]⟩ : Str) = f)) = true then 1 else 0)) _
  rw [f_one hp.fst, one_ne]
  exact q
def P_change : PV := fun ds C Q => ∃ (o : Bool) (f st : Str) (rs : List (Int × Int)) (i j : Nat), ds = [pil o f st rs, .int (i : Nat), .int (j : Nat)] ∧ Pil f st rs ∧ i < st.length ∧ j < st.length ∧ Q (.int (neq (sg st i) (sg st j))) C
theorem v_change (ds : List D) (C : Store) (Q3 : D → Store → Prop) (h : P_change ds C Q3) (hC : C.length = 0) : T_change (enF 0 Q3) (start3 N_change ds) C := by
  obtain ⟨o, f, st, rs, i, j, rfl, hp, hi, hj, q⟩ := h
  rw [List.length_eq_zero_iff] at hC
  subst hC
  have hz := sizeL
  have h24 := hp.top
  refine ⟨_, rfl, _, _, _, rfl, rfl, rfl, _, rfl, st, (i : Nat), sg st i, rfl, rfl, by omega, sg_at hi, _, rfl, _, _, _, rfl, rfl, rfl, _, rfl, st, (j : Nat), sg st j, rfl, rfl, by omega, sg_at hj, ?_⟩
  show Q3 (.int (if (true != decide ((⟨#[sg st i]⟩ : Str) = ⟨#[sg st j]⟩)) = true then 1 else 0)) _
  rw [one_ne]
  exact q
end L3

/-! the greatest lengths of chains, plain -/
namespace L3
open PySem
/-- bs: what a paper has at least; ch: what a rule adds -/
structure Fix (n : Nat) (bs : Nat → Int) (ch : Nat → Nat → Int) (rs : List (Int × Int)) (v : Nat → Int) : Prop where
  low : ∀ j, j < n → bs j ≤ v j
  up : ∀ z, z ∈ rs → v z.1.toNat + ch z.1.toNat z.2.toNat ≤ v z.2.toNat
  by_ : ∀ j, j < n → v j = bs j ∨ ∃ z, z ∈ rs ∧ z.2 = (j : Int) ∧ v j = v z.1.toNat + ch z.1.toNat j
theorem Fix.le {n : Nat} {bs : Nat → Int} {ch : Nat → Nat → Int} {rs : List (Int × Int)} {v w : Nat → Int} (hr : ∀ z, z ∈ rs → 0 ≤ z.1 ∧ z.1 < n) (hk : ∃ rk : Int → Nat, ∀ z, z ∈ rs → rk z.1 < rk z.2) (V : Fix n bs ch rs v) (W : Fix n bs ch rs w) : ∀ j, j < n → v j ≤ w j := by
  obtain ⟨rk, hrk⟩ := hk
  have all : ∀ m : Nat, ∀ j : Nat, j < n → rk j < m → v j ≤ w j := by
    intro m
    induction m with
    | zero => intro j _ h; omega
    | succ m ih =>
      intro j hj hm
      rcases V.by_ j hj with e | ⟨z, hz, e1, e2⟩
      · rw [e]; exact W.low j hj
      · obtain ⟨h0, h1⟩ := hr z hz
        obtain ⟨i, hi⟩ := Int.eq_ofNat_of_zero_le h0
        have h2 := hrk z hz
        rw [e1, hi] at h2
        have h3 := ih i (by omega) (by omega)
        have h4 := W.up z hz
        rw [e1] at h4
        rw [hi] at e2 h4
        simp at e2 h4
        omega
  exact fun j hj => all (rk j + 1) j hj (by omega)
theorem Fix.eq {n : Nat} {bs : Nat → Int} {ch : Nat → Nat → Int} {rs : List (Int × Int)} {v w : Nat → Int} (hr : ∀ z, z ∈ rs → 0 ≤ z.1 ∧ z.1 < n) (hk : ∃ rk : Int → Nat, ∀ z, z ∈ rs → rk z.1 < rk z.2) (V : Fix n bs ch rs v) (W : Fix n bs ch rs w) : ∀ j, j < n → v j = w j :=
  fun j hj => Int.le_antisymm (Fix.le hr hk V W j hj) (Fix.le hr hk W V j hj)
/-- paper by paper in order: those of pre are gone through, of p's rules those of dn -/
structure EInv (n : Nat) (bs : Nat → Int) (ch : Nat → Nat → Int) (rs : List (Int × Int)) (pre : List Int) (p : Int) (dn : List (Int × Int)) (v : Nat → Int) : Prop where
  low : ∀ j, j < n → bs j ≤ v j
  by_ : ∀ j, j < n → v j = bs j ∨ ∃ z, z ∈ rs ∧ z.2 = (j : Int) ∧ z.1 ∈ pre ++ [p] ∧ v j = v z.1.toNat + ch z.1.toNat j
  up : ∀ z, z ∈ rs → z.1 ∈ pre → v z.1.toNat + ch z.1.toNat z.2.toNat ≤ v z.2.toNat
  upp : ∀ z, z ∈ dn → z.1 = p → v z.1.toNat + ch z.1.toNat z.2.toNat ≤ v z.2.toNat
/-- a rule of p's is gone through -/
theorem EInv.step {n : Nat} {bs : Nat → Int} {ch : Nat → Nat → Int} {rs : List (Int × Int)} {pre post : List Int} {p : Int} {dn : List (Int × Int)} {v : Nat → Int} {z : Int × Int} (I : EInv n bs ch rs pre p dn v) (hz : z ∈ rs) (hp : z.1 = p)
    (hdn : ∀ y, y ∈ dn → y ∈ rs) (hr : ∀ z, z ∈ rs → 0 ≤ z.1 ∧ z.1 < n ∧ 0 ≤ z.2 ∧ z.2 < n ∧ z.1 ≠ z.2) (nd : (pre ++ p :: post).Nodup) (ht : Topo rs (pre ++ p :: post)) :
    EInv n bs ch rs pre p (dn ++ [z]) (fun i => if i = z.2.toNat then max (v i) (v z.1.toNat + ch z.1.toNat z.2.toNat) else v i) := by
  obtain ⟨a1, a2, a3, a4, a5⟩ := hr z hz
  obtain ⟨b, hb⟩ := Int.eq_ofNat_of_zero_le a3
  obtain ⟨a, ha⟩ := Int.eq_ofNat_of_zero_le a1
  have hn1 : z.2 ∉ pre := fun h => by
    obtain ⟨s, t, e⟩ := List.append_of_mem h
    have h1 := ht s z.2 (t ++ p :: post) (by rw [e]; simp) z hz rfl
    rw [hp] at h1
    have h2 := (List.nodup_append.mp nd).2.2 p (by rw [e]; simp [h1]) p (by simp)
    exact h2 rfl
  have hab : a ≠ b := fun e => a5 (by rw [ha, hb, e])
  -- what stands ahead does not change
  have keep : ∀ i : Nat, (i : Int) ∈ pre ++ [p] → i ≠ b := fun i hi e => by
    subst e
    rcases List.mem_append.mp hi with h | h
    · exact hn1 (by rw [hb]; exact h)
    · simp at h
      exact a5 (by rw [hb, h, hp])
  rw [hb, ha]
  simp only [Int.toNat_natCast]
  have val : ∀ i : Nat, i ≠ b → (if i = b then max (v i) (v a + ch a b) else v i) = v i := fun i h => if_neg h
  have grow : ∀ i : Nat, v i ≤ (if i = b then max (v i) (v a + ch a b) else v i) := fun i => by
    by_cases h : i = b
    · rw [if_pos h]; omega
    · rw [if_neg h]; omega
  have src : ∀ y, y ∈ rs → y.1 ∈ pre ++ [p] → y.1.toNat ≠ b := fun y hy h => by
    obtain ⟨c, hc⟩ := Int.eq_ofNat_of_zero_le (hr y hy).1
    rw [hc] at h ⊢
    simp only [Int.toNat_natCast]
    exact keep c h
  refine ⟨fun j hj => Int.le_trans (I.low j hj) (grow j), fun j hj => ?_, fun y hy hyp => ?_, fun y hy hyp => ?_⟩
  · by_cases e : j = b
    · subst e
      rw [if_pos rfl]
      by_cases hm : v j ≤ v a + ch a j
      · right
        refine ⟨z, hz, hb, by rw [hp]; simp, ?_⟩
        rw [ha]
        simp only [Int.toNat_natCast]
        rw [val a hab]
        omega
      · have em : max (v j) (v a + ch a j) = v j := by omega
        rw [em]
        rcases I.by_ j hj with e | ⟨y, hy, e1, e2, e3⟩
        · exact .inl e
        · exact .inr ⟨y, hy, e1, e2, by rw [val _ (src y hy e2)]; exact e3⟩
    · rw [val j e]
      rcases I.by_ j hj with e | ⟨y, hy, e1, e2, e3⟩
      · exact .inl e
      · exact .inr ⟨y, hy, e1, e2, by rw [val _ (src y hy e2)]; exact e3⟩
  · rw [val _ (src y hy (List.mem_append_left _ hyp))]
    exact Int.le_trans (I.up y hy hyp) (grow _)
  · rcases List.mem_append.mp hy with h | h
    · rw [val _ (src y (hdn y h) (by rw [hyp]; simp))]
      exact Int.le_trans (I.upp y h hyp) (grow _)
    · simp at h
      subst h
      rw [ha, hb]
      simp only [Int.toNat_natCast]
      rw [val a hab, if_pos trivial]
      omega
/-- p is gone through, the next one begins -/
theorem EInv.next {n : Nat} {bs : Nat → Int} {ch : Nat → Nat → Int} {rs : List (Int × Int)} {pre : List Int} {p q : Int} {v : Nat → Int} (I : EInv n bs ch rs pre p rs v) : EInv n bs ch rs (pre ++ [p]) q [] v := by
  refine ⟨I.low, fun j hj => ?_, fun z hz h => ?_, fun z hz => by simp at hz⟩
  · rcases I.by_ j hj with e | ⟨z, hz, e1, e2, e3⟩
    · exact .inl e
    · exact .inr ⟨z, hz, e1, List.mem_append_left _ e2, e3⟩
  · rcases List.mem_append.mp h with h | h
    · exact I.up z hz h
    · simp at h
      exact I.upp z hz h
theorem EInv.start {n : Nat} {bs : Nat → Int} {ch : Nat → Nat → Int} {rs : List (Int × Int)} {p : Int} : EInv n bs ch rs [] p [] bs := ⟨fun _ _ => Int.le_refl _, fun _ _ => .inl rfl, fun z _ h => by simp at h, fun z h => by simp at h⟩
theorem EInv.fix {n : Nat} {bs : Nat → Int} {ch : Nat → Nat → Int} {rs : List (Int × Int)} {pre : List Int} {q : Int} {v : Nat → Int} (I : EInv n bs ch rs pre q [] v) (hr : ∀ z, z ∈ rs → 0 ≤ z.1 ∧ z.1 < n) (all : ∀ i : Nat, i < n → (i : Int) ∈ pre) : Fix n bs ch rs v := by
  refine ⟨I.low, fun z hz => ?_, fun j hj => ?_⟩
  · obtain ⟨h0, h1⟩ := hr z hz
    obtain ⟨i, hi⟩ := Int.eq_ofNat_of_zero_le h0
    exact I.up z hz (by rw [hi]; exact all i (by omega))
  · rcases I.by_ j hj with e | ⟨z, hz, e1, e2, e3⟩
    · exact .inl e
    · exact .inr ⟨z, hz, e1, e3⟩
end L3

namespace L3
open PySem PySem.Spec PyProof.Rows L2
def bsOf (f st : Str) (j : Nat) : Int := neq (sg st j) (f0 f)
def chOf (st : Str) (i j : Nat) : Int := neq (sg st i) (sg st j)
abbrev PFix (f st : Str) (rs : List (Int × Int)) (v : Nat → Int) : Prop := Fix st.length (bsOf f st) (chOf st) rs v
def P_earliest_of : PV := fun ds C Q => ∃ (o : Bool) (f st : Str) (rs : List (Int × Int)), ds = [pil o f st rs] ∧ Pil f st rs ∧ ∀ v, PFix f st rs v → Q (.lst false (wL st.length v)) C
theorem wL_ints {n : Nat} {w : Nat → Int} : wL n w = ((List.range n).map w).map .int := by simp [wL]
theorem np_wL {n : Nat} {w : Nat → Int} : (noold (.lst false (wL n w)) && noptr (.lst false (wL n w))) = true := by rw [wL_ints]; exact np_ints
theorem fin_wL {n : Nat} {w : Nat → Int} {C : Store} {k : Nat} (h : C[k]? = some (.lst (wL n w))) : fin 0 C (.ptr k) = .lst false (wL n w) := by
  rw [wL_ints] at h ⊢
  exact fin_cell h
/-- what is got at a place of a list of numbers -/
theorem rgmap {n : Nat} {w : Nat → Int} : (rgI 0 ((n : Int)).toNat).map (fun d => match d with | .int i => D.int (w i.toNat) | d => d) = wL n w := by
  unfold rgI wL
  rw [Int.toNat_natCast, List.map_map]
  congr 1
  funext i
  show D.int (w (0 + (i : Int)).toNat) = _
  rw [Int.zero_add, Int.toNat_natCast]
theorem v_earliest_of (ds : List D) (C : Store) (Q3 : D → Store → Prop) (h : P_earliest_of ds C Q3) (hC : C.length = 0) : T_earliest_of P_base_of P_in_order P_change (enF 0 Q3) (start3 N_earliest_of ds) C := by
  obtain ⟨o, f, st, rs, rfl, hp, q⟩ := h
  rw [List.length_eq_zero_iff] at hC
  subst hC
  have hz := sizeL
  have h24 := hp.top
  have hr := hp.rul
  refine ⟨_, rfl, _, _, _, rfl, rfl, rfl, by omega, st.length, rfl, by omega, by omega, ?_⟩
  refine lc_map (fun d => match d with | .int i => .int (bsOf f st i.toNat) | d => d) (rgI 0 ((st.length : Nat) : Int).toNat) (fun _ h => by simp at h) (by rw [rg_len']; omega) (fun d hd R hR => ?_) ?_
  · obtain ⟨i, hi, rfl⟩ := List.mem_map.mp hd
    have hin : i < st.length := by simpa using hi
    have ei : (0 : Int) + (i : Nat) = (i : Int) := by omega
    rw [ei] at hR ⊢
    exact ⟨_, rfl, _, rfl, true, f, st, rs, i, by rw [views_pil, views_int, views_nil], hp, hin, rfl, hR⟩
  rw [rgmap]
  refine ⟨_, rfl, true, f, st, rs, views_pil1, hp, fun ord h1 h2 => ⟨np_ints, _, rfl, rfl, noptrs_ints ord, ?_⟩⟩
  have nd : ord.Nodup := h1.nodup_iff.mpr (List.pairwise_map.mpr (List.Pairwise.imp (fun h e => h (Int.ofNat.inj e)) (List.nodup_range (n := st.length))))
  have mem : ∀ x, x ∈ ord → ∃ i : Nat, i < st.length ∧ x = (i : Int) := fun x hx => by
    obtain ⟨i, hi, rfl⟩ := List.mem_map.mp (h1.mem_iff.mp hx)
    exact ⟨i, by simpa using hi, rfl⟩
  refine forW_run (fun ds Γ C => ∃ (pre post : List Int) (v : Nat → Int), ord = pre ++ post ∧ ds = post.map .int ∧ C = [.lst (wL st.length v)] ∧ (∀ p, EInv st.length (bsOf f st) (chOf st) rs pre p [] v) ∧ ∃ a b c, Γ = [some (pil o f st rs), some (.ptr 0), a, b, c]) ?step ?stop _ _ _ ⟨[], ord, bsOf f st, rfl, rfl, rfl, fun p => EInv.start, _, _, _, rfl⟩
  case step =>
    rintro d ds Γ C ⟨pre, post, v, e1, e2, rfl, hI, a, b, c, rfl⟩ R hR
    cases post with
    | nil => cases e2
    | cons p post =>
    simp only [List.map_cons, List.cons.injEq] at e2
    obtain ⟨rfl, rfl⟩ := e2
    obtain ⟨pn, hpn, rfl⟩ := mem p (by rw [e1]; simp)
    refine ⟨_, rfl, _, _, _, rfl, rfl, rfl, _, rfl, rfl, np_pairs rs, ?_⟩
    refine forW_run (fun ds Γ C => ∃ (dn rest : List (Int × Int)) (v : Nat → Int), rs = dn ++ rest ∧ ds = rest.map pD ∧ C = [.lst (wL st.length v)] ∧ EInv st.length (bsOf f st) (chOf st) rs pre (pn : Int) dn v ∧ ∃ b c, Γ = [some (pil o f st rs), some (.ptr 0), some (.int (pn : Int)), b, c]) ?step2 ?stop2 _ _ _ ⟨[], rs, v, rfl, rfl, rfl, hI pn, _, _, rfl⟩
    case step2 =>
      rintro d ds Γ C ⟨dn, rest, v, e3, e4, rfl, I, b, c, rfl⟩ R2 hR2
      cases rest with
      | nil => cases e4
      | cons z rest =>
      simp only [List.map_cons, List.cons.injEq] at e4
      obtain ⟨rfl, rfl⟩ := e4
      have hzm : z ∈ rs := by rw [e3]; simp
      obtain ⟨a1, a2, a3, a4, a5⟩ := hr.inn z hzm
      obtain ⟨i, hi⟩ := Int.eq_ofNat_of_zero_le a1
      obtain ⟨j, hj⟩ := Int.eq_ofNat_of_zero_le a3
      have hi' : i < st.length := by omega
      have hj' : j < st.length := by omega
      obtain ⟨zi, zj⟩ := z
      simp only at hi hj
      subst hi hj
      refine ⟨_, rfl, rfl, _, _, rfl, _, _, rfl, rfl, ?_⟩
      refine ⟨_, rfl, _, rfl, _, rfl, ?_⟩
      by_cases he : (i : Int) = (pn : Int)
      · refine goT (by simp [he]) ?_
        have st1 := I.step hzm he (fun y hy => by rw [e3]; simp [hy]) hr.inn (by rw [← e1]; exact nd) (by rw [← e1]; exact h2)
        simp only [Int.toNat_natCast] at st1
        refine ⟨_, rfl, _, rfl, _, _, _, rfl, rfl, wL_at hj', ?_⟩
        refine ⟨_, rfl, _, rfl, _, _, _, rfl, rfl, wL_at hi', ?_⟩
        refine ⟨_, rfl, _, rfl, _, rfl, true, f, st, rs, i, j, by rw [views_pil, views_int, views_int, views_nil], hp, hi', hj', rfl, ?_⟩
        refine ⟨_, _, rfl, rfl, _, _, rfl, ?_⟩
        refine ⟨_, rfl, _, rfl, 0, wL st.length v, _, j, rfl, rfl, rfl, by rw [wL_len]; exact ix_nat hj', ?_⟩
        show R2 _ [Cell.lst ((wL st.length v).set j (.int (max (v j) (v i + chOf st i j))))]
        have es : (wL st.length v).set j (.int (max (v j) (v i + chOf st i j))) = wL st.length (fun k => if k = j then max (v k) (v i + chOf st i j) else v k) := by
          rw [wL_set hj']
          congr 1
          funext k
          by_cases e : k = j
          · subst e; simp
          · rw [if_neg e, if_neg e]
        rw [es]
        exact hR2 _ _ ⟨dn ++ [((i : Int), (j : Int))], rest, _, by rw [e3]; simp, rfl, rfl, st1, _, _, rfl⟩
      · refine goF (by simp; omega) ?_
        refine hR2 _ _ ⟨dn ++ [((i : Int), (j : Int))], rest, v, by rw [e3]; simp, rfl, rfl, ⟨I.low, I.by_, I.up, fun y hy hyp => ?_⟩, _, _, rfl⟩
        rcases List.mem_append.mp hy with h | h
        · exact I.upp y h hyp
        · simp at h
          subst h
          exact absurd hyp he
    case stop2 =>
      rintro Γ C ⟨dn, rest, v, e3, e4, rfl, I, b, c, rfl⟩
      cases rest with
      | cons z rest => cases e4
      | nil =>
      rw [List.append_nil] at e3
      subst e3
      exact hR _ _ ⟨pre ++ [(pn : Int)], post, v, by rw [e1]; simp, rfl, rfl, fun p => I.next, _, _, _, rfl⟩
  case stop =>
    rintro Γ C ⟨pre, post, v, e1, e2, rfl, hI, a, b, c, rfl⟩
    cases post with
    | cons p post => cases e2
    | nil =>
    rw [List.append_nil] at e1
    subst e1
    refine ⟨_, rfl, ?_⟩
    show Q3 (fin 0 _ (.ptr 0)) (finS 0 _)
    rw [fin_wL rfl, finS0]
    exact q v ((hI 0).fix (fun z hz => ⟨(hr.inn z hz).1, (hr.inn z hz).2.1⟩) fun i hi => h1.mem_iff.mpr (List.mem_map.mpr ⟨i, by simpa using hi, rfl⟩))
end L3

/-! round by round, plain -/
namespace L3
open PySem
/-- a place of each paper below n, growing along the rules -/
theorem ranks {n : Nat} {rs : List (Int × Int)} (hr : ∀ z, z ∈ rs → 0 ≤ z.1 ∧ z.1 < n ∧ 0 ≤ z.2 ∧ z.2 < n ∧ z.1 ≠ z.2) (hk : ∃ rk : Int → Nat, ∀ z, z ∈ rs → rk z.1 < rk z.2) :
    ∃ r : Nat → Nat, (∀ j, j < n → r j < n) ∧ ∀ z, z ∈ rs → r z.1.toNat < r z.2.toNat := by
  obtain ⟨rk, hrk⟩ := hk
  let r : Nat → Nat := fun j => (List.range n).countP fun i : Nat => decide (rk (i : Int) < rk (j : Int))
  have strict : ∀ (l : List Nat) (a b x : Nat), a ≤ b → x ∈ l → a ≤ rk (x : Int) → rk (x : Int) < b → l.countP (fun i : Nat => decide (rk (i : Int) < a)) < l.countP fun i : Nat => decide (rk (i : Int) < b) := by
    intro l a b x hab
    induction l with
    | nil => intro h; simp at h
    | cons y l ih =>
      intro hm h1 h2
      have mono : l.countP (fun i : Nat => decide (rk (i : Int) < a)) ≤ l.countP fun i : Nat => decide (rk (i : Int) < b) := List.countP_mono_left fun i _ h => by
        simp at h ⊢
        omega
      rw [List.countP_cons, List.countP_cons]
      rcases List.mem_cons.mp hm with rfl | hm
      · rw [if_neg (by simp; omega), if_pos (by simp; omega)]
        omega
      · have := ih hm h1 h2
        have g : (if decide (rk (y : Int) < a) = true then 1 else 0) ≤ (if decide (rk (y : Int) < b) = true then 1 else 0) := by
          by_cases h : rk (y : Int) < a
          · rw [if_pos (by simp [h]), if_pos (by simp; omega)]
            exact Nat.le_refl _
          · rw [if_neg (by simp [h])]
            exact Nat.zero_le _
        omega
  refine ⟨r, fun j hj => ?_, fun z hz => ?_⟩
  · have h1 := strict (List.range n) (rk (j : Int)) (rk (j : Int) + 1) j (by omega) (by simpa using hj) (Nat.le_refl _) (by omega)
    have h2 := List.countP_le_length (p := fun i : Nat => decide (rk (i : Int) < rk (j : Int) + 1)) (l := List.range n)
    rw [List.length_range] at h2
    exact Nat.lt_of_lt_of_le h1 h2
  · obtain ⟨a1, a2, a3, a4, _⟩ := hr z hz
    obtain ⟨a, ha⟩ := Int.eq_ofNat_of_zero_le a1
    obtain ⟨b, hb⟩ := Int.eq_ofNat_of_zero_le a3
    have h := hrk z hz
    rw [ha, hb] at h ⊢
    simp only [Int.toNat_natCast]
    exact strict (List.range n) (rk (a : Int)) (rk (b : Int)) a (by omega) (by simp; omega) (Nat.le_refl _) h
/-- the numbers so far: never too great, and right up to a place -/
structure RInv (n : Nat) (bs : Nat → Int) (ch : Nat → Nat → Int) (rs : List (Int × Int)) (r : Nat → Nat) (V : Nat → Int) (k : Nat) (dn : List (Int × Int)) (v : Nat → Int) : Prop where
  low : ∀ j, j < n → bs j ≤ v j
  le : ∀ j, j < n → v j ≤ V j
  eq : ∀ j, j < n → r j < k → v j = V j
  upp : ∀ z, z ∈ dn → r z.1.toNat < k → V z.1.toNat + ch z.1.toNat z.2.toNat ≤ v z.2.toNat
theorem RInv.step {n : Nat} {bs : Nat → Int} {ch : Nat → Nat → Int} {rs : List (Int × Int)} {r : Nat → Nat} {V : Nat → Int} {k : Nat} {dn : List (Int × Int)} {v : Nat → Int} {a b : Nat} (F : Fix n bs ch rs V) (I : RInv n bs ch rs r V k dn v)
    (hz : ((a : Int), (b : Int)) ∈ rs) (ha : a < n) (hb : b < n) : RInv n bs ch rs r V k (dn ++ [((a : Int), (b : Int))]) (fun i => if i = b then max (v i) (v a + ch a b) else v i) := by
  have hF := F.up _ hz
  simp only [Int.toNat_natCast] at hF
  have grow : ∀ i : Nat, v i ≤ (if i = b then max (v i) (v a + ch a b) else v i) := fun i => by
    by_cases h : i = b
    · rw [if_pos h]; omega
    · rw [if_neg h]; omega
  have hle : ∀ j, j < n → (if j = b then max (v j) (v a + ch a b) else v j) ≤ V j := fun j hj => by
    have h1 := I.le j hj
    have h2 := I.le a ha
    by_cases h : j = b
    · subst h; simp only [if_true]; omega
    · rw [if_neg h]; exact h1
  refine ⟨fun j hj => Int.le_trans (I.low j hj) (grow j), hle, fun j hj hk => ?_, fun z hz' hk => ?_⟩
  · have := I.eq j hj hk
    have h1 := hle j hj
    have h2 := grow j
    omega
  · rcases List.mem_append.mp hz' with h | h
    · exact Int.le_trans (I.upp z h hk) (grow _)
    · simp at h
      subst h
      simp only [Int.toNat_natCast] at hk ⊢
      have := I.eq a ha hk
      simp only [if_true]
      omega
theorem RInv.next {n : Nat} {bs : Nat → Int} {ch : Nat → Nat → Int} {rs : List (Int × Int)} {r : Nat → Nat} {V : Nat → Int} {k : Nat} {v : Nat → Int} (F : Fix n bs ch rs V) (I : RInv n bs ch rs r V k rs v) (hr : ∀ z, z ∈ rs → r z.1.toNat < r z.2.toNat) :
    RInv n bs ch rs r V (k + 1) [] v := by
  refine ⟨I.low, I.le, fun j hj hk => ?_, fun z hz => by simp at hz⟩
  by_cases h : r j < k
  · exact I.eq j hj h
  · have h1 := I.le j hj
    rcases F.by_ j hj with e | ⟨z, hz, e1, e2⟩
    · have := I.low j hj
      omega
    · have h2 := hr z hz
      have e3 : z.2.toNat = j := by rw [e1]; simp
      rw [e3] at h2
      have h3 := I.upp z hz (by omega)
      rw [e3] at h3
      omega
theorem RInv.start {n : Nat} {bs : Nat → Int} {ch : Nat → Nat → Int} {rs : List (Int × Int)} {r : Nat → Nat} {V : Nat → Int} (F : Fix n bs ch rs V) : RInv n bs ch rs r V 0 [] bs := ⟨fun _ _ => Int.le_refl _, F.low, fun j hj h => by omega, fun z h => by simp at h⟩
/-- there are such numbers -/
theorem fix_ex {n : Nat} (bs : Nat → Int) (ch : Nat → Nat → Int) {rs : List (Int × Int)} (hr : ∀ z, z ∈ rs → 0 ≤ z.1 ∧ z.1 < n ∧ 0 ≤ z.2 ∧ z.2 < n ∧ z.1 ≠ z.2) (hk : ∃ rk : Int → Nat, ∀ z, z ∈ rs → rk z.1 < rk z.2) : ∃ V, Fix n bs ch rs V := by
  obtain ⟨r, _, h2⟩ := ranks hr hk
  let val : (Nat → Int) → Nat → Int := fun v j => (rs.filter fun z => decide (z.2 = (j : Int))).foldl (fun m z => max m (v z.1.toNat + ch z.1.toNat j)) (bs j)
  have fold : ∀ (v : Nat → Int) (j : Nat) (l : List (Int × Int)) (m : Int), m ≤ l.foldl (fun m z => max m (v z.1.toNat + ch z.1.toNat j)) m ∧ (∀ z, z ∈ l → v z.1.toNat + ch z.1.toNat j ≤ l.foldl (fun m z => max m (v z.1.toNat + ch z.1.toNat j)) m) ∧
      (l.foldl (fun m z => max m (v z.1.toNat + ch z.1.toNat j)) m = m ∨ ∃ z, z ∈ l ∧ l.foldl (fun m z => max m (v z.1.toNat + ch z.1.toNat j)) m = v z.1.toNat + ch z.1.toNat j) := by
    intro v j l
    induction l with
    | nil => intro m; exact ⟨Int.le_refl _, fun z h => by simp at h, .inl rfl⟩
    | cons y l ih =>
      intro m
      obtain ⟨i1, i2, i3⟩ := ih (max m (v y.1.toNat + ch y.1.toNat j))
      simp only [List.foldl_cons]
      refine ⟨by omega, fun z hz => ?_, ?_⟩
      · rcases List.mem_cons.mp hz with rfl | hz
        · omega
        · exact i2 z hz
      · rcases i3 with e | ⟨z, hz, e⟩
        · by_cases h : v y.1.toNat + ch y.1.toNat j ≤ m
          · left; omega
          · right; exact ⟨y, by simp, by omega⟩
        · right; exact ⟨z, List.mem_cons_of_mem _ hz, e⟩
  let it : Nat → Nat → Int := fun k => k.rec bs fun _ v => val v
  have stab : ∀ m j, r j < m → ∀ k, r j ≤ k → it (k + 1) j = it (r j + 1) j := by
    intro m
    induction m with
    | zero => intro j h; omega
    | succ m ih =>
      intro j hj k hk
      show val (it k) j = val (it (r j)) j
      have : ∀ z, z ∈ rs → z.2 = (j : Int) → it k z.1.toNat = it (r j) z.1.toNat := fun z hz e => by
        have h3 := h2 z hz
        rw [e] at h3
        simp only [Int.toNat_natCast] at h3
        obtain ⟨k', rfl⟩ : ∃ k', k = k' + 1 := ⟨k - 1, by omega⟩
        obtain ⟨r', hr'⟩ : ∃ r', r j = r' + 1 := ⟨r j - 1, by omega⟩
        rw [ih _ (by omega) k' (by omega), hr', ih _ (by omega) r' (by omega)]
      have fc : ∀ (l : List (Int × Int)) (m : Int), (∀ z, z ∈ l → it k z.1.toNat = it (r j) z.1.toNat) → l.foldl (fun m z => max m (it k z.1.toNat + ch z.1.toNat j)) m = l.foldl (fun m z => max m (it (r j) z.1.toNat + ch z.1.toNat j)) m := by
        intro l
        induction l with
        | nil => intro m _; rfl
        | cons y l ihl =>
          intro m h
          simp only [List.foldl_cons]
          rw [h y (by simp)]
          exact ihl _ fun z hz => h z (List.mem_cons_of_mem _ hz)
      exact fc _ _ fun z hz => this z (List.mem_filter.mp hz).1 (by simpa using (List.mem_filter.mp hz).2)
  refine ⟨fun j => it (r j + 1) j, fun j _ => (fold (it (r j)) j _ (bs j)).1, fun z hz => ?_, fun j _ => ?_⟩
  · obtain ⟨a1, a2, a3, a4, _⟩ := hr z hz
    obtain ⟨b, hb⟩ := Int.eq_ofNat_of_zero_le a3
    have h3 := h2 z hz
    rw [hb] at h3 ⊢
    simp only [Int.toNat_natCast] at h3 ⊢
    have h4 := (fold (it (r b)) b (rs.filter fun z => decide (z.2 = (b : Int))) (bs b)).2.1 z (List.mem_filter.mpr ⟨hz, by simp [hb]⟩)
    obtain ⟨r', hr'⟩ : ∃ r', r b = r' + 1 := ⟨r b - 1, by omega⟩
    have h5 := stab _ z.1.toNat (Nat.lt_succ_self _) r' (by omega)
    rw [← hr'] at h5
    rw [← h5]
    exact h4
  · rcases (fold (it (r j)) j (rs.filter fun z => decide (z.2 = (j : Int))) (bs j)).2.2 with e | ⟨z, hz, e⟩
    · exact .inl e
    · obtain ⟨hz1, hz2⟩ := List.mem_filter.mp hz
      have ez : z.2 = (j : Int) := by simpa using hz2
      have h3 := h2 z hz1
      rw [ez] at h3
      simp only [Int.toNat_natCast] at h3
      obtain ⟨r', hr'⟩ : ∃ r', r j = r' + 1 := ⟨r j - 1, by omega⟩
      have h5 := stab _ z.1.toNat (Nat.lt_succ_self _) r' (by omega)
      rw [← hr'] at h5
      right
      refine ⟨z, hz1, ez, ?_⟩
      show val (it (r j)) j = it (r z.1.toNat + 1) z.1.toNat + ch z.1.toNat j
      rw [← h5]
      exact e
end L3

namespace L3
open PySem PySem.Spec PyProof.Rows L2
theorem np_rg' (lo : Int) (n : Nat) : noptrs (rgI lo n) = true := rgI_np
def IsMax (n : Nat) (v : Nat → Int) (m : Int) : Prop := (∃ j, j < n ∧ v j = m) ∧ ∀ j, j < n → v j ≤ m
theorem max_of {n : Nat} {v : Nat → Int} {m : Int} (hm : m ∈ (List.range n).map v) (hle : ∀ y, y ∈ (List.range n).map v → y ≤ m) : IsMax n v m := by
  refine ⟨?_, fun j hj => hle _ (List.mem_map.mpr ⟨j, by simpa using hj, rfl⟩)⟩
  obtain ⟨j, hj, e⟩ := List.mem_map.mp hm
  exact ⟨j, by simpa using hj, e⟩
theorem wl_lst {n : Nat} {v : Nat → Int} {C : Store} {o : Bool} : lstOf C (.lst o (wL n v)) = some (((List.range n).map v).map .int) := by rw [wL_ints]; rfl
theorem wl_pos {n : Nat} {v : Nat → Int} (h : 1 ≤ n) : 0 < ((List.range n).map v).length := by simp; omega
def P_fewest : PV := fun ds C Q => ∃ (o : Bool) (f st : Str) (rs : List (Int × Int)), ds = [pil o f st rs] ∧ Pil f st rs ∧ ∀ v m, PFix f st rs v → IsMax st.length v m → Q (.int m) C
theorem v_fewest (ds : List D) (C : Store) (Q3 : D → Store → Prop) (h : P_fewest ds C Q3) (hC : C.length = 0) : T_fewest P_need_pile P_earliest_of (enF 0 Q3) (start3 N_fewest ds) C := by
  obtain ⟨o, f, st, rs, rfl, hp, q⟩ := h
  rw [List.length_eq_zero_iff] at hC
  subst hC
  refine ⟨_, rfl, true, f, st, rs, views_pil1, hp, rfl, ?_⟩
  refine ⟨_, rfl, true, f, st, rs, views_pil1, hp, fun v hv => ⟨np_wL, ?_⟩⟩
  exact ⟨_, _, rfl, wl_lst, wl_pos hp.pos, fun m hm hle => q v m hv (max_of hm hle)⟩
theorem Pil.other {f g st : Str} {rs : List (Int × Int)} (h : Pil f st rs) (hg : g = cR ∨ g = cB) : Pil g st rs := ⟨hg, h.pos, h.top, h.sts, h.rul, h.acy⟩
def P_by_first : PV := fun ds C Q => ∃ (o : Bool) (f st : Str) (rs : List (Int × Int)), ds = [pil o f st rs] ∧ Pil f st rs ∧ ∀ v m v' m', PFix cR st rs v → IsMax st.length v m → PFix cB st rs v' → IsMax st.length v' m' → Q (.tup [.int m, .int m']) C
theorem RB_signs : signs (Str.ofString "RB") = [.str cR, .str cB] := by
  unfold signs
  rw [RB_cps]
  rfl
theorem v_by_first (ds : List D) (C : Store) (Q3 : D → Store → Prop) (h : P_by_first ds C Q3) (hC : C.length = 0) : T_by_first P_need_pile P_earliest_of (enF 0 Q3) (start3 N_by_first ds) C := by
  obtain ⟨o, f, st, rs, rfl, hp, q⟩ := h
  rw [List.length_eq_zero_iff] at hC
  subst hC
  have hz := sizeL
  refine ⟨_, rfl, true, f, st, rs, views_pil1, hp, rfl, ?_⟩
  refine ⟨_, rfl, ?_⟩
  rw [RB_signs]
  simp only [lcW, u_gvName, u_bYes, if_true]
  have le3 : ∀ a b c : D, [a, b, c].length ≤ sizeLine := fun a b c => by rw [hz]; show 3 ≤ 16777216; decide
  refine ⟨_, rfl, _, rfl, _, _, _, rfl, rfl, rfl, _, rfl, _, _, _, rfl, rfl, rfl, le3 _ _ _, ?_⟩
  refine ⟨true, cR, st, rs, by rw [← views_pil1 (o := o)]; rfl, hp.other (.inl rfl), fun v hv => ⟨np_wL, ?_⟩⟩
  refine ⟨_, _, rfl, wl_lst, wl_pos hp.pos, fun m hm hle => ⟨by rw [hz]; decide, fun k hk => by simp at hk, ?_⟩⟩
  have hm := max_of hm hle
  refine ⟨_, rfl, _, rfl, _, _, _, rfl, rfl, rfl, _, rfl, _, _, _, rfl, rfl, rfl, le3 _ _ _, ?_⟩
  refine ⟨true, cB, st, rs, by rw [← views_pil1 (o := o)]; rfl, hp.other (.inr rfl), fun v' hv' => ⟨np_wL, ?_⟩⟩
  refine ⟨_, _, rfl, wl_lst, wl_pos hp.pos, fun m' hm' hle' => ⟨by rw [hz]; show 1 < 16777216; decide, fun k hk => by simp at hk, ?_⟩⟩
  have hm' := max_of hm' hle'
  exact ⟨_, _, rfl, rfl, q v m v' m' hv hm hv' hm'⟩
def P_Lw_unlike : PV := fun ds C Q => ∃ (o : Bool) (f st : Str) (rs : List (Int × Int)) (i j : Nat), ds = [pil o f st rs, .int (i : Nat), .int (j : Nat)] ∧ Pil f st rs ∧ i < st.length ∧ j < st.length ∧ Q (.int (neq (sg st i) (sg st j))) C
theorem v_Lw_unlike (ds : List D) (C : Store) (Q3 : D → Store → Prop) (h : P_Lw_unlike ds C Q3) (hC : C.length = 0) : T_Lw_unlike (enF 0 Q3) (start3 N_Lw_unlike ds) C := v_change ds C Q3 h hC
def P_Lw_ends : PV := fun ds C Q => ∃ (o : Bool) (f st : Str) (rs : List (Int × Int)), ds = [pil o f st rs] ∧ Pil f st rs ∧ ∀ v, PFix f st rs v → Q (.lst false (wL st.length v)) C
theorem signs_wL {f st : Str} : (signs st).map (fun d => match d with | .str s => D.int (neq (s.cps.toList.getD 0 0) (f0 f)) | d => d) = wL st.length (bsOf f st) := by
  unfold signs wL bsOf
  rw [List.map_map]
  have hl : st.cps.toList.length = st.length := by rw [Array.length_toList]; rfl
  apply List.ext_getElem?
  intro i
  rw [List.getElem?_map, List.getElem?_map]
  by_cases h : i < st.length
  · rw [List.getElem?_range h, List.getElem?_eq_getElem (by omega)]
    show some (D.int (neq (st.cps.toList[i]'(by omega)) (f0 f))) = some (D.int (neq (sg st i) (f0 f)))
    unfold sg
    rw [List.getD_eq_getElem?_getD, List.getElem?_eq_getElem (by omega)]
    rfl
  · rw [List.getElem?_eq_none (by omega), List.getElem?_eq_none (by simp; omega)]
    rfl
theorem v_Lw_ends (ds : List D) (C : Store) (Q3 : D → Store → Prop) (h : P_Lw_ends ds C Q3) (hC : C.length = 0) : T_Lw_ends P_Lw_unlike (enF 0 Q3) (start3 N_Lw_ends ds) C := by
  obtain ⟨o, f, st, rs, rfl, hp, q⟩ := h
  rw [List.length_eq_zero_iff] at hC
  subst hC
  have hz := sizeL
  have h24 := hp.top
  have hr := hp.rul
  obtain ⟨V, hV⟩ := fix_ex (n := st.length) (bsOf f st) (chOf st) hr.inn hp.acy
  obtain ⟨r, hr1, hr2⟩ := ranks hr.inn hp.acy
  refine ⟨_, rfl, _, _, _, rfl, rfl, rfl, _, rfl, ?_⟩
  refine lc_map (fun d => match d with | .str s => D.int (neq (s.cps.toList.getD 0 0) (f0 f)) | d => d) (signs st) (fun _ h => by simp at h) (by unfold signs; rw [List.length_map, Array.length_toList]; show st.length ≤ _; omega) (fun d hd R hR => ?_) ?_
  · obtain ⟨c, hc, rfl⟩ := List.mem_map.mp hd
    refine ⟨_, rfl, _, rfl, _, _, _, rfl, rfl, rfl, ?_⟩
    show R (.int (if (true != decide ((⟨#[c]⟩ : Str) = f)) = true then 1 else 0)) _
    rw [f_one hp.fst, one_ne]
    have hR' : R (.int (neq c (f0 f))) [] := hR
    have e : f0 (⟨#[f0 f]⟩ : Str) = f0 f := rfl
    exact hR'
  rw [signs_wL]
  refine ⟨_, rfl, _, _, rfl, rfl, st.length, by rw [wL_len], by omega, by omega, rfl, np_rg' 0 _, ?_⟩
  refine forW_run (fun ds Γ C => ∃ (k : Nat) (v : Nat → Int), k + ds.length = st.length ∧ C = [.lst (wL st.length v)] ∧ RInv st.length (bsOf f st) (chOf st) rs r V k [] v ∧ ∃ a b c d, Γ = [some (pil o f st rs), some (.ptr 0), a, b, c, d]) ?step ?stop _ _ _ ⟨0, bsOf f st, by rw [rg_len']; simp, rfl, RInv.start hV, _, _, _, _, rfl⟩
  case step =>
    rintro d ds Γ C ⟨k, v, hk, rfl, hI, a, b, c, d', rfl⟩ R hR
    simp only [List.length_cons] at hk
    refine ⟨_, rfl, _, _, _, rfl, rfl, rfl, _, rfl, rfl, np_pairs rs, ?_⟩
    refine forW_run (fun ds Γ C => ∃ (dn rest : List (Int × Int)) (v : Nat → Int), rs = dn ++ rest ∧ ds = rest.map pD ∧ C = [.lst (wL st.length v)] ∧ RInv st.length (bsOf f st) (chOf st) rs r V k dn v ∧ ∃ a b c e, Γ = [some (pil o f st rs), some (.ptr 0), a, b, c, e]) ?step2 ?stop2 _ _ _ ⟨[], rs, v, rfl, rfl, rfl, hI, _, _, _, _, rfl⟩
    case step2 =>
      rintro d ds Γ C ⟨dn, rest, v, e3, e4, rfl, I, a, b, c, e, rfl⟩ R2 hR2
      cases rest with
      | nil => cases e4
      | cons z rest =>
      simp only [List.map_cons, List.cons.injEq] at e4
      obtain ⟨rfl, rfl⟩ := e4
      have hzm : z ∈ rs := by rw [e3]; simp
      obtain ⟨a1, a2, a3, a4, a5⟩ := hr.inn z hzm
      obtain ⟨i, hi⟩ := Int.eq_ofNat_of_zero_le a1
      obtain ⟨j, hj⟩ := Int.eq_ofNat_of_zero_le a3
      have hi' : i < st.length := by omega
      have hj' : j < st.length := by omega
      obtain ⟨zi, zj⟩ := z
      simp only at hi hj
      subst hi hj
      have st1 := I.step hV hzm hi' hj'
      refine ⟨_, rfl, rfl, _, _, rfl, _, _, rfl, rfl, ?_⟩
      refine ⟨_, rfl, _, rfl, _, _, _, rfl, rfl, wL_at hj', ?_⟩
      refine ⟨_, rfl, _, rfl, _, _, _, rfl, rfl, wL_at hi', ?_⟩
      refine ⟨_, rfl, _, rfl, _, rfl, true, f, st, rs, i, j, by rw [views_pil, views_int, views_int, views_nil], hp, hi', hj', rfl, ?_⟩
      refine ⟨_, _, rfl, rfl, _, _, rfl, ?_⟩
      refine ⟨_, rfl, _, rfl, 0, wL st.length v, _, j, rfl, rfl, rfl, by rw [wL_len]; exact ix_nat hj', ?_⟩
      show R2 _ [Cell.lst ((wL st.length v).set j (.int (max (v j) (v i + chOf st i j))))]
      have es : (wL st.length v).set j (.int (max (v j) (v i + chOf st i j))) = wL st.length (fun k => if k = j then max (v k) (v i + chOf st i j) else v k) := by
        rw [wL_set hj']
        congr 1
        funext k
        by_cases e : k = j
        · subst e; simp
        · rw [if_neg e, if_neg e]
      rw [es]
      exact hR2 _ _ ⟨dn ++ [((i : Int), (j : Int))], rest, _, by rw [e3]; simp, rfl, rfl, st1, _, _, _, _, rfl⟩
    case stop2 =>
      rintro Γ C ⟨dn, rest, v, e3, e4, rfl, I, a, b, c, e, rfl⟩
      cases rest with
      | cons z rest => cases e4
      | nil =>
      rw [List.append_nil] at e3
      subst e3
      exact hR _ _ ⟨k + 1, v, by omega, rfl, I.next hV hr2, _, _, _, _, rfl⟩
  case stop =>
    rintro Γ C ⟨k, v, hk, rfl, hI, a, b, c, d', rfl⟩
    simp only [List.length_nil, Nat.add_zero] at hk
    subst hk
    have ev : wL st.length v = wL st.length V := by
      unfold wL
      apply List.map_congr_left
      intro j hj
      have hj' : j < st.length := by simpa using hj
      rw [hI.eq j hj' (hr1 j hj')]
    refine ⟨_, rfl, ?_⟩
    show Q3 (fin 0 _ (.ptr 0)) (finS 0 _)
    rw [fin_wL rfl, finS0, ev]
    exact q V hV
end L3

namespace L3
open PySem PySem.Spec PyProof.Rows L2
theorem cpow10 (k : Nat) (h : k ≤ 100) : CPowW 10 (k : Int) := cpow_of (n := 4) (by omega) (by decide) (by omega)
theorem log_of {n : Int} {k : Nat} (h : n.natAbs < 2 ^ k) (hk : 0 < k) : n.natAbs.log2 < k := by
  by_cases hz : n.natAbs = 0
  · rw [hz]; simpa using hk
  · rw [Nat.log2_lt hz]; exact h
theorem cmul_of {i j : Int} {a b : Nat} (ha : i.natAbs < 2 ^ a) (hb : j.natAbs < 2 ^ b) (h0 : 0 < a) (h1 : 0 < b) (h : a + b < 1000000) : CMulW i j := by
  have := log_of ha h0
  have := log_of hb h1
  unfold CMulW
  omega
theorem cdiv_of {i j : Int} (h0 : 0 < j) (h : j < 2 ^ 8000) : CDivW i j := ⟨h0, Nat.lt_of_lt_of_le (log_of (k := 8000) (by omega) (by decide)) (by decide)⟩
def Jar (c : Int) (x : Cell) : Prop := ∃ a b k : Int, x = .lst [.int a, .int b, .int k] ∧ 0 ≤ a ∧ 0 ≤ b ∧ b < 10 ^ 120 ∧ 0 ≤ k ∧ k ≤ c
def P_Lw_jar : PV := fun ds C Q => ∃ c k : Int, ds = [.int c, .int k] ∧ 0 ≤ k ∧ k < 1000 ∧ ∀ xs, Jar 0 (.lst xs) → flatDs xs = true → Q (.lst false xs) C
theorem v_Lw_jar (ds : List D) (C : Store) (Q3 : D → Store → Prop) (h : P_Lw_jar ds C Q3) (hC : C.length = 0) : T_Lw_jar (enF 0 Q3) (start3 N_Lw_jar ds) C := by
  obtain ⟨c, k, rfl, h0, h1, q⟩ := h
  rw [List.length_eq_zero_iff] at hC
  subst hC
  have hz := sizeL
  have eΓ : start3 N_Lw_jar [D.int c, D.int k] = [some (.int c), some (.int k)] := rfl
  rw [eΓ]
  simp [T_Lw_jar, oMax2]
  have hb0 := Int.emod_nonneg c (b := 100000000000000000000000000000000000133) (by decide)
  have hb1 := Int.emod_lt_of_pos c (b := 100000000000000000000000000000000000133) (by decide)
  refine ⟨cpow10 18 (by decide), _, _, ⟨rfl, rfl⟩, cpow10 38 (by decide), ?_⟩
  generalize c % 100000000000000000000000000000000000133 = m at *
  obtain ⟨mn, rfl⟩ := Int.eq_ofNat_of_zero_le hb0
  have hp : mn ^ 3 < 100000000000000000000000000000000000133 ^ 3 := Nat.pow_lt_pow_left (by omega) (by decide)
  have hpi : ((mn : Int)) ^ 3 = ((mn ^ 3 : Nat) : Int) := by simp
  refine ⟨cpow_of (n := 200) (by decide) (by omega) (by decide), cmul_of (a := 40) (b := 20) (by decide) (by omega) (by decide) (by decide) (by decide), by omega, ?_⟩
  have e : ([D.int (max 0 (c - 1000000000000000000)), D.int ((mn : Int) ^ 3 + 746773 * k + 173205080756887729), D.int 0] : List D) = [max 0 (c - 1000000000000000000), (mn : Int) ^ 3 + 746773 * k + 173205080756887729, 0].map .int := rfl
  rw [finS0, e, fin_ints, ← e]
  rw [hpi]
  exact q _ ⟨_, _, _, rfl, by omega, by omega, by omega, by omega, by omega⟩ rfl
def P_Lw_pull : PV := fun ds C Q => ∃ (m c : Int) (x : Cell), ds = [.ptr 0, .int m] ∧ C = [x] ∧ Jar c x ∧ 0 < m ∧ m < 10 ^ 30 ∧ c < 10 ^ 6 ∧ ∀ r y, 0 ≤ r → r < m → Jar (c + 1) y → Q (.int r) [y]
theorem v_Lw_pull (ds : List D) (C : Store) (Q3 : D → Store → Prop) (h : P_Lw_pull ds C Q3) (hC : C.length = 1) : T_Lw_pull (enF 1 Q3) (start3 N_Lw_pull ds) C := by
  obtain ⟨m, c, x, rfl, rfl, ⟨a, b, k, rfl, ha, hb, hb2, hk, hkc⟩, hm, hm2, hc, q⟩ := h
  have hz := sizeL
  have eΓ : start3 N_Lw_pull [D.ptr 0, D.int m] = [some (.ptr 0), some (.int m), none] := rfl
  rw [eΓ]
  have fi : ∀ (C : Store) (r : Int), fin 1 C (.int r) = .int r := fun C r => rfl
  have fs : ∀ a b k : Int, finS 1 [.lst [.int a, .int b, .int k]] = [.lst [.int a, .int b, .int k]] := fun a b k => rfl
  simp [T_Lw_pull, oIxL, lstOf, atI, ixN, gvSubL, fi, fs]
  by_cases h : 0 < a
  · refine .inr ⟨h, hm, cdiv_of hm (by omega), q _ _ (Int.emod_nonneg _ (by omega)) (Int.emod_lt_of_pos _ hm) ⟨_, _, _, rfl, Int.ediv_nonneg ha (by omega), hb, hb2, hk, by omega⟩⟩
  · refine .inl ⟨by omega, cpow_of (n := 400) (by decide) (by omega) (by decide), cmul_of (a := 40) (b := 21) (by decide) (by omega) (by decide) (by decide) (by decide), cpow10 33 (by decide), cpow10 8 (by decide), ?_⟩
    have p0 := Int.emod_nonneg (b ^ 3 + 479001599 * (k + 1) + 5) (b := 1000000000000000000000000000000061) (by decide)
    have p1 := Int.emod_lt_of_pos (b ^ 3 + 479001599 * (k + 1) + 5) (b := 1000000000000000000000000000000061) (by decide)
    generalize (b ^ 3 + 479001599 * (k + 1) + 5) % 1000000000000000000000000000000061 = p at *
    refine ⟨cdiv_of (by decide) (by decide), hm, ?_⟩
    exact q _ _ (Int.emod_nonneg _ (by omega)) (Int.emod_lt_of_pos _ hm) ⟨_, _, _, rfl, ha, p0, by omega, by omega, by omega⟩
/-! ### calls that pull -/
def callK (n : Nat) (kf : List D → List Nat) (P : PV) (ds : List D) (C1 : Store) (Q : D → Store → Prop) : Prop := (kf ds).length = n ∧ (kf ds).Nodup ∧ (∀ k, k ∈ kf ds → ∃ c, C1[k]? = some c ∧ c ≠ Cell.dead) ∧
  P (views (kf ds) C1 ds) (viewC (kf ds) C1) fun d Cc => noold d = true ∧ (∀ c, c ∈ Cc → c.okC (fun o => !o) = true) ∧ Q (mapW id (backG (kf ds)) d) (putS (kf ds) (Cc.map (backs (kf ds))) C1)
@[simp] theorem u_eCallK {n : Nat} {kf : List D → List Nat} {P : PV} {L : AV} {Γ : Slots} {C : Store} {Q : D → Store → Prop} : eCallK n kf P L Γ C Q = L Γ C fun ds C1 => callK n kf P ds C1 Q := rfl
theorem Jar.view {c : Int} {x : Cell} (h : Jar c x) {f : Bool → Bool} {g : Nat → D} : x.mapC f g = x := by
  obtain ⟨a, b, k, rfl, _⟩ := h
  rfl
theorem Jar.alive {c : Int} {x : Cell} (h : Jar c x) : x ≠ .dead := by
  obtain ⟨a, b, k, rfl, _⟩ := h
  simp
theorem Jar.ok {c : Int} {x : Cell} (h : Jar c x) : x.okC (fun o => !o) = true := by
  obtain ⟨a, b, k, rfl, _⟩ := h
  rfl
/-- a call whose first argument is a jar that stands at k; the other arguments are flat or lists that are read -/
theorem callJ {P : PV} {k : Nat} {es es' : List D} {C1 : Store} {c : Int} {x : Cell} {Q : D → Store → Prop} (hk : C1[k]? = some x) (hx : Jar c x) (he : mapWs (fun _ => true) (viewG [k] C1 2) es = es')
    (h : P (.ptr 0 :: es') [x] fun d Cc => ∃ y c', Cc = [y] ∧ Jar c' y ∧ (noold d && noptr d) = true ∧ Q d (C1.set k y)) (mono : ∀ (R R' : D → Store → Prop), (∀ d Cc, R d Cc → R' d Cc) → P (.ptr 0 :: es') [x] R → P (.ptr 0 :: es') [x] R') : callK 1 kf1 P (.ptr k :: es) C1 Q := by
  have e1 : kf1 (.ptr k :: es) = [k] := rfl
  unfold callK
  rw [e1]
  refine ⟨rfl, List.nodup_cons.mpr ⟨by simp, List.nodup_nil⟩, fun k' hk' => ⟨x, ?_, hx.alive⟩, ?_⟩
  · simp at hk'; subst hk'; exact hk
  · have e2 : views [k] C1 (.ptr k :: es) = .ptr 0 :: es' := by
      unfold views
      rw [mapWs, he]
      simp [mapW, viewG, posOf]
    have e3 : viewC [k] C1 = [x] := by
      unfold viewC
      simp only [List.map_cons, List.map_nil, hk, Option.getD_some]
      rw [hx.view]
    rw [e2, e3]
    refine mono _ _ (fun d Cc hd => ?_) h
    obtain ⟨y, c', rfl, hy, hn, hq⟩ := hd
    simp only [Bool.and_eq_true] at hn
    refine ⟨hn.1, fun c hc => ?_, ?_⟩
    · simp at hc; subst hc; exact hy.ok
    · rw [mapW_np.1 d hn.2]
      show Q d ((C1.set k (y.mapC id (backG [k]))))
      rw [hy.view]
      exact hq
theorem mono_pull {ds : List D} {C : Store} (R R' : D → Store → Prop) (h : ∀ d Cc, R d Cc → R' d Cc) : P_Lw_pull ds C R → P_Lw_pull ds C R' := fun ⟨m, c, x, e1, e2, e3, e4, e5, e6, q⟩ => ⟨m, c, x, e1, e2, e3, e4, e5, e6, fun r y a b d => h _ _ (q r y a b d)⟩
theorem pull_k {m c : Int} {x : Cell} {k : Nat} {C1 : Store} {Q : D → Store → Prop} (hk : C1[k]? = some x) (hx : Jar c x) (hm : 0 < m) (hm2 : m < 10 ^ 30) (hc : c < 10 ^ 6) (q : ∀ r y, 0 ≤ r → r < m → Jar (c + 1) y → Q (.int r) (C1.set k y)) :
    callK 1 kf1 P_Lw_pull [.ptr k, .int m] C1 Q :=
  callJ (es' := [.int m]) hk hx rfl ⟨m, c, x, rfl, rfl, hx, hm, hm2, hc, fun r y h0 h1 hy => ⟨y, _, rfl, hy, rfl, q r y h0 h1 hy⟩⟩ mono_pull
theorem pull_e {i k : Nat} {m c : Int} {x : Cell} {C1 : Store} {Γ : Slots} {E : EV} {Q : D → Store → Prop} (hk : C1[k]? = some x) (hx : Jar c x) (hv : Γ[i]? = some (some (.ptr k))) (hE : ∀ R : D → Store → Prop, R (.int m) C1 → E Γ C1 R) (hm : 0 < m) (hm2 : m < 10 ^ 30) (hc : c < 10 ^ 6)
    (q : ∀ r y, 0 ≤ r → r < m → Jar (c + 1) y → Q (.int r) (C1.set k y)) : eCallK 1 kf1 P_Lw_pull (aCons (eVar i) (aCons E aNil)) Γ C1 Q := by
  rw [u_eCallK]
  simp only [u_aCons, u_aNil, u_eVar]
  exact ⟨_, hv, hE _ (pull_k hk hx hm hm2 hc q)⟩
end L3

namespace L3
open PySem PySem.Spec PyProof.Rows L2
def P_Lw_size : PV := fun ds C Q => ∃ (o : Bool) (ns : List Int) (m c : Int) (x : Cell), ds = [.ptr 0, .lst o (ns.map .int), .int m] ∧ (3 ≤ m ∧ m ≤ 24) ∧ C = [x] ∧ Jar c x ∧ c < 10 ^ 5 ∧ ∀ r c' y, 1 ≤ r → r ≤ m → Jar c' y → c' ≤ c + 5 → Q (.int r) [y]
theorem v_Lw_size (ds : List D) (C : Store) (Q3 : D → Store → Prop) (h : P_Lw_size ds C Q3) (hC : C.length = 1) : T_Lw_size P_Lw_pull (enF 1 Q3) (start3 N_Lw_size ds) C := by
  obtain ⟨o, ns, m, c, x, rfl, ⟨hm3, hm24⟩, rfl, hx, hc, q⟩ := h
  have hz := sizeL
  have hrt : ∀ r c' y, 1 ≤ r → r ≤ m → Jar c' y → c' ≤ c + 5 → (enF 1 Q3).rt (.int r) [y] := fun r c' y h1 h2 hy hcc => by
    have := q r c' y h1 h2 hy hcc
    obtain ⟨a, b, k, rfl, h⟩ := hy
    exact this
  refine ⟨_, rfl, Nat.zero_le _, ?_⟩
  refine oEq_ints (ns := ns) (ms := []) (o' := false) ⟨_, rfl, ?_⟩
  by_cases he : ns = []
  · refine goT (by simp [he]) ?_
    show eBin oAdd (eC (.int 2)) (eCallK 1 kf1 P_Lw_pull (aCons (eVar 0) (aCons (eC (.int 2)) aNil))) _ _ _
    rw [u_eBin, u_eC]
    refine pull_e (k := 0) (m := 2) rfl hx rfl (fun R h => h) (by decide) (by decide) (by omega) fun r y h0 h1 hy => ?_
    exact ⟨_, _, rfl, rfl, hrt _ _ _ (by omega) (by omega) hy (by omega)⟩
  · refine goF (by simp [he]) ?_
    show sSeq (sAsg (eFrz (fLst (aCons (eC (.int 1)) (aCons (eBin oAdd (eC (.int 1)) (eCallK 1 kf1 P_Lw_pull (aCons (eVar 0) (aCons (eC (.int 5)) aNil)))) (aCons (eBin oAdd (eC (.int 1)) (eCallK 1 kf1 P_Lw_pull (aCons (eVar 0) (aCons (eC (.int 12)) aNil)))) (aCons (eVar 2) aNil)))))) (gvName 3)) _ _ _ _
    rw [u_sSeq, u_sAsg, u_eFrz, u_fLst, u_aCons, u_eC, u_aCons, u_eBin, u_eC]
    refine pull_e (k := 0) (m := 5) rfl hx rfl (fun R h => h) (by decide) (by decide) (by omega) fun r5 y5 h50 h51 hy5 => ?_
    refine ⟨_, _, rfl, rfl, ?_⟩
    show eBin oAdd (eC (.int 1)) (eCallK 1 kf1 P_Lw_pull (aCons (eVar 0) (aCons (eC (.int 12)) aNil))) _ _ _
    rw [u_eBin, u_eC]
    refine pull_e (k := 0) (m := 12) rfl hy5 rfl (fun R h => h) (by decide) (by decide) (by omega) fun r12 y12 hc0 hc1 hy12 => ?_
    refine ⟨_, _, rfl, rfl, _, rfl, by rw [hz]; show 4 ≤ 16777216; decide, ?_⟩
    refine ⟨_, rfl, _, rfl, ?_⟩
    show eCallK 1 kf1 P_Lw_pull (aCons (eVar 0) (aCons (eC (.int 4)) aNil)) _ _ _
    refine pull_e (k := 0) (m := 4) rfl hy12 rfl (fun R h => h) (by decide) (by decide) (by omega) fun r4 y4 h40 h41 hy4 => ?_
    obtain ⟨w, hw, hw0, hw1⟩ : ∃ w : Int, atI [D.int 1, D.int (1 + r5), D.int (1 + r12), D.int m] r4 = some (.int w) ∧ 1 ≤ w ∧ w ≤ 24 := by
      have : r4 = 0 ∨ r4 = 1 ∨ r4 = 2 ∨ r4 = 3 := by omega
      rcases this with rfl | rfl | rfl | rfl
      · exact ⟨1, rfl, by decide, by decide⟩
      · exact ⟨_, rfl, by omega, by omega⟩
      · exact ⟨_, rfl, by omega, by omega⟩
      · exact ⟨m, rfl, by omega, hm24⟩
    refine ⟨_, _, _, rfl, rfl, hw, ?_⟩
    exact ⟨_, _, rfl, hrt _ _ _ (by omega) (by omega) hy4 (by omega)⟩
end L3

namespace L3
open PySem PySem.Spec PyProof.Rows L2
theorem pyWs_pairs {g : Nat → Option PyData} : ∀ ps : List (Int × Int), pyWs g (ps.map pD) = some (ps.map fun z => .tuple [.int z.1, .int z.2])
  | [] => rfl
  | z :: ps => by simp only [List.map_cons, pyWs, pD, pyW, pyWs_pairs ps]; rfl
theorem lay_pairs : ∀ ps : List (Int × Int), PyData.canLayAll0 (ps.map fun z => .tuple [.int z.1, .int z.2]) = true
  | [] => rfl
  | z :: ps => by simp [PyData.canLayAll0, PyData.canLay0, lay_pairs ps]
theorem depth_pairs : ∀ ps : List (Int × Int), PyData.depthAll (ps.map fun z => .tuple [.int z.1, .int z.2]) ≤ 1
  | [] => by simp [PyData.depthAll]
  | z :: ps => by
    have := depth_pairs ps
    simp [PyData.depthAll, PyData.depth]
    omega
/-- x not in xs of pairs that are a cell -/
theorem in_pairs {neg : Bool} {C : Store} {k : Nat} {z : Int × Int} {ps : List (Int × Int)} {q : D → Prop} (hk : C[k]? = some (.lst (ps.map pD))) (h : q (.bl (neg != decide (z ∈ ps)))) : oIn neg C (pD z) (.ptr k) q := by
  refine ⟨.tuple [.int z.1, .int z.2], ps.map fun z => .tuple [.int z.1, .int z.2], by simp [pD, pyD, pyW, pyWs], by simp [pyD, pyW, pyG, hk, pyWs_pairs], by simp [SeqAt.shaped, PyData.canLay0, PyData.canLayAll0, PyData.depth, PyData.depthAll], ?_, ?_⟩
  · have := depth_pairs ps
    simp [SeqAt.shaped, PyData.canLay0, PyData.depth, lay_pairs]
    omega
  · have e : ((ps.map fun z => PyData.tuple [.int z.1, .int z.2]).any fun y => PyData.eqv y (.tuple [.int z.1, .int z.2])) = decide (z ∈ ps) := by
      rw [List.any_map]
      by_cases hm : z ∈ ps
      · rw [decide_eq_true hm]
        exact List.any_eq_true.mpr ⟨z, hm, by simp [PyData.eqv, PyData.eqvAll]⟩
      · rw [decide_eq_false hm]
        apply Bool.eq_false_iff.mpr
        intro h
        obtain ⟨y, hy, e⟩ := List.any_eq_true.mp h
        have : y = z := by
          have e' : y.1 = z.1 ∧ y.2 = z.2 := by simpa [PyData.eqv, PyData.eqvAll] using e
          exact Prod.ext e'.1 e'.2
        exact hm (this ▸ hy)
    rw [e]
    exact h
/-- rules of an order's papers: from one ahead to one behind -/
def Along (ord : List Int) (ps : List (Int × Int)) : Prop := ∀ z, z ∈ ps → ∃ a b : Nat, a < b ∧ ord[a]? = some z.1 ∧ ord[b]? = some z.2
theorem along_ok {n : Nat} {ord : List Int} {qs : List (Int × Int)} (ho : ord.Perm (upto n)) (nd : qs.Nodup) (hl : qs.length ≤ 60) (ha : Along ord qs) (hs : qs.Pairwise fun x y => SrtO.lexB y x = false) :
    Rul n qs ∧ ∃ rk : Int → Nat, ∀ z, z ∈ qs → rk z.1 < rk z.2 := by
  have ond : ord.Nodup := ho.nodup_iff.mpr (List.pairwise_map.mpr (List.Pairwise.imp (fun h e => h (Int.ofNat.inj e)) (List.nodup_range (n := n))))
  have mem : ∀ x, x ∈ ord → 0 ≤ x ∧ x < n := fun x hx => by
    obtain ⟨i, hi, rfl⟩ := List.mem_map.mp (ho.mem_iff.mp hx)
    have : i < n := by simpa using hi
    omega
  have idx : ∀ (a : Nat) (x : Int), ord[a]? = some x → ord.idxOf x = a := fun a x h => by
    obtain ⟨h1, h2⟩ := List.getElem?_eq_some_iff.mp h
    rw [← h2]
    exact ond.idxOf_getElem a h1
  refine ⟨⟨hl, fun z hz => ?_, ?_⟩, fun x => ord.idxOf x, fun z hz => ?_⟩
  · obtain ⟨a, b, hab, e1, e2⟩ := ha z hz
    have m1 := mem _ (List.mem_of_getElem? e1)
    have m2 := mem _ (List.mem_of_getElem? e2)
    refine ⟨m1.1, m1.2, m2.1, m2.2, fun e => ?_⟩
    have i1 := idx a _ e1
    have i2 := idx b _ e2
    rw [e] at i1
    omega
  · have both := List.Pairwise.and hs nd
    refine both.imp fun h => ?_
    obtain ⟨h1, h2⟩ := h
    have h3 := SrtO.lexB_no.mp h1
    refine SrtO.lexB_iff.mpr ?_
    rename_i x y
    by_cases e : x.1 = y.1
    · have : x.2 ≠ y.2 := fun e2 => h2 (Prod.ext e e2)
      omega
    · omega
  · obtain ⟨a, b, hab, e1, e2⟩ := ha z hz
    show ord.idxOf z.1 < ord.idxOf z.2
    rw [idx a _ e1, idx b _ e2]
    exact hab
def P_Lw_rules : PV := fun ds C Q => ∃ (o : Bool) (n : Nat) (ord : List Int) (t c : Int) (x : Cell), ds = [.ptr 0, .lst o (ord.map .int), .int t] ∧ C = [x] ∧ Jar c x ∧ c < 10 ^ 5 ∧ 1 ≤ n ∧ n ≤ 24 ∧ ord.Perm (upto n) ∧ 0 ≤ t ∧ t ≤ 60 ∧
  ∀ rs c' y, Rul n rs → (∃ rk : Int → Nat, ∀ z, z ∈ rs → rk z.1 < rk z.2) → Jar c' y → c' ≤ c + 200 → Q (.lst false (rs.map pD)) [y]
theorem v_Lw_rules (ds : List D) (C : Store) (Q3 : D → Store → Prop) (h : P_Lw_rules ds C Q3) (hC : C.length = 1) : T_Lw_rules P_Lw_pull (enF 1 Q3) (start3 N_Lw_rules ds) C := by
  obtain ⟨o, n, ord, t, c, x, rfl, rfl, hx, hc, h1, hn, ho, ht0, ht1, q⟩ := h
  have hz := sizeL
  have ol : ord.length = n := by rw [ho.length_eq]; simp [upto]
  have oml : (ord.map D.int).length = n := by simp [ol]
  show sSeq (sAsg (eCallK 1 kf1 P_Lw_pull (aCons (eVar 0) (aCons (eC (.int 2)) aNil))) (gvName 3)) _ _ _ _
  rw [u_sSeq, u_sAsg]
  refine pull_e (k := 0) (m := 2) rfl hx rfl (fun R h => h) (by decide) (by decide) (by omega) fun near y1 _ _ hy1 => ?_
  refine ⟨Nat.zero_le _, ?_⟩
  show sSeq (sFor (iRange1 (aCons (eCallK 1 kf1 P_Lw_pull (aCons (eVar 0) (aCons (eBin oAdd (eVar 2) (eC (.int 1))) aNil))) aNil)) _ _) _ _ _ _
  rw [u_sSeq]
  unfold sFor iRange1
  rw [u_aCons]
  refine pull_e (k := 0) (m := t + 1) (x := y1) rfl hy1 rfl (fun R h => ⟨_, rfl, _, _, rfl, rfl, h⟩) (by omega) (by omega) (by omega) fun cnt y2 hc0 hc1 hy2 => ?_
  refine ⟨cnt, rfl, by omega, by omega, rfl, np_rg' 0 _, ?_⟩
  refine forW_run (fun ds Γ C => ∃ (k : Nat) (ps : List (Int × Int)) (y : Cell) (c' : Int), k + ds.length = cnt.toNat ∧ C = [y, .lst (ps.map pD)] ∧ Jar c' y ∧ c' ≤ c + 2 + 2 * k ∧ ps.Nodup ∧ ps.length ≤ k ∧ Along ord ps ∧ ∃ a b c d, Γ = [some (.ptr 0), some (.lst o (ord.map .int)), some (.int t), some (.int near), some (.ptr 1), a, b, c, d]) ?step ?stop _ _ _ ⟨0, [], y2, c + 2, by rw [rg_len']; simp, rfl, by rw [show c + 2 = c + 1 + 1 by omega]; exact hy2, by omega, List.nodup_nil, by simp, fun z h => by simp at h, _, _, _, _, rfl⟩
  case step =>
    rintro d ds Γ C ⟨k, ps, y, c', hk, rfl, hy, hc', nd, hpl, hal, a, b, e, f, rfl⟩ R hR
    simp only [List.length_cons] at hk
    have len_o : ∀ {Γ' : Slots} {C' : Store}, Γ'[1]? = some (some (.lst o (ord.map .int))) → ∀ R : D → Store → Prop, R (.int (n : Nat)) C' → eCB oLenA (aCons (eVar 1) aNil) Γ' C' R := fun hΓ R hR => ⟨_, hΓ, _, _, rfl, rfl, by rw [oml]; exact hR⟩
    rw [u_gvName, u_sSeq, u_sPar, u_aCons]
    refine pull_e (k := 0) (m := (n : Nat)) (x := y) rfl hy rfl (len_o rfl) (by omega) (by omega) (by omega) fun at_ y3 ha0 ha1 hy3 => ?_
    rw [u_aCons]
    refine pull_e (k := 0) (m := (n : Nat)) (x := y3) rfl hy3 rfl (len_o rfl) (by omega) (by omega) (by omega) fun to_ y4 hb0 hb1 hy4 => ?_
    refine ⟨_, _, rfl, ?_⟩
    -- to, perhaps nearer
    have fin' : ∀ (to' : Int), 0 ≤ to' → to' < n → ∀ (g : Option D) (bk' : Slots → Store → Prop), (sSeq (sAsg (eTup (aCons (eBin oIxL (eVar 1) (eCB oMin2 (aCons (eVar 6) (aCons (eVar 7) aNil)))) (aCons (eBin oIxL (eVar 1) (eCB oMax2 (aCons (eVar 6) (aCons (eVar 7) aNil)))) aNil))) (gvName 8))
        (sIf (bAnd (bB (eBin (oEq true) (eVar 6) (eVar 7))) (bB (eBin (oIn true) (eVar 8) (eVar 4)))) (sDrop (eMl mAppend (eVar 4) (aCons (eVar 8) aNil))) sNext))
        { nx := R, ct := R, bk := bk', rt := (enF 1 Q3).rt } [some (.ptr 0), some (.lst o (ord.map .int)), some (.int t), some (.int near), some (.ptr 1), g, some (.int at_), some (.int to'), f] [y4, .lst (ps.map pD)] := by
      intro to' ht0 ht1 g bk'
      obtain ⟨an, rfl⟩ := Int.eq_ofNat_of_zero_le ha0
      obtain ⟨bn, rfl⟩ := Int.eq_ofNat_of_zero_le ht0
      have at_get : ∀ j : Nat, j < n → ∃ v : Int, ord[j]? = some v ∧ atI (ord.map D.int) (j : Int) = some (.int v) := fun j hj => by
        refine ⟨ord[j]'(by omega), List.getElem?_eq_getElem _, ?_⟩
        unfold atI
        rw [oml, ix_nat hj]
        show (ord.map D.int)[j]? = _
        rw [List.getElem?_map, List.getElem?_eq_getElem (by omega)]
        rfl
      obtain ⟨v1, e1, e2⟩ := at_get (min an bn) (by omega)
      obtain ⟨v2, e3, e4⟩ := at_get (max an bn) (by omega)
      have em : min (an : Int) (bn : Int) = ((min an bn : Nat) : Int) := by omega
      have eM : max (an : Int) (bn : Int) = ((max an bn : Nat) : Int) := by omega
      refine ⟨_, rfl, _, rfl, _, rfl, _, _, rfl, _, _, _, rfl, rfl, (by rw [em]; exact e2), _, rfl, _, rfl, _, rfl, _, _, rfl, _, _, _, rfl, rfl, (by rw [eM]; exact e4), by rw [hz]; show 2 ≤ 16777216; decide, ?_⟩
      refine ⟨_, rfl, _, rfl, _, rfl, ?_⟩
      by_cases hab : an = bn
      · refine goF (by simp [hab]) ?_
        exact goF rfl (hR _ _ ⟨k + 1, ps, y4, _, by omega, rfl, hy4, by omega, nd, by omega, hal, _, _, _, _, rfl⟩)
      · refine goT (by simp; omega) ?_
        refine ⟨_, rfl, _, rfl, ?_⟩
        refine in_pairs (k := 1) (z := (v1, v2)) (ps := ps) rfl ⟨_, rfl, ?_⟩
        by_cases hm : (v1, v2) ∈ ps
        · exact goF (by simp [hm]) (hR _ _ ⟨k + 1, ps, y4, _, by omega, rfl, hy4, by omega, nd, by omega, hal, _, _, _, _, rfl⟩)
        · refine goT (by simp [hm]) ?_
          refine ⟨_, rfl, ps.map pD, rfl, _, rfl, 1, ps.map pD, _, rfl, rfl, rfl, by simp; omega, ?_⟩
          have e5 : ps.map pD ++ [pD (v1, v2)] = (ps ++ [(v1, v2)]).map pD := by simp
          show R _ [y4, .lst (ps.map pD ++ [pD (v1, v2)])]
          rw [e5]
          refine hR _ _ ⟨k + 1, ps ++ [(v1, v2)], y4, _, by omega, rfl, hy4, by omega, ?_, by simp; omega, ?_, _, _, _, _, rfl⟩
          · refine List.nodup_append.mpr ⟨nd, by simp, fun a ha b hb e => ?_⟩
            simp at hb
            subst e hb
            exact hm ha
          · intro z hz'
            rcases List.mem_append.mp hz' with h | h
            · exact hal z h
            · simp at h
              subst h
              exact ⟨min an bn, max an bn, by omega, e1, e3⟩
    refine ⟨_, rfl, _, rfl, ?_⟩
    by_cases hne : near = 1
    · refine goT (by simp [hne]) ?_
      refine ⟨_, rfl, _, _, rfl, rfl, _, _, rfl, rfl, _, rfl, _, _, rfl, rfl, _, rfl, _, _, rfl, rfl, cdiv_of (by decide) (by decide), _, _, rfl, rfl, _, _, rfl, ?_⟩
      rw [oml]
      exact fin' _ (by omega) (by omega) _ _
    · refine goF (by simp [hne]) ?_
      exact fin' _ hb0 hb1 _ _
  case stop =>
    rintro Γ C ⟨k, ps, y, c', hk, rfl, hy, hc', nd, hpl, hal, a, b, e, f, rfl⟩
    simp only [List.length_nil, Nat.add_zero] at hk
    refine ⟨_, rfl, .ptr 1, ps, rfl, rfl, fun qs hp hs => ?_⟩
    obtain ⟨r1, r2⟩ := along_ok (n := n) ho (hp.nodup_iff.mpr nd) (by rw [hp.length_eq]; omega) (fun z hz => hal z (hp.mem_iff.mp hz)) hs
    obtain ⟨ja, jb, jk, rfl, hj⟩ := hy
    show Q3 (fin 1 _ (.lst false (qs.map pD))) _
    have e1 : ∀ C, fin 1 C (.lst false (qs.map pD)) = .lst false (qs.map pD) := fun C => by
      unfold fin
      rw [mapW, mapWs_flat (flat_pairs qs)]
      rfl
    rw [e1]
    exact q qs c' _ r1 r2 ⟨ja, jb, jk, rfl, hj⟩ (by omega)
end L3

namespace L3
open PySem PySem.Spec PyProof.Rows L2
theorem em_cps : (Str.ofString "").cps = #[] := by decide +kernel
theorem join_signs : ∀ ys : List Str, (∀ y, y ∈ ys → y = cR ∨ y = cB) → (Txt.join (Str.ofString "") ys).length = ys.length ∧ ∀ c, c ∈ (Txt.join (Str.ofString "") ys).cps.toList → c = 82 ∨ c = 66 := by
  intro ys
  rw [TL.join_eq]
  induction ys with
  | nil => intro _; exact ⟨rfl, fun c h => by simp [PySem.Str.join, PySem.Str.empty] at h⟩
  | cons x ys ih =>
    intro h
    obtain ⟨i1, i2⟩ := ih fun y hy => h y (List.mem_cons_of_mem _ hy)
    have hx := h x (List.mem_cons_self ..)
    have x1 : x.length = 1 := by rcases hx with rfl | rfl <;> rfl
    have x2 : ∀ c, c ∈ x.cps.toList → c = 82 ∨ c = 66 := by
      rcases hx with rfl | rfl
      · intro c hc; simp [cR] at hc; exact .inl hc
      · intro c hc; simp [cB] at hc; exact .inr hc
    cases ys with
    | nil => exact ⟨x1, x2⟩
    | cons y ys =>
      have e : (PySem.Str.join (Str.ofString "") (x :: y :: ys)).cps = x.cps ++ (PySem.Str.join (Str.ofString "") (y :: ys)).cps := by
        show (x ++ Str.ofString "" ++ PySem.Str.join (Str.ofString "") (y :: ys)).cps = _
        rw [PySem.Str.cps_append, PySem.Str.cps_append, em_cps, Array.append_empty]
      refine ⟨?_, fun c hc => ?_⟩
      · unfold PySem.Str.length at i1 x1 ⊢
        rw [e, Array.size_append, i1, x1]
        simp
        omega
      · rw [e, Array.toList_append] at hc
        rcases List.mem_append.mp hc with hc | hc
        · exact x2 c hc
        · exact i2 c hc
theorem rg_upto (n : Nat) : rgI 0 ((n : Int)).toNat = (upto n).map .int := by
  unfold rgI upto
  rw [Int.toNat_natCast, List.map_map]
  congr 1
  funext i
  show D.int (0 + (i : Nat)) = D.int (i : Nat)
  rw [Int.zero_add]
def sS (n : Nat) (s : Nat → Str) : List D := (List.range n).map fun j => .str (s j)
theorem sS_len {n : Nat} {s : Nat → Str} : (sS n s).length = n := by simp [sS]
theorem sS_set {n : Nat} {s : Nat → Str} {j : Nat} {v : Str} (h : j < n) : (sS n s).set j (.str v) = sS n (fun i => if i = j then v else s i) := by
  have g : ∀ (t : Nat → Str) (i : Nat), i < n → (sS n t)[i]? = some (.str (t i)) := fun t i hi => by
    unfold sS
    rw [List.getElem?_map, List.getElem?_range hi]
    rfl
  apply List.ext_getElem?
  intro i
  by_cases hi : i < n
  · rw [g _ i hi]
    by_cases e : j = i
    · subst e
      rw [List.getElem?_set_self (by rw [sS_len]; exact h), if_pos rfl]
    · rw [List.getElem?_set_ne e, g _ i hi, if_neg (fun z => e z.symm)]
  · rw [List.getElem?_eq_none (by simp [sS]; omega), List.getElem?_eq_none (by simp [sS]; omega)]
theorem rep_s (n : Nat) (z : Str) : (List.replicate (n : Int).toNat [D.str z]).flatten = sS n fun _ => z := by
  unfold sS
  rw [Int.toNat_natCast]
  induction n with
  | zero => rfl
  | succ n ih => rw [List.replicate_succ', List.flatten_append, ih, List.range_succ, List.map_append]; rfl
theorem RB_at {r : Int} (h0 : 0 ≤ r) (h1 : r < 2) : ∃ c : Nat, atI (Str.ofString "RB").cps.toList r = some c ∧ ((⟨#[c]⟩ : Str) = cR ∨ (⟨#[c]⟩ : Str) = cB) := by
  have : r = 0 ∨ r = 1 := by omega
  rw [RB_cps]
  rcases this with rfl | rfl
  · exact ⟨82, rfl, .inl rfl⟩
  · exact ⟨66, rfl, .inr rfl⟩
theorem RB_len : (Str.ofString "RB").length = 2 := by decide +kernel
theorem seq_ix {r : Int} {n : Nat} (h0 : 0 ≤ r) (h1 : r < n) : seqIndex? r n = some r.toNat := seqIndex_of h0 h1
theorem er_map : ∀ (L : List Int) (j : Nat), (L.map D.int).eraseIdx j = (L.eraseIdx j).map D.int
  | [], _ => by simp
  | _ :: _, 0 => rfl
  | a :: L, j + 1 => by simp only [List.map_cons, List.eraseIdx_cons_succ, er_map L j]
def P_Lw_stack : PV := fun ds C Q => ∃ (n : Nat) (t c : Int) (x : Cell), ds = [.ptr 0, .int (n : Nat), .int t] ∧ C = [x] ∧ Jar c x ∧ c < 10 ^ 4 ∧ 1 ≤ n ∧ n ≤ 24 ∧ 0 ≤ t ∧ t ≤ 60 ∧
  ∀ f st rs c' y, Pil f st rs → st.length = n → Jar c' y → c' ≤ c + 400 → Q (pil false f st rs) [y]
theorem v_Lw_stack (ds : List D) (C : Store) (Q3 : D → Store → Prop) (h : P_Lw_stack ds C Q3) (hC : C.length = 1) : T_Lw_stack P_Lw_pull P_Lw_rules (enF 1 Q3) (start3 N_Lw_stack ds) C := by
  obtain ⟨n, t, c, x, rfl, rfl, hx, hc, h1, hn, ht0, ht1, q⟩ := h
  have hz := sizeL
  refine ⟨_, rfl, n, rfl, by omega, by omega, ?_⟩
  rw [rg_upto]
  refine ⟨_, rfl, n, rfl, by omega, by omega, ?_⟩
  refine lcW_run (fun ds acc C => ∃ (as L : List Int) (y : Cell) (c' : Int), ds.length = L.length ∧ acc = as.map .int ∧ C = [y, .lst (L.map .int)] ∧ (as ++ L).Perm (upto n) ∧ Jar c' y ∧ c' = c + as.length) ?step ?stop _ _ _ ⟨[], upto n, x, c, by rw [rg_upto]; simp, rfl, rfl, List.Perm.refl _, hx, by simp⟩
  case step =>
    rintro d ds acc C ⟨as, L, y, c', hl, rfl, rfl, hp, hy, hc'⟩ R hR
    have hpl := hp.length_eq
    simp [upto] at hpl
    simp only [List.length_cons] at hl
    rw [u_gvName, u_bYes, if_pos rfl, u_eMl]
    refine ⟨_, rfl, L.map .int, rfl, ?_⟩
    rw [u_aCons]
    refine pull_e (k := 0) (m := (L.length : Nat)) (x := y) rfl hy rfl (fun R h => ⟨_, rfl, _, _, rfl, rfl, by rw [List.length_map]; exact h⟩) (by omega) (by omega) (by omega) fun r y2 h0 h1 hy2 => ?_
    obtain ⟨j, rfl⟩ := Int.eq_ofNat_of_zero_le h0
    have hj : j < L.length := by omega
    refine ⟨1, L.map .int, (j : Nat), j, .int L[j], rfl, rfl, rfl, by omega, by omega, by rw [List.length_map]; exact seq_ix h0 h1, by rw [List.getElem?_map, List.getElem?_eq_getElem hj]; rfl, by simp; omega, fun k hk => by simp at hk, ?_⟩
    refine hR _ _ ⟨as ++ [L[j]], L.eraseIdx j, y2, c' + 1, by rw [List.length_eraseIdx_of_lt hj]; omega, by simp, ?_, ?_, hy2, by simp; omega⟩
    · show [y2, Cell.lst ((L.map D.int).eraseIdx j)] = _
      rw [er_map]
    · refine List.Perm.trans ?_ hp
      rw [List.append_assoc]
      refine List.Perm.append_left as ?_
      rw [List.eraseIdx_eq_take_drop_succ]
      show (L[j] :: (L.take j ++ L.drop (j + 1))).Perm L
      refine List.perm_middle.symm.trans ?_
      rw [← List.drop_eq_getElem_cons hj, List.take_append_drop]
  case stop =>
    rintro acc C ⟨as, L, y, c', hl, rfl, rfl, hp, hy, hc'⟩
    have hL : L = [] := List.length_eq_zero_iff.mp hl.symm
    subst hL
    rw [List.append_nil] at hp
    have al : as.length = n := by rw [hp.length_eq]; simp [upto]
    have get : ∀ i : Nat, i < n → ∃ j : Nat, j < n ∧ as[i]? = some (j : Int) ∧ atI (as.map D.int) (i : Int) = some (.int (j : Nat)) := fun i hi => by
      have hm : as[i]'(by omega) ∈ upto n := hp.mem_iff.mp (List.getElem_mem _)
      obtain ⟨j, hj, e⟩ := List.mem_map.mp hm
      refine ⟨j, by simpa using hj, by rw [List.getElem?_eq_getElem (by omega), ← e], ?_⟩
      unfold atI
      rw [List.length_map, al, ix_nat hi]
      show (as.map D.int)[i]? = _
      rw [List.getElem?_map, List.getElem?_eq_getElem (by omega), ← e]
      rfl
    show sSeq (sAsg (eCallK 1 kf1 P_Lw_pull (aCons (eVar 0) (aCons (eC (.int 3)) aNil))) (gvName 6)) _ _ _ _
    rw [u_sSeq, u_sAsg]
    refine pull_e (k := 0) (m := 3) (x := y) rfl hy rfl (fun R h => h) (by decide) (by decide) (by omega) fun kind y2 hk0 hk1 hy2 => ?_
    refine ⟨by rw [hz]; show 1 ≤ 16777216; decide, _, rfl, _, n, rfl, rfl, by omega, by omega, by simp; omega, rfl, ?_⟩
    rw [rep_s]
    refine ⟨_, rfl, n, rfl, by omega, by omega, rfl, np_rg' 0 _, ?_⟩
    rw [rg_upto]
    refine forW_run (fun ds Γ C => ∃ (k : Nat) (s : Nat → Str) (y : Cell) (c'' : Int) (L' : Cell), k + ds.length = n ∧ ds = ((List.range n).drop k).map (fun i : Nat => D.int (i : Nat)) ∧ C = [y, L', .lst (sS n s)] ∧ Jar c'' y ∧ c'' ≤ c' + 1 + 2 * k ∧ (∀ i j : Nat, i < k → as[i]? = some (j : Int) → s j = cR ∨ s j = cB) ∧
      ∃ a b, Γ = [some (.ptr 0), some (.int (n : Nat)), some (.int t), some (.ptr 1), some (.lst false (as.map .int)), a, some (.int kind), some (.ptr 2), b]) ?step3 ?stop3 _ _ _ ⟨0, fun _ => Str.ofString "", y2, c' + 1, _, by simp [upto], by simp [upto], rfl, hy2, by omega, fun i j h => by omega, _, _, rfl⟩
    case step3 =>
      rintro d ds Γ C ⟨k, s, y, c2, L', hk, eds, rfl, hy, hc2, hs, a, b, rfl⟩ R hR
      simp only [List.length_cons] at hk
      have hkn : k < n := by omega
      rw [List.drop_eq_getElem_cons (by simpa using hkn)] at eds
      simp only [List.getElem_range, List.map_cons, List.cons.injEq] at eds
      obtain ⟨rfl, rfl⟩ := eds
      rw [u_gvName]
      show sSeq (sAsg (eBin oIxL (eFrz (fLst (aCons (eCallK 1 kf1 P_Lw_pull (aCons (eVar 0) (aCons (eC (.int 2)) aNil))) (aCons (eBin oMod (eVar 5) (eC (.int 2))) (aCons (eCB oInt (aCons (eBin (oEq false) (eCallK 1 kf1 P_Lw_pull (aCons (eVar 0) (aCons (eC (.int 6)) aNil))) (eC (.int 0))) aNil)) aNil))))) (eVar 6)) (gvName 8)) _ _ _ _
      rw [u_sSeq, u_sAsg, u_eBin, u_eFrz, u_fLst, u_aCons]
      refine pull_e (k := 0) (m := 2) (x := y) rfl hy rfl (fun R h => h) (by decide) (by decide) (by omega) fun r2 y3 h20 h21 hy3 => ?_
      refine ⟨_, rfl, _, _, rfl, rfl, (show (0 : Int) < 2 from by decide), ?_⟩
      show aCons _ _ _ _ _
      rw [u_aCons, u_eCB, u_aCons, u_eBin]
      refine pull_e (k := 0) (m := 6) (x := y3) rfl hy3 rfl (fun R h => h) (by decide) (by decide) (by omega) fun r6 y4 h60 h61 hy4 => ?_
      obtain ⟨w, hw, hw0, hw1⟩ : ∃ w : Int, atI [D.int r2, D.int ((k : Int) % 2), D.int (if (false != decide (r6 = 0)) = true then 1 else 0)] kind = some (.int w) ∧ 0 ≤ w ∧ w < 2 := by
        have : kind = 0 ∨ kind = 1 ∨ kind = 2 := by omega
        rcases this with rfl | rfl | rfl
        · exact ⟨r2, rfl, h20, h21⟩
        · exact ⟨_, rfl, by omega, by omega⟩
        · refine ⟨_, rfl, ?_, ?_⟩ <;> split <;> decide
      refine ⟨by rw [hz]; show 3 ≤ 16777216; decide, _, rfl, _, _, _, rfl, rfl, hw, ?_⟩
      obtain ⟨cc, hcc, hcs⟩ := RB_at hw0 hw1
      obtain ⟨j, hj, ej, ea⟩ := get k hkn
      refine ⟨_, rfl, _, _, cc, rfl, rfl, by rw [RB_len, hz]; decide, hcc, ?_⟩
      refine ⟨_, rfl, _, rfl, _, rfl, _, _, _, rfl, rfl, ea, 2, sS n s, (j : Nat), j, rfl, rfl, rfl, by rw [sS_len]; exact ix_nat hj, ?_⟩
      show R _ [y4, L', .lst ((sS n s).set j (.str ⟨#[cc]⟩))]
      rw [sS_set hj]
      refine hR _ _ ⟨k + 1, _, y4, c2 + 1 + 1, L', by omega, rfl, rfl, hy4, by omega, fun i j' hi e => ?_, _, _, rfl⟩
      by_cases ejj : j' = j
      · rw [if_pos ejj]
        exact hcs
      · rw [if_neg ejj]
        refine hs i j' ?_ e
        have : i ≠ k := fun h => by
          rw [h, ej] at e
          have e' : (j : Int) = (j' : Int) := by simpa using e
          exact ejj (by omega)
        omega
    case stop3 =>
      rintro Γ C ⟨k, s, y, c2, L', hk, eds, rfl, hy, hc2, hs, a, b, rfl⟩
      simp only [List.length_nil, Nat.add_zero] at hk
      subst hk
      have all : ∀ y, y ∈ (List.range k).map s → y = cR ∨ y = cB := fun y hy => by
        obtain ⟨j, hj, rfl⟩ := List.mem_map.mp hy
        have hm : (j : Int) ∈ as := hp.mem_iff.mpr (List.mem_map.mpr ⟨j, hj, rfl⟩)
        obtain ⟨i, hi, e⟩ := List.mem_iff_getElem.mp hm
        exact hs i j (by omega) (by rw [List.getElem?_eq_getElem hi, e])
      obtain ⟨jl, jc⟩ := join_signs _ all
      show sRet (eTup (aCons (eBin oIxS (eC (.str "RB")) (eCallK 1 kf1 P_Lw_pull (aCons (eVar 0) (aCons (eC (.int 2)) aNil)))) (aCons (eM1 oJoin (eC (.str "")) (eVar 7)) (aCons (eCallK 1 kf1 P_Lw_rules (aCons (eVar 0) (aCons (eVar 4) (aCons (eVar 2) aNil)))) aNil)))) _ _ _
      rw [u_sRet, u_eTup, u_aCons, u_eBin, u_eC]
      refine pull_e (k := 0) (m := 2) (x := y) rfl hy rfl (fun R h => h) (by decide) (by decide) (by omega) fun rf y3 hf0 hf1 hy3 => ?_
      obtain ⟨cc, hcc, hcs⟩ := RB_at hf0 hf1
      refine ⟨_, _, cc, rfl, rfl, by rw [RB_len, hz]; decide, hcc, ?_⟩
      have sl : ((((List.range k).map s)).map (·.length)).sum + ((List.range k).map s).length * (Str.ofString "").length ≤ 16777216 := by
        have e0 : (Str.ofString "").length = 0 := by decide +kernel
        have : ∀ l : List Str, (∀ y, y ∈ l → y = cR ∨ y = cB) → (l.map (·.length)).sum = l.length := by
          intro l
          induction l with
          | nil => intro _; rfl
          | cons x l ih =>
            intro h
            rw [List.map_cons, List.sum_cons, ih fun y hy => h y (List.mem_cons_of_mem _ hy)]
            rcases h x (List.mem_cons_self ..) with rfl | rfl
            · show 1 + _ = _; simp; omega
            · show 1 + _ = _; simp; omega
        rw [this _ all, e0]
        simp
        omega
      refine ⟨⟨_, rfl⟩, _, rfl, _, _, (List.range k).map s, rfl, rfl, by simp [seqOf, lstOf, sS], sl, ?_⟩
      show aCons _ _ _ _ _
      rw [u_aCons, u_eCallK]
      simp only [u_aCons, u_aNil, u_eVar]
      refine ⟨_, rfl, _, rfl, _, rfl, ?_⟩
      have mono_r : ∀ (ds : List D) (C : Store) (R R' : D → Store → Prop), (∀ d Cc, R d Cc → R' d Cc) → P_Lw_rules ds C R → P_Lw_rules ds C R' := fun ds C R R' h ⟨o, n, ord, t, c, x, e1, e2, e3, e4, e5, e6, e7, e8, e9, q⟩ => ⟨o, n, ord, t, c, x, e1, e2, e3, e4, e5, e6, e7, e8, e9, fun rs c' y a b d e => h _ _ (q rs c' y a b d e)⟩
      refine callJ (k := 0) (x := y3) (es' := [.lst true (as.map .int), .int t]) rfl hy3 (by simp only [mapWs, mapW, mapWs_ints]) ?_ (mono_r _ _)
      refine ⟨true, k, as, t, c2 + 1, y3, rfl, rfl, hy3, by omega, h1, hn, hp, ht0, ht1, fun rs c3 y5 hr ha hy5 hc3 => ⟨y5, c3, rfl, hy5, ?_, by rw [hz]; show 3 ≤ 16777216; decide, ?_⟩⟩
      · have := flats_np (flat_pairs rs)
        simp only [noold, okW, noptr, this.1, this.2]
        rfl
      · obtain ⟨ja, jb, jk, rfl, hj⟩ := hy5
        have hl0 : (Txt.join (Str.ofString "") ((List.range k).map s)).length = k := by rw [jl]; simp
        have e1 : ∀ (C : Store) (z w : Str), fin 1 C (.tup [.str z, .str w, .lst false (rs.map pD)]) = .tup [.str z, .str w, .lst false (rs.map pD)] := fun C z w => by
          unfold fin
          simp only [mapW, mapWs, mapWs_flat (flat_pairs rs)]
          rfl
        show Q3 (fin 1 _ _) _
        rw [e1]
        refine q ⟨#[cc]⟩ (Txt.join (Str.ofString "") ((List.range k).map s)) rs c3 _ ⟨hcs, by omega, by omega, jc, by rw [hl0]; exact hr, ha⟩ hl0 ⟨ja, jb, jk, rfl, hj⟩ (by omega)
end L3

namespace L3
open PySem PySem.Spec PyProof.Rows L2
def P_Lw_cells : PV := fun ds C Q => ∃ (o : Bool) (ns : List Int) (m : Int), ds = [.lst o (ns.map .int), .int m] ∧ ns.length ≤ 63 ∧ ∀ ms : List Int, ms.length ≤ 64 → Q (.lst false (ms.map .int)) C
theorem cut_ints {ns : List Int} {a b : Option Int} : ∃ ms : List Int, cutD (ns.map D.int) a b = ms.map .int ∧ ms.length ≤ ns.length := by
  unfold cutD
  refine ⟨_, by rw [← List.map_drop, ← List.map_take], ?_⟩
  simp
  omega
theorem v_Lw_cells (ds : List D) (C : Store) (Q3 : D → Store → Prop) (h : P_Lw_cells ds C Q3) (hC : C.length = 0) : T_Lw_cells (enF 0 Q3) (start3 N_Lw_cells ds) C := by
  obtain ⟨o, ns, m, rfl, hl, q⟩ := h
  rw [List.length_eq_zero_iff] at hC
  subst hC
  have hz := sizeL
  obtain ⟨ms, em, hml⟩ := cut_ints (ns := ns) (a := none) (b := some m)
  refine ⟨_, rfl, _, rfl, m, rfl, _, rfl, ?_⟩
  rw [em]
  refine ⟨by rw [hz]; decide, _, rfl, Nat.zero_le _, ?_⟩
  refine oEq_ints (o' := false) (ns := ns) (ms := []) ?_
  have fi : ∀ ks : List Int, ks.length ≤ 64 → (enF 0 Q3).rt (.lst false (ks.map .int)) [] := fun ks hk => by
    show Q3 (fin 0 [] _) (finS 0 [])
    rw [fin_ints, finS0]
    exact q ks hk
  by_cases he : ns = []
  · rw [show (false != decide (ns = [])) = true by simp [he]]
    refine ⟨_, _, rfl, rfl, by decide, by decide, by rw [hz]; decide, rfl, ?_⟩
    refine ⟨_, _, rfl, rfl, by simp [hz]; omega, ?_⟩
    have e1 : ms.map D.int ++ (List.replicate (1 : Int).toNat [D.int 0]).flatten = (ms ++ [0]).map .int := by simp
    show (enF 0 Q3).rt (.lst false (ms.map D.int ++ (List.replicate (1 : Int).toNat [D.int 0]).flatten)) []
    rw [e1]
    exact fi _ (by simp; omega)
  · rw [show (false != decide (ns = [])) = false by simp [he]]
    refine ⟨_, _, rfl, rfl, by decide, by decide, by rw [hz]; decide, rfl, ?_⟩
    refine ⟨_, _, rfl, rfl, by simp [hz]; omega, ?_⟩
    show (enF 0 Q3).rt (.lst false (ms.map D.int ++ [])) []
    rw [List.append_nil]
    exact fi _ (by omega)
def P_ex_lo : PV := fun ds C Q => ∃ n : Int, ds = [.int n, .int n] ∧ Q (.bl true) C
def P_never : PV := fun _ _ _ => False
theorem v_ex_lo (ds : List D) (C : Store) (Q3 : D → Store → Prop) (h : P_ex_lo ds C Q3) (hC : C.length = 0) : T_Lw_exact P_never (enF 0 Q3) (start3 N_Lw_exact ds) C := by
  obtain ⟨n, rfl, q⟩ := h
  rw [List.length_eq_zero_iff] at hC
  subst hC
  have eΓ : start3 N_Lw_exact [D.int n, D.int n] = [some (.int n), some (.int n), none, none] := rfl
  rw [eΓ]
  simp [T_Lw_exact, tyOf, isKind]
  exact q
def tI (l : List Int) : D := .tup (l.map .int)
theorem zip_map {α : Type} (f : α → D) (l : List α) : zipD (l.map f) (l.map f) = l.map fun n => .tup [f n, f n] := by
  induction l with
  | nil => rfl
  | cons n l ih => simp only [List.map_cons, zipD, ih]
def P_ex_mid : PV := fun ds C Q => ∃ l : List Int, ds = [tI l, tI l] ∧ l.length ≤ 100 ∧ Q (.bl true) C
theorem v_ex_mid (ds : List D) (C : Store) (Q3 : D → Store → Prop) (h : P_ex_mid ds C Q3) (hC : C.length = 0) : T_Lw_exact P_ex_lo (enF 0 Q3) (start3 N_Lw_exact ds) C := by
  obtain ⟨l, rfl, hl, q⟩ := h
  rw [List.length_eq_zero_iff] at hC
  subst hC
  have hz := sizeL
  refine ⟨_, rfl, rfl, false, rfl, false, rfl, ?_⟩
  refine goF rfl ?_
  refine ⟨_, rfl, .tuple, rfl, true, rfl, ?_⟩
  refine goT rfl ?_
  refine ⟨_, rfl, .tuple, rfl, _, rfl, .tuple, rfl, false, rfl, ?_⟩
  refine goF rfl ?_
  refine ⟨_, rfl, .tuple, rfl, _, rfl, .tuple, rfl, false, rfl, ?_⟩
  refine goF rfl ?_
  refine ⟨_, rfl, _, _, rfl, rfl, _, rfl, _, _, rfl, rfl, _, rfl, ?_⟩
  refine goT (by simp) ?_
  refine ⟨_, rfl, _, rfl, _, _, l.map .int, l.map .int, rfl, .inr ⟨rfl, rfl⟩, by simp [noptrs_ints], ?_⟩
  rw [zip_map]
  refine lc_map (fun _ => .bl true) _ (fun _ _ => rfl) (by simp; omega) (fun d hd R hR => ?_) ?_
  · obtain ⟨n, hn, rfl⟩ := List.mem_map.mp hd
    refine ⟨_, rfl, rfl, _, _, rfl, _, _, rfl, rfl, ?_⟩
    exact ⟨_, rfl, _, rfl, n, by rw [views_int, views_int, views_nil], rfl, hR⟩
  · refine ⟨_, l.map fun _ => true, rfl, by simp [Cell.frz, lstOf], ?_⟩
    show Q3 (fin 0 [] (.bl ((l.map fun _ => true).all fun b => b))) (finS 0 [])
    rw [show ((l.map fun _ => true).all fun b => b) = true by simp]
    exact q
theorem flat_tI (l : List Int) : flatD (tI l) = true := by
  unfold tI
  rw [flatD]
  exact flat_ints l
def P_ex_hi : PV := fun ds C Q => ∃ (o o' : Bool) (ls : List (List Int)), ds = [.lst o (ls.map tI), .lst o' (ls.map tI)] ∧ ls.length ≤ 100 ∧ (∀ l, l ∈ ls → l.length ≤ 100) ∧ Q (.bl true) C
theorem np_tIs (ls : List (List Int)) : noptrs (ls.map tI) = true := by
  have : flatDs (ls.map tI) = true := by
    induction ls with
    | nil => rfl
    | cons l ls ih => simp only [List.map_cons, flatDs, flat_tI, ih, Bool.and_self]
  exact (flats_np this).1
theorem v_ex_hi (ds : List D) (C : Store) (Q3 : D → Store → Prop) (h : P_ex_hi ds C Q3) (hC : C.length = 0) : T_Lw_exact P_ex_mid (enF 0 Q3) (start3 N_Lw_exact ds) C := by
  obtain ⟨o, o', ls, rfl, hl, hls, q⟩ := h
  rw [List.length_eq_zero_iff] at hC
  subst hC
  have hz := sizeL
  refine ⟨_, rfl, rfl, false, rfl, false, rfl, ?_⟩
  refine goF rfl ?_
  refine ⟨_, rfl, .list, rfl, true, rfl, ?_⟩
  refine goT rfl ?_
  refine ⟨_, rfl, .list, rfl, _, rfl, .list, rfl, false, rfl, ?_⟩
  refine goF rfl ?_
  refine ⟨_, rfl, .list, rfl, _, rfl, .list, rfl, false, rfl, ?_⟩
  refine goF rfl ?_
  refine ⟨_, rfl, _, _, rfl, rfl, _, rfl, _, _, rfl, rfl, _, rfl, ?_⟩
  refine goT (by simp) ?_
  refine ⟨_, rfl, _, rfl, _, _, ls.map tI, ls.map tI, rfl, .inl ⟨rfl, rfl⟩, by simp [np_tIs], ?_⟩
  rw [zip_map]
  refine lc_map (fun _ => .bl true) _ (fun _ _ => rfl) (by simp; omega) (fun d hd R hR => ?_) ?_
  · obtain ⟨l, hn, rfl⟩ := List.mem_map.mp hd
    refine ⟨_, rfl, rfl, _, _, rfl, _, _, rfl, rfl, ?_⟩
    exact ⟨_, rfl, _, rfl, l, views_nc (by simp [flatDs, flat_tI]), hls l hn, rfl, hR⟩
  · refine ⟨_, ls.map fun _ => true, rfl, by simp [Cell.frz, lstOf], ?_⟩
    show Q3 (fin 0 [] (.bl ((ls.map fun _ => true).all fun b => b))) (finS 0 [])
    rw [show ((ls.map fun _ => true).all fun b => b) = true by simp]
    exact q
end L3

namespace L3
open PySem PySem.Spec PyProof.Rows L2
theorem Fix.le1 {n : Nat} {bs bs' : Nat → Int} {ch : Nat → Nat → Int} {rs : List (Int × Int)} {v w : Nat → Int} (hb : ∀ j, bs j ≤ bs' j + 1) (hr : ∀ z, z ∈ rs → 0 ≤ z.1 ∧ z.1 < n) (hk : ∃ rk : Int → Nat, ∀ z, z ∈ rs → rk z.1 < rk z.2) (V : Fix n bs ch rs v) (W : Fix n bs' ch rs w) : ∀ j, j < n → v j ≤ w j + 1 := by
  obtain ⟨rk, hrk⟩ := hk
  have all : ∀ m : Nat, ∀ j : Nat, j < n → rk j < m → v j ≤ w j + 1 := by
    intro m
    induction m with
    | zero => intro j _ h; omega
    | succ m ih =>
      intro j hj hm
      rcases V.by_ j hj with e | ⟨z, hz, e1, e2⟩
      · have := W.low j hj
        have := hb j
        omega
      · obtain ⟨h0, h1⟩ := hr z hz
        obtain ⟨i, hi⟩ := Int.eq_ofNat_of_zero_le h0
        have h2 := hrk z hz
        rw [e1, hi] at h2
        have h3 := ih i (by omega) (by omega)
        have h4 := W.up z hz
        rw [e1] at h4
        rw [hi] at e2 h4
        simp at e2 h4
        omega
  exact fun j hj => all (rk j + 1) j hj (by omega)
theorem neq01 (a b : Nat) : 0 ≤ neq a b ∧ neq a b ≤ 1 := by
  unfold neq
  split <;> decide
theorem max_eq {n : Nat} {v w : Nat → Int} {m k : Int} (h : ∀ j, j < n → v j = w j) (a : IsMax n v m) (b : IsMax n w k) : m = k := by
  obtain ⟨⟨i, hi, ei⟩, ai⟩ := a
  obtain ⟨⟨j, hj, ej⟩, bj⟩ := b
  have h1 := ai j hj
  have h2 := bj i hi
  rw [h j hj] at h1
  rw [← h i hi] at h2
  omega
theorem max_le1 {n : Nat} {v w : Nat → Int} {m k : Int} (h : ∀ j, j < n → v j ≤ w j + 1) (a : IsMax n v m) (b : IsMax n w k) : m ≤ k + 1 := by
  obtain ⟨⟨i, hi, ei⟩, ai⟩ := a
  have h2 := b.2 i hi
  have := h i hi
  omega
theorem Pil.r2 {f st : Str} {rs : List (Int × Int)} (hp : Pil f st rs) : ∀ z, z ∈ rs → 0 ≤ z.1 ∧ z.1 < st.length := fun z hz => ⟨(hp.rul.inn z hz).1, (hp.rul.inn z hz).2.1⟩
theorem pfix_max {f st : Str} {rs : List (Int × Int)} (hp : Pil f st rs) {g : Str} {v w : Nat → Int} {m k : Int} (V : PFix g st rs v) (W : PFix g st rs w) (a : IsMax st.length v m) (b : IsMax st.length w k) : m = k := max_eq (Fix.eq hp.r2 hp.acy V W) a b
theorem pfix_le1 {f st : Str} {rs : List (Int × Int)} (hp : Pil f st rs) {g g' : Str} {v w : Nat → Int} {m k : Int} (V : PFix g st rs v) (W : PFix g' st rs w) (a : IsMax st.length v m) (b : IsMax st.length w k) : m ≤ k + 1 :=
  max_le1 (Fix.le1 (fun j => by
    have h1 := neq01 (sg st j) (f0 g)
    have h2 := neq01 (sg st j) (f0 g')
    show neq _ _ ≤ neq _ _ + 1
    omega) hp.r2 hp.acy V W) a b
theorem cond_e {ns : List Int} {x y : Int} {Γ : Slots} {C : Store} {R : D → Store → Prop} (hΓ : Γ[0]? = some (some (.lst true (ns.map .int)))) (h : R (.int (if ns = [] then x else y)) C) : eIf (bB (eBin (oEq false) (eVar 0) (eFrz (fLst aNil)))) (eC (.int x)) (eC (.int y)) Γ C R := by
  refine ⟨_, hΓ, Nat.zero_le _, ?_⟩
  refine oEq_ints (o := true) (o' := false) (ns := ns) (ms := []) ⟨_, rfl, ?_⟩
  by_cases he : ns = []
  · rw [if_pos he] at h
    exact goT (by simp [he]) h
  · rw [if_neg he] at h
    exact goF (by simp [he]) h
theorem mono_size {ds : List D} {C : Store} (R R' : D → Store → Prop) (h : ∀ d Cc, R d Cc → R' d Cc) : P_Lw_size ds C R → P_Lw_size ds C R' := fun ⟨o, ns, m, c, x, e1, e0, e2, e3, e4, q⟩ => ⟨o, ns, m, c, x, e1, e0, e2, e3, e4, fun r c' y a b d e => h _ _ (q r c' y a b d e)⟩
theorem mono_stack {ds : List D} {C : Store} (R R' : D → Store → Prop) (h : ∀ d Cc, R d Cc → R' d Cc) : P_Lw_stack ds C R → P_Lw_stack ds C R' := fun ⟨n, t, c, x, e1, e2, e3, e4, e5, e6, e7, e8, q⟩ => ⟨n, t, c, x, e1, e2, e3, e4, e5, e6, e7, e8, fun f st rs c' y a l b d => h _ _ (q f st rs c' y a l b d)⟩
theorem np_pil {f st : Str} {rs : List (Int × Int)} : (noold (pil false f st rs) && noptr (pil false f st rs)) = true := by
  have := flats_np (flat_pairs rs)
  unfold pil
  simp only [noold, okW, okWs, noptr, noptrs, this.1, this.2]
  rfl
theorem sidx {f : Str} (h : f = cR ∨ f = cB) : ∃ i rest, Builtin.Str.occurrences (Str.ofString "RB") f 0 (Str.ofString "RB").length 1 = i :: rest ∧ ((f = cR ∧ i = 0) ∨ (f = cB ∧ i = 1)) := by
  rcases h with rfl | rfl
  · exact ⟨0, [], by decide +kernel, .inl ⟨rfl, rfl⟩⟩
  · exact ⟨1, [], by decide +kernel, .inr ⟨rfl, rfl⟩⟩
theorem pil_BB : Pil cR (Str.ofString "BB") [] := ⟨.inl rfl, by decide +kernel, by decide +kernel, fun c h => by
  rw [show (Str.ofString "BB").cps.toList = [66, 66] by decide +kernel] at h
  simp at h
  exact .inr h, ⟨by decide, fun z h => by simp at h, List.Pairwise.nil⟩, fun _ => 0, fun z h => by simp at h⟩
theorem pil_RRR : Pil cR (Str.ofString "RRR") [(0, 2)] := ⟨.inl rfl, by decide +kernel, by decide +kernel, fun c h => by
  rw [show (Str.ofString "RRR").cps.toList = [82, 82, 82] by decide +kernel] at h
  simp at h
  exact .inl h, ⟨by decide, fun z h => by simp at h; subst h; decide +kernel, by simp⟩, fun x => x.toNat, fun z h => by simp at h; subst h; decide⟩
theorem max_const {n : Nat} {v : Nat → Int} {m k : Int} (h : ∀ j, j < n → v j = k) (a : IsMax n v m) : m = k := by
  obtain ⟨⟨i, hi, ei⟩, _⟩ := a
  rw [← ei, h i hi]
theorem val_BB {g : Str} {v : Nat → Int} {m : Int} (V : PFix g (Str.ofString "BB") [] v) (a : IsMax (Str.ofString "BB").length v m) : m = neq 66 (f0 g) := by
  refine max_const (fun j hj => ?_) a
  rcases V.by_ j hj with e | ⟨z, hz, _⟩
  · rw [e]
    have h2 : (Str.ofString "BB").length = 2 := by decide +kernel
    have hs : sg (Str.ofString "BB") j = 66 := by
      have : j = 0 ∨ j = 1 := by omega
      rcases this with rfl | rfl <;> decide +kernel
    show neq (sg _ j) _ = _
    rw [hs]
  · simp at hz
theorem val_RRR {g : Str} {v : Nat → Int} {m : Int} (V : PFix g (Str.ofString "RRR") [(0, 2)] v) (a : IsMax (Str.ofString "RRR").length v m) : m = neq 82 (f0 g) := by
  have h3 : (Str.ofString "RRR").length = 3 := by decide +kernel
  have hs : ∀ j, j < 3 → sg (Str.ofString "RRR") j = 82 := fun j hj => by
    have : j = 0 ∨ j = 1 ∨ j = 2 := by omega
    rcases this with rfl | rfl | rfl <;> decide +kernel
  have base : ∀ j, j < 3 → bsOf g (Str.ofString "RRR") j = neq 82 (f0 g) := fun j hj => by
    show neq (sg _ j) _ = _
    rw [hs j hj]
  have v0 : v 0 = neq 82 (f0 g) := by
    rcases V.by_ 0 (by omega) with e | ⟨z, hz, e, _⟩
    · rw [e, base 0 (by decide)]
    · simp at hz; subst hz; simp at e
  refine max_const (fun j hj => ?_) a
  rcases V.by_ j hj with e | ⟨z, hz, e1, e2⟩
  · rw [e, base j (by omega)]
  · simp at hz
    subst hz
    have ej : j = 2 := by
      have : (2 : Int) = (j : Int) := e1
      omega
    subst ej
    rw [e2]
    show v 0 + neq (sg _ 0) (sg _ 2) = _
    rw [hs 0 (by decide), hs 2 (by decide), v0]
    unfold neq
    simp
end L3

/-! repr: what can be shown, and how long it is -/
namespace L3
open PySem PySem.Spec PyProof.Rows L2
/-- can be shown, in at most n signs -/
structure Shw (p : PyData) (d n : Nat) : Prop where
  ok : p.showable = true
  nd : p.hasDict = false
  dp : p.depth ≤ d
  ln : p.shown.length ≤ n
structure Shws (ps : List PyData) (d n : Nat) : Prop where
  ok : PyData.showableAll ps = true
  nd : PyData.hasDictAll ps = false
  dp : PyData.depthAll ps ≤ d
  ln : ((PyData.shownAll ps).map (·.length)).sum + 2 * ps.length ≤ n
theorem shownAll_len : ∀ ps : List PyData, (PyData.shownAll ps).length = ps.length
  | [] => rfl
  | p :: ps => by simp only [PyData.shownAll, List.length_cons, shownAll_len ps]
theorem Shws.nil {d n : Nat} : Shws [] d n := ⟨rfl, rfl, Nat.zero_le _, by simp [PyData.shownAll]⟩
theorem Shws.cons {p : PyData} {ps : List PyData} {d n m : Nat} (a : Shw p d n) (b : Shws ps d m) : Shws (p :: ps) d (n + m + 2) := by
  have h1 := a.ln
  have h2 := b.ln
  refine ⟨by simp [PyData.showableAll, a.ok, b.ok], by simp [PyData.hasDictAll, a.nd, b.nd], ?_, ?_⟩
  · have h3 := a.dp
    have h4 := b.dp
    simp only [PyData.depthAll]
    omega
  · simp only [PyData.shownAll, List.map_cons, List.sum_cons, List.length_cons]
    omega
theorem Shws.all {ps : List PyData} {d n : Nat} (h : ∀ p, p ∈ ps → Shw p d n) : Shws ps d (ps.length * (n + 2)) := by
  induction ps with
  | nil => exact .nil
  | cons p ps ih =>
    have := Shws.cons (h p (List.mem_cons_self ..)) (ih fun q hq => h q (List.mem_cons_of_mem _ hq))
    rw [List.length_cons, Nat.add_mul, Nat.one_mul]
    exact ⟨this.ok, this.nd, this.dp, by have := this.ln; omega⟩
theorem Shw.le {p : PyData} {d n d' n' : Nat} (a : Shw p d n) (h : d ≤ d') (h' : n ≤ n') : Shw p d' n' := ⟨a.ok, a.nd, Nat.le_trans a.dp h, Nat.le_trans a.ln h'⟩
theorem Shw.list {ps : List PyData} {d n : Nat} (a : Shws ps d n) : Shw (.list ps) (d + 1) (n + 3) := by
  have h := listText_len_le (PyData.shownAll ps)
  have h1 := a.ln
  have h2 := a.dp
  rw [shownAll_len] at h
  refine ⟨by rw [PyData.showable]; exact a.ok, by rw [PyData.hasDict]; exact a.nd, by rw [PyData.depth]; omega, ?_⟩
  rw [PyData.shown]
  omega
theorem Shw.tuple {ps : List PyData} {d n : Nat} (a : Shws ps d n) : Shw (.tuple ps) (d + 1) (n + 3) := by
  have h := tupleText_len_le (PyData.shownAll ps)
  have h1 := a.ln
  have h2 := a.dp
  rw [shownAll_len] at h
  refine ⟨by rw [PyData.showable]; exact a.ok, by rw [PyData.hasDict]; exact a.nd, by rw [PyData.depth]; omega, ?_⟩
  rw [PyData.shown]
  omega
theorem Shw.int {i : Int} {d : Nat} (h0 : 0 ≤ i) (h1 : i < 10 ^ 40) : Shw (.int i) d 40 := by
  refine ⟨?_, rfl, by simp [PyData.depth], ?_⟩
  · rw [PyData.showable]
    refine decide_eq_true ?_
    have hz : i.natAbs < 2 ^ 200 := by
      have : i < 2 ^ 200 := Int.lt_of_lt_of_le h1 (by decide)
      omega
    exact Nat.lt_trans (log_of (k := 200) hz (by decide)) (by decide)
  · rw [PyData.shown]
    exact tx_len h0 (by decide) h1
theorem Shw.str {s : Str} {d n : Nat} (h : ∀ c, c ∈ s.cps.toList → c < 16 ^ 8) (hl : s.length ≤ n) : Shw (.str s) d (10 * n + 2) := by
  have := StrLaws.reprText_len s h
  refine ⟨rfl, rfl, by simp [PyData.depth], ?_⟩
  rw [PyData.shown]
  omega
theorem Shw.ints {ns : List Int} (h : ∀ n, n ∈ ns → 0 ≤ n ∧ n < 10 ^ 40) : Shw (.list (ns.map .int)) 1 (ns.length * 42 + 3) := by
  have := Shw.list (Shws.all (ps := ns.map PyData.int) (d := 0) (n := 40) fun p hp => by
    obtain ⟨n, hn, rfl⟩ := List.mem_map.mp hp
    exact .int (h n hn).1 (h n hn).2)
  rw [List.length_map] at this
  exact this
theorem Shw.sz {p : PyData} {d n : Nat} (h : Shw p d n) (hn : n ≤ 16777216) : p.shown.length ≤ sizeLine := by
  have := h.ln
  have := sizeL
  omega
theorem oRepr_of {C : Store} {d : D} {xs : List D} {p : PyData} {n : Nat} {Q : D → Prop} (e : seqOf C d = some xs) (e2 : pyD C d = some p) (h : Shw p 60 n) (hn : n ≤ 16777216) (q : Q (.str p.shown)) : oRepr C [d] Q :=
  ⟨d, xs, p, rfl, e, e2, h.ok, h.nd, h.dp, by have := h.ln; have := sizeL; omega, q⟩
/-- a pile's data as the library's -/
def pilP (f st : Str) (rs : List (Int × Int)) : PyData := .tuple [.str f, .str st, .list (rs.map fun z => .tuple [.int z.1, .int z.2])]
theorem pyW_pil {g : Nat → Option PyData} {o : Bool} {f st : Str} {rs : List (Int × Int)} : pyW g (pil o f st rs) = some (pilP f st rs) := by
  unfold pil
  simp only [pyW, pyWs, pyWs_pairs]
  rfl
theorem shw_pil {f st : Str} {rs : List (Int × Int)} (h : Pil f st rs) : Shw (pilP f st rs) 3 6000 := by
  have hr := h.rul
  have h24 := h.top
  have hp : Shw (.list (rs.map fun z => PyData.tuple [.int z.1, .int z.2])) 2 (rs.length * (40 + (40 + 0 + 2) + 2 + 3 + 2) + 3) := by
    have := Shw.list (Shws.all (ps := rs.map fun z => PyData.tuple [.int z.1, .int z.2]) (d := 1) (n := 40 + (40 + 0 + 2) + 2 + 3) fun p hp => by
      obtain ⟨z, hz, rfl⟩ := List.mem_map.mp hp
      obtain ⟨a1, a2, a3, a4, _⟩ := hr.inn z hz
      exact .tuple (.cons (.int a1 (by omega)) (.cons (.int a3 (by omega)) (.nil (n := 0)))))
    rw [List.length_map] at this
    exact this
  have hf := hr.few
  have h1 : Shw (.str f) 2 (10 * 1 + 2) := .str (fun c hc => by
    rcases h.fst with rfl | rfl
    · simp [cR] at hc; omega
    · simp [cB] at hc; omega) (by rcases h.fst with rfl | rfl <;> decide)
  have h2 : Shw (.str st) 2 (10 * 24 + 2) := .str (fun c hc => by have := h.sts c hc; omega) h24
  exact (Shw.tuple (.cons h1 (.cons h2 (.cons hp (.nil (n := 0)))))).le (Nat.le_refl _) (by omega)
end L3

/-! chains: lists of papers along rules -/
namespace L3
open PySem PySem.Spec PyProof.Rows L2
/-- neighbours -/
def prs (l : List Int) : List (Int × Int) := l.zip (l.drop 1)
theorem prs_at {l : List Int} {i : Nat} {z : Int × Int} : (prs l)[i]? = some z ↔ l[i]? = some z.1 ∧ l[i + 1]? = some z.2 := by
  unfold prs
  rw [List.getElem?_zip_eq_some, List.getElem?_drop]
  rw [show 1 + i = i + 1 by omega]
theorem prs_mem {l : List Int} {z : Int × Int} : z ∈ prs l ↔ ∃ i : Nat, l[i]? = some z.1 ∧ l[i + 1]? = some z.2 := by
  rw [List.mem_iff_getElem?]
  exact ⟨fun ⟨i, h⟩ => ⟨i, prs_at.mp h⟩, fun ⟨i, h⟩ => ⟨i, prs_at.mpr h⟩⟩
theorem prs_len {l : List Int} : (prs l).length = l.length - 1 := by simp [prs]
theorem prs_cons (a b : Int) (l : List Int) : prs (a :: b :: l) = (a, b) :: prs (b :: l) := rfl
theorem zip_prs : ∀ l : List Int, zipD (l.map .int) ((l.map .int).drop 1) = (prs l).map pD
  | [] => rfl
  | [a] => rfl
  | a :: b :: l => by
    have ih := zip_prs (b :: l)
    rw [prs_cons]
    simp only [List.map_cons, List.drop_succ_cons, List.drop_zero, zipD] at ih ⊢
    rw [← ih]
    rfl
theorem cut_tail (xs : List D) : cutD xs (some 1) none = xs.drop 1 := by
  unfold cutD
  have e1 : HT.sIx xs.length 0 (some 1) = min 1 xs.length := HT.sIx_nat _ _ 1
  rw [e1, HT.sIx_none]
  rw [List.take_of_length_le (by simp)]
  cases xs with
  | nil => rfl
  | cons z rs => rw [show min 1 (z :: rs).length = 1 by simp]
theorem cut_from (xs : List D) (a : Nat) (h : a ≤ xs.length) : cutD xs (some (a : Int)) none = xs.drop a := by
  unfold cutD
  have e1 : HT.sIx xs.length 0 (some (a : Int)) = min a xs.length := HT.sIx_nat _ _ a
  rw [e1, HT.sIx_none]
  rw [List.take_of_length_le (by simp), Nat.min_eq_left h]
theorem cut_to (xs : List D) (a : Nat) : cutD xs none (some (a : Int)) = xs.take a := by
  unfold cutD
  have e1 : HT.sIx xs.length xs.length (some (a : Int)) = min a xs.length := HT.sIx_nat _ _ a
  rw [e1, HT.sIx_none]
  simp
theorem cut_mid (xs : List D) (a b : Nat) (h : a ≤ xs.length) : cutD xs (some (a : Int)) (some (b : Int)) = (xs.drop a).take (b - a) := by
  unfold cutD
  have e1 : HT.sIx xs.length 0 (some (a : Int)) = min a xs.length := HT.sIx_nat _ _ a
  have e2 : HT.sIx xs.length xs.length (some (b : Int)) = min b xs.length := HT.sIx_nat _ _ b
  rw [e1, e2, Nat.min_eq_left h]
  by_cases hb : b ≤ xs.length
  · rw [Nat.min_eq_left hb]
  · rw [Nat.min_eq_right (by omega), List.take_of_length_le (by simp), List.take_of_length_le (by simp; omega)]
/-- a chain of the rules -/
structure Chn (n : Nat) (rs : List (Int × Int)) (l : List Int) : Prop where
  ne : l ≠ []
  few : l.length ≤ 100
  inn : ∀ x, x ∈ l → 0 ≤ x ∧ x < n
  stp : ∀ z, z ∈ prs l → z ∈ rs
theorem Chn.one {n : Nat} {rs : List (Int × Int)} {i : Int} (h0 : 0 ≤ i) (h1 : i < n) : Chn n rs [i] := ⟨by simp, by simp, fun x hx => by simp at hx; subst hx; exact ⟨h0, h1⟩, fun z hz => by simp [prs] at hz⟩
theorem Chn.sub {n : Nat} {rs : List (Int × Int)} {l : List Int} (h : Chn n rs l) (a b : Nat) (ha : a < l.length) (hb : 0 < b) : Chn n rs ((l.drop a).take b) := by
  have hl := h.few
  refine ⟨fun e => ?_, by simp; omega, fun x hx => h.inn x (List.mem_of_mem_drop (List.mem_of_mem_take hx)), fun z hz => ?_⟩
  · have := congrArg List.length e
    simp at this
    omega
  · obtain ⟨i, h1, h2⟩ := prs_mem.mp hz
    have h1' := h1
    have h2' := h2
    rw [List.getElem?_take] at h1 h2
    split at h1
    · split at h2
      · rw [List.getElem?_drop] at h1 h2
        exact h.stp z (prs_mem.mpr ⟨a + i, h1, h2⟩)
      · cases h2
    · cases h1
theorem Chn.snoc {n : Nat} {rs : List (Int × Int)} {l : List Int} {x y : Int} (h : Chn n rs l) (hl : l.length < 100) (hx : l[l.length - 1]? = some x) (hxy : (x, y) ∈ rs) (h0 : 0 ≤ y) (h1 : y < n) : Chn n rs (l ++ [y]) := by
  refine ⟨by simp, by simp; omega, fun z hz => ?_, fun z hz => ?_⟩
  · rcases List.mem_append.mp hz with hz | hz
    · exact h.inn z hz
    · simp at hz; subst hz; exact ⟨h0, h1⟩
  · obtain ⟨i, e1, e2⟩ := prs_mem.mp hz
    have hi : i + 1 < (l ++ [y]).length := (List.getElem?_eq_some_iff.mp e2).1
    simp at hi
    by_cases hj : i + 1 < l.length
    · rw [List.getElem?_append_left (by omega)] at e1
      rw [List.getElem?_append_left hj] at e2
      exact h.stp z (prs_mem.mpr ⟨i, e1, e2⟩)
    · have : i = l.length - 1 := by omega
      subst this
      rw [List.getElem?_append_left (by omega), hx] at e1
      rw [List.getElem?_append_right (by omega), show l.length - 1 + 1 - l.length = 0 by omega] at e2
      simp at e1 e2
      have : z = (x, y) := Prod.ext e1.symm e2.symm
      rw [this]
      exact hxy
/-- the changes along neighbours, a chain's length -/
def chg (st : Str) (z : Int × Int) : Int := neq (sg st z.1.toNat) (sg st z.2.toNat)
def chs (st : Str) (l : List Int) : Int := ((prs l).map (chg st)).sum
def wlen (f st : Str) (l : List Int) : Int := neq (sg st (l.headD 0).toNat) (f0 f) + chs st l
theorem neq_comm (a b : Nat) : neq a b = neq b a := by
  unfold neq
  by_cases h : a = b
  · rw [if_pos h, if_pos h.symm]
  · rw [if_neg h, if_neg fun e => h e.symm]
theorem chs_bound {st : Str} : ∀ ps : List (Int × Int), 0 ≤ (ps.map (chg st)).sum ∧ (ps.map (chg st)).sum ≤ ps.length
  | [] => by simp
  | z :: ps => by
    have h := chs_bound (st := st) ps
    have h2 := neq01 (sg st z.1.toNat) (sg st z.2.toNat)
    have e : chg st z = neq (sg st z.1.toNat) (sg st z.2.toNat) := rfl
    simp only [List.map_cons, List.sum_cons, List.length_cons]
    omega
theorem wlen_bound {f st : Str} {l : List Int} : 0 ≤ wlen f st l ∧ wlen f st l ≤ l.length + 1 := by
  have h := chs_bound (st := st) (prs l)
  have h2 := neq01 (sg st (l.headD 0).toNat) (f0 f)
  have h3 := prs_len (l := l)
  unfold wlen chs
  omega
/-- x in xs of pairs that are told -/
theorem in_pairsD {neg o : Bool} {C : Store} {z : Int × Int} {ps : List (Int × Int)} {q : D → Prop} (h : q (.bl (neg != decide (z ∈ ps)))) : oIn neg C (pD z) (.lst o (ps.map pD)) q := by
  refine ⟨.tuple [.int z.1, .int z.2], ps.map fun z => .tuple [.int z.1, .int z.2], by simp [pD, pyD, pyW, pyWs], by simp [pyD, pyW, pyWs_pairs], by simp [SeqAt.shaped, PyData.canLay0, PyData.canLayAll0, PyData.depth, PyData.depthAll], ?_, ?_⟩
  · have := depth_pairs ps
    simp [SeqAt.shaped, PyData.canLay0, PyData.depth, lay_pairs]
    omega
  · have e : ((ps.map fun z => PyData.tuple [.int z.1, .int z.2]).any fun y => PyData.eqv y (.tuple [.int z.1, .int z.2])) = decide (z ∈ ps) := by
      rw [List.any_map]
      by_cases hm : z ∈ ps
      · rw [decide_eq_true hm]
        exact List.any_eq_true.mpr ⟨z, hm, by simp [PyData.eqv, PyData.eqvAll]⟩
      · rw [decide_eq_false hm]
        apply Bool.eq_false_iff.mpr
        intro h
        obtain ⟨y, hy, e⟩ := List.any_eq_true.mp h
        have : y = z := by
          have e' : y.1 = z.1 ∧ y.2 = z.2 := by simpa [PyData.eqv, PyData.eqvAll] using e
          exact Prod.ext e'.1 e'.2
        exact hm (this ▸ hy)
    rw [e]
    exact h
theorem ints_at {l : List Int} {i : Nat} {a : Int} (h : l[i]? = some a) : atI (l.map D.int) (i : Int) = some (.int a) := by
  have hi : i < l.length := (List.getElem?_eq_some_iff.mp h).1
  unfold atI
  rw [List.length_map, ix_nat hi]
  show (l.map D.int)[i]? = _
  rw [List.getElem?_map, h]
  rfl
theorem ints_last {l : List Int} {a : Int} (h : l[l.length - 1]? = some a) : atI (l.map D.int) (-1) = some (.int a) := by
  have hi : l.length - 1 < l.length := (List.getElem?_eq_some_iff.mp h).1
  unfold atI ixN
  rw [List.length_map]
  rw [if_neg (by decide), if_pos (by omega)]
  show (l.map D.int)[(-1 + (l.length : Int)).toNat]? = _
  rw [show (-1 + (l.length : Int)).toNat = l.length - 1 by omega, List.getElem?_map, h]
  rfl
theorem last_of {l : List Int} (h : l ≠ []) : ∃ a, l[l.length - 1]? = some a := by
  have : 0 < l.length := List.length_pos_iff.mpr h
  exact ⟨l[l.length - 1]'(by omega), List.getElem?_eq_getElem (by omega)⟩
end L3

/-! rows: all orders that keep the rules; the least number of switches is the greatest length of a chain -/
namespace L3
open PySem PySem.Spec PyProof.Rows L2
theorem forC_run {G : GV} {T : SV} {De : En} {ok : Store → Prop} (I : List D → Slots → Store → Prop)
    (step : ∀ d ds Γ C, I (d :: ds) Γ C → ∀ R : Slots → Store → Prop, (∀ Γ' C', ok C' → I ds Γ' C' → R Γ' C') → G d Γ C fun Γ1 C1 => T { De with nx := R, ct := R, bk := De.nx } Γ1 C1)
    (stop : ∀ Γ C, I [] Γ C → De.nx Γ C) : ∀ ds Γ C, I ds Γ C → forC G T De ok ds Γ C
  | [], Γ, C, h => stop Γ C h
  | d :: ds, Γ, C, h => step d ds Γ C h _ fun Γ' C' o h' => ⟨o, forC_run I step stop ds Γ' C' h'⟩
theorem set_last {α : Type} (l : List α) (x y : α) : (l ++ [x]).set l.length y = l ++ [y] := by
  rw [List.set_append_right _ _ (Nat.le_refl _), Nat.sub_self]
  rfl
theorem get_last {α : Type} (l : List α) (x : α) : (l ++ [x])[l.length]? = some x := by simp
theorem lst_last (C : Store) (xs : List D) : lstOf (C ++ [.lst xs]) (.ptr C.length) = some xs := by simp only [lstOf, get_last]
/-- a list of lists of numbers -/
def rD (l : List Int) : D := .lst false (l.map .int)
theorem np_rD (ls : List (List Int)) : noptrs (ls.map rD) = true := noptrs_map _ fun p _ => by simp [rD, noptr, noptrs_ints]
theorem fin_rD {C : Store} {k : Nat} {ls : List (List Int)} (h : C[k]? = some (.lst (ls.map rD))) : fin 0 C (.ptr k) = .lst false (ls.map rD) := by
  unfold fin
  simp only [mapW, finG, h, Nat.not_lt_zero, if_false]
  rw [mapW_np.2 _ (np_rD ls)]
/-- switches along a row where c lies -/
def sws (st : Str) : Nat → List Int → Int
  | _, [] => 0
  | c, p :: l => neq c (sg st p.toNat) + sws st (sg st p.toNat) l
def lastS (st : Str) : Nat → List Int → Nat
  | c, [] => c
  | _, p :: l => lastS st (sg st p.toNat) l
theorem sws_app {st : Str} : ∀ (l m : List Int) (c : Nat), sws st c (l ++ m) = sws st c l + sws st (lastS st c l) m
  | [], m, c => by simp [sws, lastS]
  | p :: l, m, c => by
    rw [List.cons_append, sws, sws, lastS, sws_app l m]
    omega
theorem lastS_snoc {st : Str} : ∀ (l : List Int) (c : Nat) (p : Int), lastS st c (l ++ [p]) = sg st p.toNat
  | [], c, p => rfl
  | q :: l, c, p => by rw [List.cons_append, lastS, lastS_snoc l]
theorem neq_tri (a b c : Nat) : neq a c ≤ neq a b + neq b c := by
  unfold neq
  by_cases h1 : a = b
  · by_cases h2 : b = c
    · simp [h1, h2]
    · simp [h1, h2]
  · by_cases h2 : b = c
    · simp [h1, h2]
    · simp [h1, h2]
      split <;> decide
theorem sws_tri {st : Str} {p : Int} : ∀ (m : List Int) (c : Nat), neq c (sg st p.toNat) ≤ sws st c (m ++ [p])
  | [], c => by simp [sws]
  | q :: m, c => by
    have h := sws_tri (st := st) (p := p) m (sg st q.toNat)
    have h2 := neq_tri c (sg st q.toNat) (sg st p.toNat)
    rw [List.cons_append, sws]
    omega
theorem sws_nn {st : Str} : ∀ (m : List Int) (c : Nat), 0 ≤ sws st c m ∧ sws st c m ≤ m.length
  | [], c => by simp [sws]
  | q :: m, c => by
    have h := sws_nn (st := st) m (sg st q.toNat)
    have h2 := neq01 c (sg st q.toNat)
    rw [sws, List.length_cons]
    omega
/-- may stand next -/
def okB (rs : List (Int × Int)) (line : List Int) (one : Int) : Bool := !decide (one ∈ line) && decide (((rs.filter fun z => decide (z.2 = one) && !decide (z.1 ∈ line)).map (·.1)) = [])
theorem okB_iff {rs : List (Int × Int)} {line : List Int} {one : Int} : okB rs line one = true ↔ one ∉ line ∧ ∀ z, z ∈ rs → z.2 = one → z.1 ∈ line := by
  unfold okB
  simp only [Bool.and_eq_true, Bool.not_eq_true', decide_eq_false_iff_not, decide_eq_true_eq, List.map_eq_nil_iff, List.filter_eq_nil_iff, not_and, Decidable.not_not]
def stepR (n : Nat) (rs : List (Int × Int)) (line : List Int) : List (List Int) := ((upto n).filter (okB rs line)).map fun one => line ++ [one]
def rowsK (n : Nat) (rs : List (Int × Int)) : Nat → List (List Int)
  | 0 => [[]]
  | k + 1 => (rowsK n rs k).flatMap (stepR n rs)
theorem rowsK_succ {n k : Nat} {rs : List (Int × Int)} {l : List Int} : l ∈ rowsK n rs (k + 1) ↔ ∃ l0 p, l0 ∈ rowsK n rs k ∧ l = l0 ++ [p] ∧ p ∈ upto n ∧ okB rs l0 p = true := by
  rw [rowsK, List.mem_flatMap]
  constructor
  · rintro ⟨l0, h0, h1⟩
    obtain ⟨p, h2, rfl⟩ := List.mem_map.mp h1
    obtain ⟨h3, h4⟩ := List.mem_filter.mp h2
    exact ⟨l0, p, h0, rfl, h3, h4⟩
  · rintro ⟨l0, p, h0, rfl, h3, h4⟩
    exact ⟨l0, h0, List.mem_map.mpr ⟨p, List.mem_filter.mpr ⟨h3, h4⟩, rfl⟩⟩
theorem upto_mem {n : Nat} {x : Int} : x ∈ upto n ↔ 0 ≤ x ∧ x < n := by
  unfold upto
  rw [List.mem_map]
  constructor
  · rintro ⟨i, hi, rfl⟩
    have : i < n := by simpa using hi
    omega
  · rintro ⟨h0, h1⟩
    obtain ⟨i, rfl⟩ := Int.eq_ofNat_of_zero_le h0
    exact ⟨i, by simp; omega, rfl⟩
theorem rowsK_len {n : Nat} {rs : List (Int × Int)} : ∀ (k : Nat) (l : List Int), l ∈ rowsK n rs k → l.length = k
  | 0, l, h => by simp [rowsK] at h; simp [h]
  | k + 1, l, h => by
    obtain ⟨l0, p, h0, rfl, _, _⟩ := rowsK_succ.mp h
    simp [rowsK_len k l0 h0]
theorem rowsK_inn {n : Nat} {rs : List (Int × Int)} : ∀ (k : Nat) (l : List Int), l ∈ rowsK n rs k → ∀ x, x ∈ l → 0 ≤ x ∧ x < n
  | 0, l, h, x, hx => by simp [rowsK] at h; rw [h] at hx; simp at hx
  | k + 1, l, h, x, hx => by
    obtain ⟨l0, p, h0, rfl, hp, _⟩ := rowsK_succ.mp h
    rcases List.mem_append.mp hx with hx | hx
    · exact rowsK_inn k l0 h0 x hx
    · simp at hx
      subst hx
      exact upto_mem.mp hp
theorem rowsK_nodup {n : Nat} {rs : List (Int × Int)} : ∀ (k : Nat) (l : List Int), l ∈ rowsK n rs k → l.Nodup
  | 0, l, h => by simp [rowsK] at h; rw [h]; exact List.nodup_nil
  | k + 1, l, h => by
    obtain ⟨l0, p, h0, rfl, hp, hk⟩ := rowsK_succ.mp h
    have := (okB_iff.mp hk).1
    refine List.nodup_append.mpr ⟨rowsK_nodup k l0 h0, by simp, fun a ha b hb e => ?_⟩
    simp at hb
    subst hb e
    exact this ha
theorem rowsK_pre {n : Nat} {rs : List (Int × Int)} : ∀ (k : Nat) (l : List Int), l ∈ rowsK n rs k → ∀ pre p post, l = pre ++ p :: post → ∀ z, z ∈ rs → z.2 = p → z.1 ∈ pre
  | 0, l, h, pre, p, post, e, z, hz, e2 => by simp [rowsK] at h; rw [h] at e; simp at e
  | k + 1, l, h, pre, p, post, e, z, hz, e2 => by
    obtain ⟨l0, q, h0, rfl, hp, hk⟩ := rowsK_succ.mp h
    by_cases hpo : post = []
    · subst hpo
      have := List.append_inj' e rfl
      obtain ⟨e3, e4⟩ := this
      simp at e4
      subst e3 e4
      exact (okB_iff.mp hk).2 z hz e2
    · obtain ⟨po, y, rfl⟩ := List.eq_nil_or_concat post |>.resolve_left hpo
      rw [List.concat_eq_append] at e
      have e5 : l0 ++ [q] = (pre ++ p :: po) ++ [y] := by rw [e]; simp
      obtain ⟨e3, _⟩ := List.append_inj' e5 rfl
      exact rowsK_pre k l0 h0 pre p po e3 z hz e2
theorem flat_len {n : Nat} {rs : List (Int × Int)} (hn : n ≤ 5) : ∀ ls : List (List Int), (ls.flatMap (stepR n rs)).length ≤ ls.length * 5
  | [] => by simp
  | l :: ls => by
    have ih := flat_len (rs := rs) hn ls
    rw [List.flatMap_cons, List.length_append, List.length_cons]
    have h1 : (stepR n rs l).length ≤ 5 := by
      unfold stepR
      rw [List.length_map]
      have := List.length_filter_le (okB rs l) (upto n)
      have h2 : (upto n).length = n := by simp [upto]
      omega
    omega
theorem rowsK_size {n : Nat} {rs : List (Int × Int)} (hn : n ≤ 5) : ∀ k, (rowsK n rs k).length ≤ 5 ^ k
  | 0 => by simp [rowsK]
  | k + 1 => by
    have ih := rowsK_size (rs := rs) hn k
    have h2 := flat_len (rs := rs) hn (rowsK n rs k)
    rw [rowsK, Nat.pow_succ]
    omega
/-- along a row that keeps the rules the switches so far are no fewer than a chain's length -/
theorem nodup_sub_len {α : Type} [DecidableEq α] : ∀ (a b : List α), a.Nodup → (∀ x, x ∈ a → x ∈ b) → a.length ≤ b.length
  | [], b, _, _ => Nat.zero_le _
  | x :: a, b, hn, hs => by
    obtain ⟨h1, h2⟩ := List.nodup_cons.mp hn
    have hx := hs x (List.mem_cons_self ..)
    have ih := nodup_sub_len a (b.erase x) h2 fun y hy => (List.mem_erase_of_ne (fun e => h1 (by rw [← e]; exact hy))).mpr (hs y (List.mem_cons_of_mem _ hy))
    rw [List.length_erase_of_mem hx] at ih
    have := List.length_pos_of_mem hx
    rw [List.length_cons]
    omega
theorem sws_low {f st : Str} {rs : List (Int × Int)} (hp : Pil f st rs) {v : Nat → Int} (V : PFix f st rs v) {l : List Int} (inn : ∀ x, x ∈ l → 0 ≤ x ∧ x < st.length) (pre : ∀ pr p post, l = pr ++ p :: post → ∀ z, z ∈ rs → z.2 = p → z.1 ∈ pr) :
    ∀ (k : Nat) (pr : List Int) (p : Int) (post : List Int), pr.length < k → l = pr ++ p :: post → v p.toNat ≤ sws st (f0 f) (pr ++ [p])
  | 0, _, _, _, h, _ => by omega
  | k + 1, pr, p, post, hk, e => by
    obtain ⟨p0, p1⟩ := inn p (by rw [e]; simp)
    rcases V.by_ p.toNat (by omega) with e1 | ⟨z, hz, e1, e2⟩
    · rw [e1]
      show neq (sg st p.toNat) (f0 f) ≤ _
      rw [neq_comm]
      exact sws_tri pr (f0 f)
    · have hzp : z.2 = p := by rw [e1]; omega
      have hm := pre pr p post e z hz hzp
      obtain ⟨a, b, hab⟩ := List.append_of_mem hm
      have ih := sws_low hp V inn pre k a z.1 (b ++ p :: post) (by rw [hab] at hk; simp at hk; omega) (by rw [e, hab]; simp)
      have e3 : pr ++ [p] = (a ++ [z.1]) ++ (b ++ [p]) := by rw [hab]; simp
      rw [e2, e3, sws_app, lastS_snoc]
      have h4 := sws_tri (st := st) (p := p) b (sg st z.1.toNat)
      show v z.1.toNat + neq (sg st z.1.toNat) (sg st p.toNat) ≤ _
      omega
theorem row_low {f st : Str} {rs : List (Int × Int)} (hp : Pil f st rs) {v : Nat → Int} {m : Int} (V : PFix f st rs v) (M : IsMax st.length v m) {l : List Int} (h : l ∈ rowsK st.length rs st.length) : m ≤ sws st (f0 f) l := by
  obtain ⟨⟨j, hj, ej⟩, _⟩ := M
  have inn := rowsK_inn _ _ h
  have hl := rowsK_len _ _ h
  have hnd := rowsK_nodup _ _ h
  have all : (j : Int) ∈ l := by
    refine Decidable.byContradiction fun hn => ?_
    have h1 := nodup_sub_len ((j : Int) :: l) (upto st.length) (List.nodup_cons.mpr ⟨hn, hnd⟩) fun x hx => by
      rcases List.mem_cons.mp hx with rfl | hx
      · exact upto_mem.mpr ⟨by omega, by omega⟩
      · exact upto_mem.mpr (inn x hx)
    have h2 : (upto st.length).length = st.length := by simp [upto]
    rw [List.length_cons] at h1
    omega
  obtain ⟨a, b, hab⟩ := List.append_of_mem all
  have h1 := sws_low hp V inn (rowsK_pre _ _ h) (a.length + 1) a (j : Int) b (by omega) hab
  have e : l = (a ++ [(j : Int)]) ++ b := by rw [hab]; simp
  rw [e, sws_app]
  have h2 := (sws_nn (st := st) b (lastS st (f0 f) (a ++ [(j : Int)]))).1
  simp only [Int.toNat_natCast] at h1
  omega
/-- stamps by two signs: a chain's length is even just where its end wants the stamp that lies there -/
theorem Pil.sg2 {f st : Str} {rs : List (Int × Int)} (hp : Pil f st rs) {j : Nat} (hj : j < st.length) : sg st j = 82 ∨ sg st j = 66 := by
  have hl : st.cps.toList.length = st.length := by rw [Array.length_toList]; rfl
  unfold sg
  rw [List.getD_eq_getElem?_getD, List.getElem?_eq_getElem (by omega)]
  exact hp.sts _ (List.getElem_mem ..)
theorem Pil.f2 {f st : Str} {rs : List (Int × Int)} (hp : Pil f st rs) : f0 f = 82 ∨ f0 f = 66 := by
  rcases hp.fst with rfl | rfl
  · exact .inl rfl
  · exact .inr rfl
theorem neq_par {a b c : Nat} (ha : a = 82 ∨ a = 66) (hb : b = 82 ∨ b = 66) (hc : c = 82 ∨ c = 66) : (neq a c + neq a b) % 2 = neq b c := by
  rcases ha with rfl | rfl <;> rcases hb with rfl | rfl <;> rcases hc with rfl | rfl <;> decide
theorem fix_par {f st : Str} {rs : List (Int × Int)} (hp : Pil f st rs) {v : Nat → Int} (V : PFix f st rs v) : ∀ j, j < st.length → v j % 2 = neq (sg st j) (f0 f) := by
  obtain ⟨rk, hrk⟩ := hp.acy
  have all : ∀ m : Nat, ∀ j : Nat, j < st.length → rk j < m → v j % 2 = neq (sg st j) (f0 f) := by
    intro m
    induction m with
    | zero => intro j _ h; omega
    | succ m ih =>
      intro j hj hm
      rcases V.by_ j hj with e | ⟨z, hz, e1, e2⟩
      · rw [e]
        show neq (sg st j) (f0 f) % 2 = _
        have := neq01 (sg st j) (f0 f)
        omega
      · obtain ⟨h0, h1⟩ := hp.r2 z hz
        obtain ⟨i, hi⟩ := Int.eq_ofNat_of_zero_le h0
        have h2 := hrk z hz
        rw [e1, hi] at h2
        have h3 := ih i (by omega) (by omega)
        rw [hi] at e2
        simp only [Int.toNat_natCast] at e2
        have h5 : v j = v i + neq (sg st i) (sg st j) := e2
        have h4 := neq_par (hp.sg2 (show i < st.length by omega)) (hp.sg2 hj) hp.f2
        rw [h5]
        omega
  exact fun j hj => all (rk j + 1) j hj (by omega)
theorem ex_least {α : Type} (r : α → α → Prop) (tot : ∀ a b, r a b ∨ r b a) (tr : ∀ a b c, r a b → r b c → r a c) : ∀ l : List α, l ≠ [] → ∃ a, a ∈ l ∧ ∀ b, b ∈ l → r a b
  | [], h => absurd rfl h
  | [a], _ => ⟨a, by simp, fun b hb => by simp at hb; subst hb; exact (tot b b).elim id id⟩
  | a :: b :: l, _ => by
    obtain ⟨c, hc, hm⟩ := ex_least r tot tr (b :: l) (by simp)
    rcases tot a c with h | h
    · refine ⟨a, by simp, fun d hd => ?_⟩
      rcases List.mem_cons.mp hd with rfl | hd
      · exact (tot d d).elim id id
      · exact tr _ _ _ h (hm d hd)
    · refine ⟨c, List.mem_cons_of_mem _ hc, fun d hd => ?_⟩
      rcases List.mem_cons.mp hd with rfl | hd
      · exact h
      · exact hm d hd
theorem row_up {f st : Str} {rs : List (Int × Int)} (hp : Pil f st rs) {v : Nat → Int} {m : Int} (V : PFix f st rs v) (M : IsMax st.length v m) : ∃ l, l ∈ rowsK st.length rs st.length ∧ sws st (f0 f) l ≤ m := by
  obtain ⟨rk, hrk⟩ := hp.acy
  have par := fix_par hp V
  have nn : ∀ j, j < st.length → 0 ≤ v j := fun j hj => by
    have h1 := V.low j hj
    have h2 : bsOf f st j = neq (sg st j) (f0 f) := rfl
    have := neq01 (sg st j) (f0 f)
    omega
  have m0 : 0 ≤ m := by
    have := M.2 0 hp.pos
    have := nn 0 hp.pos
    omega
  have key : ∀ k, k ≤ st.length → ∃ (l : List Int) (t : Int), l ∈ rowsK st.length rs k ∧ sws st (f0 f) l ≤ t ∧ 0 ≤ t ∧ t ≤ m ∧ t % 2 = neq (lastS st (f0 f) l) (f0 f) ∧ (lastS st (f0 f) l = 82 ∨ lastS st (f0 f) l = 66) ∧ ∀ j : Nat, j < st.length → (j : Int) ∉ l → t ≤ v j := by
    intro k
    induction k with
    | zero => exact fun _ => ⟨[], 0, by simp [rowsK], by simp [sws], by decide, m0, by simp [lastS, neq], hp.f2, fun j hj _ => nn j hj⟩
    | succ k ih =>
      intro hk
      obtain ⟨l, t, hl, hs, ht0, htm, htp, hl2, hmin⟩ := ih (by omega)
      have hlen := rowsK_len _ _ hl
      have hne : (upto st.length).filter (fun x => !decide (x ∈ l)) ≠ [] := by
        intro e
        have all : ∀ x, x ∈ upto st.length → x ∈ l := fun x hx => by
          have := List.filter_eq_nil_iff.mp e x hx
          simpa using this
        have h1 : (upto st.length).Nodup := List.pairwise_map.mpr (List.Pairwise.imp (fun h e => h (Int.ofNat.inj e)) (List.nodup_range (n := st.length)))
        have h2 := nodup_sub_len _ _ h1 all
        have h3 : (upto st.length).length = st.length := by simp [upto]
        omega
      obtain ⟨p, hpm, hpl⟩ := ex_least (fun a b : Int => v a.toNat < v b.toNat ∨ (v a.toNat = v b.toNat ∧ rk a ≤ rk b)) (fun a b => by omega) (fun a b c h1 h2 => by omega) _ hne
      obtain ⟨hpu, hpn⟩ := List.mem_filter.mp hpm
      have hpn' : p ∉ l := by simpa using hpn
      obtain ⟨p0, p1⟩ := upto_mem.mp hpu
      obtain ⟨i, rfl⟩ := Int.eq_ofNat_of_zero_le p0
      have hi : i < st.length := by omega
      have hti := hmin i hi hpn'
      have hok : okB rs l (i : Int) = true := okB_iff.mpr ⟨hpn', fun z hz e => by
        refine Decidable.byContradiction fun hzl => ?_
        obtain ⟨z0, z1⟩ := hp.r2 z hz
        have h1 := hpl z.1 (List.mem_filter.mpr ⟨upto_mem.mpr ⟨z0, z1⟩, by simpa using hzl⟩)
        have h2 := V.up z hz
        have h3 := hrk z hz
        rw [e] at h2 h3
        have h4 := neq01 (sg st z.1.toNat) (sg st (i : Int).toNat)
        have h5 : chOf st z.1.toNat (i : Int).toNat = neq (sg st z.1.toNat) (sg st (i : Int).toNat) := rfl
        omega⟩
      refine ⟨l ++ [(i : Int)], v i, rowsK_succ.mpr ⟨l, _, hl, rfl, hpu, hok⟩, ?_, nn i hi, M.2 i hi, ?_, ?_, fun j hj hjn => ?_⟩
      · rw [sws_app]
        have e : sws st (lastS st (f0 f) l) [(i : Int)] = neq (lastS st (f0 f) l) (sg st i) := by simp [sws]
        rw [e]
        have h1 := par i hi
        by_cases hv : v i = t
        · have : neq (lastS st (f0 f) l) (sg st i) = 0 := by
            rw [hv, htp] at h1
            rcases hl2 with e1 | e1 <;> rcases hp.sg2 hi with e2 | e2 <;> rcases hp.f2 with e3 | e3 <;> rw [e1, e2, e3] at h1 <;> rw [e1, e2] <;> revert h1 <;> decide
          omega
        · have := neq01 (lastS st (f0 f) l) (sg st i)
          omega
      · rw [lastS_snoc]
        exact par i hi
      · rw [lastS_snoc]
        exact hp.sg2 hi
      · have hjl : (j : Int) ∉ l := fun h => hjn (List.mem_append.mpr (.inl h))
        have := hpl (j : Int) (List.mem_filter.mpr ⟨upto_mem.mpr ⟨by omega, by omega⟩, by simpa using hjl⟩)
        simp only [Int.toNat_natCast] at this
        omega
  obtain ⟨l, t, hl, hs, _, htm, _⟩ := key st.length (Nat.le_refl _)
  exact ⟨l, hl, by omega⟩
end L3

/-! piles whose list of rules is a cell; drawing them -/
namespace L3
open PySem PySem.Spec PyProof.Rows L2
/-- a pile's data where the rules are a cell -/
def pilC (k : Nat) (f st : Str) : D := .tup [.str f, .str st, .ptr k]
theorem views_pilC {C : Store} {k : Nat} {f st : Str} {rs : List (Int × Int)} {ds : List D} (hk : C[k]? = some (.lst (rs.map pD))) : views [] C (pilC k f st :: ds) = pil true f st rs :: views [] C ds := by
  unfold views pilC
  simp only [mapWs, mapW, viewG, posOf, hk, mapWs_flat (flat_pairs rs)]
  rfl
theorem views_pilC1 {C : Store} {k : Nat} {f st : Str} {rs : List (Int × Int)} (hk : C[k]? = some (.lst (rs.map pD))) : views [] C [pilC k f st] = [pil true f st rs] := by rw [views_pilC hk, views_nil]
theorem pyG_pairs {C : Store} {k n : Nat} {rs : List (Int × Int)} (hk : C[k]? = some (.lst (rs.map pD))) : pyG C (n + 1) k = some (.list (rs.map fun z => .tuple [.int z.1, .int z.2])) := by
  simp only [pyG, hk, pyWs_pairs]
  rfl
theorem pyD_pilC {C : Store} {k : Nat} {f st : Str} {rs : List (Int × Int)} (hk : C[k]? = some (.lst (rs.map pD))) : pyD C (pilC k f st) = some (pilP f st rs) := by
  unfold pyD pilC
  simp only [pyW, pyWs, pyG_pairs hk]
  rfl
/-- the list of rules beside the empty list -/
theorem oEq_pairs_nil {neg o : Bool} {C : Store} {k : Nat} {rs : List (Int × Int)} {q : D → Prop} (hk : C[k]? = some (.lst (rs.map pD))) (h : q (.bl (neg != decide (rs = [])))) : oEq neg C (.ptr k) (.lst o []) q := by
  refine ⟨.list (rs.map fun z => .tuple [.int z.1, .int z.2]), .list [], by unfold pyD; rw [pyW, pyG_pairs hk], rfl, ?_, rfl, ?_⟩
  · have := depth_pairs rs
    simp [SeqAt.shaped, PyData.canLay0, PyData.depth, lay_pairs]
    omega
  · have e : PyData.eqv (.list (rs.map fun z => .tuple [.int z.1, .int z.2])) (.list []) = decide (rs = []) := by
      cases rs with
      | nil => rfl
      | cons z rs => simp [PyData.eqv, PyData.eqvAll]
    rw [e]
    exact h
/-- the body of a thawing call -/
def callTK (n : Nat) (kf : List D → List Nat) (P : PV) (ds : List D) (C1 : Store) (Q : D → Store → Prop) : Prop := (kf ds).length = n ∧ (kf ds).Nodup ∧ (∀ k, k ∈ kf ds → ∃ c, C1[k]? = some c ∧ c ≠ Cell.dead) ∧
  P (views (kf ds) C1 ds) (viewC (kf ds) C1) fun d Cc => ∃ x y xs, d = .tup [x, y, .lst false xs] ∧ flatDs [x, y] = true ∧ flatDs xs = true ∧ (∀ c, c ∈ Cc → c.okC (fun o => !o) = true) ∧
    (∀ (i : Nat) c, (putS (kf ds) (Cc.map (backs (kf ds))) C1)[i]? = some c → flatC c = true) ∧ Q (.tup [x, y, .ptr C1.length]) (putS (kf ds) (Cc.map (backs (kf ds))) C1 ++ [.lst xs])
theorem e_eCallT {n : Nat} {kf : List D → List Nat} {P : PV} {L : AV} {Γ : Slots} {C : Store} {Q : D → Store → Prop} : eCallT n kf P L Γ C Q = L Γ C fun ds C1 => callTK n kf P ds C1 Q := rfl
def Flat (C : Store) : Prop := ∀ (i : Nat) c, C[i]? = some c → flatC c = true
theorem Flat.set {C : Store} {k : Nat} {x : Cell} (h : Flat C) (hx : flatC x = true) : Flat (C.set k x) := fun i c e => by
  by_cases hk : k = i
  · subst hk
    have hl : k < C.length := by
      have := (List.getElem?_eq_some_iff.mp e).1
      simpa using this
    rw [List.getElem?_set_self hl] at e
    cases e
    exact hx
  · rw [List.getElem?_set_ne hk] at e
    exact h i c e
theorem Flat.snoc {C : Store} {x : Cell} (h : Flat C) (hx : flatC x = true) : Flat (C ++ [x]) := fun i c e => by
  by_cases hi : i < C.length
  · rw [List.getElem?_append_left hi] at e
    exact h i c e
  · have : i = C.length := by
      have := (List.getElem?_eq_some_iff.mp e).1
      simp at this
      omega
    subst this
    rw [get_last] at e
    cases e
    exact hx
theorem Flat.nil : Flat [] := fun i c e => by simp at e
theorem Jar.flat {c : Int} {x : Cell} (h : Jar c x) : flatC x = true := by
  obtain ⟨a, b, k, rfl, _⟩ := h
  rfl
theorem flat_rs (rs : List (Int × Int)) : flatC (.lst (rs.map pD)) = true := flat_pairs rs
/-- a thawing call whose first argument is a jar -/
theorem callJT {P : PV} {k : Nat} {es es' : List D} {C1 : Store} {c : Int} {x : Cell} {Q : D → Store → Prop} (hk : C1[k]? = some x) (hx : Jar c x) (fl : Flat C1) (he : mapWs (fun _ => true) (viewG [k] C1 2) es = es')
    (h : P (.ptr 0 :: es') [x] fun d Cc => ∃ y c' a b xs, Cc = [y] ∧ Jar c' y ∧ d = .tup [a, b, .lst false xs] ∧ flatDs [a, b] = true ∧ flatDs xs = true ∧ Q (.tup [a, b, .ptr C1.length]) (C1.set k y ++ [.lst xs])) (mono : ∀ (R R' : D → Store → Prop), (∀ d Cc, R d Cc → R' d Cc) → P (.ptr 0 :: es') [x] R → P (.ptr 0 :: es') [x] R') : callTK 1 kf1 P (.ptr k :: es) C1 Q := by
  have e1 : kf1 (.ptr k :: es) = [k] := rfl
  unfold callTK
  rw [e1]
  refine ⟨rfl, List.nodup_cons.mpr ⟨by simp, List.nodup_nil⟩, fun k' hk' => ⟨x, ?_, hx.alive⟩, ?_⟩
  · simp at hk'; subst hk'; exact hk
  · have e2 : views [k] C1 (.ptr k :: es) = .ptr 0 :: es' := by
      unfold views
      rw [mapWs, he]
      simp [mapW, viewG, posOf]
    have e3 : viewC [k] C1 = [x] := by
      unfold viewC
      simp only [List.map_cons, List.map_nil, hk, Option.getD_some]
      rw [hx.view]
    rw [e2, e3]
    refine mono _ _ (fun d Cc hd => ?_) h
    obtain ⟨y, c', a, b, xs, rfl, hy, rfl, f1, f2, hq⟩ := hd
    have e4 : putS [k] ([y].map (backs [k])) C1 = C1.set k y := by
      show C1.set k (y.mapC id (backG [k])) = _
      rw [hy.view]
    rw [e4]
    refine ⟨a, b, xs, rfl, f1, f2, fun c hc => ?_, fl.set hy.flat, hq⟩
    simp at hc; subst hc; exact hy.ok
theorem cond_i {i : Nat} {o : Bool} {ns : List Int} {x y : Int} {Γ : Slots} {C : Store} {R : D → Store → Prop} (hΓ : Γ[i]? = some (some (.lst o (ns.map .int)))) (h : R (.int (if ns = [] then x else y)) C) : eIf (bB (eBin (oEq false) (eVar i) (eFrz (fLst aNil)))) (eC (.int x)) (eC (.int y)) Γ C R := by
  refine ⟨_, hΓ, Nat.zero_le _, ?_⟩
  refine oEq_ints (o := o) (o' := false) (ns := ns) (ms := []) ⟨_, rfl, ?_⟩
  by_cases he : ns = []
  · rw [if_pos he] at h
    exact goT (by simp [he]) h
  · rw [if_neg he] at h
    exact goF (by simp [he]) h
theorem set_get {C : Store} {k : Nat} {x y : Cell} (hk : C[k]? = some x) : (C.set k y)[k]? = some y := by
  rw [List.getElem?_set_self]
  exact (List.getElem?_eq_some_iff.mp hk).1
theorem app_get {C : Store} {k : Nat} {x y : Cell} (hk : C[k]? = some x) : (C ++ [y])[k]? = some x := by
  rw [List.getElem?_append_left (List.getElem?_eq_some_iff.mp hk).1, hk]
theorem set_other {C : Store} {k j : Nat} {y : Cell} (h : k ≠ j) : (C.set k y)[j]? = C[j]? := List.getElem?_set_ne h
/-- a pile is drawn, told -/
theorem draw_K {ij is : Nat} {o : Bool} {k : Nat} {top a b c : Int} {x : Cell} {C1 : Store} {Γ : Slots} {ns : List Int} {Q : D → Store → Prop} (hj : Γ[ij]? = some (some (.ptr k))) (hs : Γ[is]? = some (some (.lst o (ns.map .int)))) (hk : C1[k]? = some x) (hx : Jar c x)
    (h3 : 3 ≤ top) (h24 : top ≤ 24) (ha : 0 ≤ a ∧ a ≤ 60) (hb : 0 ≤ b ∧ b ≤ 60) (hc : c < 9000) (q : ∀ f st rs c' y, Pil f st rs → (st.length : Int) ≤ top → Jar c' y → c' ≤ c + 405 → Q (pil false f st rs) (C1.set k y)) :
    eCallK 1 kf1 P_Lw_stack (aCons (eVar ij) (aCons (eCallK 1 kf1 P_Lw_size (aCons (eVar ij) (aCons (eVar is) (aCons (eC (.int top)) aNil)))) (aCons (eIf (bB (eBin (oEq false) (eVar is) (eFrz (fLst aNil)))) (eC (.int a)) (eC (.int b))) aNil))) Γ C1 Q := by
  rw [u_eCallK, u_aCons]
  refine ⟨_, hj, ?_⟩
  show aCons _ _ _ _ _
  rw [u_aCons, u_eCallK, u_aCons]
  refine ⟨_, hj, ?_⟩
  show aCons _ _ _ _ _
  rw [u_aCons]
  refine ⟨_, hs, ?_⟩
  show aCons _ _ _ _ _
  rw [u_aCons, u_eC, u_aNil]
  refine callJ (k := k) (es' := [.lst true (ns.map .int), .int top]) hk hx (by simp only [mapWs, mapW, mapWs_ints]) ?_ mono_size
  refine ⟨true, ns, top, c, _, rfl, ⟨h3, h24⟩, rfl, hx, by omega, fun r c2 y2 h1 h2 hy2 hc2 => ⟨y2, c2, rfl, hy2, rfl, ?_⟩⟩
  obtain ⟨n, rfl⟩ := Int.eq_ofNat_of_zero_le (show (0 : Int) ≤ r by omega)
  show aCons _ _ _ _ _
  rw [u_aCons]
  refine cond_i (o := o) (ns := ns) hs ?_
  rw [u_aNil]
  refine callJ (k := k) (x := y2) (es' := [.int (n : Nat), .int (if ns = [] then a else b)]) (set_get hk) hy2 rfl ?_ mono_stack
  refine ⟨n, (if ns = [] then a else b), c2, y2, rfl, rfl, hy2, by omega, by omega, by omega, by split <;> omega, by split <;> omega, fun f st rs c3 y3 hp hl hy3 hc3 => ⟨y3, c3, rfl, hy3, np_pil, ?_⟩⟩
  have := q f st rs c3 y3 hp (by omega) hy3 (by omega)
  rw [← List.set_set (b := y3) (a := y2)] at this
  exact this
/-- a pile is drawn, its list of rules is to be written to -/
theorem draw_T {ij is : Nat} {o : Bool} {k : Nat} {top a b c : Int} {x : Cell} {C1 : Store} {Γ : Slots} {ns : List Int} {Q : D → Store → Prop} (hj : Γ[ij]? = some (some (.ptr k))) (hs : Γ[is]? = some (some (.lst o (ns.map .int)))) (hk : C1[k]? = some x) (hx : Jar c x) (fl : Flat C1)
    (h3 : 3 ≤ top) (h24 : top ≤ 24) (ha : 0 ≤ a ∧ a ≤ 60) (hb : 0 ≤ b ∧ b ≤ 60) (hc : c < 9000) (q : ∀ f st rs c' y, Pil f st rs → (st.length : Int) ≤ top → Jar c' y → c' ≤ c + 405 → Q (pilC C1.length f st) (C1.set k y ++ [.lst (rs.map pD)])) :
    eCallT 1 kf1 P_Lw_stack (aCons (eVar ij) (aCons (eCallK 1 kf1 P_Lw_size (aCons (eVar ij) (aCons (eVar is) (aCons (eC (.int top)) aNil)))) (aCons (eIf (bB (eBin (oEq false) (eVar is) (eFrz (fLst aNil)))) (eC (.int a)) (eC (.int b))) aNil))) Γ C1 Q := by
  rw [e_eCallT, u_aCons]
  refine ⟨_, hj, ?_⟩
  show aCons _ _ _ _ _
  rw [u_aCons, u_eCallK, u_aCons]
  refine ⟨_, hj, ?_⟩
  show aCons _ _ _ _ _
  rw [u_aCons]
  refine ⟨_, hs, ?_⟩
  show aCons _ _ _ _ _
  rw [u_aCons, u_eC, u_aNil]
  refine callJ (k := k) (es' := [.lst true (ns.map .int), .int top]) hk hx (by simp only [mapWs, mapW, mapWs_ints]) ?_ mono_size
  refine ⟨true, ns, top, c, _, rfl, ⟨h3, h24⟩, rfl, hx, by omega, fun r c2 y2 h1 h2 hy2 hc2 => ⟨y2, c2, rfl, hy2, rfl, ?_⟩⟩
  obtain ⟨n, rfl⟩ := Int.eq_ofNat_of_zero_le (show (0 : Int) ≤ r by omega)
  show aCons _ _ _ _ _
  rw [u_aCons]
  refine cond_i (o := o) (ns := ns) hs ?_
  rw [u_aNil]
  refine callJT (k := k) (x := y2) (es' := [.int (n : Nat), .int (if ns = [] then a else b)]) (set_get hk) hy2 (fl.set hy2.flat) rfl ?_ mono_stack
  refine ⟨n, (if ns = [] then a else b), c2, y2, rfl, rfl, hy2, by omega, by omega, by omega, by split <;> omega, by split <;> omega, fun f st rs c3 y3 hp hl hy3 hc3 => ⟨y3, c3, _, _, _, rfl, hy3, rfl, rfl, flat_pairs rs, ?_⟩⟩
  have := q f st rs c3 y3 hp (by omega) hy3 (by omega)
  rw [← List.set_set (b := y3) (a := y2)] at this
  rw [List.length_set]
  exact this
/-- a rule out of a pile's list -/
theorem Pil.out {f st : Str} {rs : List (Int × Int)} (h : Pil f st rs) (j : Nat) : Pil f st (rs.eraseIdx j) := by
  have hs : (rs.eraseIdx j).Sublist rs := List.eraseIdx_sublist ..
  obtain ⟨rk, hrk⟩ := h.acy
  refine ⟨h.fst, h.pos, h.top, h.sts, ⟨Nat.le_trans hs.length_le h.rul.few, fun z hz => h.rul.inn z (hs.subset hz), h.rul.srt.sublist hs⟩, rk, fun z hz => hrk z (hs.subset hz)⟩
theorem er_pairs : ∀ (L : List (Int × Int)) (j : Nat), (L.map pD).eraseIdx j = (L.eraseIdx j).map pD
  | [], _ => by simp
  | _ :: _, 0 => rfl
  | a :: L, j + 1 => by simp only [List.map_cons, List.eraseIdx_cons_succ, er_pairs L j]
/-- pile[2].pop(pull(jar, len(pile[2]))) -/
theorem pop_e {ij ip k m : Nat} {c : Int} {x : Cell} {C1 : Store} {Γ : Slots} {f st : Str} {rs : List (Int × Int)} {Q : D → Store → Prop} (hj : Γ[ij]? = some (some (.ptr k))) (hpp : Γ[ip]? = some (some (pilC m f st))) (hk : C1[k]? = some x) (hx : Jar c x) (hm : C1[m]? = some (.lst (rs.map pD))) (hkm : k ≠ m)
    (hne : rs ≠ []) (hf : rs.length ≤ 60) (hc : c < 10 ^ 6) (q : ∀ (j : Nat) (y : Cell) (d : D), Jar (c + 1) y → Q d ((C1.set k y).set m (.lst ((rs.eraseIdx j).map pD)))) :
    eMl mPopAt (eBin oIxT (eVar ip) (eC (.int 2))) (aCons (eCallK 1 kf1 P_Lw_pull (aCons (eVar ij) (aCons (eCB oLenA (aCons (eBin oIxT (eVar ip) (eC (.int 2))) aNil)) aNil))) aNil) Γ C1 Q := by
  have hz := sizeL
  have h0 : 0 < rs.length := List.length_pos_iff.mpr hne
  have hl : ∀ C : Store, C[m]? = some (.lst (rs.map pD)) → lstOf C (.ptr m) = some (rs.map pD) := fun C h => by simp only [lstOf, h]
  rw [u_eMl]
  refine ⟨_, hpp, _, _, _, rfl, rfl, rfl, rs.map pD, hl _ hm, ?_⟩
  rw [u_aCons]
  refine pull_e (k := k) (m := (rs.length : Nat)) (x := x) hk hx hj (fun R h => ⟨_, hpp, _, _, _, rfl, rfl, rfl, _, _, rfl, hl _ hm, by rw [List.length_map]; exact h⟩) (by omega) (by omega) hc fun r y h0 h1 hy => ?_
  obtain ⟨j, rfl⟩ := Int.eq_ofNat_of_zero_le h0
  have hjl : j < rs.length := by omega
  refine ⟨m, rs.map pD, (j : Nat), j, pD rs[j], rfl, rfl, ?_, by omega, by omega, by rw [List.length_map]; exact seq_ix h0 h1, by rw [List.getElem?_map, List.getElem?_eq_getElem hjl]; rfl, ?_⟩
  · rw [set_other hkm]
    exact hm
  · rw [er_pairs]
    exact q j y _ hy
end L3

namespace L3
open PySem PySem.Spec PyProof.Rows L2
def T_earliest (P_need_pile P_earliest_of : PV) : SV :=
  (sSeq (sDrop (eCall P_need_pile (aCons (eVar 0) aNil)))
  (sRet (eCall P_earliest_of (aCons (eVar 0) aNil))))
abbrev N_earliest : List Str := ["pile"]
def T_need_most (P_is_between P_earliest_of : PV) : SV :=
  (sSeq (sIf (bNot (bB (eCall P_is_between (aCons (eVar 1) (aCons (eC (.int 0)) (aCons (eC (.int 1000000000000000000000000000000)) aNil)))))) sNever sNext)
  (sSeq (sAsg (eCB oMaxL (aCons (eCall P_earliest_of (aCons (eVar 0) aNil)) aNil)) (gvName 2))
  (sIf (bB (eBin oLt (eVar 1) (eVar 2))) sNever sNext)))
abbrev N_need_most : List Str := ["pile", "most", "least"]
def T_to_come (P_in_order P_change : PV) : SV :=
  (sSeq (sAsg (eCell (fBin nRep (eFrz (fLst (aCons (eC (.int 0)) aNil))) (eCB oLenA (aCons (eBin oIxT (eVar 0) (eC (.int 1))) aNil)))) (gvName 1))
  (sSeq (sFor (iLst (eFrz (fRev (eCall P_in_order (aCons (eVar 0) aNil))))) (gvName 2) (sFor (iLst (eBin oIxT (eVar 0) (eC (.int 2)))) (gvTup 2 (gvCons (gvName 3) (gvCons (gvName 4) gvNil))) (sIf (bB (eBin (oEq false) (eVar 3) (eVar 2))) (sAsg (eCB oMax2 (aCons (eBin oIxL (eVar 1) (eVar 3)) (aCons (eBin oAdd (eBin oIxL (eVar 1) (eVar 4)) (eCall P_change (aCons (eVar 0) (aCons (eVar 3) (aCons (eVar 4) aNil))))) aNil))) (gvSubL (eVar 1) (eVar 3))) sNext)))
  (sRet (eVar 1))))
abbrev N_to_come : List Str := ["pile", "found", "paper", "one", "other"]
def T_latest_of (P_to_come P_earliest_of : PV) : SV :=
  (sSeq (sAsg (eCell (fLst aNil)) (gvName 2))
  (sSeq (sFor (iZipD (aCons (eCall P_earliest_of (aCons (eVar 0) aNil)) (aCons (eCall P_to_come (aCons (eVar 0) aNil)) aNil))) (gvTup 2 (gvCons (gvName 3) (gvCons (gvName 4) gvNil))) (sDrop (eMl mAppend (eVar 2) (aCons (eBin oSub (eBin oSub (eVar 1) (eVar 4)) (eBin oMod (eBin oSub (eBin oSub (eVar 1) (eVar 4)) (eVar 3)) (eC (.int 2)))) aNil))))
  (sRet (eVar 2))))
abbrev N_latest_of : List Str := ["pile", "most", "found", "block", "later"]
def T_latest (P_need_pile P_need_most P_latest_of : PV) : SV :=
  (sSeq (sDrop (eCall P_need_pile (aCons (eVar 0) aNil)))
  (sSeq (sDrop (eCall P_need_most (aCons (eVar 0) (aCons (eVar 1) aNil))))
  (sRet (eCall P_latest_of (aCons (eVar 0) (aCons (eVar 1) aNil))))))
abbrev N_latest : List Str := ["pile", "most"]
def T_Lw_on (P_Lw_unlike : PV) : SV :=
  (sSeq (sAsg (eCell (fBin nRep (eFrz (fLst (aCons (eC (.int 0)) aNil))) (eCB oLenA (aCons (eBin oIxT (eVar 0) (eC (.int 1))) aNil)))) (gvName 1))
  (sSeq (sFor (iRange1 (aCons (eCB oLenA (aCons (eVar 1) aNil)) aNil)) (gvName 2) (sFor (iLst (eBin oIxT (eVar 0) (eC (.int 2)))) (gvTup 2 (gvCons (gvName 3) (gvCons (gvName 4) gvNil))) (sAsg (eCB oMax2 (aCons (eBin oIxL (eVar 1) (eVar 3)) (aCons (eBin oAdd (eBin oIxL (eVar 1) (eVar 4)) (eCall P_Lw_unlike (aCons (eVar 0) (aCons (eVar 3) (aCons (eVar 4) aNil))))) aNil))) (gvSubL (eVar 1) (eVar 3)))))
  (sRet (eVar 1))))
abbrev N_Lw_on : List Str := ["_law_stack_here", "_law_found", "_law_lap", "_law_one", "_law_two"]
end L3

namespace L3
open PySem PySem.Spec PyProof.Rows L2
def T_no_slack (P_need_pile P_need_most P_latest_of P_earliest_of : PV) : SV :=
  (sSeq (sDrop (eCall P_need_pile (aCons (eVar 0) aNil)))
  (sSeq (sDrop (eCall P_need_most (aCons (eVar 0) (aCons (eVar 1) aNil))))
  (sSeq (sAsg (eFrz (fListZip (aCons (eCall P_earliest_of (aCons (eVar 0) aNil)) (aCons (eCall P_latest_of (aCons (eVar 0) (aCons (eVar 1) aNil))) aNil)))) (gvName 2))
  (sRet (eFrz (fLc [3, 4, 5] (iEnumD (aCons (eVar 2) aNil)) (gvTup 2 (gvCons (gvName 3) (gvCons (gvTup 2 (gvCons (gvName 4) (gvCons (gvName 5) gvNil))) gvNil))) (bB (eBin (oEq false) (eVar 4) (eVar 5))) (eVar 3)))))))
abbrev N_no_slack : List Str := ["pile", "most", "both", "paper", "one", "other"]
def T_Longest___init__ (P_need_pile P_earliest_of P_to_come P_in_order P_base_of P_change : PV) : SV :=
  (sSeq (sDrop (eCall P_need_pile (aCons (eVar 1) aNil)))
  (sSeq (sFldS "Longest" "ahead_held" (eVar 0) (eCall P_earliest_of (aCons (eVar 1) aNil)))
  (sSeq (sFldS "Longest" "later_held" (eVar 0) (eCall P_to_come (aCons (eVar 1) aNil)))
  (sSeq (sFldS "Longest" "most_held" (eVar 0) (eCB oMaxL (aCons (eFld "Longest" "ahead_held" (eVar 0)) aNil)))
  (sSeq (sAsg (eFrz (fListZip (aCons (eFld "Longest" "ahead_held" (eVar 0)) (aCons (eFld "Longest" "later_held" (eVar 0)) aNil)))) (gvName 2))
  (sSeq (sFldS "Longest" "some_held" (eVar 0) (eFrz (fLc [3, 4, 5] (iEnumD (aCons (eVar 2) aNil)) (gvTup 2 (gvCons (gvName 3) (gvCons (gvTup 2 (gvCons (gvName 4) (gvCons (gvName 5) gvNil))) gvNil))) (bB (eBin (oEq false) (eBin oAdd (eVar 4) (eVar 5)) (eFld "Longest" "most_held" (eVar 0)))) (eVar 3))))
  (sSeq (sFldS "Longest" "order_held" (eVar 0) (eFrz (fLc [3] (iLst (eCall P_in_order (aCons (eVar 1) aNil))) (gvName 3) (bB (eBin (oIn false) (eVar 3) (eFld "Longest" "some_held" (eVar 0)))) (eVar 3))))
  (sSeq (sFldS "Longest" "begins_held" (eVar 0) (eFrz (fLc [3] (iLst (eFld "Longest" "some_held" (eVar 0))) (gvName 3) (bB (eBin (oEq false) (eBin oIxL (eFld "Longest" "ahead_held" (eVar 0)) (eVar 3)) (eCall P_base_of (aCons (eVar 1) (aCons (eVar 3) aNil))))) (eVar 3))))
  (sSeq (sFldS "Longest" "tight_held" (eVar 0) (eCell (fLst aNil)))
  (sFor (iLst (eBin oIxT (eVar 1) (eC (.int 2)))) (gvTup 2 (gvCons (gvName 6) (gvCons (gvName 7) gvNil))) (sIf (bB (eBin (oEq false) (eBin oAdd (eBin oAdd (eBin oIxL (eFld "Longest" "ahead_held" (eVar 0)) (eVar 6)) (eCall P_change (aCons (eVar 1) (aCons (eVar 6) (aCons (eVar 7) aNil))))) (eBin oIxL (eFld "Longest" "later_held" (eVar 0)) (eVar 7))) (eFld "Longest" "most_held" (eVar 0)))) (sDrop (eMl mAppend (eFld "Longest" "tight_held" (eVar 0)) (aCons (eTup (aCons (eVar 6) (aCons (eVar 7) aNil))) aNil))) sNext)))))))))))
abbrev N_Longest___init__ : List Str := ["self", "pile", "both", "paper", "ahead", "later", "one", "other"]
def T_in_some (P_Longest___init__ : PV) : SV :=
  (sRet (eFrz (fCB nList (aCons (eFld "Longest" "some_held" (eMake "Longest" P_Longest___init__ (aCons (eVar 0) aNil))) aNil))))
abbrev N_in_some : List Str := ["pile"]
def T_Longest_is_end : SV :=
  (sRet (eBin (oEq false) (eBin oIxL (eFld "Longest" "ahead_held" (eVar 0)) (eVar 1)) (eFld "Longest" "most_held" (eVar 0))))
abbrev N_Longest_is_end : List Str := ["self", "paper"]
def T_longest (P_Longest___init__ P_Longest_is_end : PV) : SV :=
  (sSeq (sAsg (eMake "Longest" P_Longest___init__ (aCons (eVar 0) aNil)) (gvName 1))
  (sSeq (sAsg (eCell (fLst (aCons (eBin oIxL (eFld "Longest" "begins_held" (eVar 1)) (eC (.int 0))) aNil))) (gvName 2))
  (sSeq (sWhile (bNot (bB (eMethR "Longest" "is_end" P_Longest_is_end (eVar 1) (aCons (eBin oIxL (eVar 2) (eUn oNeg (eC (.int 1)))) aNil)))) (sDrop (eMl mAppend (eVar 2) (aCons (eCB oMinL (aCons (eFrz (fLc [3, 4] (iLst (eFld "Longest" "tight_held" (eVar 1))) (gvTup 2 (gvCons (gvName 3) (gvCons (gvName 4) gvNil))) (bB (eBin (oEq false) (eVar 3) (eBin oIxL (eVar 2) (eUn oNeg (eC (.int 1)))))) (eVar 4))) aNil)) aNil))))
  (sRet (eVar 2)))))
abbrev N_longest : List Str := ["pile", "made", "found", "one", "other"]
def T_Lw_chains : SV :=
  (sSeq (sAsg (eCell (fLc [2] (iRange1 (aCons (eCB oLenA (aCons (eBin oIxT (eVar 0) (eC (.int 1))) aNil)) aNil)) (gvName 2) bYes (eFrz (fLst (aCons (eVar 2) aNil))))) (gvName 1))
  (sSeq (sAsg (eC (.int 0)) (gvName 3))
  (sSeq (sWhile (bB (eBin oLt (eVar 3) (eCB oLenA (aCons (eVar 1) aNil)))) (sSeq (sDrop (eMl mExtend (eVar 1) (aCons (eFrz (fLc [2, 4] (iLst (eBin oIxT (eVar 0) (eC (.int 2)))) (gvTup 2 (gvCons (gvName 2) (gvCons (gvName 4) gvNil))) (bB (eBin (oEq false) (eVar 2) (eBin oIxL (eBin oIxL (eVar 1) (eVar 3)) (eUn oNeg (eC (.int 1)))))) (eFrz (fBin nCat (eBin oIxL (eVar 1) (eVar 3)) (eFrz (fLst (aCons (eVar 4) aNil))))))) aNil)))
  (sAsg (eBin oAdd (eVar 3) (eC (.int 1))) (gvName 3))))
  (sRet (eVar 1)))))
abbrev N_Lw_chains : List Str := ["_law_stack_here", "_law_found", "_law_one", "_law_at", "_law_two"]
def T_is_chain : SV :=
  (sSeq (sIf (bOr (bNot (bB (eIsi .list (eVar 1)))) (bB (eBin (oEq false) (eVar 1) (eFrz (fLst aNil))))) (sRet (eC (.bl false))) sNext)
  (sSeq (sAsg (eCB oLenA (aCons (eBin oIxT (eVar 0) (eC (.int 1))) aNil)) (gvName 2))
  (sSeq (sIf (bNot (bB (eCB oAll (aCons (eFrz (fLc [3] (iLst (eVar 1)) (gvName 3) bYes (eAnd (eIsi .int (eVar 3)) (eAnd (eNot (eIsi .bool (eVar 3))) (eChain oLe oLt (eC (.int 0)) (eVar 3) (eVar 2)))))) aNil)))) (sRet (eC (.bl false))) sNext)
  (sRet (eCB oAll (aCons (eFrz (fLc [3, 4] (iZipD (aCons (eVar 1) (aCons (eFrz (fSlL (eVar 1) (oSome (eC (.int 1))) oNone)) aNil))) (gvTup 2 (gvCons (gvName 3) (gvCons (gvName 4) gvNil))) bYes (eBin (oIn false) (eTup (aCons (eVar 3) (aCons (eVar 4) aNil))) (eBin oIxT (eVar 0) (eC (.int 2)))))) aNil))))))
abbrev N_is_chain : List Str := ["pile", "thing", "many", "one", "other"]
def T_length (P_need_pile P_is_chain P_base_of P_change : PV) : SV :=
  (sSeq (sDrop (eCall P_need_pile (aCons (eVar 0) aNil)))
  (sSeq (sIf (bNot (bB (eCall P_is_chain (aCons (eVar 0) (aCons (eVar 1) aNil))))) sNever sNext)
  (sRet (eBin oAdd (eCall P_base_of (aCons (eVar 0) (aCons (eBin oIxL (eVar 1) (eC (.int 0))) aNil))) (eCB oSum (aCons (eFrz (fLc [2, 3] (iZipD (aCons (eVar 1) (aCons (eFrz (fSlL (eVar 1) (oSome (eC (.int 1))) oNone)) aNil))) (gvTup 2 (gvCons (gvName 2) (gvCons (gvName 3) gvNil))) bYes (eCall P_change (aCons (eVar 0) (aCons (eVar 2) (aCons (eVar 3) aNil)))))) aNil))))))
abbrev N_length : List Str := ["pile", "chain", "one", "other"]
def T_Lw_long (P_Lw_unlike : PV) : SV :=
  (sSeq (sAsg (eC (.int 0)) (gvName 2))
  (sSeq (sFor (iRangeDn (aCons (eBin oSub (eCB oLenA (aCons (eVar 1) aNil)) (eC (.int 1))) (aCons (eC (.int 0)) (aCons (eUn oNeg (eC (.int 1))) aNil)))) (gvName 3) (sAsg (eBin oAdd (eVar 2) (eCall P_Lw_unlike (aCons (eVar 0) (aCons (eBin oIxL (eVar 1) (eVar 3)) (aCons (eBin oIxL (eVar 1) (eBin oSub (eVar 3) (eC (.int 1)))) aNil))))) (gvName 2)))
  (sRet (eBin oAdd (eVar 2) (eCB oInt (aCons (eBin (oEq true) (eBin oIxS (eBin oIxT (eVar 0) (eC (.int 1))) (eBin oIxL (eVar 1) (eC (.int 0)))) (eBin oIxT (eVar 0) (eC (.int 0)))) aNil))))))
abbrev N_Lw_long : List Str := ["_law_stack_here", "_law_line", "_law_found", "_law_k"]
def T_Longest_ways_on (P_Longest_is_end : PV) : SV :=
  (sSeq (sAsg (eCell fDk0) (gvName 1))
  (sSeq (sFor (iLst (eFrz (fRev (eFld "Longest" "order_held" (eVar 0))))) (gvName 2) (sAsg (eBin oAdd (eCB oInt (aCons (eMethR "Longest" "is_end" P_Longest_is_end (eVar 0) (aCons (eVar 2) aNil)) aNil)) (eCB oSum (aCons (eFrz (fLc [3, 4] (iLst (eFld "Longest" "tight_held" (eVar 0))) (gvTup 2 (gvCons (gvName 3) (gvCons (gvName 4) gvNil))) (bB (eBin (oEq false) (eVar 3) (eVar 2))) (eDGet (eVar 1) (eVar 4)))) aNil))) (gvSubD (eVar 1) (eVar 2))))
  (sRet (eVar 1))))
abbrev N_Longest_ways_on : List Str := ["self", "found", "paper", "p", "q"]
def T_Longest_counted (P_Longest_ways_on : PV) : SV :=
  (sSeq (sAsg (eMethR "Longest" "ways_on" P_Longest_ways_on (eVar 0) aNil) (gvName 1))
  (sRet (eCB oSum (aCons (eFrz (fLc [2] (iLst (eFld "Longest" "begins_held" (eVar 0))) (gvName 2) bYes (eDGet (eVar 1) (eVar 2)))) aNil))))
abbrev N_Longest_counted : List Str := ["self", "ways", "paper"]
def T_longest_counted (P_Longest___init__ P_Longest_counted : PV) : SV :=
  (sRet (eMethR "Longest" "counted" P_Longest_counted (eMake "Longest" P_Longest___init__ (aCons (eVar 0) aNil)) aNil))
abbrev N_longest_counted : List Str := ["pile"]
def T_Longest_ways_there : SV :=
  (sSeq (sAsg (eCell fDk0) (gvName 1))
  (sSeq (sFor (iLst (eFld "Longest" "order_held" (eVar 0))) (gvName 2) (sAsg (eBin oAdd (eCB oInt (aCons (eBin (oIn false) (eVar 2) (eFld "Longest" "begins_held" (eVar 0))) aNil)) (eCB oSum (aCons (eFrz (fLc [3, 4] (iLst (eFld "Longest" "tight_held" (eVar 0))) (gvTup 2 (gvCons (gvName 3) (gvCons (gvName 4) gvNil))) (bB (eBin (oEq false) (eVar 4) (eVar 2))) (eDGet (eVar 1) (eVar 3)))) aNil))) (gvSubD (eVar 1) (eVar 2))))
  (sRet (eVar 1))))
abbrev N_Longest_ways_there : List Str := ["self", "found", "paper", "p", "q"]
def T_in_all (P_Longest___init__ P_Longest_ways_on P_Longest_ways_there P_Longest_counted : PV) : SV :=
  (sSeq (sAsg (eMake "Longest" P_Longest___init__ (aCons (eVar 0) aNil)) (gvName 1))
  (sSeq (sAsg (eTup (aCons (eMethR "Longest" "ways_there" P_Longest_ways_there (eVar 1) aNil) (aCons (eMethR "Longest" "ways_on" P_Longest_ways_on (eVar 1) aNil) aNil))) (gvTup 2 (gvCons (gvName 2) (gvCons (gvName 3) gvNil))))
  (sSeq (sAsg (eMethR "Longest" "counted" P_Longest_counted (eVar 1) aNil) (gvName 4))
  (sRet (eFrz (fLc [5] (iLst (eFld "Longest" "some_held" (eVar 1))) (gvName 5) (bB (eBin (oEq false) (eBin oMul (eDGet (eVar 2) (eVar 5)) (eDGet (eVar 3) (eVar 5))) (eVar 4))) (eVar 5)))))))
abbrev N_in_all : List Str := ["pile", "made", "there", "on", "many", "paper"]
end L3

/-! changes still to come: the same on turned rules; earliest and latest blocks -/
namespace L3
open PySem PySem.Spec PyProof.Rows L2
def rv (rs : List (Int × Int)) : List (Int × Int) := rs.map fun z => (z.2, z.1)
theorem rv_mem {rs : List (Int × Int)} {z : Int × Int} : z ∈ rv rs ↔ (z.2, z.1) ∈ rs := by
  unfold rv
  rw [List.mem_map]
  constructor
  · rintro ⟨y, hy, rfl⟩; exact hy
  · exact fun h => ⟨_, h, rfl⟩
abbrev OFix (st : Str) (rs : List (Int × Int)) (u : Nat → Int) : Prop := Fix st.length (fun _ => 0) (chOf st) (rv rs) u
theorem rv_inn {n : Nat} {rs : List (Int × Int)} (hr : Rul n rs) : ∀ z, z ∈ rv rs → 0 ≤ z.1 ∧ z.1 < n ∧ 0 ≤ z.2 ∧ z.2 < n ∧ z.1 ≠ z.2 := fun z hz => by
  obtain ⟨a, b, c, d, e⟩ := hr.inn _ (rv_mem.mp hz)
  exact ⟨c, d, a, b, fun h => e h.symm⟩
theorem rv_acy {n : Nat} {rs : List (Int × Int)} (hr : Rul n rs) (hk : ∃ rk : Int → Nat, ∀ z, z ∈ rs → rk z.1 < rk z.2) : ∃ rk : Int → Nat, ∀ z, z ∈ rv rs → rk z.1 < rk z.2 := by
  obtain ⟨r, h1, h2⟩ := ranks hr.inn hk
  refine ⟨fun x => n - r x.toNat, fun z hz => ?_⟩
  have hz' := rv_mem.mp hz
  have h3 := h2 _ hz'
  simp only at h3
  obtain ⟨a, b, c, d, e⟩ := hr.inn _ hz'
  have h4 := h1 z.1.toNat (by omega)
  show n - r z.1.toNat < n - r z.2.toNat
  omega
theorem ch_comm (st : Str) (a b : Nat) : chOf st a b = chOf st b a := neq_comm _ _
theorem Pil.ofix {f st : Str} {rs : List (Int × Int)} (hp : Pil f st rs) : ∃ u, OFix st rs u := fix_ex _ _ (rv_inn hp.rul) (rv_acy hp.rul hp.acy)
theorem Pil.pfix {f st : Str} {rs : List (Int × Int)} (hp : Pil f st rs) : ∃ v, PFix f st rs v := fix_ex _ _ hp.rul.inn hp.acy
theorem Pil.oeq {f st : Str} {rs : List (Int × Int)} (hp : Pil f st rs) {u w : Nat → Int} (U : OFix st rs u) (W : OFix st rs w) : ∀ j, j < st.length → u j = w j := Fix.eq (fun z hz => ⟨(rv_inn hp.rul z hz).1, (rv_inn hp.rul z hz).2.1⟩) (rv_acy hp.rul hp.acy) U W
theorem Pil.peq {f st : Str} {rs : List (Int × Int)} (hp : Pil f st rs) {u w : Nat → Int} (U : PFix f st rs u) (W : PFix f st rs w) : ∀ j, j < st.length → u j = w j := Fix.eq hp.r2 hp.acy U W
theorem wL_congr {n : Nat} {u w : Nat → Int} (h : ∀ j, j < n → u j = w j) : wL n u = wL n w := by
  unfold wL
  apply List.map_congr_left
  intro j hj
  rw [h j (by simpa using hj)]
theorem ofix_up {st : Str} {rs : List (Int × Int)} {u : Nat → Int} (U : OFix st rs u) {z : Int × Int} (hz : z ∈ rs) : u z.2.toNat + chOf st z.1.toNat z.2.toNat ≤ u z.1.toNat := by
  have := U.up (z.2, z.1) (rv_mem.mpr hz)
  rw [ch_comm]
  exact this
theorem ofix_by {st : Str} {rs : List (Int × Int)} {u : Nat → Int} (U : OFix st rs u) {j : Nat} (hj : j < st.length) : u j = 0 ∨ ∃ z, z ∈ rs ∧ z.1 = (j : Int) ∧ u j = u z.2.toNat + chOf st j z.2.toNat := by
  rcases U.by_ j hj with e | ⟨z, hz, e1, e2⟩
  · exact .inl e
  · exact .inr ⟨(z.2, z.1), rv_mem.mp hz, e1, by rw [ch_comm]; exact e2⟩
theorem ofix_nn {st : Str} {rs : List (Int × Int)} {u : Nat → Int} (U : OFix st rs u) {j : Nat} (hj : j < st.length) : 0 ≤ u j := U.low j hj
/-- the order turned about: what a rule leads to stands ahead -/
theorem topo_rev {n : Nat} {rs : List (Int × Int)} {ord pre post : List Int} {p : Int} (hr : Rul n rs) (h1 : ord.Perm (upto n)) (h2 : Topo rs ord) (e : ord.reverse = pre ++ p :: post) {z : Int × Int} (hz : z ∈ rs) (ez : z.1 = p) : z.2 ∈ pre := by
  have nd : ord.Nodup := h1.nodup_iff.mpr (List.pairwise_map.mpr (List.Pairwise.imp (fun h e => h (Int.ofNat.inj e)) (List.nodup_range (n := n))))
  have eo : ord = post.reverse ++ p :: pre.reverse := by
    have := congrArg List.reverse e
    rw [List.reverse_reverse] at this
    rw [this]
    simp
  obtain ⟨a0, a1, b0, b1, hne⟩ := hr.inn z hz
  have hm : z.2 ∈ ord := h1.mem_iff.mpr (upto_mem.mpr ⟨b0, b1⟩)
  rw [eo] at hm
  rcases List.mem_append.mp hm with hm | hm
  · obtain ⟨a, b, hab⟩ := List.append_of_mem hm
    have e3 : ord = a ++ z.2 :: (b ++ p :: pre.reverse) := by rw [eo, hab]; simp
    have h4 := h2 a z.2 _ e3 z hz rfl
    rw [ez] at h4
    rw [e3] at nd
    have h5 := (List.nodup_append.mp nd).2.2 p h4 p (by simp)
    exact absurd rfl h5
  · rcases List.mem_cons.mp hm with hm | hm
    · exact absurd (ez.trans hm.symm) hne
    · simpa using hm
def P_to_come : PV := fun ds C Q => ∃ (o : Bool) (f st : Str) (rs : List (Int × Int)), ds = [pil o f st rs] ∧ Pil f st rs ∧ ∀ u, OFix st rs u → Q (.lst false (wL st.length u)) C
theorem max_set {n : Nat} {v : Nat → Int} {j : Nat} {x : Int} (hj : j < n) : (wL n v).set j (.int (max (v j) x)) = wL n (fun k => if k = j then max (v k) x else v k) := by
  rw [wL_set hj]
  congr 1
  funext k
  by_cases e : k = j
  · subst e; simp
  · rw [if_neg e, if_neg e]
theorem v_to_come (ds : List D) (C : Store) (Q3 : D → Store → Prop) (h : P_to_come ds C Q3) (hC : C.length = 0) : T_to_come P_in_order P_change (enF 0 Q3) (start3 N_to_come ds) C := by
  obtain ⟨o, f, st, rs, rfl, hp, q⟩ := h
  rw [List.length_eq_zero_iff] at hC
  subst hC
  have hz := sizeL
  have h24 := hp.top
  have hr := hp.rul
  obtain ⟨U, hU⟩ := hp.ofix
  refine ⟨by rw [hz]; show 1 ≤ 16777216; decide, _, rfl, _, _, _, rfl, rfl, rfl, by omega, _, (st.length : Nat), rfl, rfl, by omega, by omega, by simp; omega, rfl, ?_⟩
  rw [rep0]
  refine ⟨_, rfl, true, f, st, rs, views_pil1, hp, fun ord h1 h2 => ⟨np_ints, _, rfl, _, rfl, rfl, ?_⟩⟩
  rw [← List.map_reverse]
  refine ⟨noptrs_ints _, ?_⟩
  have mem : ∀ x, x ∈ ord → ∃ i : Nat, i < st.length ∧ x = (i : Int) := fun x hx => by
    obtain ⟨i, hi, rfl⟩ := List.mem_map.mp (h1.mem_iff.mp hx)
    exact ⟨i, by simpa using hi, rfl⟩
  have nd : ord.reverse.Nodup := by
    exact ((List.reverse_perm ord).trans h1).nodup_iff.mpr (List.pairwise_map.mpr (List.Pairwise.imp (fun h e => h (Int.ofNat.inj e)) (List.nodup_range (n := st.length))))
  refine forW_run (fun ds Γ C => ∃ (pre post : List Int) (v : Nat → Int), ord.reverse = pre ++ post ∧ ds = post.map .int ∧ C = [.lst (wL st.length v)] ∧ (∀ j : Nat, j < st.length → ((j : Int) ∈ pre → v j = U j) ∧ ((j : Int) ∉ pre → v j = 0)) ∧ ∃ a b c, Γ = [some (pil o f st rs), some (.ptr 0), a, b, c]) ?step ?stop _ _ _ ⟨[], ord.reverse, fun _ => 0, rfl, rfl, rfl, fun j hj => ⟨fun h => by simp at h, fun _ => rfl⟩, _, _, _, rfl⟩
  case step =>
    rintro d ds Γ C ⟨pre, post, v, e1, e2, rfl, hI, a, b, c, rfl⟩ R hR
    cases post with
    | nil => cases e2
    | cons p post =>
    simp only [List.map_cons, List.cons.injEq] at e2
    obtain ⟨rfl, rfl⟩ := e2
    obtain ⟨pn, hpn, rfl⟩ := mem p (by rw [← List.mem_reverse, e1]; simp)
    have hpp : (pn : Int) ∉ pre := fun h => by
      rw [e1] at nd
      exact (List.nodup_append.mp nd).2.2 _ h _ (by simp) rfl
    have hUp := hU.low pn hpn
    refine ⟨_, rfl, _, _, _, rfl, rfl, rfl, _, rfl, rfl, np_pairs rs, ?_⟩
    refine forW_run (fun ds Γ C => ∃ (dn rest : List (Int × Int)) (v : Nat → Int), rs = dn ++ rest ∧ ds = rest.map pD ∧ C = [.lst (wL st.length v)] ∧ (∀ j : Nat, j < st.length → ((j : Int) ∈ pre → v j = U j) ∧ ((j : Int) ∉ pre → j ≠ pn → v j = 0)) ∧ (0 ≤ v pn ∧ v pn ≤ U pn ∧ ∀ z, z ∈ dn → z.1 = (pn : Int) → U z.2.toNat + chOf st pn z.2.toNat ≤ v pn) ∧ ∃ b c, Γ = [some (pil o f st rs), some (.ptr 0), some (.int (pn : Int)), b, c]) ?step2 ?stop2 _ _ _ ⟨[], rs, v, rfl, rfl, rfl, fun j hj => ⟨(hI j hj).1, fun h _ => (hI j hj).2 h⟩, ⟨by rw [(hI pn hpn).2 hpp]; exact Int.le_refl _, by rw [(hI pn hpn).2 hpp]; exact hUp, fun z h => by simp at h⟩, _, _, rfl⟩
    case step2 =>
      rintro d ds Γ C ⟨dn, rest, v, e3, e4, rfl, I, ⟨J0, J1, J2⟩, b, c, rfl⟩ R2 hR2
      cases rest with
      | nil => cases e4
      | cons z rest =>
      simp only [List.map_cons, List.cons.injEq] at e4
      obtain ⟨rfl, rfl⟩ := e4
      have hzm : z ∈ rs := by rw [e3]; simp
      obtain ⟨a1, a2, a3, a4, a5⟩ := hr.inn z hzm
      obtain ⟨i, hi⟩ := Int.eq_ofNat_of_zero_le a1
      obtain ⟨j, hj⟩ := Int.eq_ofNat_of_zero_le a3
      have hi' : i < st.length := by omega
      have hj' : j < st.length := by omega
      have hUz := ofix_up hU hzm
      have htop : z.1 = (pn : Int) → z.2 ∈ pre := fun h => topo_rev hr h1 h2 e1 hzm h
      obtain ⟨zi, zj⟩ := z
      simp only at hi hj
      subst hi hj
      refine ⟨_, rfl, rfl, _, _, rfl, _, _, rfl, rfl, ?_⟩
      refine ⟨_, rfl, _, rfl, _, rfl, ?_⟩
      by_cases he : (i : Int) = (pn : Int)
      · have ei : i = pn := by omega
        subst ei
        refine goT (by simp) ?_
        have hvj : v j = U j := (I j hj').1 (htop rfl)
        refine ⟨_, rfl, _, rfl, _, _, _, rfl, rfl, wL_at hi', ?_⟩
        refine ⟨_, rfl, _, rfl, _, _, _, rfl, rfl, wL_at hj', ?_⟩
        refine ⟨_, rfl, _, rfl, _, rfl, true, f, st, rs, i, j, by rw [views_pil, views_int, views_int, views_nil], hp, hi', hj', rfl, ?_⟩
        refine ⟨_, _, rfl, rfl, _, _, rfl, ?_⟩
        refine ⟨_, rfl, _, rfl, 0, wL st.length v, _, i, rfl, rfl, rfl, by rw [wL_len]; exact ix_nat hi', ?_⟩
        show R2 _ [Cell.lst ((wL st.length v).set i (.int (max (v i) (v j + chOf st i j))))]
        rw [max_set hi']
        simp only [Int.toNat_natCast] at hUz
        refine hR2 _ _ ⟨dn ++ [((i : Int), (j : Int))], rest, _, by rw [e3]; simp, rfl, rfl, fun k hk => ⟨fun h => ?_, fun h hne => ?_⟩, ⟨?_, ?_, fun y hy ey => ?_⟩, _, _, rfl⟩
        · have : k ≠ i := fun e => by subst e; exact hpp h
          simp only [if_neg this]
          exact (I k hk).1 h
        · simp only [if_neg hne]
          exact (I k hk).2 h hne
        · simp only [if_true]; omega
        · simp only [if_true]; omega
        · simp only [if_true]
          rcases List.mem_append.mp hy with h | h
          · have := J2 y h ey
            omega
          · simp at h
            subst h
            simp only [Int.toNat_natCast]
            omega
      · refine goF (by simp; omega) ?_
        refine hR2 _ _ ⟨dn ++ [((i : Int), (j : Int))], rest, v, by rw [e3]; simp, rfl, rfl, I, ⟨J0, J1, fun y hy ey => ?_⟩, _, _, rfl⟩
        rcases List.mem_append.mp hy with h | h
        · exact J2 y h ey
        · simp at h
          subst h
          exact absurd ey he
    case stop2 =>
      rintro Γ C ⟨dn, rest, v, e3, e4, rfl, I, ⟨J0, J1, J2⟩, b, c, rfl⟩
      cases rest with
      | cons z rest => cases e4
      | nil =>
      rw [List.append_nil] at e3
      subst e3
      have evp : v pn = U pn := by
        rcases ofix_by hU hpn with e | ⟨z, hz, e1, e2⟩
        · omega
        · have := J2 z hz e1
          omega
      refine hR _ _ ⟨pre ++ [(pn : Int)], post, v, by rw [e1]; simp, rfl, rfl, fun j hj => ⟨fun h => ?_, fun h => ?_⟩, _, _, _, rfl⟩
      · rcases List.mem_append.mp h with h | h
        · exact (I j hj).1 h
        · simp at h
          have : j = pn := by omega
          rw [this]; exact evp
      · exact (I j hj).2 (fun z => h (List.mem_append.mpr (.inl z))) fun e => h (by rw [e]; simp)
  case stop =>
    rintro Γ C ⟨pre, post, v, e1, e2, rfl, hI, a, b, c, rfl⟩
    cases post with
    | cons p post => cases e2
    | nil =>
    rw [List.append_nil] at e1
    refine ⟨_, rfl, ?_⟩
    show Q3 (fin 0 _ (.ptr 0)) (finS 0 _)
    rw [fin_wL rfl, finS0]
    have : wL st.length v = wL st.length U := wL_congr fun j hj => (hI j hj).1 (by
      rw [← e1, List.mem_reverse]
      exact h1.mem_iff.mpr (upto_mem.mpr ⟨by omega, by omega⟩))
    rw [this]
    exact q U hU
def P_Lw_on : PV := fun ds C Q => ∃ (o : Bool) (f st : Str) (rs : List (Int × Int)), ds = [pil o f st rs] ∧ Pil f st rs ∧ ∀ u, OFix st rs u → Q (.lst false (wL st.length u)) C
theorem v_Lw_on (ds : List D) (C : Store) (Q3 : D → Store → Prop) (h : P_Lw_on ds C Q3) (hC : C.length = 0) : T_Lw_on P_Lw_unlike (enF 0 Q3) (start3 N_Lw_on ds) C := by
  obtain ⟨o, f, st, rs, rfl, hp, q⟩ := h
  rw [List.length_eq_zero_iff] at hC
  subst hC
  have hz := sizeL
  have h24 := hp.top
  have hr := hp.rul
  obtain ⟨V, hV⟩ := hp.ofix
  obtain ⟨r, hr1, hr2⟩ := ranks (rv_inn hr) (rv_acy hr hp.acy)
  refine ⟨by rw [hz]; show 1 ≤ 16777216; decide, _, rfl, _, _, _, rfl, rfl, rfl, by omega, _, (st.length : Nat), rfl, rfl, by omega, by omega, by simp; omega, rfl, ?_⟩
  rw [rep0]
  refine ⟨_, rfl, _, _, rfl, rfl, st.length, by rw [wL_len], by omega, by omega, rfl, np_rg' 0 _, ?_⟩
  refine forW_run (fun ds Γ C => ∃ (k : Nat) (v : Nat → Int), k + ds.length = st.length ∧ C = [.lst (wL st.length v)] ∧ RInv st.length (fun _ => 0) (chOf st) (rv rs) r V k [] v ∧ ∃ a b c, Γ = [some (pil o f st rs), some (.ptr 0), a, b, c]) ?step ?stop _ _ _ ⟨0, fun _ => 0, by rw [rg_len']; simp, rfl, RInv.start hV, _, _, _, rfl⟩
  case step =>
    rintro d ds Γ C ⟨k, v, hk, rfl, hI, a, b, c, rfl⟩ R hR
    simp only [List.length_cons] at hk
    refine ⟨_, rfl, _, _, _, rfl, rfl, rfl, _, rfl, rfl, np_pairs rs, ?_⟩
    refine forW_run (fun ds Γ C => ∃ (dn rest : List (Int × Int)) (v : Nat → Int), rs = dn ++ rest ∧ ds = rest.map pD ∧ C = [.lst (wL st.length v)] ∧ RInv st.length (fun _ => 0) (chOf st) (rv rs) r V k (rv dn) v ∧ ∃ a b c, Γ = [some (pil o f st rs), some (.ptr 0), a, b, c]) ?step2 ?stop2 _ _ _ ⟨[], rs, v, rfl, rfl, rfl, hI, _, _, _, rfl⟩
    case step2 =>
      rintro d ds Γ C ⟨dn, rest, v, e3, e4, rfl, I, a, b, c, rfl⟩ R2 hR2
      cases rest with
      | nil => cases e4
      | cons z rest =>
      simp only [List.map_cons, List.cons.injEq] at e4
      obtain ⟨rfl, rfl⟩ := e4
      have hzm : z ∈ rs := by rw [e3]; simp
      obtain ⟨a1, a2, a3, a4, a5⟩ := hr.inn z hzm
      obtain ⟨i, hi⟩ := Int.eq_ofNat_of_zero_le a1
      obtain ⟨j, hj⟩ := Int.eq_ofNat_of_zero_le a3
      have hi' : i < st.length := by omega
      have hj' : j < st.length := by omega
      obtain ⟨zi, zj⟩ := z
      simp only at hi hj
      subst hi hj
      have st1 := I.step (a := j) (b := i) hV (rv_mem.mpr hzm) hj' hi'
      refine ⟨_, rfl, rfl, _, _, rfl, _, _, rfl, rfl, ?_⟩
      refine ⟨_, rfl, _, rfl, _, _, _, rfl, rfl, wL_at hi', ?_⟩
      refine ⟨_, rfl, _, rfl, _, _, _, rfl, rfl, wL_at hj', ?_⟩
      refine ⟨_, rfl, _, rfl, _, rfl, true, f, st, rs, i, j, by rw [views_pil, views_int, views_int, views_nil], hp, hi', hj', rfl, ?_⟩
      refine ⟨_, _, rfl, rfl, _, _, rfl, ?_⟩
      refine ⟨_, rfl, _, rfl, 0, wL st.length v, _, i, rfl, rfl, rfl, by rw [wL_len]; exact ix_nat hi', ?_⟩
      show R2 _ [Cell.lst ((wL st.length v).set i (.int (max (v i) (v j + chOf st i j))))]
      rw [max_set hi', ch_comm]
      refine hR2 _ _ ⟨dn ++ [((i : Int), (j : Int))], rest, _, by rw [e3]; simp, rfl, rfl, ?_, _, _, _, rfl⟩
      have e : rv (dn ++ [((i : Int), (j : Int))]) = rv dn ++ [((j : Int), (i : Int))] := by simp [rv]
      rw [e]
      exact st1
    case stop2 =>
      rintro Γ C ⟨dn, rest, v, e3, e4, rfl, I, a, b, c, rfl⟩
      cases rest with
      | cons z rest => cases e4
      | nil =>
      rw [List.append_nil] at e3
      subst e3
      exact hR _ _ ⟨k + 1, v, by omega, rfl, I.next hV hr2, _, _, _, rfl⟩
  case stop =>
    rintro Γ C ⟨k, v, hk, rfl, hI, a, b, c, rfl⟩
    simp only [List.length_nil, Nat.add_zero] at hk
    subst hk
    refine ⟨_, rfl, ?_⟩
    show Q3 (fin 0 _ (.ptr 0)) (finS 0 _)
    rw [fin_wL rfl, finS0, wL_congr fun j hj => hI.eq j hj (hr1 j hj)]
    exact q V hV
/-! ### earliest, latest -/
def P_earliest : PV := fun ds C Q => ∃ (o : Bool) (f st : Str) (rs : List (Int × Int)), ds = [pil o f st rs] ∧ Pil f st rs ∧ ∀ v, PFix f st rs v → Q (.lst false (wL st.length v)) C
theorem v_earliest (ds : List D) (C : Store) (Q3 : D → Store → Prop) (h : P_earliest ds C Q3) (hC : C.length = 0) : T_earliest P_need_pile P_earliest_of (enF 0 Q3) (start3 N_earliest ds) C := by
  obtain ⟨o, f, st, rs, rfl, hp, q⟩ := h
  rw [List.length_eq_zero_iff] at hC
  subst hC
  refine ⟨_, rfl, true, f, st, rs, views_pil1, hp, rfl, ?_⟩
  refine ⟨_, rfl, true, f, st, rs, views_pil1, hp, fun v hv => ⟨np_wL, ?_⟩⟩
  show Q3 (fin 0 [] _) (finS 0 [])
  rw [finS0]
  rw [wL_ints, fin_ints, ← wL_ints]
  exact q v hv
def Most (f st : Str) (rs : List (Int × Int)) (m : Int) : Prop := m ≤ 10 ^ 30 ∧ ∀ v k, PFix f st rs v → IsMax st.length v k → k ≤ m
theorem Most.nn {f st : Str} {rs : List (Int × Int)} {m : Int} (hp : Pil f st rs) (h : Most f st rs m) : 0 ≤ m := by
  obtain ⟨v, V⟩ := hp.pfix
  obtain ⟨k, hk, hm⟩ := ex_least (fun a b : Int => b ≤ a) (fun a b => by omega) (fun a b c h1 h2 => by omega) ((List.range st.length).map v) (by
    have := hp.pos
    intro e
    have := congrArg List.length e
    simp at this
    omega)
  have M := max_of hk hm
  have h1 := h.2 v k V M
  have h2 := M.2 0 hp.pos
  have h3 := V.low 0 hp.pos
  have h4 : bsOf f st 0 = neq (sg st 0) (f0 f) := rfl
  have h5 := neq01 (sg st 0) (f0 f)
  omega
def P_need_most : PV := fun ds C Q => ∃ (o : Bool) (f st : Str) (rs : List (Int × Int)) (m : Int), ds = [pil o f st rs, .int m] ∧ Pil f st rs ∧ Most f st rs m ∧ Q .non C
theorem v_need_most (ds : List D) (C : Store) (Q3 : D → Store → Prop) (h : P_need_most ds C Q3) (hC : C.length = 0) : T_need_most P_is_between P_earliest_of (enF 0 Q3) (start3 N_need_most ds) C := by
  obtain ⟨o, f, st, rs, m, rfl, hp, hm, q⟩ := h
  rw [List.length_eq_zero_iff] at hC
  subst hC
  have h0 := hm.nn hp
  refine ⟨_, rfl, m, 0, 1000000000000000000000000000000, by rw [views_int, views_int, views_int, views_nil], rfl, _, rfl, ?_⟩
  refine goF ?_ ?_
  · have := hm.1
    rw [decide_eq_true ⟨h0, by omega⟩]
    rfl
  refine ⟨_, rfl, true, f, st, rs, views_pil1, hp, fun v hv => ⟨np_wL, _, _, rfl, wl_lst, wl_pos hp.pos, fun k h1 h2 => ?_⟩⟩
  have hk := hm.2 v k hv (max_of h1 h2)
  refine ⟨_, rfl, _, rfl, _, _, rfl, rfl, _, rfl, ?_⟩
  exact goF (decide_eq_false (by omega)) q
/-- the latest blocks -/
def late (m : Int) (v u : Nat → Int) (j : Nat) : Int := m - u j - (m - u j - v j) % 2
def P_latest_of : PV := fun ds C Q => ∃ (o : Bool) (f st : Str) (rs : List (Int × Int)) (m : Int), ds = [pil o f st rs, .int m] ∧ Pil f st rs ∧ ∀ v u, PFix f st rs v → OFix st rs u → Q (.lst false (wL st.length (late m v u))) C
theorem zip_wL : ∀ (l : List Nat) (v u : Nat → Int), zipD (l.map fun j => .int (v j)) (l.map fun j => .int (u j)) = l.map fun j => .tup [.int (v j), .int (u j)]
  | [], _, _ => rfl
  | a :: l, v, u => by simp only [List.map_cons, zipD, zip_wL l v u]
theorem v_latest_of (ds : List D) (C : Store) (Q3 : D → Store → Prop) (h : P_latest_of ds C Q3) (hC : C.length = 0) : T_latest_of P_to_come P_earliest_of (enF 0 Q3) (start3 N_latest_of ds) C := by
  obtain ⟨o, f, st, rs, m, rfl, hp, q⟩ := h
  rw [List.length_eq_zero_iff] at hC
  subst hC
  have hz := sizeL
  have h24 := hp.top
  refine ⟨Nat.zero_le _, ?_⟩
  refine ⟨_, rfl, true, f, st, rs, views_pil1, hp, fun v hv => ⟨np_wL, ?_⟩⟩
  refine ⟨_, rfl, true, f, st, rs, views_pil1, hp, fun u hu => ⟨np_wL, ?_⟩⟩
  have npw : ∀ w, noptrs (wL st.length w) = true := fun w => by rw [wL_ints]; exact noptrs_ints _
  refine ⟨_, _, _, _, rfl, rfl, rfl, by rw [npw, npw]; rfl, rfl, ?_⟩
  rw [show zipD (wL st.length v) (wL st.length u) = (List.range st.length).map fun j => .tup [.int (v j), .int (u j)] from zip_wL _ v u]
  refine ⟨noptrs_map _ fun _ _ => rfl, ?_⟩
  refine forW_run (fun ds Γ C => ∃ (dn rest : List Nat), List.range st.length = dn ++ rest ∧ ds = rest.map (fun j => .tup [.int (v j), .int (u j)]) ∧ C = [.lst (dn.map fun j => .int (late m v u j))] ∧ ∃ a b, Γ = [some (pil o f st rs), some (.int m), some (.ptr 0), a, b]) ?step ?stop _ _ _ ⟨[], _, rfl, rfl, rfl, _, _, rfl⟩
  case step =>
    rintro d ds Γ C ⟨dn, rest, e1, e2, rfl, a, b, rfl⟩ R hR
    cases rest with
    | nil => cases e2
    | cons j rest =>
    simp only [List.map_cons, List.cons.injEq] at e2
    obtain ⟨rfl, rfl⟩ := e2
    have hl : dn.length ≤ 24 := by
      have := congrArg List.length e1
      simp at this
      omega
    refine ⟨_, rfl, rfl, _, _, rfl, _, _, rfl, rfl, ?_⟩
    refine ⟨_, rfl, _, rfl, _, rfl, _, rfl, _, _, rfl, rfl, _, rfl, _, rfl, _, _, rfl, rfl, _, rfl, _, _, rfl, rfl, _, _, rfl, rfl, (show (0 : Int) < 2 by decide), _, _, rfl, rfl, 0, _, _, rfl, rfl, rfl, by rw [List.length_map]; omega, ?_⟩
    have := hR [some (pil o f st rs), some (.int m), some (.ptr 0), some (.int (v j)), some (.int (u j))] [.lst ((dn ++ [j]).map fun j => .int (late m v u j))] ⟨dn ++ [j], rest, by rw [e1]; simp, rfl, rfl, _, _, rfl⟩
    rw [List.map_append] at this
    exact this
  case stop =>
    rintro Γ C ⟨dn, rest, e1, e2, rfl, a, b, rfl⟩
    cases rest with
    | cons p rest => cases e2
    | nil =>
    rw [List.append_nil] at e1
    subst e1
    refine ⟨_, rfl, ?_⟩
    show Q3 (fin 0 [.lst (wL st.length (late m v u))] (.ptr 0)) (finS 0 _)
    rw [fin_wL rfl, finS0]
    exact q v u hv hu
def P_latest : PV := fun ds C Q => ∃ (o : Bool) (f st : Str) (rs : List (Int × Int)) (m : Int), ds = [pil o f st rs, .int m] ∧ Pil f st rs ∧ Most f st rs m ∧ ∀ v u, PFix f st rs v → OFix st rs u → Q (.lst false (wL st.length (late m v u))) C
theorem v_latest (ds : List D) (C : Store) (Q3 : D → Store → Prop) (h : P_latest ds C Q3) (hC : C.length = 0) : T_latest P_need_pile P_need_most P_latest_of (enF 0 Q3) (start3 N_latest ds) C := by
  obtain ⟨o, f, st, rs, m, rfl, hp, hm, q⟩ := h
  rw [List.length_eq_zero_iff] at hC
  subst hC
  refine ⟨_, rfl, true, f, st, rs, views_pil1, hp, rfl, ?_⟩
  refine ⟨_, rfl, _, rfl, true, f, st, rs, m, by rw [views_pil, views_int, views_nil], hp, hm, rfl, ?_⟩
  refine ⟨_, rfl, _, rfl, true, f, st, rs, m, by rw [views_pil, views_int, views_nil], hp, fun v u hv hu => ⟨np_wL, ?_⟩⟩
  show Q3 (fin 0 [] _) (finS 0 [])
  rw [finS0]
  rw [wL_ints, fin_ints, ← wL_ints]
  exact q v u hv hu
end L3

/-! plans: the earliest is the least of all, the latest the greatest -/
namespace L3
open PySem PySem.Spec PyProof.Rows L2
structure Plan (f st : Str) (rs : List (Int × Int)) (top : Int) (w : Nat → Int) : Prop where
  blk : ∀ j, j < st.length → bsOf f st j ≤ w j ∧ w j ≤ top ∧ (w j - bsOf f st j) % 2 = 0
  led : ∀ z, z ∈ rs → w z.1.toNat ≤ w z.2.toNat
theorem bs_par {f st : Str} {rs : List (Int × Int)} (hp : Pil f st rs) {i j : Nat} (hi : i < st.length) (hj : j < st.length) : (bsOf f st i + chOf st i j) % 2 = bsOf f st j % 2 ∧ (bsOf f st i = 0 ∨ bsOf f st i = 1) ∧ (chOf st i j = 0 ∨ chOf st i j = 1) := by
  have h1 := neq_par (hp.sg2 hi) (hp.sg2 hj) hp.f2
  have h2 := neq01 (sg st i) (f0 f)
  have h3 := neq01 (sg st i) (sg st j)
  have h4 := neq01 (sg st j) (f0 f)
  have e1 : bsOf f st i = neq (sg st i) (f0 f) := rfl
  have e2 : bsOf f st j = neq (sg st j) (f0 f) := rfl
  have e3 : chOf st i j = neq (sg st i) (sg st j) := rfl
  rw [e1, e2, e3]
  omega
theorem Plan.step {f st : Str} {rs : List (Int × Int)} (hp : Pil f st rs) {top : Int} {w : Nat → Int} (P : Plan f st rs top w) {z : Int × Int} (hz : z ∈ rs) : w z.1.toNat + chOf st z.1.toNat z.2.toNat ≤ w z.2.toNat := by
  obtain ⟨a, b, c, d, e⟩ := hp.rul.inn z hz
  have h1 := P.led z hz
  obtain ⟨_, _, h2⟩ := P.blk z.1.toNat (by omega)
  obtain ⟨_, _, h3⟩ := P.blk z.2.toNat (by omega)
  obtain ⟨h4, h5, h6⟩ := bs_par hp (show z.1.toNat < st.length by omega) (show z.2.toNat < st.length by omega)
  omega
theorem plan_low {f st : Str} {rs : List (Int × Int)} (hp : Pil f st rs) {top : Int} {v w : Nat → Int} (V : PFix f st rs v) (P : Plan f st rs top w) : ∀ j, j < st.length → v j ≤ w j := by
  obtain ⟨rk, hrk⟩ := hp.acy
  have all : ∀ m : Nat, ∀ j : Nat, j < st.length → rk j < m → v j ≤ w j := by
    intro m
    induction m with
    | zero => intro j _ h; omega
    | succ m ih =>
      intro j hj hm
      rcases V.by_ j hj with e | ⟨z, hz, e1, e2⟩
      · rw [e]; exact (P.blk j hj).1
      · obtain ⟨h0, h1⟩ := hp.r2 z hz
        obtain ⟨i, hi⟩ := Int.eq_ofNat_of_zero_le h0
        have h2 := hrk z hz
        rw [e1, hi] at h2
        have h3 := ih i (by omega) (by omega)
        have h4 := P.step hp hz
        rw [e1] at h4
        rw [hi] at e2 h4
        simp only [Int.toNat_natCast] at e2 h4
        omega
  exact fun j hj => all (rk j + 1) j hj (by omega)
theorem to_top {f st : Str} {rs : List (Int × Int)} (hp : Pil f st rs) {top : Int} {u w : Nat → Int} (U : OFix st rs u) (ht : ∀ j, j < st.length → w j ≤ top) (hs : ∀ z, z ∈ rs → w z.1.toNat + chOf st z.1.toNat z.2.toNat ≤ w z.2.toNat) : ∀ j, j < st.length → w j + u j ≤ top := by
  obtain ⟨rk, hrk⟩ := rv_acy hp.rul hp.acy
  have all : ∀ m : Nat, ∀ j : Nat, j < st.length → rk j < m → w j + u j ≤ top := by
    intro m
    induction m with
    | zero => intro j _ h; omega
    | succ m ih =>
      intro j hj hm
      rcases ofix_by U hj with e | ⟨z, hz, e1, e2⟩
      · have := ht j hj
        omega
      · obtain ⟨a, b, c, d, _⟩ := hp.rul.inn z hz
        obtain ⟨i, hi⟩ := Int.eq_ofNat_of_zero_le c
        have h2 := hrk (z.2, z.1) (rv_mem.mpr hz)
        simp only at h2
        rw [e1, hi] at h2
        have h3 := ih i (by omega) (by omega)
        have h4 := hs z hz
        rw [e1] at h4
        rw [hi] at e2 h4
        simp only [Int.toNat_natCast] at e2 h4
        omega
  exact fun j hj => all (rk j + 1) j hj (by omega)
theorem fix_par' {f st : Str} {rs : List (Int × Int)} (hp : Pil f st rs) {v : Nat → Int} (V : PFix f st rs v) {j : Nat} (hj : j < st.length) : (v j - bsOf f st j) % 2 = 0 := by
  have h1 := fix_par hp V j hj
  have e1 : bsOf f st j = neq (sg st j) (f0 f) := rfl
  have h2 := neq01 (sg st j) (f0 f)
  rw [e1]
  omega
theorem plan_up {f st : Str} {rs : List (Int × Int)} (hp : Pil f st rs) {top : Int} {v u w : Nat → Int} (V : PFix f st rs v) (U : OFix st rs u) (P : Plan f st rs top w) : ∀ j, j < st.length → w j ≤ late top v u j := fun j hj => by
  have h1 := to_top hp U (fun j hj => (P.blk j hj).2.1) (fun z hz => P.step hp hz) j hj
  have h2 := (P.blk j hj).2.2
  have h3 := fix_par' hp V hj
  unfold late
  omega
theorem vu_top {f st : Str} {rs : List (Int × Int)} (hp : Pil f st rs) {v u : Nat → Int} {m : Int} (V : PFix f st rs v) (U : OFix st rs u) (M : IsMax st.length v m) : ∀ j, j < st.length → v j + u j ≤ m :=
  to_top hp U (fun j hj => M.2 j hj) (fun z hz => V.up z hz)
theorem plan_v {f st : Str} {rs : List (Int × Int)} (hp : Pil f st rs) {v : Nat → Int} {m top : Int} (V : PFix f st rs v) (M : IsMax st.length v m) (hm : m ≤ top) : Plan f st rs top v := by
  refine ⟨fun j hj => ⟨V.low j hj, by have := M.2 j hj; omega, fix_par' hp V hj⟩, fun z hz => ?_⟩
  have h1 := V.up z hz
  have h2 := neq01 (sg st z.1.toNat) (sg st z.2.toNat)
  have e : chOf st z.1.toNat z.2.toNat = neq (sg st z.1.toNat) (sg st z.2.toNat) := rfl
  omega
theorem plan_late {f st : Str} {rs : List (Int × Int)} (hp : Pil f st rs) {v u : Nat → Int} {m top : Int} (V : PFix f st rs v) (U : OFix st rs u) (M : IsMax st.length v m) (hm : m ≤ top) : Plan f st rs top (late top v u) := by
  refine ⟨fun j hj => ?_, fun z hz => ?_⟩
  · have h1 := vu_top hp V U M j hj
    have h2 := V.low j hj
    have h3 := fix_par' hp V hj
    have h4 := ofix_nn U hj
    unfold late
    omega
  · obtain ⟨a, b, c, d, e⟩ := hp.rul.inn z hz
    have h1 := ofix_up U hz
    obtain ⟨h4, h5, h6⟩ := bs_par hp (show z.1.toNat < st.length by omega) (show z.2.toNat < st.length by omega)
    have h7 := fix_par' hp V (show z.1.toNat < st.length by omega)
    have h8 := fix_par' hp V (show z.2.toNat < st.length by omega)
    unfold late
    omega
/-! ### all of them listed -/
def blks (top b : Int) : List Int := (List.range ((top + 1 - b + 1) / 2).toNat).map fun i : Nat => b + (i : Nat) * 2
theorem blks_mem {top b x : Int} : x ∈ blks top b ↔ b ≤ x ∧ x ≤ top ∧ (x - b) % 2 = 0 := by
  unfold blks
  rw [List.mem_map]
  constructor
  · rintro ⟨i, hi, rfl⟩
    have : i < ((top + 1 - b + 1) / 2).toNat := by simpa using hi
    omega
  · rintro ⟨h1, h2, h3⟩
    exact ⟨((x - b) / 2).toNat, by simp; omega, by omega⟩
def stepP (f st : Str) (top : Int) (k : Nat) (line : List Int) : List (List Int) := (blks top (bsOf f st k)).map fun b => line ++ [b]
def plansK (f st : Str) (top : Int) : Nat → List (List Int)
  | 0 => [[]]
  | k + 1 => (plansK f st top k).flatMap (stepP f st top k)
theorem plansK_mem {f st : Str} {top : Int} : ∀ (k : Nat) (l : List Int), l ∈ plansK f st top k ↔ l.length = k ∧ ∀ j, j < k → l.getD j 0 ∈ blks top (bsOf f st j)
  | 0, l => by
    simp only [plansK, List.mem_singleton]
    exact ⟨fun h => by subst h; exact ⟨rfl, fun j hj => by omega⟩, fun h => List.length_eq_zero_iff.mp h.1⟩
  | k + 1, l => by
    rw [plansK, List.mem_flatMap]
    constructor
    · rintro ⟨l0, h0, h1⟩
      obtain ⟨b, hb, rfl⟩ := List.mem_map.mp h1
      obtain ⟨h2, h3⟩ := (plansK_mem k l0).mp h0
      refine ⟨by simp [h2], fun j hj => ?_⟩
      by_cases hjk : j < k
      · have := h3 j hjk
        rw [List.getD_eq_getElem?_getD, List.getElem?_append_left (by omega), ← List.getD_eq_getElem?_getD]
        exact this
      · have e : j = l0.length := by omega
        rw [List.getD_eq_getElem?_getD, e, get_last, h2]
        exact hb
    · rintro ⟨hl, h⟩
      have hne : l ≠ [] := fun e => by rw [e] at hl; simp at hl
      obtain ⟨l0, b, e⟩ := List.eq_nil_or_concat l |>.resolve_left hne
      rw [List.concat_eq_append] at e
      subst e
      have hl0 : l0.length = k := by simpa using hl
      refine ⟨l0, (plansK_mem k l0).mpr ⟨hl0, fun j hj => ?_⟩, List.mem_map.mpr ⟨b, ?_, rfl⟩⟩
      · have := h j (by omega)
        rw [List.getD_eq_getElem?_getD, List.getElem?_append_left (by omega), ← List.getD_eq_getElem?_getD] at this
        exact this
      · have := h k (by omega)
        rw [List.getD_eq_getElem?_getD, ← hl0, get_last] at this
        rw [← hl0]
        exact this
theorem blks_len {top b : Int} {m : Nat} (h0 : 0 ≤ b) (h : top + 2 ≤ 2 * m) : (blks top b).length ≤ m := by
  unfold blks
  simp
  omega
theorem flatP_len {f st : Str} {top : Int} {k m : Nat} (h : top + 2 ≤ 2 * m) : ∀ ls : List (List Int), (ls.flatMap (stepP f st top k)).length ≤ ls.length * m
  | [] => by simp
  | l :: ls => by
    have ih := flatP_len (f := f) (st := st) (k := k) h ls
    have h0 : 0 ≤ bsOf f st k := (neq01 _ _).1
    have h1 := blks_len (top := top) h0 h
    rw [List.flatMap_cons, List.length_append, List.length_cons, Nat.add_mul, Nat.one_mul]
    have : (stepP f st top k l).length = (blks top (bsOf f st k)).length := by simp [stepP]
    omega
theorem plansK_size {f st : Str} {top : Int} {m : Nat} (h : top + 2 ≤ 2 * m) : ∀ k, (plansK f st top k).length ≤ m ^ k
  | 0 => by simp [plansK]
  | k + 1 => by
    have ih := plansK_size (f := f) (st := st) h k
    have h2 := flatP_len (f := f) (st := st) (k := k) h (plansK f st top k)
    rw [plansK, Nat.pow_succ]
    exact Nat.le_trans h2 (Nat.mul_le_mul_right _ ih)
/-- keeps the rules -/
def ledB (rs : List (Int × Int)) (l : List Int) : Bool := decide (((rs.filter fun z => decide (l.getD z.1.toNat 0 > l.getD z.2.toNat 0)).map fun _ => (1 : Int)) = [])
theorem ledB_iff {rs : List (Int × Int)} {l : List Int} : ledB rs l = true ↔ ∀ z, z ∈ rs → l.getD z.1.toNat 0 ≤ l.getD z.2.toNat 0 := by
  unfold ledB
  rw [decide_eq_true_eq, List.map_eq_nil_iff, List.filter_eq_nil_iff]
  simp only [decide_eq_true_eq, Int.not_lt]
def allP (f st : Str) (rs : List (Int × Int)) (top : Int) : List (List Int) := (plansK f st top st.length).filter (ledB rs)
theorem allP_plan {f st : Str} {rs : List (Int × Int)} {top : Int} {l : List Int} : l ∈ allP f st rs top ↔ l.length = st.length ∧ Plan f st rs top fun j => l.getD j 0 := by
  unfold allP
  rw [List.mem_filter, plansK_mem, ledB_iff]
  constructor
  · rintro ⟨⟨h1, h2⟩, h3⟩
    exact ⟨h1, fun j hj => blks_mem.mp (h2 j hj), h3⟩
  · rintro ⟨h1, h2, h3⟩
    exact ⟨⟨h1, fun j hj => blks_mem.mpr (h2 j hj)⟩, h3⟩
def asL (n : Nat) (w : Nat → Int) : List Int := (List.range n).map w
theorem asL_get {n : Nat} {w : Nat → Int} {j : Nat} (h : j < n) : (asL n w).getD j 0 = w j := by
  unfold asL
  rw [List.getD_eq_getElem?_getD, List.getElem?_map, List.getElem?_range h]
  rfl
theorem asL_mem {f st : Str} {rs : List (Int × Int)} (hp : Pil f st rs) {top : Int} {w : Nat → Int} (P : Plan f st rs top w) : asL st.length w ∈ allP f st rs top := by
  refine allP_plan.mpr ⟨by simp [asL], fun j hj => ?_, fun z hz => ?_⟩
  · show _ ≤ (asL st.length w).getD j 0 ∧ _
    rw [asL_get hj]
    exact P.blk j hj
  · obtain ⟨a, b, c, d, e⟩ := hp.rul.inn z hz
    show (asL st.length w).getD z.1.toNat 0 ≤ (asL st.length w).getD z.2.toNat 0
    rw [asL_get (by omega), asL_get (by omega)]
    exact P.led z hz
end L3

namespace L3
open PySem PySem.Spec PyProof.Rows L2
theorem base_e {ip ii k : Nat} {o : Bool} {f st : Str} {rs : List (Int × Int)} {Γ : Slots} {C : Store} {R : D → Store → Prop} (h1 : Γ[ip]? = some (some (pil o f st rs))) (h2 : Γ[ii]? = some (some (.int (k : Nat)))) (hp : Pil f st rs) (hk : k < st.length) (q : R (.int (bsOf f st k)) C) :
    eCB oInt (aCons (eBin (oEq true) (eBin oIxS (eBin oIxT (eVar ip) (eC (.int 1))) (eVar ii)) (eBin oIxT (eVar ip) (eC (.int 0)))) aNil) Γ C R := by
  have hz := sizeL
  have h24 := hp.top
  refine ⟨_, h1, _, _, _, rfl, rfl, rfl, _, h2, st, (k : Nat), sg st k, rfl, rfl, by omega, sg_at hk, _, h1, _, _, _, rfl, rfl, rfl, ?_⟩
  show R (.int (if (true != decide ((⟨#[sg st k]⟩ : Str) = f)) = true then 1 else 0)) _
  rw [f_one hp.fst, one_ne]
  exact q
theorem getD_at {l : List Int} {i : Nat} (h : i < l.length) : atI (l.map D.int) (i : Int) = some (.int (l.getD i 0)) := by
  refine ints_at ?_
  rw [List.getD_eq_getElem?_getD, List.getElem?_eq_getElem h]
  rfl
theorem flat_wL {n : Nat} {w : Nat → Int} : flatDs (wL n w) = true := by rw [wL_ints]; exact flat_ints _
theorem max_n {f st : Str} {rs : List (Int × Int)} (hp : Pil f st rs) {v : Nat → Int} {m : Int} (V : PFix f st rs v) (M : IsMax st.length v m) : 0 ≤ m ∧ m ≤ st.length := by
  obtain ⟨l, hl, hs⟩ := row_up hp V M
  have h1 := row_low hp V M hl
  have h2 := sws_nn (st := st) l (f0 f)
  have h3 := rowsK_len _ _ hl
  omega
def unI : D → List Int
  | .lst _ xs => xs.map fun d => match d with | .int i => i | _ => 0
  | _ => []
theorem unI_rD (l : List Int) : unI (rD l) = l := by
  show (l.map D.int).map _ = l
  rw [List.map_map]
  show l.map (fun i => i) = l
  simp
theorem np_rows (ls : List (List Int)) : (noold (.lst false (ls.map rD)) && noptr (.lst false (ls.map rD))) = true := by
  have h : okWs (fun o => !o) (ls.map rD) = true := by
    induction ls with
    | nil => rfl
    | cons l ls ih => simp only [List.map_cons, okWs, rD, okW, okWs_ints]; exact ih
  simp only [noold, okW, h, noptr, np_rD]
  rfl
theorem fix_sub {f st : Str} {rs rs' : List (Int × Int)} (hp : Pil f st rs') {v v' : Nat → Int} (hs : ∀ z, z ∈ rs' → z ∈ rs) (V : PFix f st rs v) (V' : PFix f st rs' v') : ∀ j, j < st.length → v' j ≤ v j := by
  obtain ⟨rk, hrk⟩ := hp.acy
  have all : ∀ m : Nat, ∀ j : Nat, j < st.length → rk j < m → v' j ≤ v j := by
    intro m
    induction m with
    | zero => intro j _ h; omega
    | succ m ih =>
      intro j hj hm
      rcases V'.by_ j hj with e | ⟨z, hz, e1, e2⟩
      · rw [e]; exact V.low j hj
      · obtain ⟨h0, h1⟩ := hp.r2 z hz
        obtain ⟨i, hi⟩ := Int.eq_ofNat_of_zero_le h0
        have h2 := hrk z hz
        rw [e1, hi] at h2
        have h3 := ih i (by omega) (by omega)
        have h4 := V.up z (hs z hz)
        rw [e1] at h4
        rw [hi] at e2 h4
        simp only [Int.toNat_natCast] at e2 h4
        omega
  exact fun j hj => all (rk j + 1) j hj (by omega)
theorem Most.of {f st : Str} {rs : List (Int × Int)} (hp : Pil f st rs) {v : Nat → Int} {k m : Int} (V : PFix f st rs v) (M : IsMax st.length v k) (h : k ≤ m) (h30 : m ≤ 10 ^ 30) : Most f st rs m := ⟨h30, fun w l W L => by rw [pfix_max hp W V L M]; exact h⟩
theorem Most.sub {f st : Str} {rs rs' : List (Int × Int)} (hp : Pil f st rs) (hp' : Pil f st rs') (hs : ∀ z, z ∈ rs' → z ∈ rs) {m : Int} (h : Most f st rs m) : Most f st rs' m := by
  refine ⟨h.1, fun v' k' V' M' => ?_⟩
  obtain ⟨v, V⟩ := hp.pfix
  obtain ⟨⟨j, hj, ej⟩, _⟩ := M'
  have h1 := fix_sub hp' hs V V' j hj
  obtain ⟨k, hk, hm⟩ := ex_least (fun a b : Int => b ≤ a) (fun a b => by omega) (fun a b c h1 h2 => by omega) ((List.range st.length).map v) (by
    have := hp.pos
    intro e
    have := congrArg List.length e
    simp at this
    omega)
  have M := max_of hk hm
  have h2 := h.2 v k V M
  have h3 := M.2 j hj
  omega
theorem late_bound {f st : Str} {rs : List (Int × Int)} (hp : Pil f st rs) {v u : Nat → Int} {m : Int} (V : PFix f st rs v) (U : OFix st rs u) (hm : Most f st rs m) {j : Nat} (hj : j < st.length) : 0 ≤ late m v u j ∧ late m v u j ≤ m := by
  obtain ⟨k, hk, hmx⟩ := ex_least (fun a b : Int => b ≤ a) (fun a b => by omega) (fun a b c h1 h2 => by omega) ((List.range st.length).map v) (by
    have := hp.pos
    intro e
    have := congrArg List.length e
    simp at this
    omega)
  have M := max_of hk hmx
  have P := plan_late hp V U M (hm.2 v k V M)
  obtain ⟨a, b, _⟩ := P.blk j hj
  have : 0 ≤ bsOf f st j := (neq01 _ _).1
  omega
theorem v_bound {f st : Str} {rs : List (Int × Int)} (hp : Pil f st rs) {v : Nat → Int} (V : PFix f st rs v) {j : Nat} (hj : j < st.length) : 0 ≤ v j ∧ v j ≤ 24 := by
  obtain ⟨k, hk, hmx⟩ := ex_least (fun a b : Int => b ≤ a) (fun a b => by omega) (fun a b c h1 h2 => by omega) ((List.range st.length).map v) (by
    have := hp.pos
    intro e
    have := congrArg List.length e
    simp at this
    omega)
  have M := max_of hk hmx
  have h1 := max_n hp V M
  have h2 := M.2 j hj
  have h3 := V.low j hj
  have h4 := hp.top
  have : 0 ≤ bsOf f st j := (neq01 _ _).1
  omega
/-- two lists of blocks shown -/
def two (n : Nat) (v w : Nat → Int) : PyData := .list [.list (((List.range n).map v).map .int), .list (((List.range n).map w).map .int)]
theorem pyD_two {C : Store} {o o1 o2 : Bool} {n : Nat} {v w : Nat → Int} : pyD C (.lst o [.lst o1 (wL n v), .lst o2 (wL n w)]) = some (two n v w) := by
  unfold pyD
  rw [wL_ints, wL_ints]
  simp only [pyW, pyWs, pyWs_ints]
  rfl
theorem pyD_twoC {C : Store} {o : Bool} {a b n : Nat} {v w : Nat → Int} (ha : C[a]? = some (.lst (wL n v))) (hb : C[b]? = some (.lst (wL n w))) : pyD C (.lst o [.ptr a, .ptr b]) = some (two n v w) := by
  have g : ∀ (k : Nat) (v : Nat → Int), C[k]? = some (.lst (wL n v)) → pyG C 2 k = some (.list (((List.range n).map v).map .int)) := fun k v h => by
    rw [wL_ints] at h
    simp only [pyG, h, pyWs_ints]
    rfl
  unfold pyD
  simp only [pyW, pyWs, g a v ha, g b w hb]
  rfl
theorem shw_two {n : Nat} {v w : Nat → Int} (hn : n ≤ 24) (hv : ∀ j, j < n → 0 ≤ v j ∧ v j ≤ 10 ^ 30) (hw : ∀ j, j < n → 0 ≤ w j ∧ w j ≤ 10 ^ 30) : Shw (two n v w) 60 3000 := by
  have one : ∀ u : Nat → Int, (∀ j, j < n → 0 ≤ u j ∧ u j ≤ 10 ^ 30) → Shw (.list (((List.range n).map u).map .int)) 1 1011 := fun u hu => by
    refine (Shw.ints fun x hx => ?_).le (Nat.le_refl _) ?_
    · obtain ⟨j, hj, rfl⟩ := List.mem_map.mp hx
      have := hu j (by simpa using hj)
      omega
    · simp
      omega
  exact (Shw.list (.cons (one v hv) (.cons (one w hw) (.nil (n := 0))))).le (by decide) (by decide)
theorem two_congr {n : Nat} {v w v' w' : Nat → Int} (h1 : ∀ j, j < n → v j = v' j) (h2 : ∀ j, j < n → w j = w' j) : two n v w = two n v' w' := by
  have g : ∀ a b : Nat → Int, (∀ j, j < n → a j = b j) → (List.range n).map a = (List.range n).map b := fun a b h => List.map_congr_left fun j hj => h j (by simpa using hj)
  unfold two
  rw [g v v' h1, g w w' h2]
theorem late_congr {f st : Str} {rs : List (Int × Int)} (hp : Pil f st rs) {v u v' u' : Nat → Int} {m : Int} (V : PFix f st rs v) (U : OFix st rs u) (V' : PFix f st rs v') (U' : OFix st rs u') : ∀ j, j < st.length → late m v u j = late m v' u' j := fun j hj => by
  unfold late
  rw [hp.peq V V' j hj, hp.oeq U U' j hj]
/-- a call that writes to the jar and to a pile's rules -/
theorem callJ2 {P : PV} {k m : Nat} {C1 : Store} {c : Int} {x : Cell} {f st : Str} {rs : List (Int × Int)} {Q : D → Store → Prop} (hk : C1[k]? = some x) (hx : Jar c x) (hm : C1[m]? = some (.lst (rs.map pD))) (hkm : k ≠ m)
    (h : P [.ptr 0, pilC 1 f st] [x, .lst (rs.map pD)] fun d Cc => ∃ (y : Cell) (c' : Int) (rs' : List (Int × Int)), Cc = [y, .lst (rs'.map pD)] ∧ Jar c' y ∧ (noold d && noptr d) = true ∧ Q d ((C1.set k y).set m (.lst (rs'.map pD)))) (mono : ∀ (R R' : D → Store → Prop), (∀ d Cc, R d Cc → R' d Cc) → P [.ptr 0, pilC 1 f st] [x, .lst (rs.map pD)] R → P [.ptr 0, pilC 1 f st] [x, .lst (rs.map pD)] R') : callK 2 kf2t P [.ptr k, pilC m f st] C1 Q := by
  have e1 : kf2t [.ptr k, pilC m f st] = [k, m] := rfl
  have view : ∀ (rs : List (Int × Int)) (f : Bool → Bool) (g : Nat → D), (Cell.lst (rs.map pD)).mapC f g = .lst (rs.map pD) := fun rs f g => by
    show Cell.lst (mapWs f g (rs.map pD)) = _
    rw [mapWs_flat (flat_pairs rs)]
  unfold callK
  rw [e1]
  refine ⟨rfl, List.nodup_cons.mpr ⟨by simpa using hkm, List.nodup_cons.mpr ⟨by simp, List.nodup_nil⟩⟩, fun k' hk' => ?_, ?_⟩
  · simp at hk'
    rcases hk' with rfl | rfl
    · exact ⟨x, hk, hx.alive⟩
    · exact ⟨_, hm, by simp⟩
  · have e2 : views [k, m] C1 [.ptr k, pilC m f st] = [.ptr 0, pilC 1 f st] := by
      unfold views pilC
      simp [mapWs, mapW, viewG, posOf, hkm]
    have e3 : viewC [k, m] C1 = [x, .lst (rs.map pD)] := by
      unfold viewC
      simp only [List.map_cons, List.map_nil, hk, hm, Option.getD_some]
      rw [hx.view, view]
    rw [e2, e3]
    refine mono _ _ (fun d Cc hd => ?_) h
    obtain ⟨y, c', rs', rfl, hy, hn, hq⟩ := hd
    simp only [Bool.and_eq_true] at hn
    refine ⟨hn.1, fun c hc => ?_, ?_⟩
    · simp at hc
      rcases hc with rfl | rfl
      · exact hy.ok
      · exact (flats_np (flat_pairs rs')).2
    · rw [mapW_np.1 d hn.2]
      show Q d ((C1.set k (y.mapC id (backG [k, m]))).set m ((Cell.lst (rs'.map pD)).mapC id (backG [k, m])))
      rw [hy.view, view]
      exact hq
end L3

/-! changes along ways; dicts of numbers -/
namespace L3
open PySem PySem.Spec PyProof.Rows L2
/-- a way along the rules, with how many changes -/
inductive Way (st : Str) (rs : List (Int × Int)) : Int → Int → Int → Prop
  | nil (p : Int) : Way st rs p p 0
  | snoc {p x y c : Int} : Way st rs p x c → (x, y) ∈ rs → Way st rs p y (c + chg st (x, y))
/-- its steps begin at those of A -/
inductive WayIn (st : Str) (rs : List (Int × Int)) (A : List Int) : Int → Int → Int → Prop
  | nil (p : Int) : WayIn st rs A p p 0
  | snoc {p x y c : Int} : WayIn st rs A p x c → x ∈ A → (x, y) ∈ rs → WayIn st rs A p y (c + chg st (x, y))
/-- of at most so many steps -/
inductive WayN (st : Str) (rs : List (Int × Int)) : Nat → Int → Int → Int → Prop
  | nil (k : Nat) (p : Int) : WayN st rs k p p 0
  | snoc {k : Nat} {p x y c : Int} : WayN st rs k p x c → (x, y) ∈ rs → WayN st rs (k + 1) p y (c + chg st (x, y))
section
variable {st : Str} {rs : List (Int × Int)}
theorem chg01 (st : Str) (z : Int × Int) : 0 ≤ chg st z ∧ chg st z ≤ 1 := neq01 _ _
theorem Way.nn {p q c : Int} (h : Way st rs p q c) : 0 ≤ c := by
  induction h with
  | nil => exact Int.le_refl _
  | @snoc x y c _ _ ih => have := chg01 st (x, y); omega
theorem WayIn.way {A : List Int} {p q c : Int} (h : WayIn st rs A p q c) : Way st rs p q c := by
  induction h with
  | nil => exact .nil _
  | snoc _ _ hz ih => exact .snoc ih hz
theorem Way.inn {p q c : Int} {A : List Int} (hA : ∀ z, z ∈ rs → z.1 ∈ A) (h : Way st rs p q c) : WayIn st rs A p q c := by
  induction h with
  | nil => exact .nil _
  | snoc _ hz ih => exact .snoc ih (hA _ hz) hz
theorem WayN.mono {k j : Nat} {p q c : Int} (h : WayN st rs k p q c) (hkj : k ≤ j) : WayN st rs j p q c := by
  induction h generalizing j with
  | nil => exact .nil _ _
  | snoc _ hz ih =>
    obtain ⟨j', rfl⟩ : ∃ j', j = j' + 1 := ⟨j - 1, by omega⟩
    exact .snoc (ih (by omega)) hz
theorem Way.few {p q c : Int} {r : Nat → Nat} (hr : ∀ z, z ∈ rs → r z.1.toNat < r z.2.toNat) (h : Way st rs p q c) : WayN st rs (r q.toNat) p q c := by
  induction h with
  | nil => exact .nil _ _
  | snoc _ hz ih => exact (WayN.snoc ih hz).mono (hr _ hz)
theorem Way.tgt {n : Nat} {p q c : Int} (hr : ∀ z, z ∈ rs → 0 ≤ z.1 ∧ z.1 < n ∧ 0 ≤ z.2 ∧ z.2 < n ∧ z.1 ≠ z.2) (h : Way st rs p q c) (hp : 0 ≤ p ∧ p < n) : 0 ≤ q ∧ q < n := by
  cases h with
  | nil => exact hp
  | snoc _ hz => have := hr _ hz; exact ⟨this.2.2.1, this.2.2.2.1⟩
end
/-- the most changes from p to q, None where there is no way -/
def Bst (st : Str) (rs : List (Int × Int)) (p q : Int) : Option Int → Prop
  | some m => Way st rs p q m ∧ ∀ c, Way st rs p q c → c ≤ m
  | none => ∀ c, ¬ Way st rs p q c
theorem Bst.eq {st : Str} {rs : List (Int × Int)} {p q : Int} {a b : Option Int} (x : Bst st rs p q a) (y : Bst st rs p q b) : a = b := by
  cases a with
  | none => cases b with
    | none => rfl
    | some m => exact absurd y.1 (x m)
  | some m => cases b with
    | none => exact absurd x.1 (y m)
    | some k => have h1 := x.2 k y.1; have h2 := y.2 m x.1; rw [show m = k by omega]
/-- what the dict says so far -/
def Snd (st : Str) (rs : List (Int × Int)) (p : Int) (u : Int → Option Int) : Prop := ∀ q m, u q = some m → Way st rs p q m
theorem bst_of {st : Str} {rs : List (Int × Int)} {p : Int} {u : Int → Option Int} (s : Snd st rs p u) (c : ∀ q x, Way st rs p q x → ∃ m, u q = some m ∧ x ≤ m) (q : Int) : Bst st rs p q (u q) := by
  cases h : u q with
  | none => exact fun x w => by obtain ⟨m, e, _⟩ := c q x w; rw [h] at e; cases e
  | some m => exact ⟨s q m h, fun x w => by obtain ⟨m', e, hm⟩ := c q x w; rw [h] at e; cases e; exact hm⟩
/-- one step -/
def relax (u : Int → Option Int) (a b : Int) (c : Int) : Int → Option Int := fun q => if q = b then some (max ((u b).getD 0) ((u a).getD 0 + c)) else u q
def Grow (u u' : Int → Option Int) : Prop := ∀ q m, u q = some m → ∃ m', u' q = some m' ∧ m ≤ m'
theorem Grow.refl {u : Int → Option Int} : Grow u u := fun q m h => ⟨m, h, Int.le_refl _⟩
theorem Grow.trans {u v w : Int → Option Int} (a : Grow u v) (b : Grow v w) : Grow u w := fun q m h => by
  obtain ⟨m1, e1, h1⟩ := a q m h
  obtain ⟨m2, e2, h2⟩ := b q m1 e1
  exact ⟨m2, e2, by omega⟩
theorem relax_grow {u : Int → Option Int} {a b c : Int} : Grow u (relax u a b c) := fun q m h => by
  unfold relax
  by_cases e : q = b
  · subst e
    rw [if_pos rfl]
    refine ⟨_, rfl, ?_⟩
    rw [h]
    simp only [Option.getD_some]
    omega
  · rw [if_neg e]; exact ⟨m, h, Int.le_refl _⟩
theorem relax_snd {st : Str} {rs : List (Int × Int)} {p a b : Int} {u : Int → Option Int} (s : Snd st rs p u) (hz : (a, b) ∈ rs) (ha : (u a).isSome = true) : Snd st rs p (relax u a b (chg st (a, b))) := fun q m h => by
  unfold relax at h
  by_cases e : q = b
  · subst e
    rw [if_pos rfl] at h
    simp only [Option.some.injEq] at h
    obtain ⟨x, hx⟩ := Option.isSome_iff_exists.mp ha
    have w := s a x hx
    have hn := w.nn
    have h01 := chg01 st (a, q)
    rw [hx] at h
    simp only [Option.getD_some] at h
    cases hb : u q with
    | none =>
      rw [hb] at h
      simp only [Option.getD_none] at h
      have : m = x + chg st (a, q) := by omega
      rw [this]
      exact .snoc w hz
    | some y =>
      rw [hb] at h
      simp only [Option.getD_some] at h
      by_cases hxy : y ≤ x + chg st (a, q)
      · have : m = x + chg st (a, q) := by omega
        rw [this]
        exact .snoc w hz
      · have : m = y := by omega
        rw [this]
        exact s q y hb
  · rw [if_neg e] at h
    exact s q m h
theorem relax_at {u : Int → Option Int} {a b c x : Int} (h : u a = some x) : ∃ m, relax u a b c b = some m ∧ x + c ≤ m := by
  unfold relax
  rw [if_pos rfl, h]
  exact ⟨_, rfl, by simp only [Option.getD_some]; omega⟩
/-! ### dicts of numbers -/
structure Dic (ks : List Key) (xs : List D) (u : Int → Option Int) (m : Nat) : Prop where
  at_ : ∀ q : Int, dAt (.inl q) ks xs = (u q).map .int
  len : ks.length = xs.length
  few : ks.length ≤ m
  flat : flatDs xs = true
theorem dAt_put {k q : Key} {y : D} : ∀ {ks : List Key} {xs : List D}, ks.length = xs.length → dAt q (kPut k ks) (xPut k y ks xs) = if k = q then some y else dAt q ks xs := by
  have snoc : ∀ (ks : List Key) (xs : List D), ks.length = xs.length → hasK k ks = false → dAt q (ks ++ [k]) (xs ++ [y]) = if k = q then some y else dAt q ks xs := by
    intro ks
    induction ks with
    | nil => intro xs h _; cases xs with
      | nil => rfl
      | cons _ _ => simp at h
    | cons p ks ih =>
      intro xs h hk
      cases xs with
      | nil => simp at h
      | cons x xs =>
        simp only [hasK, List.any_cons, Bool.or_eq_false_iff, decide_eq_false_iff_not] at hk
        simp only [List.cons_append, dAt]
        by_cases e : p = q
        · rw [if_pos e, if_pos e, if_neg fun z => hk.1 (e.trans z.symm)]
        · rw [if_neg e, if_neg e, ih xs (by simpa using h) hk.2]
  have mid : ∀ (ks : List Key) (xs : List D), ks.length = xs.length → hasK k ks = true → dAt q ks ((ks.zip xs).map fun z => if z.1 = k then y else z.2) = if k = q then some y else dAt q ks xs := by
    intro ks
    induction ks with
    | nil => intro xs h hk; cases hk
    | cons p ks ih =>
      intro xs h hk
      cases xs with
      | nil => simp at h
      | cons x xs =>
        simp only [List.zip_cons_cons, List.map_cons, dAt]
        by_cases e : p = q
        · subst e
          rw [if_pos rfl]
          by_cases e2 : p = k
          · rw [if_pos e2, if_pos e2.symm]
          · rw [if_neg e2, if_neg fun z => e2 z.symm, if_pos rfl]
        · rw [if_neg e, if_neg e]
          by_cases hk2 : hasK k ks = true
          · exact ih xs (by simpa using h) hk2
          · have hpk : p = k := by
              simp only [hasK, List.any_cons, Bool.or_eq_true, decide_eq_true_eq] at hk hk2
              exact hk.resolve_right hk2
            subst hpk
            rw [if_neg e]
            have : (ks.zip xs).map (fun z => if z.1 = p then y else z.2) = xs := by
              have hx : ks.length = xs.length := by simpa using h
              clear ih h hk
              induction ks generalizing xs with
              | nil => cases xs with
                | nil => rfl
                | cons _ _ => simp at hx
              | cons r ks ih2 =>
                cases xs with
                | nil => simp at hx
                | cons x' xs =>
                  simp only [hasK, List.any_cons, Bool.or_eq_true, decide_eq_true_eq, not_or] at hk2
                  simp only [List.zip_cons_cons, List.map_cons]
                  rw [if_neg hk2.1, ih2 xs hk2.2 (by simpa using hx)]
            rw [this]
  intro ks xs h
  unfold kPut xPut
  cases hk : hasK k ks with
  | true => rw [if_pos rfl, if_pos rfl]; exact mid ks xs h hk
  | false => rw [if_neg (by decide), if_neg (by decide)]; exact snoc ks xs h hk
theorem Dic.put {ks : List Key} {xs : List D} {u : Int → Option Int} {m : Nat} (d : Dic ks xs u m) (b y : Int) : Dic (kPut (.inl b) ks) (xPut (.inl b) (.int y) ks xs) (fun q => if q = b then some y else u q) (m + 1) := by
  refine ⟨fun q => ?_, ?_, ?_, ?_⟩
  · rw [dAt_put d.len, d.at_ q]
    by_cases e : q = b
    · subst e; rw [if_pos rfl, if_pos rfl]; rfl
    · rw [if_neg e, if_neg fun z => e (Sum.inl.inj z).symm]
  · unfold kPut xPut
    have := d.len
    split
    · simp; omega
    · simp; omega
  · have := d.few
    unfold kPut
    split
    · omega
    · simp; omega
  · have hf := d.flat
    have app : ∀ xs : List D, flatDs xs = true → flatDs (xs ++ [.int y]) = true := by
      intro xs
      induction xs with
      | nil => intro _; rfl
      | cons x xs ih => intro h; simp only [flatDs, Bool.and_eq_true] at h; simp only [List.cons_append, flatDs, h.1, ih h.2, Bool.and_self]
    have mp : ∀ (ks : List Key) (xs : List D), flatDs xs = true → flatDs ((ks.zip xs).map fun z => if z.1 = .inl b then .int y else z.2) = true := by
      intro ks
      induction ks with
      | nil => intro xs _; rfl
      | cons k ks ih =>
        intro xs h
        cases xs with
        | nil => rfl
        | cons x xs =>
          simp only [flatDs, Bool.and_eq_true] at h
          simp only [List.zip_cons_cons, List.map_cons, flatDs, ih xs h.2, Bool.and_true]
          split
          · rfl
          · exact h.1
    unfold xPut
    split
    · exact mp ks xs hf
    · exact app xs hf
theorem Dic.one (b y : Int) : Dic [.inl b] [.int y] (fun q => if q = b then some y else none) 1 := by
  refine ⟨fun q => ?_, rfl, Nat.le_refl _, rfl⟩
  simp only [dAt]
  by_cases e : q = b
  · subst e; rw [if_pos rfl, if_pos rfl]; rfl
  · rw [if_neg e, if_neg fun z => e (Sum.inl.inj z).symm]; rfl
theorem Dic.mono {ks : List Key} {xs : List D} {u : Int → Option Int} {m k : Nat} (d : Dic ks xs u m) (h : m ≤ k) : Dic ks xs u k := ⟨d.at_, d.len, Nat.le_trans d.few h, d.flat⟩
theorem Dic.some {ks : List Key} {xs : List D} {u : Int → Option Int} {m : Nat} (d : Dic ks xs u m) (q : Int) : (dAt (.inl q) ks xs).isSome = (u q).isSome := by
  rw [d.at_ q]
  cases u q <;> rfl
theorem fin_dk {C : Store} {k : Nat} {ks : List Key} {xs : List D} (h : C[k]? = some (.dk ks xs)) (f : flatDs xs = true) : fin 0 C (.ptr k) = .dk false ks xs := by
  unfold fin
  simp only [mapW, finG, h, Nat.not_lt_zero, if_false]
  rw [mapWs_flat f]
theorem np_dk {ks : List Key} {xs : List D} (f : flatDs xs = true) : (noold (.dk false ks xs) && noptr (.dk false ks xs)) = true := by
  have := flats_np f
  simp only [noold, okW, noptr, this.1, this.2]
  rfl
end L3

/-! what the longest chains are made of -/
namespace L3
open PySem PySem.Spec PyProof.Rows L2
def someL (n : Nat) (v u : Nat → Int) (m : Int) : List Int := (upto n).filter fun j => decide (v j.toNat + u j.toNat = m)
def orderL (ord s : List Int) : List Int := ord.filter fun j => decide (j ∈ s)
def beginsL (f st : Str) (v : Nat → Int) (s : List Int) : List Int := s.filter fun j => decide (v j.toNat = bsOf f st j.toNat)
def tightL (st : Str) (rs : List (Int × Int)) (v u : Nat → Int) (m : Int) : List (Int × Int) := rs.filter fun z => decide (v z.1.toNat + chOf st z.1.toNat z.2.toNat + u z.2.toNat = m)
abbrev lngN : List Str := ["ahead_held", "later_held", "most_held", "some_held", "order_held", "begins_held", "tight_held"]
def lngX (o : Bool) (f st : Str) (v u : Nat → Int) (m : Int) (ord : List Int) (t : D) : List D := [.lst o (wL st.length v), .lst o (wL st.length u), .int m, .lst o ((someL st.length v u m).map .int), .lst o ((orderL ord (someL st.length v u m)).map .int), .lst o ((beginsL f st v (someL st.length v u m)).map .int), t]
def lngC (o : Bool) (f st : Str) (rs : List (Int × Int)) (v u : Nat → Int) (m : Int) (ord : List Int) : Cell := .ins "Longest" lngN (lngX o f st v u m ord (.lst o ((tightL st rs v u m).map pD)))
/-- what such an instance is made of -/
structure Lng (f st : Str) (rs : List (Int × Int)) (v u : Nat → Int) (m : Int) (ord : List Int) : Prop where
  pl : Pil f st rs
  V : PFix f st rs v
  U : OFix st rs u
  M : IsMax st.length v m
  perm : ord.Perm (upto st.length)
  topo : Topo rs ord
def P_Longest___init__ : PV := fun ds C Q => ∃ (o : Bool) (f st : Str) (rs : List (Int × Int)), ds = [.ptr 0, pil o f st rs] ∧ C = [.ins "Longest" [] []] ∧ Pil f st rs ∧ ∀ v u m ord, Lng f st rs v u m ord → Q .non [lngC false f st rs v u m ord]
def tsI (t : Int → Bool) : D → Bool
  | .int i => t i
  | _ => false
def tsE (t : Int → Int → Int → Bool) : D → Bool
  | .tup [.int j, .tup [.int a, .int b]] => t j a b
  | _ => false
def fsE : D → D
  | .tup [.int j, _] => .int j
  | d => d
theorem filt_i (t : Int → Bool) : ∀ ns : List Int, ((ns.map D.int).filter (tsI t)).map (fun d => d) = (ns.filter t).map .int
  | [] => rfl
  | i :: ns => by
    have ih := filt_i t ns
    rw [List.map_cons, List.filter_cons, List.filter_cons]
    show (if t i = true then _ else _ : List D).map (fun d => d) = _
    cases h : t i with
    | true => rw [if_pos rfl, if_pos rfl, List.map_cons, ih]; rfl
    | false => rw [if_neg (by decide), if_neg (by decide)]; exact ih
theorem enum_zip (v u : Nat → Int) : ∀ (l : List Nat) (i : Nat), enumD i (l.map fun j => .tup [.int (v j), .int (u j)]) = (l.zipIdx i).map fun p => .tup [.int (p.2 : Nat), .tup [.int (v p.1), .int (u p.1)]]
  | [], _ => rfl
  | a :: l, i => by
    rw [List.map_cons, enumD, enum_zip v u l (i + 1), List.zipIdx_cons, List.map_cons]
theorem zipIdx_range : ∀ (n k : Nat), (List.range' k n).zipIdx k = (List.range' k n).map fun j => (j, j)
  | 0, _ => rfl
  | n + 1, k => by
    rw [List.range'_succ, List.zipIdx_cons, zipIdx_range n (k + 1), List.map_cons]
theorem enum_vu (n : Nat) (v u : Nat → Int) : enumD 0 ((List.range n).map fun j => .tup [.int (v j), .int (u j)]) = (List.range n).map fun j : Nat => .tup [.int (j : Nat), .tup [.int (v j), .int (u j)]] := by
  rw [enum_zip, List.range_eq_range', zipIdx_range, List.map_map]
  rfl
theorem filt_e (t : Int → Int → Int → Bool) (v u : Nat → Int) : ∀ l : List Nat, ((l.map fun j : Nat => D.tup [.int (j : Nat), .tup [.int (v j), .int (u j)]]).filter (tsE t)).map fsE = ((l.map fun j : Nat => (j : Int)).filter fun j => t j (v j.toNat) (u j.toNat)).map .int
  | [] => rfl
  | i :: l => by
    have ih := filt_e t v u l
    rw [List.map_cons, List.filter_cons, List.map_cons, List.filter_cons]
    show (if t (i : Int) (v i) (u i) = true then _ else _ : List D).map _ = _
    rw [Int.toNat_natCast]
    cases h : t (i : Int) (v i) (u i) with
    | true => rw [if_pos rfl, if_pos rfl, List.map_cons, List.map_cons, ih]; rfl
    | false => rw [if_neg (by decide), if_neg (by decide)]; exact ih
theorem someL_len {n : Nat} {v u : Nat → Int} {m : Int} : (someL n v u m).length ≤ n := by
  unfold someL
  refine Nat.le_trans (List.length_filter_le _ _) ?_
  simp [upto]
theorem mapWs_wL {h : Bool → Bool} {g : Nat → D} {n : Nat} {v : Nat → Int} : mapWs h g (wL n v) = wL n v := by rw [wL_ints, mapWs_ints]
theorem map_lngC {h : Bool → Bool} {g : Nat → D} {o : Bool} {f st : Str} {rs : List (Int × Int)} {v u : Nat → Int} {m : Int} {ord : List Int} : (lngC o f st rs v u m ord).mapC h g = lngC (h o) f st rs v u m ord := by
  unfold lngC lngX
  simp only [Cell.mapC, mapWs, mapW, mapWs_wL, mapWs_ints, mapWs_flat (flat_pairs _)]
theorem finS1_lng {f st : Str} {rs : List (Int × Int)} {v u : Nat → Int} {m : Int} {ord : List Int} : finS 1 [.ins "Longest" lngN (lngX false f st v u m ord (.ptr 1)), .lst ((tightL st rs v u m).map pD)] = [lngC false f st rs v u m ord] := by
  unfold finS
  rw [show List.take 1 [Cell.ins "Longest" lngN (lngX false f st v u m ord (.ptr 1)), .lst ((tightL st rs v u m).map pD)] = [Cell.ins "Longest" lngN (lngX false f st v u m ord (.ptr 1))] from rfl, List.map_cons, List.map_nil]
  unfold lngX lngC lngX
  simp only [Cell.mapC, mapWs, mapW, mapWs_wL, mapWs_ints, id]
  have e : finG 1 [Cell.ins "Longest" lngN [.lst false (wL st.length v), .lst false (wL st.length u), .int m, .lst false ((someL st.length v u m).map .int), .lst false ((orderL ord (someL st.length v u m)).map .int), .lst false ((beginsL f st v (someL st.length v u m)).map .int), .ptr 1], .lst ((tightL st rs v u m).map pD)] 3 1 = .lst false ((tightL st rs v u m).map pD) := by
    simp only [finG]
    show D.lst false (mapWs id _ ((tightL st rs v u m).map pD)) = _
    rw [mapWs_flat (flat_pairs _)]
  rw [e]
theorem v_Longest___init__ (ds : List D) (C : Store) (Q3 : D → Store → Prop) (h : P_Longest___init__ ds C Q3) (hC : C.length = 1) : T_Longest___init__ P_need_pile P_earliest_of P_to_come P_in_order P_base_of P_change (enF 1 Q3) (start3 N_Longest___init__ ds) C := by
  obtain ⟨o, f, st, rs, rfl, rfl, hp, q⟩ := h
  have hz := sizeL
  have h24 := hp.top
  have hr := hp.rul
  have hrf := hr.few
  refine ⟨_, rfl, true, f, st, rs, views_pil1, hp, rfl, ?_⟩
  refine ⟨_, rfl, true, f, st, rs, views_pil1, hp, fun v V => ⟨np_wL, _, rfl, 0, _, _, rfl, rfl, (show 0 < 1000 by decide), ?_⟩⟩
  show sSeq _ _ _ _ [.ins "Longest" ["ahead_held"] [.lst false (wL st.length v)]]
  refine ⟨_, rfl, true, f, st, rs, views_pil1, hp, fun u U => ⟨np_wL, _, rfl, 0, _, _, rfl, rfl, (show 1 < 1000 by decide), ?_⟩⟩
  show sSeq _ _ _ _ [.ins "Longest" ["ahead_held", "later_held"] [.lst false (wL st.length v), .lst false (wL st.length u)]]
  refine ⟨_, rfl, _, _, _, _, rfl, rfl, rfl, _, _, rfl, wl_lst, wl_pos hp.pos, fun m h1 h2 => ⟨_, rfl, 0, _, _, rfl, rfl, (show 2 < 1000 by decide), ?_⟩⟩
  have M := max_of h1 h2
  show sSeq _ _ _ _ [.ins "Longest" ["ahead_held", "later_held", "most_held"] [.lst false (wL st.length v), .lst false (wL st.length u), .int m]]
  refine ⟨_, rfl, _, _, _, _, rfl, rfl, rfl, _, rfl, _, _, _, _, rfl, rfl, rfl, _, _, _, _, rfl, rfl, rfl, ?_⟩
  rw [show zipD (wL st.length v) (wL st.length u) = (List.range st.length).map fun j => .tup [.int (v j), .int (u j)] from zip_wL _ v u]
  refine ⟨_, rfl, _, _, rfl, rfl, ?_⟩
  rw [enum_vu]
  refine lc_filter (tsE fun _ a b => decide (a + b = m)) fsE _ (fun _ h => by simp [srcOf] at h) (by simp; omega) (fun d hd R R' hR hR' => ?_) ?_
  · obtain ⟨j, hj, rfl⟩ := List.mem_map.mp hd
    refine ⟨_, rfl, rfl, _, _, rfl, _, _, rfl, _, rfl, rfl, _, _, rfl, _, _, rfl, rfl, rfl, ?_⟩
    refine ⟨_, rfl, _, rfl, _, _, rfl, rfl, _, rfl, _, _, _, _, rfl, rfl, rfl, _, rfl, ?_⟩
    by_cases hw : v j + u j = m
    · exact goT (by simp [hw]) ⟨_, rfl, hR (by simp [tsI, tsE, hw])⟩
    · exact goF (by simp [hw]) (hR' (by simp [tsI, tsE, hw]))
  rw [filt_e (fun _ a b => decide (a + b = m))]
  refine ⟨_, rfl, 0, _, _, rfl, rfl, (show 3 < 1000 by decide), ?_⟩
  show sSeq _ _ _ _ [.ins "Longest" ["ahead_held", "later_held", "most_held", "some_held"] [.lst false (wL st.length v), .lst false (wL st.length u), .int m, .lst false ((someL st.length v u m).map .int)]]
  have hsl : (someL st.length v u m).length ≤ st.length := someL_len
  have smem : ∀ x, x ∈ someL st.length v u m → ∃ i : Nat, i < st.length ∧ x = (i : Int) := fun x hx => by
    obtain ⟨i, hi, rfl⟩ := List.mem_map.mp (List.mem_filter.mp hx).1
    exact ⟨i, by simpa using hi, rfl⟩
  generalize hs : someL st.length v u m = s at hsl smem
  -- the order
  refine ⟨_, rfl, true, f, st, rs, views_pil1, hp, fun ord g1 g2 => ⟨np_ints, ord.map .int, rfl, ?_⟩⟩
  have hol : ord.length = st.length := by rw [g1.length_eq]; simp [upto]
  refine lc_filter (tsI fun i => decide (i ∈ s)) (fun d => d) _ (fun _ h => by simp [srcOf] at h) (by rw [List.length_map]; omega) (fun d hd R R' hR hR' => ?_) ?_
  · obtain ⟨j, hj, rfl⟩ := List.mem_map.mp hd
    refine ⟨_, rfl, _, rfl, _, _, _, _, rfl, rfl, rfl, in_ints (ns := s) ⟨_, rfl, ?_⟩⟩
    by_cases hw : j ∈ s
    · exact goT (by simp [hw]) ⟨_, rfl, hR (by simp [tsI, tsE, hw])⟩
    · exact goF (by simp [hw]) (hR' (by simp [tsI, tsE, hw]))
  rw [filt_i fun i => decide (i ∈ s)]
  refine ⟨_, rfl, 0, _, _, rfl, rfl, (show 4 < 1000 by decide), ?_⟩
  show sSeq _ _ _ _ [.ins "Longest" ["ahead_held", "later_held", "most_held", "some_held", "order_held"] [.lst false (wL st.length v), .lst false (wL st.length u), .int m, .lst false (s.map .int), .lst false ((orderL ord s).map .int)]]
  -- the beginnings
  refine ⟨_, rfl, _, _, _, _, rfl, rfl, rfl, s.map .int, rfl, ?_⟩
  refine lc_filter (tsI fun i => decide (v i.toNat = bsOf f st i.toNat)) (fun d => d) _ (fun _ h => by simp [srcOf] at h) (by rw [List.length_map]; omega) (fun d hd R R' hR hR' => ?_) ?_
  · obtain ⟨j', hj', rfl⟩ := List.mem_map.mp hd
    obtain ⟨j, hj, rfl⟩ := smem j' hj'
    refine ⟨_, rfl, _, _, _, _, rfl, rfl, rfl, _, rfl, _, _, _, rfl, rfl, wL_at hj, _, rfl, _, rfl, true, f, st, rs, j, by rw [views_pil, views_int, views_nil], hp, hj, rfl, _, rfl, ?_⟩
    simp only [tsI, Int.toNat_natCast] at hR hR'
    by_cases hw : v j = bsOf f st j
    · exact goT (show (false != decide (v j = bsOf f st j)) = true by simp [hw]) ⟨_, rfl, hR (decide_eq_true hw)⟩
    · exact goF (show (false != decide (v j = bsOf f st j)) = false by simp [hw]) (hR' (decide_eq_false hw))
  rw [filt_i fun i => decide (v i.toNat = bsOf f st i.toNat)]
  refine ⟨_, rfl, 0, _, _, rfl, rfl, (show 5 < 1000 by decide), ?_⟩
  show sSeq _ _ _ _ [.ins "Longest" ["ahead_held", "later_held", "most_held", "some_held", "order_held", "begins_held"] [.lst false (wL st.length v), .lst false (wL st.length u), .int m, .lst false (s.map .int), .lst false ((orderL ord s).map .int), .lst false ((beginsL f st v s).map .int)]]
  -- the tight rules
  refine ⟨Nat.zero_le _, _, rfl, 0, _, _, rfl, rfl, (show 6 < 1000 by decide), ?_⟩
  dsimp only
  show sFor _ _ _ (enF 1 Q3) _ [.ins "Longest" lngN [.lst false (wL st.length v), .lst false (wL st.length u), .int m, .lst false (s.map .int), .lst false ((orderL ord s).map .int), .lst false ((beginsL f st v s).map .int), .ptr 1], .lst []]
  refine ⟨_, rfl, _, _, _, rfl, rfl, rfl, _, rfl, rfl, np_pairs rs, ?_⟩
  refine forW_run (fun ds Γ C => ∃ (dn rest : List (Int × Int)), rs = dn ++ rest ∧ ds = rest.map pD ∧ C = [.ins "Longest" lngN [.lst false (wL st.length v), .lst false (wL st.length u), .int m, .lst false (s.map .int), .lst false ((orderL ord s).map .int), .lst false ((beginsL f st v s).map .int), .ptr 1], .lst ((tightL st dn v u m).map pD)] ∧ ∃ a b c d e g, Γ = [some (.ptr 0), some (pil o f st rs), a, b, c, d, e, g]) ?step ?stop _ _ _ ⟨[], rs, rfl, rfl, rfl, _, _, _, _, _, _, rfl⟩
  case step =>
    rintro d ds Γ C ⟨dn, rest, e3, e4, rfl, a, b, c, d', e, g, rfl⟩ R hR
    cases rest with
    | nil => cases e4
    | cons z rest =>
    simp only [List.map_cons, List.cons.injEq] at e4
    obtain ⟨rfl, rfl⟩ := e4
    have hzm : z ∈ rs := by rw [e3]; simp
    have hdl : dn.length < 60 := by
      have := congrArg List.length e3
      simp at this
      omega
    have htl : (tightL st dn v u m).length ≤ dn.length := List.length_filter_le _ _
    obtain ⟨a1, a2, a3, a4, a5⟩ := hr.inn z hzm
    obtain ⟨i, hi⟩ := Int.eq_ofNat_of_zero_le a1
    obtain ⟨j, hj⟩ := Int.eq_ofNat_of_zero_le a3
    have hi' : i < st.length := by omega
    have hj' : j < st.length := by omega
    obtain ⟨zi, zj⟩ := z
    simp only at hi hj
    subst hi hj
    refine ⟨_, rfl, rfl, _, _, rfl, _, _, rfl, rfl, ?_⟩
    refine ⟨_, rfl, _, _, _, _, rfl, rfl, rfl, _, rfl, _, _, _, rfl, rfl, wL_at hi', _, rfl, _, rfl, _, rfl, true, f, st, rs, i, j, by rw [views_pil, views_int, views_int, views_nil], hp, hi', hj', rfl, _, _, rfl, rfl, _, rfl, _, _, _, _, rfl, rfl, rfl, _, rfl, _, _, _, rfl, rfl, wL_at hj', _, _, rfl, rfl, _, rfl, _, _, _, _, rfl, rfl, rfl, _, rfl, ?_⟩
    by_cases hw : v i + chOf st i j + u j = m
    · refine goT (show (false != decide (v i + chOf st i j + u j = m)) = true by simp [hw]) ?_
      refine ⟨_, rfl, _, _, _, _, rfl, rfl, rfl, _, rfl, _, rfl, _, rfl, by rw [hz]; show 2 ≤ 16777216; decide, 1, _, _, rfl, rfl, rfl, by rw [List.length_map]; omega, ?_⟩
      have et : (tightL st (dn ++ [((i : Int), (j : Int))]) v u m) = tightL st dn v u m ++ [((i : Int), (j : Int))] := by
        unfold tightL
        rw [List.filter_append, List.filter_cons]
        simp only [Int.toNat_natCast]
        rw [if_pos (decide_eq_true hw)]
        rfl
      refine hR _ _ ⟨dn ++ [((i : Int), (j : Int))], rest, by rw [e3]; simp, rfl, ?_, _, _, _, _, _, _, rfl⟩
      rw [et, List.map_append]
      rfl
    · refine goF (show (false != decide (v i + chOf st i j + u j = m)) = false by simp [hw]) ?_
      have et : (tightL st (dn ++ [((i : Int), (j : Int))]) v u m) = tightL st dn v u m := by
        unfold tightL
        rw [List.filter_append, List.filter_cons]
        simp only [Int.toNat_natCast]
        rw [if_neg (by simp [hw])]
        simp
      refine hR _ _ ⟨dn ++ [((i : Int), (j : Int))], rest, by rw [e3]; simp, rfl, ?_, _, _, _, _, _, _, rfl⟩
      rw [et]
  case stop =>
    rintro Γ C ⟨dn, rest, e3, e4, rfl, a, b, c, d', e, g, rfl⟩
    cases rest with
    | cons z rest => cases e4
    | nil =>
    rw [List.append_nil] at e3
    subst e3
    subst hs
    show Q3 .non (finS 1 [.ins "Longest" lngN (lngX false f st v u m ord (.ptr 1)), .lst ((tightL st rs v u m).map pD)])
    rw [finS1_lng]
    exact q v u m ord ⟨hp, V, U, M, g1, g2⟩
/-! ### made -/
theorem make_lng {i : Nat} {o : Bool} {f st : Str} {rs : List (Int × Int)} {Γ : Slots} {C : Store} {Q : D → Store → Prop} (hi : Γ[i]? = some (some (pil o f st rs))) (hp : Pil f st rs) (q : ∀ v u m ord, Lng f st rs v u m ord → Q (.ptr C.length) (C ++ [lngC false f st rs v u m ord])) : eMake "Longest" P_Longest___init__ (aCons (eVar i) aNil) Γ C Q := by
  rw [u_eMake, u_aCons]
  refine ⟨_, hi, ?_⟩
  show P_Longest___init__ (views [C.length] (C ++ [Cell.ins "Longest" [] []]) [.ptr C.length, pil o f st rs]) (viewC [C.length] (C ++ [Cell.ins "Longest" [] []])) fun d Cc => d = .non ∧ (∀ c, c ∈ Cc → c.okC (fun o => !o) = true) ∧
    Q (.ptr C.length) (putS [C.length] (Cc.map (backs [C.length])) (C ++ [.ins "Longest" [] []]))
  have e1 : viewC [C.length] (C ++ [Cell.ins "Longest" [] []]) = [.ins "Longest" [] []] := by
    unfold viewC
    simp only [List.map_cons, List.map_nil]
    rw [List.getElem?_append_right (Nat.le_refl _), Nat.sub_self]
    rfl
  have e2 : views [C.length] (C ++ [Cell.ins "Longest" [] []]) [.ptr C.length, pil o f st rs] = [.ptr 0, pil true f st rs] := by
    unfold views pil
    simp [mapWs, mapW, viewG, posOf, mapWs_flat (flat_pairs rs)]
  rw [e1, e2]
  refine ⟨true, f, st, rs, rfl, rfl, hp, fun v u m ord h => ⟨rfl, fun c hc => ?_, ?_⟩⟩
  · simp at hc
    subst hc
    have hl : okWs (fun o => !o) ((tightL st rs v u m).map pD) = true := (flats_np (flat_pairs _)).2
    have hw : ∀ w : Nat → Int, okWs (fun o => !o) (wL st.length w) = true := fun w => by rw [wL_ints]; exact (flats_np (flat_ints _)).2
    have hi : ∀ ns : List Int, okWs (fun o => !o) (ns.map D.int) = true := fun ns => (flats_np (flat_ints _)).2
    simp [lngC, lngX, Cell.okC, okWs, okW, hl, hw, hi]
  · have e3 : putS [C.length] ([lngC false f st rs v u m ord].map (backs [C.length])) (C ++ [.ins "Longest" [] []]) = C ++ [lngC false f st rs v u m ord] := by
      show (C ++ [Cell.ins "Longest" [] []]).set C.length ((lngC false f st rs v u m ord).mapC id _) = _
      rw [map_lngC, set_last]
      rfl
    rw [e3]
    exact q v u m ord h
end L3

/-! papers without slack, papers in some longest chain -/
namespace L3
open PySem PySem.Spec PyProof.Rows L2
theorem pyD_intsC {C : Store} {k : Nat} {ns : List Int} (hk : C[k]? = some (.lst (ns.map .int))) : pyD C (.ptr k) = some (.list (ns.map .int)) := by
  unfold pyD
  rw [pyW]
  simp only [pyG, hk, pyWs_ints]
  rfl
theorem seq_ptr {C : Store} {k : Nat} {xs : List D} (hk : C[k]? = some (.lst xs)) : seqOf C (.ptr k) = some xs := by simp only [seqOf, lstOf, hk]
theorem oEq_ints_nilC {neg o : Bool} {C : Store} {k : Nat} {ns : List Int} {q : D → Prop} (hk : C[k]? = some (.lst (ns.map .int))) (h : q (.bl (neg != decide (ns = [])))) : oEq neg C (.ptr k) (.lst o []) q := by
  refine ⟨.list (ns.map .int), .list [], pyD_intsC hk, rfl, shaped_ints ns, rfl, ?_⟩
  have e : PyData.eqv (.list (ns.map .int)) (.list []) = decide (ns = []) := by
    cases ns with
    | nil => rfl
    | cons z ns => simp [PyData.eqv, PyData.eqvAll]
  rw [e]
  exact h
theorem in_intsC {neg : Bool} {C : Store} {k : Nat} {z : Int} {ns : List Int} {q : D → Prop} (hk : C[k]? = some (.lst (ns.map .int))) (h : q (.bl (neg != decide (z ∈ ns)))) : oIn neg C (.int z) (.ptr k) q := by
  refine ⟨.int z, ns.map .int, rfl, pyD_intsC hk, by simp [SeqAt.shaped, PyData.canLay0, PyData.depth], shaped_ints ns, ?_⟩
  have e : ((ns.map PyData.int).any fun y => PyData.eqv y (.int z)) = decide (z ∈ ns) := by
    rw [List.any_map]
    by_cases hm : z ∈ ns
    · rw [decide_eq_true hm]
      exact List.any_eq_true.mpr ⟨z, hm, by simp [PyData.eqv]⟩
    · rw [decide_eq_false hm]
      apply Bool.eq_false_iff.mpr
      intro h
      obtain ⟨y, hy, e⟩ := List.any_eq_true.mp h
      have : y = z := by simpa [PyData.eqv] using e
      exact hm (this ▸ hy)
  rw [e]
  exact h
/-! ### in some -/
def P_in_some : PV := fun ds C Q => ∃ (o : Bool) (f st : Str) (rs : List (Int × Int)), ds = [pil o f st rs] ∧ Pil f st rs ∧ ∀ v u m ord, Lng f st rs v u m ord → Q (.lst false ((someL st.length v u m).map .int)) C
theorem v_in_some (ds : List D) (C : Store) (Q3 : D → Store → Prop) (h : P_in_some ds C Q3) (hC : C.length = 0) : T_in_some P_Longest___init__ (enF 0 Q3) (start3 N_in_some ds) C := by
  obtain ⟨o, f, st, rs, rfl, hp, q⟩ := h
  rw [List.length_eq_zero_iff] at hC
  subst hC
  rw [T_in_some, u_sRet, u_eFrz, u_fCB, u_aCons, u_eFld]
  refine make_lng (o := o) (f := f) (st := st) (rs := rs) rfl hp fun v u m ord L => ?_
  refine ⟨_, _, _, _, rfl, rfl, rfl, _, _, rfl, rfl, ?_⟩
  show Q3 (fin 0 _ (.lst false ((someL st.length v u m).map .int))) (finS 0 _)
  rw [fin_ints, finS0]
  exact q v u m ord L
/-! ### no slack -/
def noSl (n : Nat) (m : Int) (v u : Nat → Int) : List Int := (upto n).filter fun j => decide (v j.toNat = late m v u j.toNat)
def P_no_slack : PV := fun ds C Q => ∃ (o : Bool) (f st : Str) (rs : List (Int × Int)) (m : Int), ds = [pil o f st rs, .int m] ∧ Pil f st rs ∧ Most f st rs m ∧ ∀ v u, PFix f st rs v → OFix st rs u → Q (.lst false ((noSl st.length m v u).map .int)) C
theorem v_no_slack (ds : List D) (C : Store) (Q3 : D → Store → Prop) (h : P_no_slack ds C Q3) (hC : C.length = 0) : T_no_slack P_need_pile P_need_most P_latest_of P_earliest_of (enF 0 Q3) (start3 N_no_slack ds) C := by
  obtain ⟨o, f, st, rs, m, rfl, hp, hm, q⟩ := h
  rw [List.length_eq_zero_iff] at hC
  subst hC
  have hz := sizeL
  have h24 := hp.top
  refine ⟨_, rfl, true, f, st, rs, views_pil1, hp, rfl, ?_⟩
  refine ⟨_, rfl, _, rfl, true, f, st, rs, m, by rw [views_pil, views_int, views_nil], hp, hm, rfl, ?_⟩
  refine ⟨_, rfl, true, f, st, rs, views_pil1, hp, fun v V => ⟨np_wL, ?_⟩⟩
  refine ⟨_, rfl, _, rfl, true, f, st, rs, m, by rw [views_pil, views_int, views_nil], hp, fun v2 u V2 U => ⟨np_wL, _, _, _, _, rfl, rfl, rfl, ?_⟩⟩
  rw [show zipD (wL st.length v) (wL st.length (late m v2 u)) = (List.range st.length).map fun j => .tup [.int (v j), .int (late m v2 u j)] from zip_wL _ v _]
  refine ⟨_, rfl, _, _, rfl, rfl, ?_⟩
  rw [enum_vu]
  refine lc_filter (tsE fun _ a b => decide (a = b)) fsE _ (fun _ h => by simp [srcOf] at h) (by simp; omega) (fun d hd R R' hR hR' => ?_) ?_
  · obtain ⟨j, hj, rfl⟩ := List.mem_map.mp hd
    refine ⟨_, rfl, rfl, _, _, rfl, _, _, rfl, _, rfl, rfl, _, _, rfl, _, _, rfl, rfl, rfl, ?_⟩
    refine ⟨_, rfl, _, rfl, _, rfl, ?_⟩
    by_cases hw : v j = late m v2 u j
    · exact goT (by simp [hw]) ⟨_, rfl, hR (by simp [tsE, hw])⟩
    · exact goF (by simp [hw]) (hR' (by simp [tsE, hw]))
  rw [filt_e (fun _ a b => decide (a = b))]
  show Q3 (fin 0 _ (.lst false (((upto st.length).filter fun j => decide (v j.toNat = late m v2 u j.toNat)).map .int))) (finS 0 _)
  rw [fin_ints, finS0]
  have e : ((upto st.length).filter fun j => decide (v j.toNat = late m v2 u j.toNat)) = noSl st.length m v u := by
    refine List.filter_congr fun j hj => ?_
    obtain ⟨i, hi, rfl⟩ := List.mem_map.mp hj
    rw [Int.toNat_natCast, late_congr hp V2 U V U i (by simpa using hi)]
  rw [e]
  exact q v u V U
/-- worked out otherwise -/
theorem noSl_due {f st : Str} {rs : List (Int × Int)} (hp : Pil f st rs) {v u : Nat → Int} {m t : Int} (V : PFix f st rs v) (U : OFix st rs u) (M : IsMax st.length v m) (h : m ≤ t) : noSl st.length t v u = (upto st.length).filter fun j => decide (t - u j.toNat - v j.toNat < 2) := by
  refine List.filter_congr fun j hj => ?_
  obtain ⟨i, hi, rfl⟩ := List.mem_map.mp hj
  have hi' : i < st.length := by simpa using hi
  have h1 := vu_top hp V U M i hi'
  rw [Int.toNat_natCast]
  unfold late
  rw [decide_eq_decide]
  omega
theorem noSl_none {f st : Str} {rs : List (Int × Int)} (hp : Pil f st rs) {v u : Nat → Int} {m t : Int} (V : PFix f st rs v) (U : OFix st rs u) (M : IsMax st.length v m) (h : m + 1 < t) : noSl st.length t v u = [] := by
  rw [noSl_due hp V U M (by omega), List.filter_eq_nil_iff]
  intro j hj
  obtain ⟨i, hi, rfl⟩ := List.mem_map.mp hj
  have hi' : i < st.length := by simpa using hi
  have h1 := vu_top hp V U M i hi'
  rw [Int.toNat_natCast, decide_eq_true_eq]
  omega
theorem some_noSl {f st : Str} {rs : List (Int × Int)} (hp : Pil f st rs) {v u : Nat → Int} {m : Int} (V : PFix f st rs v) (U : OFix st rs u) (M : IsMax st.length v m) {j : Int} (hj : j ∈ someL st.length v u m) : j ∈ noSl st.length m v u := by
  rw [noSl_due hp V U M (Int.le_refl _)]
  obtain ⟨h1, h2⟩ := List.mem_filter.mp hj
  refine List.mem_filter.mpr ⟨h1, ?_⟩
  rw [decide_eq_true_eq] at h2 ⊢
  omega
theorem someL_congr {n : Nat} {v u v' u' : Nat → Int} {m : Int} (h1 : ∀ j, j < n → v j = v' j) (h2 : ∀ j, j < n → u j = u' j) : someL n v u m = someL n v' u' m := by
  refine List.filter_congr fun j hj => ?_
  obtain ⟨i, hi, rfl⟩ := List.mem_map.mp hj
  have hi' : i < n := by simpa using hi
  rw [Int.toNat_natCast, h1 i hi', h2 i hi']
theorem noSl_congr {f st : Str} {rs : List (Int × Int)} (hp : Pil f st rs) {v u v' u' : Nat → Int} {m : Int} (V : PFix f st rs v) (U : OFix st rs u) (V' : PFix f st rs v') (U' : OFix st rs u') : noSl st.length m v u = noSl st.length m v' u' := by
  refine List.filter_congr fun j hj => ?_
  obtain ⟨i, hi, rfl⟩ := List.mem_map.mp hj
  have hi' : i < st.length := by simpa using hi
  rw [Int.toNat_natCast, hp.peq V V' i hi', late_congr hp V U V' U' i hi']
end L3

namespace L3
namespace PN
open PySem PySem.Spec PyProof.Rows L2
def T_Lw_cells : SV :=
  (sRet (eFrz (fBin nCat (eFrz (fLst (aCons (eCB oLenA (aCons (eVar 0) aNil)) aNil))) (eFrz (fSlL (eVar 0) oNone (oSome (eC (.int 7))))))))
abbrev N_Lw_cells : List Str := ["_law_script"]
def T_Lw_draw : SV :=
  (sSeq (sIf (bB (eBin oGt (eBin oIxL (eVar 0) (eC (.int 0))) (eC (.int 1)))) (sSeq (sAsg (eBin oMod (eBin oIxL (eVar 0) (eC (.int 0))) (eVar 1)) (gvName 2))
  (sSeq (sAsg (eBin oDivW (eBin oIxL (eVar 0) (eC (.int 0))) (eVar 1)) (gvSubL (eVar 0) (eC (.int 0))))
  (sRet (eVar 2)))) sNext)
  (sSeq (sAsg (eBin oAdd (eBin oIxL (eVar 0) (eC (.int 2))) (eC (.int 1))) (gvSubL (eVar 0) (eC (.int 2))))
  (sSeq (sAsg (eBin oMod (eBin oAdd (eBin oIxL (eVar 0) (eC (.int 1))) (eBin oMulW (eBin oIxL (eVar 0) (eC (.int 2))) (eBin oPowW (eC (.int 96174007)) (eC (.int 3))))) (eBin oAdd (eBin oPowW (eC (.int 10)) (eC (.int 41))) (eC (.int 63)))) (gvName 3))
  (sSeq (sAsg (eBin oAdd (eBin oMod (eBin oPowW (eVar 3) (eC (.int 3))) (eBin oAdd (eBin oPowW (eC (.int 10)) (eC (.int 39))) (eC (.int 33)))) (eBin oMulW (eBin oIxL (eVar 0) (eC (.int 2))) (eC (.int 57885161)))) (gvName 3))
  (sRet (eBin oMod (eBin oDivW (eBin oMod (eBin oPowW (eVar 3) (eC (.int 5))) (eBin oAdd (eBin oPowW (eC (.int 10)) (eC (.int 37))) (eC (.int 43)))) (eC (.int 65537))) (eVar 1)))))))
abbrev N_Lw_draw : List Str := ["_law_bag_here", "_law_many", "_law_found", "_law_mixed"]
def T_Lw_pile (P_Lw_draw : PV) : SV :=
  (sSeq (sAsg (eBin oAdd (eC (.int 1)) (eCallK 1 kf1 P_Lw_draw (aCons (eVar 0) (aCons (eVar 1) aNil)))) (gvName 3))
  (sSeq (sAsg (eM1 oJoin (eC (.str "")) (eFrz (fLc [5] (iRange1 (aCons (eVar 3) aNil)) (gvName 5) bYes (eBin oIxS (eC (.str "RB")) (eCallK 1 kf1 P_Lw_draw (aCons (eVar 0) (aCons (eC (.int 2)) aNil))))))) (gvName 4))
  (sSeq (sAsg (eCell (fListRange (eVar 3))) (gvName 6))
  (sSeq (sAsg (eFrz (fLc [8] (iRange1 (aCons (eVar 3) aNil)) (gvName 8) bYes (eMl mPopAt (eVar 6) (aCons (eCallK 1 kf1 P_Lw_draw (aCons (eVar 0) (aCons (eCB oLenA (aCons (eVar 6) aNil)) aNil))) aNil)))) (gvName 7))
  (sSeq (sAsg (eCell fDt0) (gvName 9))
  (sSeq (sFor (iRange1 (aCons (eCallK 1 kf1 P_Lw_draw (aCons (eVar 0) (aCons (eBin oAdd (eVar 2) (eC (.int 1))) aNil))) aNil)) (gvName 8) (sSeq (sPar 10 11 (aCons (eCallK 1 kf1 P_Lw_draw (aCons (eVar 0) (aCons (eVar 3) aNil))) (aCons (eCallK 1 kf1 P_Lw_draw (aCons (eVar 0) (aCons (eVar 3) aNil))) aNil)))
  (sIf (bB (eBin (oEq true) (eVar 10) (eVar 11))) (sAsg (eC (.bl true)) (gvSubT (eVar 9) (eTup (aCons (eBin oIxL (eVar 7) (eCB oMin2 (aCons (eVar 10) (aCons (eVar 11) aNil)))) (aCons (eBin oIxL (eVar 7) (eCB oMax2 (aCons (eVar 10) (aCons (eVar 11) aNil)))) aNil))))) sNext)))
  (sRet (eTup (aCons (eBin oIxS (eC (.str "RB")) (eCallK 1 kf1 P_Lw_draw (aCons (eVar 0) (aCons (eC (.int 2)) aNil)))) (aCons (eVar 4) (aCons (eFrz (fCB nSortT (aCons (eVar 9) aNil))) aNil)))))))))))
abbrev N_Lw_pile : List Str := ["_law_bag_here", "_law_top", "_law_rules", "_law_many", "_law_stamps", "_law_paper", "_law_left", "_law_row", "_law_bout", "_law_found", "_law_one", "_law_two"]
def T_Lw_some_pile (P_Lw_draw P_Lw_pile : PV) : SV :=
  (sSeq (sIf (bB (eBin (oEq false) (eVar 0) (eFrz (fLst aNil)))) (sSeq (sAsg (eBin oAdd (eC (.int 2)) (eCallK 1 kf1 P_Lw_draw (aCons (eVar 1) (aCons (eC (.int 2)) aNil)))) (gvName 3))
  (sSeq (sAsg (eM1 oJoin (eC (.str "")) (eFrz (fLc [5] (iRange1 (aCons (eVar 3) aNil)) (gvName 5) bYes (eBin oIxS (eC (.str "RB")) (eCallK 1 kf1 P_Lw_draw (aCons (eVar 1) (aCons (eC (.int 2)) aNil))))))) (gvName 4))
  (sRet (eTup (aCons (eC (.str "R")) (aCons (eVar 4) (aCons (eBin oIxL (eFrz (fLst (aCons (eFrz (fLst (aCons (eTup (aCons (eC (.int 0)) (aCons (eC (.int 1)) aNil))) aNil))) (aCons (eFrz (fSlL (eFrz (fLst (aCons (eTup (aCons (eC (.int 0)) (aCons (eC (.int 1)) aNil))) (aCons (eTup (aCons (eC (.int 1)) (aCons (eBin oSub (eVar 3) (eC (.int 1))) aNil))) aNil)))) oNone (oSome (eBin oSub (eVar 3) (eC (.int 1)))))) aNil)))) (eCallK 1 kf1 P_Lw_draw (aCons (eVar 1) (aCons (eC (.int 2)) aNil)))) aNil))))))) sNext)
  (sRet (eCallK 1 kf1 P_Lw_pile (aCons (eVar 1) (aCons (eBin oIxL (eFrz (fLst (aCons (eC (.int 4)) (aCons (eCB oMin2 (aCons (eC (.int 9)) (aCons (eVar 2) aNil))) (aCons (eVar 2) aNil))))) (eCallK 1 kf1 P_Lw_draw (aCons (eVar 1) (aCons (eC (.int 3)) aNil)))) (aCons (eBin oIxL (eFrz (fLst (aCons (eC (.int 3)) (aCons (eC (.int 12)) (aCons (eC (.int 60)) aNil))))) (eCallK 1 kf1 P_Lw_draw (aCons (eVar 1) (aCons (eC (.int 3)) aNil)))) aNil))))))
abbrev N_Lw_some_pile : List Str := ["_law_script", "_law_bag_here", "_law_top", "_law_many", "_law_stamps", "_law_paper"]
def T_Lw_base : SV :=
  (sRet (eCB oInt (aCons (eBin (oEq true) (eBin oIxS (eBin oIxT (eVar 0) (eC (.int 1))) (eVar 1)) (eBin oIxT (eVar 0) (eC (.int 0)))) aNil)))
abbrev N_Lw_base : List Str := ["_law_heap", "_law_paper"]
def T_Lw_change : SV :=
  (sRet (eCB oInt (aCons (eBin (oEq true) (eBin oIxS (eBin oIxT (eVar 0) (eC (.int 1))) (eBin oIxT (eVar 1) (eC (.int 0)))) (eBin oIxS (eBin oIxT (eVar 0) (eC (.int 1))) (eBin oIxT (eVar 1) (eC (.int 1))))) aNil)))
abbrev N_Lw_change : List Str := ["_law_heap", "_law_rule"]
def T_Lw_late (P_Lw_base P_Lw_change : PV) : SV :=
  (sSeq (sAsg (eCell (fLc [3] (iRange1 (aCons (eCB oLenA (aCons (eBin oIxT (eVar 0) (eC (.int 1))) aNil)) aNil)) (gvName 3) bYes (eBin oSub (eVar 1) (eBin oMod (eBin oSub (eVar 1) (eCall P_Lw_base (aCons (eVar 0) (aCons (eVar 3) aNil)))) (eC (.int 2)))))) (gvName 2))
  (sSeq (sFor (iRange1 (aCons (eCB oLenA (aCons (eVar 2) aNil)) aNil)) (gvName 4) (sFor (iLst (eBin oIxT (eVar 0) (eC (.int 2)))) (gvName 5) (sAsg (eCB oMin2 (aCons (eBin oIxL (eVar 2) (eBin oIxT (eVar 5) (eC (.int 0)))) (aCons (eBin oSub (eBin oIxL (eVar 2) (eBin oIxT (eVar 5) (eC (.int 1)))) (eCall P_Lw_change (aCons (eVar 0) (aCons (eVar 5) aNil)))) aNil))) (gvSubL (eVar 2) (eBin oIxT (eVar 5) (eC (.int 0)))))))
  (sRet (eVar 2))))
abbrev N_Lw_late : List Str := ["_law_heap", "_law_top", "_law_found", "_law_paper", "_law_bout", "_law_rule"]
def T_Lw_led (P_Lw_base P_Lw_change P_Lw_late : PV) : SV :=
  (sSeq (sAsg (eCell (fLc [4, 5] (iEnumD (aCons (eVar 1) aNil)) (gvTup 2 (gvCons (gvName 4) (gvCons (gvName 5) gvNil))) bYes (eCB oMax2 (aCons (eC (.int 0)) (aCons (eBin oSub (eVar 5) (eBin oMod (eBin oSub (eVar 5) (eCall P_Lw_base (aCons (eVar 0) (aCons (eVar 4) aNil)))) (eC (.int 2)))) aNil))))) (gvName 3))
  (sSeq (sAsg (eCell (fLc [4, 5] (iEnumD (aCons (eVar 3) aNil)) (gvTup 2 (gvCons (gvName 4) (gvCons (gvName 5) gvNil))) bYes (eCB oMax2 (aCons (eCall P_Lw_base (aCons (eVar 0) (aCons (eVar 4) aNil))) (aCons (eVar 5) aNil))))) (gvName 3))
  (sSeq (sFor (iRange1 (aCons (eCB oLenA (aCons (eVar 3) aNil)) aNil)) (gvName 6) (sFor (iLst (eBin oIxT (eVar 0) (eC (.int 2)))) (gvName 7) (sAsg (eCB oMax2 (aCons (eBin oIxL (eVar 3) (eBin oIxT (eVar 7) (eC (.int 1)))) (aCons (eBin oAdd (eBin oIxL (eVar 3) (eBin oIxT (eVar 7) (eC (.int 0)))) (eCall P_Lw_change (aCons (eVar 0) (aCons (eVar 7) aNil)))) aNil))) (gvSubL (eVar 3) (eBin oIxT (eVar 7) (eC (.int 1)))))))
  (sRet (eFrz (fLc [5, 8] (iZipD (aCons (eVar 3) (aCons (eCall P_Lw_late (aCons (eVar 0) (aCons (eVar 2) aNil))) aNil))) (gvTup 2 (gvCons (gvName 5) (gvCons (gvName 8) gvNil))) bYes (eCB oMin2 (aCons (eVar 5) (aCons (eVar 8) aNil)))))))))
abbrev N_Lw_led : List Str := ["_law_heap", "_law_blocks", "_law_top", "_law_found", "_law_paper", "_law_block", "_law_bout", "_law_rule", "_law_late_here"]
def T_Lw_early (P_Lw_base P_Lw_change : PV) : SV :=
  (sSeq (sAsg (eCell (fLc [2] (iRange1 (aCons (eCB oLenA (aCons (eBin oIxT (eVar 0) (eC (.int 1))) aNil)) aNil)) (gvName 2) bYes (eCall P_Lw_base (aCons (eVar 0) (aCons (eVar 2) aNil))))) (gvName 1))
  (sSeq (sFor (iRange1 (aCons (eCB oLenA (aCons (eVar 1) aNil)) aNil)) (gvName 3) (sFor (iLst (eBin oIxT (eVar 0) (eC (.int 2)))) (gvName 4) (sAsg (eCB oMax2 (aCons (eBin oIxL (eVar 1) (eBin oIxT (eVar 4) (eC (.int 1)))) (aCons (eBin oAdd (eBin oIxL (eVar 1) (eBin oIxT (eVar 4) (eC (.int 0)))) (eCall P_Lw_change (aCons (eVar 0) (aCons (eVar 4) aNil)))) aNil))) (gvSubL (eVar 1) (eBin oIxT (eVar 4) (eC (.int 1)))))))
  (sRet (eVar 1))))
abbrev N_Lw_early : List Str := ["_law_heap", "_law_found", "_law_paper", "_law_bout", "_law_rule"]
def T_Lw_plan (P_Lw_draw P_Lw_early P_Lw_late P_Lw_led : PV) : SV :=
  (sSeq (sAsg (eCallK 1 kf1 P_Lw_draw (aCons (eVar 0) (aCons (eC (.int 4)) aNil))) (gvName 3))
  (sSeq (sIf (bB (eBin (oEq false) (eVar 3) (eC (.int 0)))) (sRet (eCall P_Lw_early (aCons (eVar 1) aNil))) sNext)
  (sSeq (sIf (bB (eBin (oEq false) (eVar 3) (eC (.int 1)))) (sRet (eCall P_Lw_late (aCons (eVar 1) (aCons (eVar 2) aNil)))) sNext)
  (sSeq (sPar 4 5 (aCons (eCall P_Lw_early (aCons (eVar 1) aNil)) (aCons (eCall P_Lw_late (aCons (eVar 1) (aCons (eVar 2) aNil))) aNil)))
  (sRet (eCall P_Lw_led (aCons (eVar 1) (aCons (eFrz (fLc [6, 7] (iZipD (aCons (eVar 4) (aCons (eVar 5) aNil))) (gvTup 2 (gvCons (gvName 6) (gvCons (gvName 7) gvNil))) bYes (eBin oAdd (eVar 6) (eCallK 1 kf1 P_Lw_draw (aCons (eVar 0) (aCons (eBin oAdd (eBin oSub (eVar 7) (eVar 6)) (eC (.int 1))) aNil)))))) (aCons (eVar 2) aNil)))))))))
abbrev N_Lw_plan : List Str := ["_law_bag_here", "_law_heap", "_law_top", "_law_kind", "_law_early_here", "_law_late_here", "_law_one", "_law_two"]
def T_Lw_fewest (P_Lw_early : PV) : SV :=
  (sRet (eCB oMaxL (aCons (eCall P_Lw_early (aCons (eVar 0) aNil)) aNil)))
abbrev N_Lw_fewest : List Str := ["_law_heap"]
def T_Lw_most (P_Lw_fewest P_Lw_draw : PV) : SV :=
  (sSeq (sAsg (eCall P_Lw_fewest (aCons (eVar 1) aNil)) (gvName 2))
  (sRet (eBin oAdd (eVar 2) (eBin oIxL (eFrz (fLst (aCons (eC (.int 0)) (aCons (eC (.int 1)) (aCons (eC (.int 2)) (aCons (eCallK 1 kf1 P_Lw_draw (aCons (eVar 0) (aCons (eC (.int 7)) aNil))) (aCons (eCallK 1 kf1 P_Lw_draw (aCons (eVar 0) (aCons (eBin oPowW (eC (.int 10)) (eC (.int 29))) aNil))) aNil))))))) (eCallK 1 kf1 P_Lw_draw (aCons (eVar 0) (aCons (eC (.int 5)) aNil)))))))
abbrev N_Lw_most : List Str := ["_law_bag_here", "_law_heap", "_law_few"]
def T_keeps_rules : SV :=
  (sRet (eCB oAll (aCons (eFrz (fLc [2, 3] (iLst (eVar 0)) (gvTup 2 (gvCons (gvName 2) (gvCons (gvName 3) gvNil))) bYes (eBin oLe (eBin oIxL (eVar 1) (eVar 2)) (eBin oIxL (eVar 1) (eVar 3))))) aNil)))
abbrev N_keeps_rules : List Str := ["rules", "plan", "paper", "other"]
def T_is_block : SV :=
  (sSeq (sIf (bOr (bNot (bB (eIsi .int (eVar 0)))) (bOr (bB (eIsi .bool (eVar 0))) (bB (eBin oLt (eVar 0) (eC (.int 0)))))) (sRet (eC (.bl false))) sNext)
  (sRet (eOr (eBin (oIsN false) (eVar 1) (eC .non)) (eBin oLe (eVar 0) (eVar 1)))))
abbrev N_is_block : List Str := ["thing", "most"]
def T_is_plan_of (P_is_block P_base_of P_keeps_rules : PV) : SV :=
  (sSeq (sIf (bOr (bNot (bB (eIsi .list (eVar 1)))) (bOr (bB (eBin (oEq true) (eCB oLenA (aCons (eVar 1) aNil)) (eCB oLenA (aCons (eBin oIxT (eVar 0) (eC (.int 1))) aNil)))) (bNot (bB (eCB oAll (aCons (eFrz (fLc [3] (iLst (eVar 1)) (gvName 3) bYes (eCall P_is_block (aCons (eVar 3) (aCons (eVar 2) aNil))))) aNil)))))) (sRet (eC (.bl false))) sNext)
  (sSeq (sIf (bNot (bB (eCB oAll (aCons (eFrz (fLc [4, 5] (iEnumD (aCons (eVar 1) aNil)) (gvTup 2 (gvCons (gvName 4) (gvCons (gvName 5) gvNil))) bYes (eBin (oEq false) (eBin oMod (eVar 5) (eC (.int 2))) (eCall P_base_of (aCons (eVar 0) (aCons (eVar 4) aNil)))))) aNil)))) (sRet (eC (.bl false))) sNext)
  (sRet (eCall P_keeps_rules (aCons (eBin oIxT (eVar 0) (eC (.int 2))) (aCons (eVar 1) aNil))))))
abbrev N_is_plan_of : List Str := ["pile", "thing", "most", "one", "paper", "block"]
def T_need_plan (P_is_plan_of : PV) : SV :=
  (sIf (bNot (bB (eCall P_is_plan_of (aCons (eVar 0) (aCons (eVar 1) (aCons (eVar 2) aNil)))))) sNever sNext)
abbrev N_need_plan : List Str := ["pile", "thing", "most"]
def T_need_two (P_need_pile P_need_plan : PV) : SV :=
  (sSeq (sDrop (eCall P_need_pile (aCons (eVar 0) aNil)))
  (sSeq (sDrop (eCall P_need_plan (aCons (eVar 0) (aCons (eVar 1) (aCons (eC .non) aNil)))))
  (sDrop (eCall P_need_plan (aCons (eVar 0) (aCons (eVar 2) (aCons (eC .non) aNil)))))))
abbrev N_need_two : List Str := ["pile", "plan", "other"]
def T_lesser (P_need_two : PV) : SV :=
  (sSeq (sDrop (eCall P_need_two (aCons (eVar 0) (aCons (eVar 1) (aCons (eVar 2) aNil)))))
  (sRet (eFrz (fLc [3] (iZipO (aCons (eVar 1) (aCons (eVar 2) aNil))) (gvName 3) bYes (eCB oMinT (aCons (eVar 3) aNil))))))
abbrev N_lesser : List Str := ["pile", "plan", "other", "pair"]
def T_greater (P_need_two : PV) : SV :=
  (sSeq (sDrop (eCall P_need_two (aCons (eVar 0) (aCons (eVar 1) (aCons (eVar 2) aNil)))))
  (sRet (eFrz (fLc [3] (iZipO (aCons (eVar 1) (aCons (eVar 2) aNil))) (gvName 3) bYes (eCB oMaxT (aCons (eVar 3) aNil))))))
abbrev N_greater : List Str := ["pile", "plan", "other", "pair"]
def T_Lw_same (P_Lw_same : PV) : SV :=
  (sSeq (sIf (bB (eIsi2 .list .tuple (eVar 1))) (sSeq (sIf (bOr (bNot (bB (eIsi2 .list .tuple (eVar 0)))) (bB (eBin (oEq true) (eIsi .list (eVar 0)) (eIsi .list (eVar 1))))) (sRet (eC (.bl false))) sNext)
  (sRet (eAnd (eBin (oEq false) (eCB oLenA (aCons (eVar 0) aNil)) (eCB oLenA (aCons (eVar 1) aNil))) (eCB oAll (aCons (eFrz (fLc [2] (iRange1 (aCons (eCB oLenA (aCons (eVar 1) aNil)) aNil)) (gvName 2) bYes (eCall P_Lw_same (aCons (eBin oIxA (eVar 0) (eVar 2)) (aCons (eBin oIxA (eVar 1) (eVar 2)) aNil))))) aNil))))) sNext)
  (sSeq (sIf (bB (eIsi .int (eVar 1))) (sRet (eAnd (eIsi .int (eVar 0)) (eAnd (eBin (oEq false) (eIsi .bool (eVar 0)) (eIsi .bool (eVar 1))) (eBin (oEq false) (eVar 0) (eVar 1))))) sNext)
  (sRet (eBin (oEq false) (eVar 0) (eVar 1)))))
abbrev N_Lw_same : List Str := ["_law_found", "_law_due", "_law_k"]
def T_Lw_good (P_Lw_base : PV) : SV :=
  (sSeq (sIf (bB (eBin (oEq true) (eFrz (fLc [2] (iRange1 (aCons (eCB oLenA (aCons (eVar 1) aNil)) aNil)) (gvName 2) (bOr (bB (eBin oLt (eBin oIxL (eVar 1) (eVar 2)) (eC (.int 0)))) (bB (eBin (oEq true) (eBin oMod (eBin oIxL (eVar 1) (eVar 2)) (eC (.int 2))) (eCall P_Lw_base (aCons (eVar 0) (aCons (eVar 2) aNil)))))) (eC (.int 1)))) (eFrz (fLst aNil)))) (sRet (eC (.bl false))) sNext)
  (sRet (eBin (oEq false) (eFrz (fLc [3, 4] (iLst (eBin oIxT (eVar 0) (eC (.int 2)))) (gvTup 2 (gvCons (gvName 3) (gvCons (gvName 4) gvNil))) (bB (eBin oGt (eBin oIxL (eVar 1) (eVar 3)) (eBin oIxL (eVar 1) (eVar 4)))) (eC (.int 1)))) (eFrz (fLst aNil)))))
abbrev N_Lw_good : List Str := ["_law_heap", "_law_blocks", "_law_paper", "_law_one", "_law_two"]
def T_Lw_bag : SV :=
  (sSeq (sAsg (eCB oMax2 (aCons (eVar 0) (aCons (eBin oSub (eC (.int 0)) (eVar 0)) aNil))) (gvName 2))
  (sRet (eFrz (fLst (aCons (eCB oMax2 (aCons (eC (.int 0)) (aCons (eBin oSub (eVar 2) (eBin oPow (eC (.int 10)) (eC (.int 18)))) aNil))) (aCons (eBin oMod (eBin oAdd (eBin oMul (eVar 0) (eC (.int 654188383))) (eBin oMul (eBin oPow (eC (.int 899809343)) (eC (.int 4))) (eBin oAdd (eVar 1) (eC (.int 1))))) (eBin oAdd (eBin oPow (eC (.int 10)) (eC (.int 41))) (eC (.int 63)))) (aCons (eC (.int 0)) aNil)))))))
abbrev N_Lw_bag : List Str := ["_law_cell", "_law_bout", "_law_size"]
def T_law (P_Lw_cells P_Lw_right P_Lw_bag : PV) : SV :=
  (sSeq (sFor (iEnumD (aCons (eCall P_Lw_cells (aCons (eVar 0) aNil)) aNil)) (gvTup 2 (gvCons (gvName 1) (gvCons (gvName 2) gvNil))) (sIf (bNot (bB (eCallK 1 kf2 P_Lw_right (aCons (eVar 0) (aCons (eCell (fCall P_Lw_bag (aCons (eVar 2) (aCons (eVar 1) aNil)))) aNil))))) (sRet (eC (.bl false))) sNext))
  (sRet (eC (.bl true))))
abbrev N_law : List Str := ["_law_script", "_law_k", "_law_cell"]
def T_Lw_far : SV :=
  (sRet (eBin oDiv (eCB oSum (aCons (eFrz (fLc [2, 3] (iZipD (aCons (eVar 0) (aCons (eVar 1) aNil))) (gvTup 2 (gvCons (gvName 2) (gvCons (gvName 3) gvNil))) bYes (eCB oAbs (aCons (eBin oSub (eVar 2) (eVar 3)) aNil)))) aNil)) (eC (.int 2))))
abbrev N_Lw_far : List Str := ["_law_one", "_law_two", "_law_block", "_law_later"]
def T_far_between : SV :=
  (sRet (eBin oDiv (eCB oSum (aCons (eFrz (fLc [2, 3] (iZipD (aCons (eVar 0) (aCons (eVar 1) aNil))) (gvTup 2 (gvCons (gvName 2) (gvCons (gvName 3) gvNil))) bYes (eCB oAbs (aCons (eBin oSub (eVar 2) (eVar 3)) aNil)))) aNil)) (eC (.int 2))))
abbrev N_far_between : List Str := ["plan", "other", "one", "two"]
def T_apart (P_need_two P_far_between : PV) : SV :=
  (sSeq (sDrop (eCall P_need_two (aCons (eVar 0) (aCons (eVar 1) (aCons (eVar 2) aNil)))))
  (sRet (eCall P_far_between (aCons (eVar 1) (aCons (eVar 2) aNil)))))
abbrev N_apart : List Str := ["pile", "plan", "other"]
def T_can_move : SV :=
  (sSeq (sAsg (eBin oAdd (eBin oIxL (eVar 2) (eVar 3)) (eVar 4)) (gvName 5))
  (sSeq (sIf (bNot (bB (eChain oLe oLe (eC (.int 0)) (eVar 5) (eVar 1)))) (sRet (eC (.bl false))) sNext)
  (sSeq (sFor (iLst (eBin oIxT (eVar 0) (eC (.int 2)))) (gvTup 2 (gvCons (gvName 6) (gvCons (gvName 7) gvNil))) (sIf (bOr (bAnd (bB (eBin (oEq false) (eVar 6) (eVar 3))) (bB (eBin oLt (eBin oIxL (eVar 2) (eVar 7)) (eVar 5)))) (bAnd (bB (eBin (oEq false) (eVar 7) (eVar 3))) (bB (eBin oGt (eBin oIxL (eVar 2) (eVar 6)) (eVar 5))))) (sRet (eC (.bl false))) sNext))
  (sRet (eC (.bl true))))))
abbrev N_can_move : List Str := ["pile", "most", "plan", "paper", "by", "block", "one", "other"]
def T_moves (P_latest P_need_plan P_can_move : PV) : SV :=
  (sSeq (sDrop (eCall P_latest (aCons (eVar 0) (aCons (eVar 1) aNil))))
  (sSeq (sDrop (eCall P_need_plan (aCons (eVar 0) (aCons (eVar 2) (aCons (eVar 1) aNil)))))
  (sSeq (sAsg (eFrz (fLc2 [4, 5] [5] (iRange1 (aCons (eCB oLenA (aCons (eVar 2) aNil)) aNil)) (gvName 4) bYes (iTupl (eTup (aCons (eUn oNeg (eC (.int 2))) (aCons (eC (.int 2)) aNil)))) (gvName 5) bYes (eTup (aCons (eVar 4) (aCons (eVar 5) aNil))))) (gvName 3))
  (sRet (eFrz (fLc [4, 5] (iLst (eVar 3)) (gvTup 2 (gvCons (gvName 4) (gvCons (gvName 5) gvNil))) (bB (eCall P_can_move (aCons (eVar 0) (aCons (eVar 1) (aCons (eVar 2) (aCons (eVar 4) (aCons (eVar 5) aNil))))))) (eTup (aCons (eVar 4) (aCons (eVar 5) aNil)))))))))
abbrev N_moves : List Str := ["pile", "most", "plan", "both", "paper", "by"]
def T_Lw_moved : SV :=
  (sRet (eFrz (fLc [2, 3] (iEnumD (aCons (eVar 0) aNil)) (gvTup 2 (gvCons (gvName 2) (gvCons (gvName 3) gvNil))) bYes (eBin oAdd (eVar 3) (eBin oMul (eBin oIxT (eVar 1) (eC (.int 1))) (eCB oInt (aCons (eBin (oEq false) (eVar 2) (eBin oIxT (eVar 1) (eC (.int 0)))) aNil)))))))
abbrev N_Lw_moved : List Str := ["_law_blocks", "_law_move", "_law_paper", "_law_block"]
def T_Lw_can (P_Lw_moved P_Lw_good : PV) : SV :=
  (sSeq (sAsg (eCall P_Lw_moved (aCons (eVar 1) (aCons (eVar 3) aNil))) (gvName 4))
  (sRet (eAnd (eCall P_Lw_good (aCons (eVar 0) (aCons (eVar 4) aNil))) (eBin oLe (eCB oMaxL (aCons (eVar 4) aNil)) (eVar 2)))))
abbrev N_Lw_can : List Str := ["_law_heap", "_law_blocks", "_law_top", "_law_move", "_law_there"]
def T_Lw_near_most (P_Lw_fewest P_Lw_draw : PV) : SV :=
  (sSeq (sAsg (eCall P_Lw_fewest (aCons (eVar 1) aNil)) (gvName 2))
  (sRet (eBin oAdd (eVar 2) (eBin oIxL (eFrz (fLst (aCons (eC (.int 0)) (aCons (eC (.int 1)) (aCons (eC (.int 2)) (aCons (eCallK 1 kf1 P_Lw_draw (aCons (eVar 0) (aCons (eC (.int 7)) aNil))) (aCons (eCallK 1 kf1 P_Lw_draw (aCons (eVar 0) (aCons (eC (.int 25)) aNil))) aNil))))))) (eCallK 1 kf1 P_Lw_draw (aCons (eVar 0) (aCons (eC (.int 5)) aNil)))))))
abbrev N_Lw_near_most : List Str := ["_law_bag_here", "_law_heap", "_law_few"]
def T_Lw_next : SV :=
  (sSeq (sFor (iRange1 (aCons (eCB oLenA (aCons (eVar 1) aNil)) aNil)) (gvName 3) (sSeq (sAsg (eBin oIxL (eVar 1) (eVar 3)) (gvName 4))
  (sSeq (sAsg (eFrz (fLc [6, 7] (iLst (eBin oIxT (eVar 0) (eC (.int 2)))) (gvTup 2 (gvCons (gvName 6) (gvCons (gvName 7) gvNil))) (bB (eBin (oEq false) (eVar 6) (eVar 3))) (eBin oIxL (eVar 1) (eVar 7)))) (gvName 5))
  (sSeq (sAsg (eFrz (fLc [6, 7] (iLst (eBin oIxT (eVar 0) (eC (.int 2)))) (gvTup 2 (gvCons (gvName 6) (gvCons (gvName 7) gvNil))) (bB (eBin (oEq false) (eVar 7) (eVar 3))) (eBin oIxL (eVar 1) (eVar 6)))) (gvName 8))
  (sSeq (sIf (bAnd (bB (eBin oLt (eVar 4) (eBin oIxL (eVar 2) (eVar 3)))) (bB (eBin (oEq false) (eCB oMinL (aCons (eFrz (fBin nCat (eVar 5) (eFrz (fLst (aCons (eBin oAdd (eVar 4) (eC (.int 2))) aNil))))) aNil)) (eBin oAdd (eVar 4) (eC (.int 2)))))) (sRet (eTup (aCons (eVar 3) (aCons (eC (.int 2)) aNil)))) sNext)
  (sIf (bAnd (bB (eBin oGt (eVar 4) (eBin oIxL (eVar 2) (eVar 3)))) (bB (eBin (oEq false) (eCB oMaxL (aCons (eFrz (fBin nCat (eVar 8) (eFrz (fLst (aCons (eBin oSub (eVar 4) (eC (.int 2))) aNil))))) aNil)) (eBin oSub (eVar 4) (eC (.int 2)))))) (sRet (eTup (aCons (eVar 3) (aCons (eUn oNeg (eC (.int 2))) aNil)))) sNext))))))
  (sRet (eC .non)))
abbrev N_Lw_next : List Str := ["_law_heap", "_law_blocks", "_law_later", "_law_paper", "_law_block", "_law_behind", "_law_one", "_law_two", "_law_ahead"]
def T_Lw_way (P_Lw_far P_Lw_next P_Lw_moved : PV) : SV :=
  (sSeq (sAsg (eCell (fLst aNil)) (gvName 3))
  (sSeq (sFor (iRange1 (aCons (eCall P_Lw_far (aCons (eVar 1) (aCons (eVar 2) aNil))) aNil)) (gvName 4) (sSeq (sAsg (eCall P_Lw_next (aCons (eVar 0) (aCons (eVar 1) (aCons (eVar 2) aNil)))) (gvName 5))
  (sSeq (sDrop (eMl mAppend (eVar 3) (aCons (eVar 5) aNil)))
  (sAsg (eCall P_Lw_moved (aCons (eVar 1) (aCons (eVar 5) aNil))) (gvName 1)))))
  (sRet (eVar 3))))
abbrev N_Lw_way : List Str := ["_law_heap", "_law_blocks", "_law_later", "_law_found", "_law_bout", "_law_move"]
def T_move_nearer (P_can_move : PV) : SV :=
  (sSeq (sFor (iEnumD (aCons (eVar 2) aNil)) (gvTup 2 (gvCons (gvName 4) (gvCons (gvName 5) gvNil))) (sIf (bB (eBin (oEq true) (eVar 5) (eBin oIxL (eVar 3) (eVar 4)))) (sSeq (sAsg (eIf (bB (eBin oLt (eVar 5) (eBin oIxL (eVar 3) (eVar 4)))) (eC (.int 2)) (eUn oNeg (eC (.int 2)))) (gvName 6))
  (sIf (bB (eCall P_can_move (aCons (eVar 0) (aCons (eVar 1) (aCons (eVar 2) (aCons (eVar 4) (aCons (eVar 6) aNil))))))) (sRet (eTup (aCons (eVar 4) (aCons (eVar 6) aNil)))) sNext)) sNext))
  sNever)
abbrev N_move_nearer : List Str := ["pile", "most", "plan", "other", "paper", "block", "by"]
def T_way (P_latest P_need_plan P_far_between P_move_nearer : PV) : SV :=
  (sSeq (sDrop (eCall P_latest (aCons (eVar 0) (aCons (eVar 1) aNil))))
  (sSeq (sDrop (eCall P_need_plan (aCons (eVar 0) (aCons (eVar 2) (aCons (eVar 1) aNil)))))
  (sSeq (sDrop (eCall P_need_plan (aCons (eVar 0) (aCons (eVar 3) (aCons (eVar 1) aNil)))))
  (sSeq (sAsg (eCall P_far_between (aCons (eVar 2) (aCons (eVar 3) aNil))) (gvName 4))
  (sSeq (sIf (bB (eBin oGt (eVar 4) (eC (.int 400)))) sNever sNext)
  (sSeq (sAsg (eCell (fCB nList (aCons (eVar 2) aNil))) (gvName 5))
  (sSeq (sAsg (eCell (fLst aNil)) (gvName 6))
  (sSeq (sFor (iRange1 (aCons (eVar 4) aNil)) (gvName 7) (sSeq (sAsg (eCall P_move_nearer (aCons (eVar 0) (aCons (eVar 1) (aCons (eVar 5) (aCons (eVar 3) aNil))))) (gvTup 2 (gvCons (gvName 8) (gvCons (gvName 9) gvNil))))
  (sSeq (sAugL oAdd (eVar 5) (eVar 8) (eVar 9))
  (sDrop (eMl mAppend (eVar 6) (aCons (eTup (aCons (eVar 8) (aCons (eVar 9) aNil))) aNil))))))
  (sRet (eVar 6))))))))))
abbrev N_way : List Str := ["pile", "most", "plan", "other", "many", "here", "found", "number", "paper", "by"]
def T_is_plan (P_need_pile P_is_plan_of : PV) : SV :=
  (sSeq (sDrop (eCall P_need_pile (aCons (eVar 0) aNil)))
  (sRet (eCall P_is_plan_of (aCons (eVar 0) (aCons (eVar 1) (aCons (eC .non) aNil))))))
abbrev N_is_plan : List Str := ["pile", "thing"]
def T_Lw_pushed (P_moves P_Lw_moved : PV) : SV :=
  (sSeq (sFor (iRange1 (aCons (eC (.int 50)) aNil)) (gvName 4) (sSeq (sAsg (eFrz (fLc [6] (iLst (eCall P_moves (aCons (eVar 0) (aCons (eVar 1) (aCons (eVar 2) aNil))))) (gvName 6) (bB (eBin (oEq false) (eBin oIxT (eVar 6) (eC (.int 1))) (eVar 3))) (eVar 6))) (gvName 5))
  (sSeq (sIf (bB (eBin (oEq false) (eVar 5) (eFrz (fLst aNil)))) (sRet (eVar 2)) sNext)
  (sAsg (eCall P_Lw_moved (aCons (eVar 2) (aCons (eBin oIxL (eVar 5) (eC (.int 0))) aNil))) (gvName 2)))))
  (sRet (eC .non)))
abbrev N_Lw_pushed : List Str := ["_law_heap", "_law_top", "_law_blocks", "_law_by", "_law_bout", "_law_some", "_law_move"]
end PN
end L3

/-! plans: what is drawn -/
namespace L3
namespace PN
open PySem PySem.Spec PyProof.Rows L2
def Bag (c : Int) (x : Cell) : Prop := ∃ a b k : Int, x = .lst [.int a, .int b, .int k] ∧ 0 ≤ a ∧ 0 ≤ b ∧ b < 10 ^ 42 ∧ 0 ≤ k ∧ k ≤ c
theorem Bag.view {c : Int} {x : Cell} (h : Bag c x) {f : Bool → Bool} {g : Nat → D} : x.mapC f g = x := by
  obtain ⟨a, b, k, rfl, _⟩ := h
  rfl
theorem Bag.alive {c : Int} {x : Cell} (h : Bag c x) : x ≠ .dead := by
  obtain ⟨a, b, k, rfl, _⟩ := h
  simp
theorem Bag.ok {c : Int} {x : Cell} (h : Bag c x) : x.okC (fun o => !o) = true := by
  obtain ⟨a, b, k, rfl, _⟩ := h
  rfl
theorem Bag.finS {c : Int} {x : Cell} (h : Bag c x) {C : Store} : finS 1 (x :: C) = [x] := by
  obtain ⟨a, b, k, rfl, _⟩ := h
  rfl
theorem Bag.le {c c' : Int} {x : Cell} (h : Bag c x) (hc : c ≤ c') : Bag c' x := by
  obtain ⟨a, b, k, e, h1, h2, h3, h4, h5⟩ := h
  exact ⟨a, b, k, e, h1, h2, h3, h4, by omega⟩
def P_Lw_bag : PV := fun ds C Q => ∃ c k : Int, ds = [.int c, .int k] ∧ 0 ≤ k ∧ k < 1000 ∧ ∀ xs, Bag 0 (.lst xs) → flatDs xs = true → Q (.lst false xs) C
theorem v_Lw_bag (ds : List D) (C : Store) (Q3 : D → Store → Prop) (h : P_Lw_bag ds C Q3) (hC : C.length = 0) : T_Lw_bag (enF 0 Q3) (start3 N_Lw_bag ds) C := by
  obtain ⟨c, k, rfl, h0, h1, q⟩ := h
  rw [List.length_eq_zero_iff] at hC
  subst hC
  have hz := sizeL
  have eΓ : start3 N_Lw_bag [D.int c, D.int k] = [some (.int c), some (.int k), none] := rfl
  rw [eΓ]
  simp [T_Lw_bag, oMax2, CPow, CMul, hz]
  have b0 := Int.emod_nonneg (c * 654188383 + 655544220824497297544478675899539201 * (k + 1)) (b := 100000000000000000000000000000000000000063) (by decide)
  have b1 := Int.emod_lt_of_pos (c * 654188383 + 655544220824497297544478675899539201 * (k + 1)) (b := 100000000000000000000000000000000000000063) (by decide)
  refine ⟨_, _, ⟨rfl, rfl⟩, _, _, ⟨rfl, rfl⟩, by omega, ?_⟩
  generalize (c * 654188383 + 655544220824497297544478675899539201 * (k + 1)) % 100000000000000000000000000000000000000063 = m at *
  have e : ([D.int (max 0 (max c (-c) - 1000000000000000000)), D.int m, D.int 0] : List D) = [max 0 (max c (-c) - 1000000000000000000), m, 0].map .int := rfl
  rw [finS0, e, fin_ints, ← e]
  exact q _ ⟨_, _, _, rfl, by omega, by omega, by omega, by omega, by omega⟩ rfl
def P_Lw_draw : PV := fun ds C Q => ∃ (m c : Int) (x : Cell), ds = [.ptr 0, .int m] ∧ C = [x] ∧ Bag c x ∧ 0 < m ∧ m < 10 ^ 32 ∧ c < 10 ^ 6 ∧ ∀ r y, 0 ≤ r → r < m → Bag (c + 1) y → Q (.int r) [y]
theorem v_Lw_draw (ds : List D) (C : Store) (Q3 : D → Store → Prop) (h : P_Lw_draw ds C Q3) (hC : C.length = 1) : T_Lw_draw (enF 1 Q3) (start3 N_Lw_draw ds) C := by
  obtain ⟨m, c, x, rfl, rfl, ⟨a, b, k, rfl, ha, hb, hb2, hk, hkc⟩, hm, hm2, hc, q⟩ := h
  have hz := sizeL
  have eΓ : start3 N_Lw_draw [D.ptr 0, D.int m] = [some (.ptr 0), some (.int m), none, none] := rfl
  rw [eΓ]
  have fi : ∀ (C : Store) (r : Int), fin 1 C (.int r) = .int r := fun C r => rfl
  have fs : ∀ a b k : Int, finS 1 [.lst [.int a, .int b, .int k]] = [.lst [.int a, .int b, .int k]] := fun a b k => rfl
  simp [T_Lw_draw, oIxL, lstOf, atI, ixN, gvSubL, fi, fs]
  by_cases h : 1 < a
  · refine .inr ⟨h, hm, cdiv_of hm (by omega), q _ _ (Int.emod_nonneg _ (by omega)) (Int.emod_lt_of_pos _ hm) ⟨_, _, _, rfl, Int.ediv_nonneg ha (by omega), hb, hb2, hk, by omega⟩⟩
  · have p0 := Int.emod_nonneg (b + (k + 1) * 889555670994241933578343) (b := 100000000000000000000000000000000000000063) (by decide)
    have p1 := Int.emod_lt_of_pos (b + (k + 1) * 889555670994241933578343) (b := 100000000000000000000000000000000000000063) (by decide)
    refine .inl ⟨by omega, ?_⟩
    generalize (b + (k + 1) * 889555670994241933578343) % 100000000000000000000000000000000000000063 = p at *
    have s0 := Int.emod_nonneg (p ^ 3) (b := 1000000000000000000000000000000000000033) (by decide)
    have s1 := Int.emod_lt_of_pos (p ^ 3) (b := 1000000000000000000000000000000000000033) (by decide)
    generalize p ^ 3 % 1000000000000000000000000000000000000033 = s at *
    refine ⟨cpow_of (n := 30) (by decide) (by decide) (by decide), cmul_of (a := 30) (b := 90) (by omega) (by decide) (by decide) (by decide) (by decide), cpow10 41 (by decide), cpow_of (n := 150) (by decide) (by omega) (by decide), cpow10 39 (by decide),
      cmul_of (a := 30) (b := 30) (by omega) (by decide) (by decide) (by decide) (by decide), cpow_of (n := 150) (by decide) (by omega) (by decide), cpow10 37 (by decide), cdiv_of (by decide) (by decide), hm, ?_⟩
    exact q _ _ (Int.emod_nonneg _ (by omega)) (Int.emod_lt_of_pos _ hm) ⟨_, _, _, rfl, ha, hb, hb2, by omega, by omega⟩
theorem callB {kf : List D → List Nat} {P : PV} {k : Nat} {ds ds' : List D} {C1 : Store} {c : Int} {x : Cell} {Q : D → Store → Prop} (hkf : kf ds = [k]) (hk : C1[k]? = some x) (hx : Bag c x) (he : views [k] C1 ds = ds')
    (h : P ds' [x] fun d Cc => ∃ y c', Cc = [y] ∧ Bag c' y ∧ (noold d && noptr d) = true ∧ Q d (C1.set k y)) (mono : ∀ (R R' : D → Store → Prop), (∀ d Cc, R d Cc → R' d Cc) → P ds' [x] R → P ds' [x] R') : callK 1 kf P ds C1 Q := by
  unfold callK
  rw [hkf]
  refine ⟨rfl, List.nodup_cons.mpr ⟨by simp, List.nodup_nil⟩, fun k' hk' => ⟨x, ?_, hx.alive⟩, ?_⟩
  · simp at hk'; subst hk'; exact hk
  · have e3 : viewC [k] C1 = [x] := by
      unfold viewC
      simp only [List.map_cons, List.map_nil, hk, Option.getD_some]
      rw [hx.view]
    rw [he, e3]
    refine mono _ _ (fun d Cc hd => ?_) h
    obtain ⟨y, c', rfl, hy, hn, hq⟩ := hd
    simp only [Bool.and_eq_true] at hn
    refine ⟨hn.1, fun c hc => ?_, ?_⟩
    · simp at hc; subst hc; exact hy.ok
    · rw [mapW_np.1 d hn.2]
      show Q d ((C1.set k (y.mapC id (backG [k]))))
      rw [hy.view]
      exact hq
theorem views_p1 {k : Nat} {C1 : Store} {es : List D} : views [k] C1 (.ptr k :: es) = .ptr 0 :: mapWs (fun _ => true) (viewG [k] C1 2) es := by
  unfold views
  rw [mapWs]
  simp [mapW, viewG, posOf]
theorem mono_draw {ds : List D} {C : Store} (R R' : D → Store → Prop) (h : ∀ d Cc, R d Cc → R' d Cc) : P_Lw_draw ds C R → P_Lw_draw ds C R' := fun ⟨m, c, x, e1, e2, e3, e4, e5, e6, q⟩ => ⟨m, c, x, e1, e2, e3, e4, e5, e6, fun r y a b d => h _ _ (q r y a b d)⟩
theorem draw_k {m c : Int} {x : Cell} {k : Nat} {C1 : Store} {Q : D → Store → Prop} (hk : C1[k]? = some x) (hx : Bag c x) (hm : 0 < m) (hm2 : m < 10 ^ 32) (hc : c < 10 ^ 6) (q : ∀ r y, 0 ≤ r → r < m → Bag (c + 1) y → Q (.int r) (C1.set k y)) :
    callK 1 kf1 P_Lw_draw [.ptr k, .int m] C1 Q :=
  callB (k := k) (ds' := [.ptr 0, .int m]) rfl hk hx (by rw [views_p1]; rfl) ⟨m, c, x, rfl, rfl, hx, hm, hm2, hc, fun r y h0 h1 hy => ⟨y, _, rfl, hy, rfl, q r y h0 h1 hy⟩⟩ mono_draw
theorem draw_e {i k : Nat} {m c : Int} {x : Cell} {C1 : Store} {Γ : Slots} {E : EV} {Q : D → Store → Prop} (hk : C1[k]? = some x) (hx : Bag c x) (hv : Γ[i]? = some (some (.ptr k))) (hE : ∀ R : D → Store → Prop, R (.int m) C1 → E Γ C1 R) (hm : 0 < m) (hm2 : m < 10 ^ 32) (hc : c < 10 ^ 6)
    (q : ∀ r y, 0 ≤ r → r < m → Bag (c + 1) y → Q (.int r) (C1.set k y)) : eCallK 1 kf1 P_Lw_draw (aCons (eVar i) (aCons E aNil)) Γ C1 Q := by
  rw [u_eCallK]
  simp only [u_aCons, u_aNil, u_eVar]
  exact ⟨_, hv, hE _ (draw_k hk hx hm hm2 hc q)⟩
/-! ### dicts of pairs -/
theorem kP_inj {z w : Int × Int} (h : kP z = kP w) : z = w := by
  simp only [kP, List.cons.injEq, Sum.inl.injEq] at h
  exact Prod.ext h.1 h.2.1
theorem hasT_pairs {z : Int × Int} {ps : List (Int × Int)} : hasT (kP z) (ps.map kP) = decide (z ∈ ps) := by
  unfold hasT
  rw [List.any_map]
  by_cases h : z ∈ ps
  · rw [decide_eq_true h]
    exact List.any_eq_true.mpr ⟨z, h, by simp⟩
  · rw [decide_eq_false h]
    refine Bool.eq_false_iff.mpr fun e => ?_
    obtain ⟨w, hw, e⟩ := List.any_eq_true.mp e
    have : w = z := kP_inj (by simpa using e)
    exact h (this ▸ hw)
def addP (z : Int × Int) (ps : List (Int × Int)) : List (Int × Int) := if z ∈ ps then ps else ps ++ [z]
theorem tPut_pairs {z : Int × Int} {ps : List (Int × Int)} : tPut (kP z) (ps.map kP) = (addP z ps).map kP := by
  unfold tPut addP
  rw [hasT_pairs]
  by_cases h : z ∈ ps
  · simp [h]
  · simp [h]
theorem yPut_pairs {z : Int × Int} {ps : List (Int × Int)} : yPut (kP z) (.bl true) (ps.map kP) (ps.map fun _ => .bl true) = (addP z ps).map fun _ => .bl true := by
  unfold yPut addP
  rw [hasT_pairs]
  by_cases h : z ∈ ps
  · have : ∀ (ps : List (Int × Int)), ((ps.map kP).zip (ps.map fun _ => D.bl true)).map (fun w => if w.1 = kP z then D.bl true else w.2) = ps.map fun _ => .bl true := by
      intro ps
      induction ps with
      | nil => rfl
      | cons a ps ih => simp only [List.map_cons, List.zip_cons_cons, ih, ite_self]
    simp only [h, decide_true, if_true]
    exact this ps
  · simp [h]
theorem kP_D (z : Int × Int) : D.tup ((kP z).map kD) = pD z := rfl
/-! ### signs, orders -/
theorem sum_one : ∀ l : List Str, (∀ y, y ∈ l → y = cR ∨ y = cB) → (l.map (·.length)).sum = l.length
  | [], _ => rfl
  | y :: l, h => by
    have e : y.length = 1 := by rcases h y (List.mem_cons_self ..) with rfl | rfl <;> rfl
    rw [List.map_cons, List.sum_cons, e, sum_one l fun z hz => h z (List.mem_cons_of_mem _ hz), List.length_cons]
    omega
/-- signs drawn, joined -/
theorem signs_e {i v w : Nat} {n k : Nat} {c : Int} {x : Cell} {C1 : Store} {Γ : Slots} {Q : D → Store → Prop} (hk : C1[k]? = some x) (hx : Bag c x) (hv : (wipe3 Γ [w])[i]? = some (some (.ptr k))) (hiw : i ≠ w) (hn : Γ[v]? = some (some (.int (n : Nat)))) (hn24 : n ≤ 24) (hc : c < 10 ^ 5)
    (q : ∀ (st : Str) (y : Cell), st.length = n → (∀ c, c ∈ st.cps.toList → c = 82 ∨ c = 66) → Bag (c + n) y → Q (.str st) (C1.set k y)) :
    eM1 oJoin (eC (.str "")) (eFrz (fLc [w] (iRange1 (aCons (eVar v) aNil)) (gvName w) bYes (eBin oIxS (eC (.str "RB")) (eCallK 1 kf1 P_Lw_draw (aCons (eVar i) (aCons (eC (.int 2)) aNil)))))) Γ C1 Q := by
  have hz := sizeL
  refine ⟨⟨_, rfl⟩, _, hn, n, rfl, by omega, by omega, ?_⟩
  have hset : ∀ (y z : Cell), (C1.set k y).set k z = C1.set k z := fun y z => by rw [List.set_set]
  have hkl : k < C1.length := (List.getElem?_eq_some_iff.mp hk).1
  have hself : C1.set k x = C1 := by
    obtain ⟨_, e⟩ := List.getElem?_eq_some_iff.mp hk
    rw [← e]
    exact List.set_getElem_self hkl
  refine lcW_run (fun ds acc C => ∃ (ss : List Str) (y : Cell), ss.length + ds.length = n ∧ acc = ss.map .str ∧ C = C1.set k y ∧ Bag (c + ss.length) y ∧ ∀ s, s ∈ ss → s = cR ∨ s = cB) ?step ?stop _ _ _ ⟨[], x, by rw [rg_upto]; simp [upto], rfl, hself.symm, by simpa using hx, fun s hs => by simp at hs⟩
  case step =>
    rintro d ds acc C ⟨ss, y, hl, rfl, rfl, hy, hs⟩ R hR
    simp only [List.length_cons] at hl
    rw [u_gvName, u_bYes, if_pos rfl, u_eBin, u_eC]
    refine draw_e (k := k) (m := 2) (x := y) (by rw [List.getElem?_set_self hkl]) hy (by rw [List.getElem?_set_ne (Ne.symm hiw)]; exact hv) (fun R h => h) (by decide) (by decide) (by omega) fun r y2 h0 h1 hy2 => ?_
    obtain ⟨cc, hcc, hcs⟩ := RB_at h0 h1
    refine ⟨_, _, cc, rfl, rfl, by rw [RB_len, hz]; decide, hcc, ?_⟩
    rw [hset]
    refine ⟨by rw [hz, List.length_map]; omega, fun k hk => by simp at hk, hR _ _ ⟨ss ++ [⟨#[cc]⟩], y2, by simp; omega, by simp, rfl, by simp only [List.length_append, List.length_singleton]; exact hy2.le (by omega), fun s hs' => ?_⟩⟩
    rcases List.mem_append.mp hs' with h | h
    · exact hs s h
    · rw [List.mem_singleton.mp h]; exact hcs
  case stop =>
    rintro acc C ⟨ss, y, hl, rfl, rfl, hy, hs⟩
    simp only [List.length_nil, Nat.add_zero] at hl
    obtain ⟨jl, jc⟩ := join_signs ss hs
    refine ⟨Str.ofString "", _, ss, rfl, rfl, rfl, ?_, q _ _ (by rw [jl, hl]) jc (by rw [← hl]; exact hy)⟩
    rw [sum_one ss hs]
    have e0 : (Str.ofString "").length = 0 := by decide +kernel
    rw [e0]
    omega
end PN
end L3

namespace L3
namespace PN
open PySem PySem.Spec PyProof.Rows L2
theorem set_at {C : Store} {k : Nat} {x y : Cell} (h : C[k]? = some x) : (C.set k y)[k]? = some y := List.getElem?_set_self (List.getElem?_eq_some_iff.mp h).1
theorem oIn_le {n : Nat} : n ≤ 24 → n ≤ sizeLine := fun h => by rw [sizeL]; omega
theorem fin_pil' {n : Nat} {C : Store} {f st : Str} {rs : List (Int × Int)} : fin n C (pil false f st rs) = pil false f st rs := by
  have h := np_pil (f := f) (st := st) (rs := rs)
  simp only [Bool.and_eq_true] at h
  exact mapW_np.1 _ h.2
theorem pil_of {n : Nat} {f st : Str} {qs : List (Int × Int)} {ord : List Int} {ps : List (Int × Int)} (hf : f = cR ∨ f = cB) (h1 : 1 ≤ n) (hn : n ≤ 24) (hl : st.length = n) (hs : ∀ c, c ∈ st.cps.toList → c = 82 ∨ c = 66) (ho : ord.Perm (upto n)) (nd : ps.Nodup) (hps : ps.length ≤ 60) (ha : Along ord ps)
    (hp : qs.Perm ps) (hsr : qs.Pairwise fun x y => SrtO.lexB y x = false) : Pil f st qs := by
  obtain ⟨r1, r2⟩ := along_ok (n := n) ho (hp.nodup_iff.mpr nd) (by rw [hp.length_eq]; exact hps) (fun z hz => ha z (hp.mem_iff.mp hz)) hsr
  rw [← hl] at r1
  exact ⟨hf, by omega, by omega, hs, r1, r2⟩
def P_Lw_pile : PV := fun ds C Q => ∃ (t r c : Int) (x : Cell), ds = [.ptr 0, .int t, .int r] ∧ C = [x] ∧ Bag c x ∧ c < 10 ^ 4 ∧ 1 ≤ t ∧ t ≤ 24 ∧ 0 ≤ r ∧ r ≤ 60 ∧
  ∀ f st rs c' y, Pil f st rs → (st.length : Int) ≤ t → Bag c' y → c' ≤ c + 200 → Q (pil false f st rs) [y]
theorem v_Lw_pile (ds : List D) (C : Store) (Q3 : D → Store → Prop) (h : P_Lw_pile ds C Q3) (hC : C.length = 1) : T_Lw_pile P_Lw_draw (enF 1 Q3) (start3 N_Lw_pile ds) C := by
  obtain ⟨t, r, c, x, rfl, rfl, hx, hc, ht0, ht1, hr0, hr1, q⟩ := h
  have hz := sizeL
  show sSeq (sAsg (eBin oAdd (eC (.int 1)) (eCallK 1 kf1 P_Lw_draw (aCons (eVar 0) (aCons (eVar 1) aNil)))) (gvName 3)) _ _ _ _
  rw [u_sSeq, u_sAsg, u_eBin, u_eC]
  refine draw_e (k := 0) (m := t) rfl hx rfl (fun R h => ⟨_, rfl, h⟩) (by omega) (by omega) (by omega) fun m1 y1 hm0 hm1 hy1 => ?_
  obtain ⟨m, rfl⟩ := Int.eq_ofNat_of_zero_le hm0
  refine ⟨_, _, rfl, rfl, ?_⟩
  obtain ⟨n, en⟩ : ∃ n : Nat, n = m + 1 := ⟨_, rfl⟩
  show gvName 3 (D.int ((1 : Int) + (m : Nat))) _ _ _
  rw [show (1 : Int) + (m : Nat) = (n : Nat) by omega]
  have hn1 : 1 ≤ n := by omega
  have hn24 : n ≤ 24 := by omega
  rw [u_gvName]
  dsimp only
  rw [u_sSeq, u_sAsg]
  refine signs_e (k := 0) (i := 0) (v := 3) (n := n) (x := y1) rfl hy1 rfl (by decide) rfl hn24 (by omega) fun st y2 hst hsg hy2 => ?_
  refine ⟨_, rfl, n, rfl, by omega, by omega, ?_⟩
  rw [rg_upto]
  refine ⟨_, rfl, n, rfl, by omega, by omega, ?_⟩
  refine lcW_run (fun ds acc C => ∃ (as L : List Int) (y : Cell) (c' : Int), ds.length = L.length ∧ acc = as.map .int ∧ C = [y, .lst (L.map .int)] ∧ (as ++ L).Perm (upto n) ∧ Bag c' y ∧ c' = c + 1 + n + as.length) ?step ?stop _ _ _ ⟨[], upto n, y2, c + 1 + n, by rw [rg_upto]; simp, rfl, rfl, List.Perm.refl _, hy2, by simp⟩
  case step =>
    rintro d ds acc C ⟨as, L, y, c', hl, rfl, rfl, hp, hy, hc'⟩ R hR
    have hpl := hp.length_eq
    simp [upto] at hpl
    simp only [List.length_cons] at hl
    rw [u_gvName, u_bYes, if_pos rfl, u_eMl]
    refine ⟨_, rfl, L.map .int, rfl, ?_⟩
    rw [u_aCons]
    refine draw_e (k := 0) (m := (L.length : Nat)) (x := y) rfl hy rfl (fun R h => ⟨_, rfl, _, _, rfl, rfl, by rw [List.length_map]; exact h⟩) (by omega) (by omega) (by omega) fun r y2 h0 h1 hy2 => ?_
    obtain ⟨j, rfl⟩ := Int.eq_ofNat_of_zero_le h0
    have hj : j < L.length := by omega
    refine ⟨1, L.map .int, (j : Nat), j, .int L[j], rfl, rfl, rfl, by omega, by omega, by rw [List.length_map]; exact seq_ix h0 h1, by rw [List.getElem?_map, List.getElem?_eq_getElem hj]; rfl, by simp; omega, fun k hk => by simp at hk, ?_⟩
    refine hR _ _ ⟨as ++ [L[j]], L.eraseIdx j, y2, c' + 1, by rw [List.length_eraseIdx_of_lt hj]; omega, by simp, ?_, ?_, hy2, by simp; omega⟩
    · show [y2, Cell.lst ((L.map D.int).eraseIdx j)] = _
      rw [er_map]
    · refine List.Perm.trans ?_ hp
      rw [List.append_assoc]
      refine List.Perm.append_left as ?_
      rw [List.eraseIdx_eq_take_drop_succ]
      show (L[j] :: (L.take j ++ L.drop (j + 1))).Perm L
      refine List.perm_middle.symm.trans ?_
      rw [← List.drop_eq_getElem_cons hj, List.take_append_drop]
  case stop =>
    rintro acc C ⟨as, L, y, c', hl, rfl, rfl, hp, hy, hc'⟩
    have hL : L = [] := List.length_eq_zero_iff.mp hl.symm
    subst hL
    rw [List.append_nil] at hp
    have al : as.length = n := by rw [hp.length_eq]; simp [upto]
    have aml : (as.map D.int).length = n := by rw [List.length_map, al]
    have at_get : ∀ j : Nat, j < n → ∃ v : Int, as[j]? = some v ∧ atI (as.map D.int) (j : Int) = some (.int v) := fun j hj => by
      refine ⟨as[j]'(by omega), List.getElem?_eq_getElem _, ?_⟩
      unfold atI
      rw [aml, ix_nat hj]
      show (as.map D.int)[j]? = _
      rw [List.getElem?_map, List.getElem?_eq_getElem (by omega)]
      rfl
    show sSeq (sAsg (eCell fDt0) (gvName 9)) (sSeq (sFor (iRange1 (aCons (eCallK 1 kf1 P_Lw_draw (aCons (eVar 0) (aCons (eBin oAdd (eVar 2) (eC (.int 1))) aNil))) aNil)) _ _) _) _ _ _
    rw [u_sSeq, u_sAsg]
    show sSeq (sFor (iRange1 (aCons (eCallK 1 kf1 P_Lw_draw (aCons (eVar 0) (aCons (eBin oAdd (eVar 2) (eC (.int 1))) aNil))) aNil)) _ _) _ _ _ _
    rw [u_sSeq]
    unfold sFor iRange1
    rw [u_aCons]
    refine draw_e (k := 0) (m := r + 1) (x := y) rfl hy rfl (fun R h => ⟨_, rfl, _, _, rfl, rfl, h⟩) (by omega) (by omega) (by omega) fun cnt y3 hc0 hc1 hy3 => ?_
    refine ⟨cnt, rfl, by omega, by omega, rfl, np_rg' 0 _, ?_⟩
    refine forW_run (fun ds Γ C => ∃ (k : Nat) (ps : List (Int × Int)) (y : Cell) (c2 : Int), k + ds.length = cnt.toNat ∧ C = [y, .lst [], .dt (ps.map kP) (ps.map fun _ => .bl true)] ∧ Bag c2 y ∧ c2 ≤ c' + 1 + 2 * k ∧ ps.Nodup ∧ ps.length ≤ k ∧ Along as ps ∧
      ∃ a b e g, Γ = [some (.ptr 0), some (.int t), some (.int r), some (.int (n : Nat)), some (.str st), a, some (.ptr 1), some (.lst false (as.map .int)), b, some (.ptr 2), e, g]) ?step2 ?stop2 _ _ _ ⟨0, [], y3, c' + 1, by rw [rg_len']; simp, rfl, hy3, by omega, List.nodup_nil, by simp, fun z h => by simp at h, _, _, _, _, rfl⟩
    case step2 =>
      rintro d ds Γ C ⟨k, ps, y, c2, hk, rfl, hy, hc2, nd, hpl, hal, a, b, e, g, rfl⟩ R hR
      simp only [List.length_cons] at hk
      rw [u_gvName, u_sSeq, u_sPar, u_aCons]
      refine draw_e (k := 0) (m := (n : Nat)) (x := y) rfl hy rfl (fun R h => ⟨_, rfl, h⟩) (by omega) (by omega) (by omega) fun r1 y4 ha0 ha1 hy4 => ?_
      rw [u_aCons]
      refine draw_e (k := 0) (m := (n : Nat)) (x := y4) rfl hy4 rfl (fun R h => ⟨_, rfl, h⟩) (by omega) (by omega) (by omega) fun r2 y5 hb0 hb1 hy5 => ?_
      refine ⟨_, _, rfl, ?_⟩
      obtain ⟨an, rfl⟩ := Int.eq_ofNat_of_zero_le ha0
      obtain ⟨bn, rfl⟩ := Int.eq_ofNat_of_zero_le hb0
      refine ⟨_, rfl, _, rfl, _, rfl, ?_⟩
      by_cases hab : an = bn
      · refine goF (by simp [hab]) ?_
        exact hR _ _ ⟨k + 1, ps, y5, _, by omega, rfl, hy5, by omega, nd, by omega, hal, _, _, _, _, rfl⟩
      · refine goT (by simp; omega) ?_
        obtain ⟨v1, e1, e2⟩ := at_get (min an bn) (by omega)
        obtain ⟨v2, e3, e4⟩ := at_get (max an bn) (by omega)
        have em : min (an : Int) (bn : Int) = ((min an bn : Nat) : Int) := by omega
        have eM : max (an : Int) (bn : Int) = ((max an bn : Nat) : Int) := by omega
        refine ⟨_, rfl, _, rfl, _, rfl, _, rfl, _, _, rfl, _, _, _, rfl, rfl, (by rw [em]; exact e2), _, rfl, _, rfl, _, rfl, _, _, rfl, _, _, _, rfl, rfl, (by rw [eM]; exact e4), by rw [hz]; show 2 ≤ 16777216; decide, ?_⟩
        refine ⟨2, ps.map kP, ps.map fun _ => .bl true, kP (v1, v2), rfl, rfl, rfl, by rw [List.length_map, hz]; omega, ?_⟩
        rw [tPut_pairs, yPut_pairs]
        refine hR _ _ ⟨k + 1, addP (v1, v2) ps, y5, _, by omega, rfl, hy5, by omega, ?_, ?_, ?_, _, _, _, _, rfl⟩
        · unfold addP
          by_cases hm : (v1, v2) ∈ ps
          · rw [if_pos hm]; exact nd
          · rw [if_neg hm]
            refine List.nodup_append.mpr ⟨nd, by simp, fun a ha b hb e => ?_⟩
            simp at hb
            subst e hb
            exact hm ha
        · unfold addP
          split
          · omega
          · rw [List.length_append, List.length_singleton]
            omega
        · intro z hz'
          unfold addP at hz'
          split at hz'
          · exact hal z hz'
          · rcases List.mem_append.mp hz' with h | h
            · exact hal z h
            · simp at h
              subst h
              exact ⟨min an bn, max an bn, by omega, e1, e3⟩
    case stop2 =>
      rintro Γ C ⟨k, ps, y, c2, hk, rfl, hy, hc2, nd, hpl, hal, a, b, e, g, rfl⟩
      simp only [List.length_nil, Nat.add_zero] at hk
      show sRet (eTup (aCons (eBin oIxS (eC (.str "RB")) (eCallK 1 kf1 P_Lw_draw (aCons (eVar 0) (aCons (eC (.int 2)) aNil)))) (aCons (eVar 4) (aCons (eFrz (fCB nSortT (aCons (eVar 9) aNil))) aNil)))) _ _ _
      rw [u_sRet, u_eTup, u_aCons, u_eBin, u_eC]
      refine draw_e (k := 0) (m := 2) (x := y) rfl hy rfl (fun R h => h) (by decide) (by decide) (by omega) fun rf y6 hf0 hf1 hy6 => ?_
      obtain ⟨cc, hcc, hcs⟩ := RB_at hf0 hf1
      refine ⟨_, _, cc, rfl, rfl, by rw [RB_len, hz]; decide, hcc, ?_⟩
      refine ⟨_, rfl, _, rfl, _, ps, _, rfl, rfl, fun qs hq hs => ⟨by rw [hz]; show 3 ≤ 16777216; decide, ?_⟩⟩
      have hp' := pil_of hcs hn1 hn24 hst hsg hp nd (by omega) hal hq hs
      obtain ⟨ja, jb, jk, rfl, hj⟩ := hy6
      show Q3 (fin 1 _ (pil false ⟨#[cc]⟩ st qs)) [Cell.lst [.int ja, .int jb, .int jk]]
      rw [fin_pil']
      exact q _ _ _ (c2 + 1) _ hp' (by omega) ⟨ja, jb, jk, rfl, hj⟩ (by omega)
end PN
end L3

namespace L3
namespace PN
open PySem PySem.Spec PyProof.Rows L2
def P_Lw_base : PV := P_base_of
theorem v_Lw_base (ds : List D) (C : Store) (Q3 : D → Store → Prop) (h : P_Lw_base ds C Q3) (hC : C.length = 0) : T_Lw_base (enF 0 Q3) (start3 N_Lw_base ds) C := L3.v_base_of ds C Q3 h hC
def P_Lw_change : PV := fun ds C Q => ∃ (o : Bool) (f st : Str) (rs : List (Int × Int)) (i j : Nat), ds = [pil o f st rs, pD ((i : Int), (j : Int))] ∧ Pil f st rs ∧ i < st.length ∧ j < st.length ∧ Q (.int (chOf st i j)) C
theorem v_Lw_change (ds : List D) (C : Store) (Q3 : D → Store → Prop) (h : P_Lw_change ds C Q3) (hC : C.length = 0) : T_Lw_change (enF 0 Q3) (start3 N_Lw_change ds) C := by
  obtain ⟨o, f, st, rs, i, j, rfl, hp, hi, hj, q⟩ := h
  rw [List.length_eq_zero_iff] at hC
  subst hC
  have hz := sizeL
  have h24 := hp.top
  refine ⟨_, rfl, _, _, _, rfl, rfl, rfl, _, rfl, _, _, _, rfl, rfl, rfl, st, (i : Nat), sg st i, rfl, rfl, by omega, sg_at hi, _, rfl, _, _, _, rfl, rfl, rfl, _, rfl, _, _, _, rfl, rfl, rfl, st, (j : Nat), sg st j, rfl, rfl, by omega, sg_at hj, ?_⟩
  show Q3 (.int (if (true != decide ((⟨#[sg st i]⟩ : Str) = ⟨#[sg st j]⟩)) = true then 1 else 0)) _
  rw [one_ne]
  exact q
theorem views_pd {C : Store} {o : Bool} {f st : Str} {rs : List (Int × Int)} {z : Int × Int} : views [] C [pil o f st rs, pD z] = [pil true f st rs, pD z] := by
  rw [views_pil]
  rfl
/-- the number at a place, grown -/
theorem wL_max {n j : Nat} {v : Nat → Int} {x : Int} (hj : j < n) : (wL n v).set j (.int (max (v j) x)) = wL n (fun k => if k = j then max (v k) x else v k) := by
  rw [wL_set hj]
  congr 1
  funext k
  by_cases e : k = j
  · subst e; simp
  · rw [if_neg e, if_neg e]
theorem wL_min {n j : Nat} {v : Nat → Int} {x : Int} (hj : j < n) : (wL n v).set j (.int (min (v j) x)) = wL n (fun k => if k = j then min (v k) x else v k) := by
  rw [wL_set hj]
  congr 1
  funext k
  by_cases e : k = j
  · subst e; simp
  · rw [if_neg e, if_neg e]
theorem get_set_ne {Γ : Slots} {i j : Nat} {x : Option D} (h : j ≠ i) : (Γ.set j x)[i]? = Γ[i]? := List.getElem?_set_ne h
theorem slots_eq {Γ Γ' : Slots} {b c : Nat} (hbc : b ≠ c) (hl : Γ'.length = Γ.length) (hb : b < Γ.length) (hc : c < Γ.length) (h : ∀ i, i ≠ b → i ≠ c → Γ'[i]? = Γ[i]?) : ∃ x y, Γ' = (Γ.set b x).set c y := by
  refine ⟨Γ'[b]'(by omega), Γ'[c]'(by omega), List.ext_getElem? fun i => ?_⟩
  by_cases e1 : i = c
  · subst e1
    rw [List.getElem?_set_self (by rw [List.length_set]; exact hc)]
    exact List.getElem?_eq_getElem _
  · rw [List.getElem?_set_ne (Ne.symm e1)]
    by_cases e2 : i = b
    · subst e2
      rw [List.getElem?_set_self hb]
      exact List.getElem?_eq_getElem _
    · rw [List.getElem?_set_ne (Ne.symm e2)]
      exact h i e2 e1
/-- rules looked at again and again: led on -/
theorem rounds_up {f st : Str} {rs : List (Int × Int)} {o : Bool} (hp : Pil f st rs) {a b c : Nat} (h0a : a ≠ b ∧ a ≠ c ∧ (0 : Nat) ≠ b ∧ (0 : Nat) ≠ c ∧ b ≠ c) {start : Nat → Int} {De : En} {Γ : Slots} {C : Store} {k0 : Nat} (hC : C[k0]? = some (.lst (wL st.length start)))
    (g0 : Γ[0]? = some (some (pil o f st rs))) (ga : Γ[a]? = some (some (.ptr k0))) (hlb : b < Γ.length) (hlc : c < Γ.length)
    (h : ∀ V, Fix st.length start (chOf st) rs V → ∀ x y, De.nx ((Γ.set b x).set c y) (C.set k0 (.lst (wL st.length V)))) :
    sFor (iRange1 (aCons (eCB oLenA (aCons (eVar a) aNil)) aNil)) (gvName b) (sFor (iLst (eBin oIxT (eVar 0) (eC (.int 2)))) (gvName c) (sAsg (eCB oMax2 (aCons (eBin oIxL (eVar a) (eBin oIxT (eVar c) (eC (.int 1)))) (aCons (eBin oAdd (eBin oIxL (eVar a) (eBin oIxT (eVar c) (eC (.int 0)))) (eCall P_Lw_change (aCons (eVar 0) (aCons (eVar c) aNil)))) aNil))) (gvSubL (eVar a) (eBin oIxT (eVar c) (eC (.int 1)))))) De Γ C := by
  have hz := sizeL
  have h24 := hp.top
  have hr := hp.rul
  obtain ⟨V, hV⟩ := fix_ex (n := st.length) start (chOf st) hr.inn hp.acy
  obtain ⟨r, hr1, hr2⟩ := ranks hr.inn hp.acy
  have hkl : k0 < C.length := (List.getElem?_eq_some_iff.mp hC).1
  have hself : C.set k0 (.lst (wL st.length start)) = C := by
    obtain ⟨_, e⟩ := List.getElem?_eq_some_iff.mp hC
    rw [← e]
    exact List.set_getElem_self hkl
  have at0 : ∀ v, (C.set k0 (.lst (wL st.length v)))[k0]? = some (.lst (wL st.length v)) := fun v => List.getElem?_set_self hkl
  have lo0 : ∀ v, lstOf (C.set k0 (.lst (wL st.length v))) (.ptr k0) = some (wL st.length v) := fun v => by
    simp only [lstOf, at0]
  have los : lstOf C (.ptr k0) = some (wL st.length start) := by simp only [lstOf, hC]
  refine ⟨_, ga, _, _, rfl, los, st.length, by rw [wL_len], by omega, by omega, rfl, np_rg' 0 _, ?_⟩
  refine forW_run (fun ds Γ' C' => ∃ (k : Nat) (v : Nat → Int), k + ds.length = st.length ∧ C' = C.set k0 (.lst (wL st.length v)) ∧ RInv st.length start (chOf st) rs r V k [] v ∧ Γ'.length = Γ.length ∧ ∀ i, i ≠ b → i ≠ c → Γ'[i]? = Γ[i]?) ?step ?stop _ _ _ ⟨0, start, by rw [rg_len']; simp, hself.symm, RInv.start hV, rfl, fun _ _ _ => rfl⟩
  case step =>
    rintro d ds Γ1 C1 ⟨k, v, hk, rfl, hI, hl1, hΓ⟩ R hR
    simp only [List.length_cons] at hk
    rw [u_gvName]
    refine ⟨_, by rw [get_set_ne (Ne.symm h0a.2.2.1), hΓ 0 h0a.2.2.1 h0a.2.2.2.1]; exact g0, _, _, _, rfl, rfl, rfl, _, rfl, rfl, np_pairs rs, ?_⟩
    refine forW_run (fun ds Γ' C' => ∃ (dn rest : List (Int × Int)) (v : Nat → Int), rs = dn ++ rest ∧ ds = rest.map pD ∧ C' = C.set k0 (.lst (wL st.length v)) ∧ RInv st.length start (chOf st) rs r V k dn v ∧ Γ'.length = Γ.length ∧ ∀ i, i ≠ b → i ≠ c → Γ'[i]? = Γ[i]?) ?step2 ?stop2 _ _ _
      ⟨[], rs, v, rfl, rfl, rfl, hI, by rw [List.length_set]; exact hl1, fun i hb hc => by rw [get_set_ne (Ne.symm hb)]; exact hΓ i hb hc⟩
    case step2 =>
      rintro d ds Γ2 C2 ⟨dn, rest, v, e3, e4, rfl, I, hl2, hΓ2⟩ R2 hR2
      cases rest with
      | nil => cases e4
      | cons z rest =>
      simp only [List.map_cons, List.cons.injEq] at e4
      obtain ⟨rfl, rfl⟩ := e4
      have hzm : z ∈ rs := by rw [e3]; simp
      obtain ⟨a1, a2, a3, a4, a5⟩ := hr.inn z hzm
      obtain ⟨i, hi⟩ := Int.eq_ofNat_of_zero_le a1
      obtain ⟨j, hj⟩ := Int.eq_ofNat_of_zero_le a3
      have hi' : i < st.length := by omega
      have hj' : j < st.length := by omega
      obtain ⟨zi, zj⟩ := z
      simp only at hi hj
      subst hi hj
      have st1 := I.step hV hzm hi' hj'
      rw [u_gvName]
      have gc : (Γ2.set c (some (pD ((i : Int), (j : Int)))))[c]? = some (some (pD ((i : Int), (j : Int)))) := List.getElem?_set_self (by omega)
      have ga2 : (Γ2.set c (some (pD ((i : Int), (j : Int)))))[a]? = some (some (.ptr k0)) := by rw [get_set_ne (Ne.symm h0a.2.1), hΓ2 a h0a.1 h0a.2.1]; exact ga
      have g02 : (Γ2.set c (some (pD ((i : Int), (j : Int)))))[0]? = some (some (pil o f st rs)) := by rw [get_set_ne (Ne.symm h0a.2.2.2.1), hΓ2 0 h0a.2.2.1 h0a.2.2.2.1]; exact g0
      refine ⟨_, ga2, _, gc, _, _, _, rfl, rfl, rfl, _, _, _, lo0 v, rfl, wL_at hj', ?_⟩
      refine ⟨_, ga2, _, gc, _, _, _, rfl, rfl, rfl, _, _, _, lo0 v, rfl, wL_at hi', ?_⟩
      refine ⟨_, g02, _, gc, true, f, st, rs, i, j, views_pd, hp, hi', hj', rfl, ?_⟩
      refine ⟨_, _, rfl, rfl, _, _, rfl, ?_⟩
      refine ⟨_, ga2, _, gc, _, _, _, rfl, rfl, rfl, k0, wL st.length v, _, j, rfl, rfl, at0 v, by rw [wL_len]; exact ix_nat hj', ?_⟩
      show R2 _ ((C.set k0 (.lst (wL st.length v))).set k0 (.lst ((wL st.length v).set j (.int (max (v j) (v i + chOf st i j))))))
      rw [wL_max hj', List.set_set]
      exact hR2 _ _ ⟨dn ++ [((i : Int), (j : Int))], rest, _, by rw [e3]; simp, rfl, rfl, st1, by rw [List.length_set]; exact hl2, fun i hb hc => by rw [get_set_ne (Ne.symm hc)]; exact hΓ2 i hb hc⟩
    case stop2 =>
      rintro Γ2 C2 ⟨dn, rest, v, e3, e4, rfl, I, hl2, hΓ2⟩
      cases rest with
      | cons z rest => cases e4
      | nil =>
      rw [List.append_nil] at e3
      subst e3
      exact hR _ _ ⟨k + 1, v, by omega, rfl, I.next hV hr2, hl2, hΓ2⟩
  case stop =>
    rintro Γ1 C1 ⟨k, v, hk, rfl, hI, hl1, hΓ⟩
    simp only [List.length_nil, Nat.add_zero] at hk
    have ev : wL st.length v = wL st.length V := wL_congr fun j hj => hI.eq j hj (by rw [hk]; exact hr1 j hj)
    rw [ev]
    obtain ⟨x, y, rfl⟩ := slots_eq h0a.2.2.2.2 hl1 hlb hlc hΓ
    exact h V hV x y
/-- rules looked at again and again: held back -/
theorem rounds_dn {f st : Str} {rs : List (Int × Int)} {o : Bool} (hp : Pil f st rs) {a b c : Nat} (h0a : a ≠ b ∧ a ≠ c ∧ (0 : Nat) ≠ b ∧ (0 : Nat) ≠ c ∧ b ≠ c) {start : Nat → Int} {De : En} {Γ : Slots} {C : Store} {k0 : Nat} (hC : C[k0]? = some (.lst (wL st.length start)))
    (g0 : Γ[0]? = some (some (pil o f st rs))) (ga : Γ[a]? = some (some (.ptr k0))) (hlb : b < Γ.length) (hlc : c < Γ.length)
    (h : ∀ V, Fix st.length (fun j => - start j) (chOf st) (rv rs) V → ∀ x y, De.nx ((Γ.set b x).set c y) (C.set k0 (.lst (wL st.length fun j => - V j)))) :
    sFor (iRange1 (aCons (eCB oLenA (aCons (eVar a) aNil)) aNil)) (gvName b) (sFor (iLst (eBin oIxT (eVar 0) (eC (.int 2)))) (gvName c) (sAsg (eCB oMin2 (aCons (eBin oIxL (eVar a) (eBin oIxT (eVar c) (eC (.int 0)))) (aCons (eBin oSub (eBin oIxL (eVar a) (eBin oIxT (eVar c) (eC (.int 1)))) (eCall P_Lw_change (aCons (eVar 0) (aCons (eVar c) aNil)))) aNil))) (gvSubL (eVar a) (eBin oIxT (eVar c) (eC (.int 0)))))) De Γ C := by
  have hz := sizeL
  have h24 := hp.top
  have hr := hp.rul
  have hrv := rv_inn hr
  have hac := rv_acy hr hp.acy
  obtain ⟨V, hV⟩ := fix_ex (n := st.length) (fun j => - start j) (chOf st) hrv hac
  obtain ⟨r, hr1, hr2⟩ := ranks hrv hac
  have hkl : k0 < C.length := (List.getElem?_eq_some_iff.mp hC).1
  have hself : C.set k0 (.lst (wL st.length fun j => - (- start j))) = C := by
    obtain ⟨_, e⟩ := List.getElem?_eq_some_iff.mp hC
    simp only [Int.neg_neg]
    rw [← e]
    exact List.set_getElem_self hkl
  have at0 : ∀ v, (C.set k0 (.lst (wL st.length v)))[k0]? = some (.lst (wL st.length v)) := fun v => List.getElem?_set_self hkl
  have lo0 : ∀ v, lstOf (C.set k0 (.lst (wL st.length v))) (.ptr k0) = some (wL st.length v) := fun v => by
    simp only [lstOf, at0]
  have los : lstOf C (.ptr k0) = some (wL st.length start) := by simp only [lstOf, hC]
  refine ⟨_, ga, _, _, rfl, los, st.length, by rw [wL_len], by omega, by omega, rfl, np_rg' 0 _, ?_⟩
  refine forW_run (fun ds Γ' C' => ∃ (k : Nat) (v : Nat → Int), k + ds.length = st.length ∧ C' = C.set k0 (.lst (wL st.length fun j => - v j)) ∧ RInv st.length (fun j => - start j) (chOf st) (rv rs) r V k [] v ∧ Γ'.length = Γ.length ∧ ∀ i, i ≠ b → i ≠ c → Γ'[i]? = Γ[i]?) ?step ?stop _ _ _ ⟨0, fun j => - start j, by rw [rg_len']; simp, hself.symm, RInv.start hV, rfl, fun _ _ _ => rfl⟩
  case step =>
    rintro d ds Γ1 C1 ⟨k, v, hk, rfl, hI, hl1, hΓ⟩ R hR
    simp only [List.length_cons] at hk
    rw [u_gvName]
    refine ⟨_, by rw [get_set_ne (Ne.symm h0a.2.2.1), hΓ 0 h0a.2.2.1 h0a.2.2.2.1]; exact g0, _, _, _, rfl, rfl, rfl, _, rfl, rfl, np_pairs rs, ?_⟩
    refine forW_run (fun ds Γ' C' => ∃ (dn rest : List (Int × Int)) (v : Nat → Int), rs = dn ++ rest ∧ ds = rest.map pD ∧ C' = C.set k0 (.lst (wL st.length fun j => - v j)) ∧ RInv st.length (fun j => - start j) (chOf st) (rv rs) r V k (rv dn) v ∧ Γ'.length = Γ.length ∧ ∀ i, i ≠ b → i ≠ c → Γ'[i]? = Γ[i]?) ?step2 ?stop2 _ _ _
      ⟨[], rs, v, rfl, rfl, rfl, hI, by rw [List.length_set]; exact hl1, fun i hb hc => by rw [get_set_ne (Ne.symm hb)]; exact hΓ i hb hc⟩
    case step2 =>
      rintro d ds Γ2 C2 ⟨dn, rest, v, e3, e4, rfl, I, hl2, hΓ2⟩ R2 hR2
      cases rest with
      | nil => cases e4
      | cons z rest =>
      simp only [List.map_cons, List.cons.injEq] at e4
      obtain ⟨rfl, rfl⟩ := e4
      have hzm : z ∈ rs := by rw [e3]; simp
      obtain ⟨a1, a2, a3, a4, a5⟩ := hr.inn z hzm
      obtain ⟨i, hi⟩ := Int.eq_ofNat_of_zero_le a1
      obtain ⟨j, hj⟩ := Int.eq_ofNat_of_zero_le a3
      have hi' : i < st.length := by omega
      have hj' : j < st.length := by omega
      obtain ⟨zi, zj⟩ := z
      simp only at hi hj
      subst hi hj
      have st1 := I.step hV (rv_mem.mpr hzm : ((j : Int), (i : Int)) ∈ rv rs) hj' hi'
      rw [u_gvName]
      have gc : (Γ2.set c (some (pD ((i : Int), (j : Int)))))[c]? = some (some (pD ((i : Int), (j : Int)))) := List.getElem?_set_self (by omega)
      have ga2 : (Γ2.set c (some (pD ((i : Int), (j : Int)))))[a]? = some (some (.ptr k0)) := by rw [get_set_ne (Ne.symm h0a.2.1), hΓ2 a h0a.1 h0a.2.1]; exact ga
      have g02 : (Γ2.set c (some (pD ((i : Int), (j : Int)))))[0]? = some (some (pil o f st rs)) := by rw [get_set_ne (Ne.symm h0a.2.2.2.1), hΓ2 0 h0a.2.2.1 h0a.2.2.2.1]; exact g0
      refine ⟨_, ga2, _, gc, _, _, _, rfl, rfl, rfl, _, _, _, lo0 _, rfl, wL_at hi', ?_⟩
      refine ⟨_, ga2, _, gc, _, _, _, rfl, rfl, rfl, _, _, _, lo0 _, rfl, wL_at hj', ?_⟩
      refine ⟨_, g02, _, gc, true, f, st, rs, i, j, views_pd, hp, hi', hj', rfl, ?_⟩
      refine ⟨_, _, rfl, rfl, _, _, rfl, ?_⟩
      refine ⟨_, ga2, _, gc, _, _, _, rfl, rfl, rfl, k0, wL st.length fun j => - v j, _, i, rfl, rfl, at0 _, by rw [wL_len]; exact ix_nat hi', ?_⟩
      show R2 _ ((C.set k0 (.lst (wL st.length fun j => - v j))).set k0 (.lst ((wL st.length fun j => - v j).set i (.int (min (- v i) (- v j - chOf st i j))))))
      rw [wL_min hi', List.set_set]
      have ef : (fun k => if k = i then min (- v k) (- v j - chOf st i j) else - v k) = fun k => - (if k = i then max (v k) (v j + chOf st j i) else v k) := by
        funext k
        rw [ch_comm st j i]
        by_cases e : k = i
        · rw [if_pos e, if_pos e]
          omega
        · rw [if_neg e, if_neg e]
      rw [ef]
      refine hR2 _ _ ⟨dn ++ [((i : Int), (j : Int))], rest, _, by rw [e3]; simp, rfl, rfl, ?_, by rw [List.length_set]; exact hl2, fun i hb hc => by rw [get_set_ne (Ne.symm hc)]; exact hΓ2 i hb hc⟩
      have er : rv (dn ++ [((i : Int), (j : Int))]) = rv dn ++ [((j : Int), (i : Int))] := by simp [rv]
      rw [er]
      exact st1
    case stop2 =>
      rintro Γ2 C2 ⟨dn, rest, v, e3, e4, rfl, I, hl2, hΓ2⟩
      cases rest with
      | cons z rest => cases e4
      | nil =>
      rw [List.append_nil] at e3
      subst e3
      exact hR _ _ ⟨k + 1, v, by omega, rfl, I.next hV hr2, hl2, hΓ2⟩
  case stop =>
    rintro Γ1 C1 ⟨k, v, hk, rfl, hI, hl1, hΓ⟩
    simp only [List.length_nil, Nat.add_zero] at hk
    have ev : (wL st.length fun j => - v j) = wL st.length fun j => - V j := wL_congr fun j hj => by rw [hI.eq j hj (by rw [hk]; exact hr1 j hj)]
    rw [ev]
    obtain ⟨x, y, rfl⟩ := slots_eq h0a.2.2.2.2 hl1 hlb hlc hΓ
    exact h V hV x y
end PN
end L3

namespace L3
namespace PN
open PySem PySem.Spec PyProof.Rows L2
/-! ### comprehensions over what stands in a row -/
theorem range_drop {n k : Nat} {it : Nat → D} (h : k < n) : ((List.range n).drop k).map it = it k :: ((List.range n).drop (k + 1)).map it := by
  rw [List.drop_eq_getElem_cons (by simpa using h)]
  simp
/-- by turns: what is so far, the store -/
theorem lc_go {G : GV} {B : BV} {E : EV} {Γ : Slots} {ok : Store → Prop} {Q : Cell → Store → Prop} {C : Store} {n : Nat} (it : Nat → D) (I : Nat → List D → Store → Prop) (h0 : I 0 [] C)
    (step : ∀ k acc C, k < n → I k acc C → ∀ R : List D → Store → Prop, (∀ acc' C', I (k + 1) acc' C' → R acc' C') →
      G (it k) Γ C fun Γ1 C1 => B Γ1 C1 fun b C2 => if b = true then E Γ1 C2 fun y C3 => acc.length < sizeLine ∧ ok C3 ∧ R (acc ++ [y]) C3 else ok C2 ∧ R acc C2)
    (stop : ∀ acc C, I n acc C → Q (.lst acc) C) : lcW G B E Γ ok Q ((List.range n).map it) [] C := by
  refine lcW_run (fun ds acc C => ∃ k, k ≤ n ∧ ds = ((List.range n).drop k).map it ∧ I k acc C) (fun d ds acc C h R hR => ?_) (fun acc C h => ?_) _ _ _ ⟨0, Nat.zero_le _, by simp, h0⟩
  · obtain ⟨k, hk, e, i⟩ := h
    by_cases hkn : k < n
    · rw [range_drop hkn, List.cons.injEq] at e
      obtain ⟨rfl, rfl⟩ := e
      exact step k acc C hkn i R fun acc' C' i' => hR _ _ ⟨k + 1, hkn, rfl, i'⟩
    · have : k = n := by omega
      subst this
      rw [List.drop_eq_nil_of_le (by simp)] at e
      cases e
  · obtain ⟨k, hk, e, i⟩ := h
    by_cases hkn : k < n
    · rw [range_drop hkn] at e
      cases e
    · have : k = n := by omega
      subst this
      exact stop acc C i
theorem lc_rows {G : GV} {E : EV} {Γ : Slots} {ok : Store → Prop} {Q : Cell → Store → Prop} {C : Store} {n : Nat} (it out : Nat → D) (hok : ok C) (hn : n ≤ sizeLine)
    (h : ∀ j, j < n → ∀ R : D → Store → Prop, R (out j) C → G (it j) Γ C fun Γ1 C1 => E Γ1 C1 R) (q : Q (.lst ((List.range n).map out)) C) : lcW G bYes E Γ ok Q ((List.range n).map it) [] C := by
  refine lc_go it (fun k acc C' => C' = C ∧ acc = (List.range k).map out) ⟨rfl, rfl⟩ (fun k acc C' hk ⟨e1, e2⟩ R hR => ?_) (fun acc C' ⟨e1, e2⟩ => ?_)
  · subst e1 e2
    refine h k hk _ ⟨by simp; omega, hok, hR _ _ ⟨rfl, ?_⟩⟩
    rw [List.range_succ, List.map_append]
    rfl
  · subst e1 e2
    exact q
theorem lc_rowsF {G : GV} {B : BV} {E : EV} {Γ : Slots} {ok : Store → Prop} {Q : Cell → Store → Prop} {C : Store} {n : Nat} (it out : Nat → D) (t : Nat → Bool) (hok : ok C) (hn : n ≤ sizeLine)
    (h : ∀ j, j < n → ∀ R : D → Store → Prop, ∀ R' : Store → Prop, (t j = true → R (out j) C) → (t j = false → R' C) → G (it j) Γ C fun Γ1 C1 => B Γ1 C1 fun b C2 => if b = true then E Γ1 C2 R else R' C2) (q : Q (.lst (((List.range n).filter t).map out)) C) : lcW G B E Γ ok Q ((List.range n).map it) [] C := by
  refine lc_go it (fun k acc C' => C' = C ∧ acc = ((List.range k).filter t).map out) ⟨rfl, rfl⟩ (fun k acc C' hk ⟨e1, e2⟩ R hR => ?_) (fun acc C' ⟨e1, e2⟩ => ?_)
  · subst e1 e2
    refine h k hk _ _ (fun ht => ⟨?_, hok, hR _ _ ⟨rfl, ?_⟩⟩) fun ht => ⟨hok, hR _ _ ⟨rfl, ?_⟩⟩
    · have := List.length_filter_le t (List.range k)
      simp at this ⊢
      omega
    · rw [List.range_succ, List.filter_append, List.map_append]
      simp [ht]
    · rw [List.range_succ, List.filter_append, List.map_append]
      simp [ht]
  · subst e1 e2
    exact q
theorem rgI_range (n : Nat) : rgI 0 ((n : Int)).toNat = (List.range n).map fun j : Nat => D.int (j : Nat) := by
  rw [rg_upto]
  unfold upto
  rw [List.map_map]
  rfl
theorem enum_wL (n : Nat) (v : Nat → Int) : enumD 0 (wL n v) = (List.range n).map fun j : Nat => .tup [.int (j : Nat), .int (v j)] := by
  apply List.ext_getElem?
  intro i
  by_cases h : i < n
  · have e : (wL n v)[i]? = some (.int (v i)) := by unfold wL; rw [List.getElem?_map, List.getElem?_range h]; rfl
    rw [enumD_get _ 0 i e, List.getElem?_map, List.getElem?_range h, Nat.zero_add]
    rfl
  · rw [List.getElem?_eq_none (by rw [enumD_len, wL_len]; omega), List.getElem?_eq_none (by simp; omega)]
theorem zip2_wL (n : Nat) (v u : Nat → Int) : zipD (wL n v) (wL n u) = (List.range n).map fun j => .tup [.int (v j), .int (u j)] := zip_wL _ v u
theorem b01 (f st : Str) (j : Nat) : bsOf f st j = 0 ∨ bsOf f st j = 1 := by
  have := neq01 (sg st j) (f0 f)
  have e : bsOf f st j = neq (sg st j) (f0 f) := rfl
  omega
theorem ch01 (st : Str) (i j : Nat) : chOf st i j = 0 ∨ chOf st i j = 1 := by
  have := neq01 (sg st i) (sg st j)
  have e : chOf st i j = neq (sg st i) (sg st j) := rfl
  omega
theorem base_e {f st : Str} {rs : List (Int × Int)} {o : Bool} {C : Store} {Γ : Slots} {a b j : Nat} {Q : D → Store → Prop} (hp : Pil f st rs) (h0 : Γ[a]? = some (some (pil o f st rs))) (h1 : Γ[b]? = some (some (.int (j : Nat)))) (hj : j < st.length) (q : Q (.int (bsOf f st j)) C) :
    eCall P_Lw_base (aCons (eVar a) (aCons (eVar b) aNil)) Γ C Q :=
  ⟨_, h0, _, h1, true, f, st, rs, j, by rw [views_pil, views_int, views_nil], hp, hj, rfl, q⟩
/-! ### the earliest and the latest blocks, worked out otherwise -/
def P_Lw_early : PV := fun ds C Q => ∃ (o : Bool) (f st : Str) (rs : List (Int × Int)), ds = [pil o f st rs] ∧ Pil f st rs ∧ ∀ v, PFix f st rs v → Q (.lst false (wL st.length v)) C
theorem v_Lw_early (ds : List D) (C : Store) (Q3 : D → Store → Prop) (h : P_Lw_early ds C Q3) (hC : C.length = 0) : T_Lw_early P_Lw_base P_Lw_change (enF 0 Q3) (start3 N_Lw_early ds) C := by
  obtain ⟨o, f, st, rs, rfl, hp, q⟩ := h
  rw [List.length_eq_zero_iff] at hC
  subst hC
  have hz := sizeL
  have h24 := hp.top
  refine ⟨_, rfl, _, _, _, rfl, rfl, rfl, by omega, st.length, rfl, by omega, by omega, ?_⟩
  rw [rgI_range]
  refine lc_rows _ (fun j => .int (bsOf f st j)) (fun _ h => by simp at h) (by omega) (fun j hj R hR => base_e hp rfl rfl hj hR) ?_
  dsimp only
  rw [u_gvName, u_sSeq]
  refine rounds_up (k0 := 0) (start := bsOf f st) hp (by decide) rfl rfl rfl (show (3 : Nat) < 5 by decide) (show (4 : Nat) < 5 by decide) fun V hV x y => ?_
  refine ⟨_, rfl, ?_⟩
  show Q3 (fin 0 _ (.ptr 0)) (finS 0 _)
  rw [fin_wL rfl, finS0]
  exact q V hV
/-- the latest blocks are what rules leave of the greatest ones -/
theorem late_fix {f st : Str} {rs : List (Int × Int)} (hp : Pil f st rs) {v u : Nat → Int} (V : PFix f st rs v) (U : OFix st rs u) (t : Int) : Fix st.length (fun j => - (t - (t - bsOf f st j) % 2)) (chOf st) (rv rs) fun j => - late t v u j := by
  refine ⟨fun j hj => ?_, fun z hz => ?_, fun j hj => ?_⟩
  · have h1 := fix_par' hp V hj
    have h2 := ofix_nn U hj
    show - (t - (t - bsOf f st j) % 2) ≤ - late t v u j
    unfold late
    omega
  · have hz' := rv_mem.mp hz
    obtain ⟨a, b, c, d, _⟩ := hp.rul.inn _ hz'
    simp only at a b c d
    have h1 := fix_par' hp V (show z.1.toNat < st.length by omega)
    have h2 := fix_par' hp V (show z.2.toNat < st.length by omega)
    obtain ⟨p1, p2, p3⟩ := bs_par hp (show z.1.toNat < st.length by omega) (show z.2.toNat < st.length by omega)
    have h3 := ofix_up U hz'
    simp only at h3
    rw [ch_comm] at h3
    show - late t v u z.1.toNat + chOf st z.1.toNat z.2.toNat ≤ - late t v u z.2.toNat
    unfold late
    omega
  · have h1 := fix_par' hp V hj
    rcases ofix_by U hj with e0 | ⟨z, hz, e1, e2⟩
    · left
      show - late t v u j = - (t - (t - bsOf f st j) % 2)
      unfold late
      rw [e0]
      omega
    · right
      obtain ⟨a, b, c, d, _⟩ := hp.rul.inn _ hz
      refine ⟨(z.2, z.1), rv_mem.mpr hz, e1, ?_⟩
      have h2 := fix_par' hp V (show z.2.toNat < st.length by omega)
      obtain ⟨p1, p2, p3⟩ := bs_par hp (show z.2.toNat < st.length by omega) hj
      show - late t v u j = - late t v u z.2.toNat + chOf st z.2.toNat j
      rw [ch_comm st j] at e2
      unfold late
      omega
def P_Lw_late : PV := fun ds C Q => ∃ (o : Bool) (f st : Str) (rs : List (Int × Int)) (t : Int), ds = [pil o f st rs, .int t] ∧ Pil f st rs ∧ ∀ v u, PFix f st rs v → OFix st rs u → Q (.lst false (wL st.length (late t v u))) C
theorem v_Lw_late (ds : List D) (C : Store) (Q3 : D → Store → Prop) (h : P_Lw_late ds C Q3) (hC : C.length = 0) : T_Lw_late P_Lw_base P_Lw_change (enF 0 Q3) (start3 N_Lw_late ds) C := by
  obtain ⟨o, f, st, rs, t, rfl, hp, q⟩ := h
  rw [List.length_eq_zero_iff] at hC
  subst hC
  have hz := sizeL
  have h24 := hp.top
  refine ⟨_, rfl, _, _, _, rfl, rfl, rfl, by omega, st.length, rfl, by omega, by omega, ?_⟩
  rw [rgI_range]
  refine lc_rows _ (fun j => .int (t - (t - bsOf f st j) % 2)) (fun _ h => by simp at h) (by omega) (fun j hj R hR => ⟨_, rfl, _, rfl, base_e hp rfl rfl hj ⟨_, _, rfl, rfl, _, _, rfl, rfl, (show (0 : Int) < 2 by decide), _, _, rfl, rfl, hR⟩⟩) ?_
  dsimp only
  rw [u_gvName, u_sSeq]
  refine rounds_dn (k0 := 0) (start := fun j => t - (t - bsOf f st j) % 2) hp (by decide) rfl rfl rfl (show (4 : Nat) < 6 by decide) (show (5 : Nat) < 6 by decide) fun V hV x y => ?_
  refine ⟨_, rfl, ?_⟩
  obtain ⟨v, hv⟩ := hp.pfix
  obtain ⟨u, hu⟩ := hp.ofix
  have hr2 : ∀ z, z ∈ rv rs → 0 ≤ z.1 ∧ z.1 < st.length := fun z hz => ⟨(rv_inn hp.rul z hz).1, (rv_inn hp.rul z hz).2.1⟩
  have e := Fix.eq hr2 (rv_acy hp.rul hp.acy) hV (late_fix hp hv hu t)
  have ew : (wL st.length fun j => - V j) = wL st.length (late t v u) := wL_congr fun j hj => by rw [e j hj]; omega
  show Q3 (fin 0 _ (.ptr 0)) (finS 0 _)
  rw [fin_wL rfl, finS0, ew]
  exact q v u hv hu
def P_Lw_fewest : PV := P_fewest
theorem v_Lw_fewest (ds : List D) (C : Store) (Q3 : D → Store → Prop) (h : P_Lw_fewest ds C Q3) (hC : C.length = 0) : T_Lw_fewest P_Lw_early (enF 0 Q3) (start3 N_Lw_fewest ds) C := by
  obtain ⟨o, f, st, rs, rfl, hp, q⟩ := h
  rw [List.length_eq_zero_iff] at hC
  subst hC
  refine ⟨_, rfl, true, f, st, rs, views_pil1, hp, fun v hv => ⟨np_wL, ?_⟩⟩
  exact ⟨_, _, rfl, wl_lst, wl_pos hp.pos, fun m hm hle => q v m hv (max_of hm hle)⟩
/-- how many switches are let -/
def P_Lw_most : PV := fun ds C Q => ∃ (o : Bool) (f st : Str) (rs : List (Int × Int)) (c : Int) (x : Cell), ds = [.ptr 0, pil o f st rs] ∧ C = [x] ∧ Bag c x ∧ c < 10 ^ 5 ∧ Pil f st rs ∧ ∀ t y, Most f st rs t → (∃ v m, PFix f st rs v ∧ IsMax st.length v m ∧ m ≤ t) → Bag (c + 3) y → Q (.int t) [y]
theorem most_of {f st : Str} {rs : List (Int × Int)} (hp : Pil f st rs) {a : Int} (h0 : 0 ≤ a) (h1 : a ≤ 10 ^ 29) {v : Nat → Int} {m : Int} (V : PFix f st rs v) (M : IsMax st.length v m) : Most f st rs (m + a) := by
  obtain ⟨m0, mn⟩ := max_n hp V M
  have := hp.top
  exact Most.of hp V M (by omega) (by omega)
theorem finI {C : Store} {r : Int} : fin 1 C (.int r) = .int r := rfl
theorem v_Lw_most (ds : List D) (C : Store) (Q3 : D → Store → Prop) (h : P_Lw_most ds C Q3) (hC : C.length = 1) : T_Lw_most P_Lw_fewest P_Lw_draw (enF 1 Q3) (start3 N_Lw_most ds) C := by
  obtain ⟨o, f, st, rs, c, x, rfl, rfl, hx, hc, hp, q⟩ := h
  have hz := sizeL
  refine ⟨_, rfl, true, f, st, rs, views_pil1, hp, fun v m V M => ⟨rfl, ?_⟩⟩
  dsimp only
  rw [u_gvName]
  rw [u_sRet, u_eBin]
  refine ⟨_, rfl, ?_⟩
  dsimp only
  rw [u_eBin, u_eFrz, u_fLst, u_aCons, u_eC, u_aCons, u_eC, u_aCons, u_eC, u_aCons]
  refine draw_e (k := 0) (m := 7) rfl hx rfl (fun R h => h) (by decide) (by decide) (by omega) fun r7 y1 h70 h71 hy1 => ?_
  rw [u_aCons]
  refine draw_e (k := 0) (m := 10 ^ (29 : Int).toNat) (x := y1) rfl hy1 rfl (fun R h => ⟨_, _, rfl, rfl, cpow10 29 (by decide), h⟩) (by decide) (by decide) (by omega) fun r29 y2 h90 h91 hy2 => ?_
  have e29 : (10 : Int) ^ (29 : Int).toNat = 10 ^ 29 := by decide
  rw [e29] at h91
  refine ⟨by rw [hz]; show 5 ≤ 16777216; decide, ?_⟩
  refine draw_e (k := 0) (m := 5) (x := y2) rfl hy2 rfl (fun R h => h) (by decide) (by decide) (by omega) fun r5 y3 h50 h51 hy3 => ?_
  obtain ⟨w, hw, hw0, hw1⟩ : ∃ w : Int, atI [D.int 0, D.int 1, D.int 2, D.int r7, D.int r29] r5 = some (.int w) ∧ 0 ≤ w ∧ w ≤ 10 ^ 29 := by
    have : r5 = 0 ∨ r5 = 1 ∨ r5 = 2 ∨ r5 = 3 ∨ r5 = 4 := by omega
    rcases this with rfl | rfl | rfl | rfl | rfl
    · exact ⟨0, rfl, by omega, by omega⟩
    · exact ⟨1, rfl, by omega, by omega⟩
    · exact ⟨2, rfl, by omega, by omega⟩
    · exact ⟨r7, rfl, by omega, by omega⟩
    · exact ⟨r29, rfl, by omega, by omega⟩
  refine ⟨_, _, _, rfl, rfl, hw, _, _, rfl, rfl, ?_⟩
  show Q3 (fin 1 _ (.int (m + w))) (finS 1 [y3])
  rw [finI, hy3.finS]
  exact q _ _ (most_of hp hw0 hw1 V M) ⟨v, m, V, M, by omega⟩ (hy3.le (by omega))
theorem v_Lw_near_most (ds : List D) (C : Store) (Q3 : D → Store → Prop) (h : P_Lw_most ds C Q3) (hC : C.length = 1) : T_Lw_near_most P_Lw_fewest P_Lw_draw (enF 1 Q3) (start3 N_Lw_near_most ds) C := by
  obtain ⟨o, f, st, rs, c, x, rfl, rfl, hx, hc, hp, q⟩ := h
  have hz := sizeL
  refine ⟨_, rfl, true, f, st, rs, views_pil1, hp, fun v m V M => ⟨rfl, ?_⟩⟩
  dsimp only
  rw [u_gvName]
  rw [u_sRet, u_eBin]
  refine ⟨_, rfl, ?_⟩
  dsimp only
  rw [u_eBin, u_eFrz, u_fLst, u_aCons, u_eC, u_aCons, u_eC, u_aCons, u_eC, u_aCons]
  refine draw_e (k := 0) (m := 7) rfl hx rfl (fun R h => h) (by decide) (by decide) (by omega) fun r7 y1 h70 h71 hy1 => ?_
  rw [u_aCons]
  refine draw_e (k := 0) (m := 25) (x := y1) rfl hy1 rfl (fun R h => h) (by decide) (by decide) (by omega) fun r29 y2 h90 h91 hy2 => ?_
  refine ⟨by rw [hz]; show 5 ≤ 16777216; decide, ?_⟩
  refine draw_e (k := 0) (m := 5) (x := y2) rfl hy2 rfl (fun R h => h) (by decide) (by decide) (by omega) fun r5 y3 h50 h51 hy3 => ?_
  obtain ⟨w, hw, hw0, hw1⟩ : ∃ w : Int, atI [D.int 0, D.int 1, D.int 2, D.int r7, D.int r29] r5 = some (.int w) ∧ 0 ≤ w ∧ w ≤ 10 ^ 29 := by
    have : r5 = 0 ∨ r5 = 1 ∨ r5 = 2 ∨ r5 = 3 ∨ r5 = 4 := by omega
    rcases this with rfl | rfl | rfl | rfl | rfl
    · exact ⟨0, rfl, by omega, by omega⟩
    · exact ⟨1, rfl, by omega, by omega⟩
    · exact ⟨2, rfl, by omega, by omega⟩
    · exact ⟨r7, rfl, by omega, by omega⟩
    · exact ⟨r29, rfl, by omega, by omega⟩
  refine ⟨_, _, _, rfl, rfl, hw, _, _, rfl, rfl, ?_⟩
  show Q3 (fin 1 _ (.int (m + w))) (finS 1 [y3])
  rw [finI, hy3.finS]
  exact q _ _ (most_of hp hw0 hw1 V M) ⟨v, m, V, M, by omega⟩ (hy3.le (by omega))
end PN
end L3

namespace L3
namespace PN
open PySem PySem.Spec PyProof.Rows L2
def mD : Option Int → D
  | none => .non
  | some x => .int x
def inM (m : Option Int) (x : Int) : Bool := match m with
  | none => true
  | some t => decide (x ≤ t)
section
variable {α : Type} {G : GV} {B : BV} {E : EV} {Γ : Slots} {ok : Store → Prop} {Q : Cell → Store → Prop} {C : Store}
theorem lc_of (l : List α) (it out : α → D) (hok : ok C) (hn : l.length ≤ sizeLine)
    (h : ∀ a, a ∈ l → ∀ R : D → Store → Prop, R (out a) C → G (it a) Γ C fun Γ1 C1 => E Γ1 C1 R) (q : Q (.lst (l.map out)) C) : lcW G bYes E Γ ok Q (l.map it) [] C := by
  refine lcW_run (fun ds acc C' => C' = C ∧ ∃ p r, l = p ++ r ∧ ds = r.map it ∧ acc = p.map out) (fun d ds acc C' ⟨e, p, r, e1, e2, e3⟩ R hR => ?_) (fun acc C' ⟨e, p, r, e1, e2, e3⟩ => ?_) _ _ _ ⟨rfl, [], l, rfl, rfl, rfl⟩
  · subst e e3
    cases r with
    | nil => cases e2
    | cons a r =>
      rw [List.map_cons, List.cons.injEq] at e2
      obtain ⟨rfl, rfl⟩ := e2
      refine h a (by rw [e1]; simp) _ ⟨?_, hok, hR _ _ ⟨rfl, p ++ [a], r, by rw [e1]; simp, rfl, by simp⟩⟩
      rw [e1] at hn
      simp at hn ⊢
      omega
  · subst e e3
    cases r with
    | nil =>
      rw [List.append_nil] at e1
      subst e1
      exact q
    | cons a r => cases e2
theorem lc_ofF (l : List α) (it out : α → D) (t : α → Bool) (hok : ok C) (hn : l.length ≤ sizeLine)
    (h : ∀ a, a ∈ l → ∀ R : D → Store → Prop, ∀ R' : Store → Prop, (t a = true → R (out a) C) → (t a = false → R' C) → G (it a) Γ C fun Γ1 C1 => B Γ1 C1 fun b C2 => if b = true then E Γ1 C2 R else R' C2) (q : Q (.lst ((l.filter t).map out)) C) : lcW G B E Γ ok Q (l.map it) [] C := by
  refine lcW_run (fun ds acc C' => C' = C ∧ ∃ p r, l = p ++ r ∧ ds = r.map it ∧ acc = (p.filter t).map out) (fun d ds acc C' ⟨e, p, r, e1, e2, e3⟩ R hR => ?_) (fun acc C' ⟨e, p, r, e1, e2, e3⟩ => ?_) _ _ _ ⟨rfl, [], l, rfl, rfl, rfl⟩
  · subst e e3
    cases r with
    | nil => cases e2
    | cons a r =>
      rw [List.map_cons, List.cons.injEq] at e2
      obtain ⟨rfl, rfl⟩ := e2
      refine h a (by rw [e1]; simp) _ _ (fun ht => ⟨?_, hok, hR _ _ ⟨rfl, p ++ [a], r, by rw [e1]; simp, rfl, by simp [List.filter_append, ht]⟩⟩) fun ht => ⟨hok, hR _ _ ⟨rfl, p ++ [a], r, by rw [e1]; simp, rfl, by simp [List.filter_append, ht]⟩⟩
      have := List.length_filter_le t p
      rw [e1] at hn
      simp at hn ⊢
      omega
  · subst e e3
    cases r with
    | nil =>
      rw [List.append_nil] at e1
      subst e1
      exact q
    | cons a r => cases e2
end
/-! ### plans without a most -/
structure PlanU (f st : Str) (rs : List (Int × Int)) (w : Nat → Int) : Prop where
  blk : ∀ j, j < st.length → 0 ≤ w j ∧ w j % 2 = bsOf f st j
  led : ∀ z, z ∈ rs → w z.1.toNat ≤ w z.2.toNat
theorem Plan.u {f st : Str} {rs : List (Int × Int)} {t : Int} {w : Nat → Int} (P : Plan f st rs t w) : PlanU f st rs w :=
  ⟨fun j hj => by have := P.blk j hj; have := b01 f st j; omega, P.led⟩
theorem PlanU.plan {f st : Str} {rs : List (Int × Int)} {t : Int} {w : Nat → Int} (P : PlanU f st rs w) (h : ∀ j, j < st.length → w j ≤ t) : Plan f st rs t w :=
  ⟨fun j hj => by have := P.blk j hj; have := h j hj; have := b01 f st j; omega, P.led⟩
def P_Lw_good : PV := fun ds C Q => ∃ (o o' : Bool) (f st : Str) (rs : List (Int × Int)) (w : Nat → Int), ds = [pil o f st rs, .lst o' (wL st.length w)] ∧ Pil f st rs ∧ ∀ b : Bool, (b = true ↔ PlanU f st rs w) → Q (.bl b) C
theorem none_of {α : Type} {l : List α} {t : α → Bool} : ((l.filter t).map fun _ => (1 : Int)) = [] ↔ ∀ a, a ∈ l → t a = false := by
  rw [List.map_eq_nil_iff, List.filter_eq_nil_iff]
  exact ⟨fun h a ha => Bool.eq_false_iff.mpr (h a ha), fun h a ha => Bool.eq_false_iff.mp (h a ha)⟩
theorem ones {α : Type} {l : List α} {t : α → Bool} : ((l.filter t).map fun _ => D.int 1) = ((l.filter t).map fun _ => (1 : Int)).map .int := by
  rw [List.map_map]
  rfl
theorem v_Lw_good (ds : List D) (C : Store) (Q3 : D → Store → Prop) (h : P_Lw_good ds C Q3) (hC : C.length = 0) : T_Lw_good P_Lw_base (enF 0 Q3) (start3 N_Lw_good ds) C := by
  obtain ⟨o, o', f, st, rs, w, rfl, hp, q⟩ := h
  rw [List.length_eq_zero_iff] at hC
  subst hC
  have hz := sizeL
  have h24 := hp.top
  have fin' : ∀ b : Bool, (enF 0 Q3).rt (.bl b) [] = Q3 (.bl b) [] := fun b => rfl
  refine ⟨_, rfl, _, _, rfl, rfl, st.length, by rw [wL_len], by omega, by omega, ?_⟩
  rw [rgI_range]
  refine lc_ofF (List.range st.length) _ (fun _ => .int 1) (fun j => decide (w j < 0) || !decide (w j % 2 = bsOf f st j)) (fun _ h => by simp [srcOf] at h) (by simp; omega) (fun j hj R R' hR hR' => ?_) ?_
  · have hj' : j < st.length := by simpa using hj
    refine ⟨_, rfl, _, rfl, _, _, _, rfl, rfl, wL_at hj', _, _, rfl, rfl, _, rfl, ?_⟩
    by_cases h1 : w j < 0
    · refine goT (decide_eq_true h1) ?_
      exact goT rfl (hR (by simp [h1]))
    · refine goF (decide_eq_false h1) ?_
      refine ⟨_, rfl, _, rfl, _, _, _, rfl, rfl, wL_at hj', _, _, rfl, rfl, (show (0 : Int) < 2 by decide), base_e hp rfl rfl hj' ⟨_, rfl, ?_⟩⟩
      by_cases h2 : w j % 2 = bsOf f st j
      · exact goF (by rw [decide_eq_true h2]; rfl) (hR' (by simp [h1, h2]))
      · exact goT (by rw [decide_eq_false h2]; rfl) (hR (by simp [h2]))
  rw [ones]
  refine ⟨Nat.zero_le _, ?_⟩
  refine oEq_ints (o := false) (o' := false) (ms := []) ⟨_, rfl, ?_⟩
  by_cases e1 : ((List.range st.length).filter fun j => decide (w j < 0) || !decide (w j % 2 = bsOf f st j)).map (fun _ => (1 : Int)) = []
  · refine goF (by rw [decide_eq_true e1]; rfl) ?_
    have a1 := none_of.mp e1
    refine ⟨_, rfl, _, _, _, rfl, rfl, rfl, rs.map pD, rfl, ?_⟩
    have hrf := hp.rul.few
    refine lc_ofF rs pD (fun _ => .int 1) (fun z => decide (w z.2.toNat < w z.1.toNat)) (fun _ h => by simp [srcOf] at h) (by omega) (fun z hzm R R' hR hR' => ?_) ?_
    · obtain ⟨b1, b2, b3, b4, _⟩ := hp.rul.inn z hzm
      obtain ⟨zi, zj⟩ := z
      obtain ⟨i, rfl⟩ := Int.eq_ofNat_of_zero_le b1
      obtain ⟨j, rfl⟩ := Int.eq_ofNat_of_zero_le b3
      refine ⟨_, rfl, rfl, _, _, rfl, _, _, rfl, rfl, ?_⟩
      refine ⟨_, rfl, _, rfl, _, _, _, rfl, rfl, wL_at (by simpa using b2), _, rfl, _, rfl, _, _, _, rfl, rfl, wL_at (by simpa using b4), _, _, rfl, rfl, _, rfl, ?_⟩
      by_cases h1 : w j < w i
      · exact goT (decide_eq_true h1) (hR (by simp [h1]))
      · exact goF (decide_eq_false h1) (hR' (by simp [h1]))
    rw [ones]
    refine ⟨Nat.zero_le _, ?_⟩
    refine oEq_ints (o := false) (o' := false) (ms := []) ?_
    rw [fin']
    refine q _ ?_
    rw [eqN, decide_eq_true_eq, none_of]
    constructor
    · intro h
      refine ⟨fun j hj => ?_, fun z hz => by have := h z hz; simpa using this⟩
      have := a1 j (by simpa using hj)
      simpa using this
    · intro P z hz
      have := P.led z hz
      simpa using this
  · refine goT (by rw [decide_eq_false e1]; rfl) ?_
    rw [u_sRet, u_eC, fin']
    refine q false ⟨fun h => by simp at h, fun P => (e1 ?_).elim⟩
    refine none_of.mpr fun j hj => ?_
    have := P.blk j (by simpa using hj)
    simp only [Bool.or_eq_false_iff, decide_eq_false_iff_not, Bool.not_eq_false', decide_eq_true_eq]
    exact ⟨by omega, this.2⟩
/-! ### the program's own: is_plan -/
def P_keeps_rules : PV := fun ds C Q => ∃ (o o' : Bool) (n : Nat) (rs : List (Int × Int)) (w : Nat → Int), ds = [.lst o (rs.map pD), .lst o' (wL n w)] ∧ Rul n rs ∧ Q (.bl (rs.all fun z => decide (w z.1.toNat ≤ w z.2.toNat))) C
theorem v_keeps_rules (ds : List D) (C : Store) (Q3 : D → Store → Prop) (h : P_keeps_rules ds C Q3) (hC : C.length = 0) : T_keeps_rules (enF 0 Q3) (start3 N_keeps_rules ds) C := by
  obtain ⟨o, o', n, rs, w, rfl, hr, q⟩ := h
  rw [List.length_eq_zero_iff] at hC
  subst hC
  have hz := sizeL
  have hrf := hr.few
  refine ⟨_, rfl, rs.map pD, rfl, ?_⟩
  refine lc_of rs pD (fun z => .bl (decide (w z.1.toNat ≤ w z.2.toNat))) (fun _ h => by simp [srcOf] at h) (by omega) (fun z hzm R hR => ?_) ?_
  · obtain ⟨b1, b2, b3, b4, _⟩ := hr.inn z hzm
    obtain ⟨zi, zj⟩ := z
    obtain ⟨i, rfl⟩ := Int.eq_ofNat_of_zero_le b1
    obtain ⟨j, rfl⟩ := Int.eq_ofNat_of_zero_le b3
    refine ⟨_, rfl, rfl, _, _, rfl, _, _, rfl, rfl, ?_⟩
    exact ⟨_, rfl, _, rfl, _, _, _, rfl, rfl, wL_at (by simpa using b2), _, rfl, _, rfl, _, _, _, rfl, rfl, wL_at (by simpa using b4), _, _, rfl, rfl, hR⟩
  refine ⟨_, rs.map fun z => decide (w z.1.toNat ≤ w z.2.toNat), rfl, by simp [lstOf, Cell.frz], ?_⟩
  show Q3 (.bl _) _
  rw [List.all_map]
  exact q
def P_is_block : PV := fun ds C Q => ∃ (x : Int) (m : Option Int), ds = [.int x, mD m] ∧ Q (.bl (decide (0 ≤ x) && inM m x)) C
theorem v_is_block (ds : List D) (C : Store) (Q3 : D → Store → Prop) (h : P_is_block ds C Q3) (hC : C.length = 0) : T_is_block (enF 0 Q3) (start3 N_is_block ds) C := by
  obtain ⟨x, m, rfl, q⟩ := h
  rw [List.length_eq_zero_iff] at hC
  subst hC
  refine ⟨_, rfl, .int, rfl, _, rfl, ?_⟩
  refine goF rfl ?_
  refine ⟨_, rfl, .int, rfl, _, rfl, ?_⟩
  refine goF rfl ?_
  refine ⟨_, rfl, _, _, rfl, rfl, _, rfl, ?_⟩
  by_cases h : x < 0
  · refine goT (decide_eq_true h) ?_
    have e : decide (0 ≤ x) = false := decide_eq_false (by omega)
    rw [e] at q
    exact q
  · refine goF (decide_eq_false h) ?_
    have e : decide (0 ≤ x) = true := decide_eq_true (by omega)
    rw [e] at q
    cases m with
    | none => exact ⟨_, rfl, rfl, true, rfl, true, rfl, goT rfl q⟩
    | some t => exact ⟨_, rfl, rfl, false, rfl, false, rfl, goF rfl ⟨_, rfl, _, rfl, _, _, rfl, rfl, q⟩⟩
theorem views_mD {C : Store} {m : Option Int} {ds : List D} : views [] C (mD m :: ds) = mD m :: views [] C ds := by
  cases m <;> rfl
theorem views_wL {C : Store} {o : Bool} {n : Nat} {w : Nat → Int} {ds : List D} : views [] C (.lst o (wL n w) :: ds) = .lst true (wL n w) :: views [] C ds := by
  rw [wL_ints, views_ints]
def P_is_plan_of : PV := fun ds C Q => ∃ (o o' : Bool) (f st : Str) (rs : List (Int × Int)) (w : Nat → Int) (m : Option Int), ds = [pil o f st rs, .lst o' (wL st.length w), mD m] ∧ Pil f st rs ∧ ∀ b : Bool, (b = true ↔ PlanU f st rs w ∧ ∀ t, m = some t → ∀ j, j < st.length → w j ≤ t) → Q (.bl b) C
theorem v_is_plan_of (ds : List D) (C : Store) (Q3 : D → Store → Prop) (h : P_is_plan_of ds C Q3) (hC : C.length = 0) : T_is_plan_of P_is_block P_base_of P_keeps_rules (enF 0 Q3) (start3 N_is_plan_of ds) C := by
  obtain ⟨o, o', f, st, rs, w, m, rfl, hp, q⟩ := h
  rw [List.length_eq_zero_iff] at hC
  subst hC
  have hz := sizeL
  have h24 := hp.top
  have fin' : ∀ b : Bool, (enF 0 Q3).rt (.bl b) [] = Q3 (.bl b) [] := fun b => rfl
  refine ⟨_, rfl, .list, rfl, _, rfl, ?_⟩
  refine goF rfl ?_
  refine ⟨_, rfl, _, _, rfl, rfl, ?_⟩
  refine ⟨_, rfl, _, _, _, rfl, rfl, rfl, by omega, _, rfl, ?_⟩
  rw [wL_len]
  refine goF (by rw [show decide (((st.length : Nat) : Int) = (st.length : Nat)) = true from decide_eq_true rfl]; rfl) ?_
  refine ⟨_, rfl, wL st.length w, rfl, ?_⟩
  refine lc_of (List.range st.length) (fun j => D.int (w j)) (fun j => .bl (decide (0 ≤ w j) && inM m (w j))) (fun _ h => by simp [srcOf] at h) (by simp; omega) (fun j hj R hR => ?_) ?_
  · exact ⟨_, rfl, _, rfl, w j, m, by rw [views_int, views_mD, views_nil], rfl, hR⟩
  refine ⟨_, (List.range st.length).map fun j => decide (0 ≤ w j) && inM m (w j), rfl, by simp [lstOf, Cell.frz], _, rfl, ?_⟩
  rw [List.all_map]
  by_cases h1 : ((List.range st.length).all fun j => decide (0 ≤ w j) && inM m (w j)) = true
  · have h1' : ∀ j, j < st.length → 0 ≤ w j ∧ ∀ t, m = some t → w j ≤ t := fun j hj => by
      have := List.all_eq_true.mp h1 j (by simpa using hj)
      cases m with
      | none => simpa [inM] using this
      | some t => simp [inM] at this; exact ⟨this.1, fun t' e => by cases e; exact this.2⟩
    refine goF (by show (!_) = false; rw [Bool.not_eq_false']; exact h1) ?_
    refine ⟨_, rfl, _, _, rfl, rfl, ?_⟩
    rw [enum_wL]
    refine lc_of (List.range st.length) (fun j : Nat => .tup [.int (j : Nat), .int (w j)]) (fun j => .bl (decide (w j % 2 = bsOf f st j))) (fun _ h => by simp [srcOf] at h) (by simp; omega) (fun j hj R hR => ?_) ?_
    · have hj' : j < st.length := by simpa using hj
      refine ⟨_, rfl, rfl, _, _, rfl, _, _, rfl, rfl, ?_⟩
      exact ⟨_, rfl, _, _, rfl, rfl, (show (0 : Int) < 2 by decide), base_e hp rfl rfl hj' (by show R (.bl (false != decide (w j % 2 = bsOf f st j))) []; rw [eqN]; exact hR)⟩
    refine ⟨_, (List.range st.length).map fun j => decide (w j % 2 = bsOf f st j), rfl, by simp [lstOf, Cell.frz], _, rfl, ?_⟩
    rw [List.all_map]
    by_cases h2 : ((List.range st.length).all fun j => decide (w j % 2 = bsOf f st j)) = true
    · refine goF (by show (!_) = false; rw [Bool.not_eq_false']; exact h2) ?_
      have h2' : ∀ j, j < st.length → w j % 2 = bsOf f st j := fun j hj => by
        have := List.all_eq_true.mp h2 j (by simpa using hj)
        simpa using this
      refine ⟨_, rfl, _, _, _, rfl, rfl, rfl, _, rfl, true, true, st.length, rs, w, by rw [wL_ints]; simp only [views, mapWs, mapW, mapWs_ints, mapWs_flat (flat_pairs rs)], hp.rul, rfl, ?_⟩
      rw [fin']
      refine q _ ?_
      rw [List.all_eq_true]
      constructor
      · intro h
        exact ⟨⟨fun j hj => ⟨(h1' j hj).1, h2' j hj⟩, fun z hz => by have := h z hz; simpa using this⟩, fun t e j hj => (h1' j hj).2 t e⟩
      · intro P z hz
        have := P.1.led z hz
        simpa using this
    · refine goT (by show (!_) = true; rw [Bool.not_eq_true']; exact Bool.eq_false_iff.mpr h2) ?_
      rw [u_sRet, u_eC, fin']
      refine q false ⟨fun h => by simp at h, fun P => (h2 ?_).elim⟩
      exact List.all_eq_true.mpr fun j hj => by simpa using (P.1.blk j (by simpa using hj)).2
  · refine goT (by show (!_) = true; rw [Bool.not_eq_true']; exact Bool.eq_false_iff.mpr h1) ?_
    rw [u_sRet, u_eC, fin']
    refine q false ⟨fun h => by simp at h, fun P => (h1 ?_).elim⟩
    refine List.all_eq_true.mpr fun j hj => ?_
    have hj' : j < st.length := by simpa using hj
    have a := (P.1.blk j hj').1
    cases m with
    | none => simp [a, inM]
    | some t => simp [a, inM, P.2 t rfl j hj']
end PN
end L3

namespace L3
namespace PN
open PySem PySem.Spec PyProof.Rows L2
theorem np_w {o : Bool} {n : Nat} {w : Nat → Int} : (noptrs (wL n w) && noptrs (wL n w)) = true := by
  rw [wL_ints, noptrs_ints]; rfl
theorem np_w1 {n : Nat} {w : Nat → Int} : noptrs (wL n w) = true := by rw [wL_ints, noptrs_ints]
theorem np_w2 {n : Nat} {a b : Nat → Int} : (noptrs (wL n a) && noptrs (wL n b)) = true := by rw [np_w1, np_w1]; rfl
theorem fin_w {o : Bool} {n : Nat} {w : Nat → Int} {C : Store} {k : Nat} : fin k C (.lst o (wL n w)) = .lst o (wL n w) := by
  rw [wL_ints, fin_ints]
def P_is_plan : PV := fun ds C Q => ∃ (o o' : Bool) (f st : Str) (rs : List (Int × Int)) (w : Nat → Int), ds = [pil o f st rs, .lst o' (wL st.length w)] ∧ Pil f st rs ∧ ∀ b : Bool, (b = true ↔ PlanU f st rs w) → Q (.bl b) C
theorem v_is_plan (ds : List D) (C : Store) (Q3 : D → Store → Prop) (h : P_is_plan ds C Q3) (hC : C.length = 0) : T_is_plan P_need_pile P_is_plan_of (enF 0 Q3) (start3 N_is_plan ds) C := by
  obtain ⟨o, o', f, st, rs, w, rfl, hp, q⟩ := h
  rw [List.length_eq_zero_iff] at hC
  subst hC
  refine ⟨_, rfl, true, f, st, rs, views_pil1, hp, rfl, ?_⟩
  refine ⟨_, rfl, _, rfl, true, true, f, st, rs, w, none, by rw [views_pil, views_wL]; rfl, hp, fun b hb => ⟨rfl, ?_⟩⟩
  exact q b (hb.trans ⟨fun h => h.1, fun h => ⟨h, fun t e => by cases e⟩⟩)
def P_need_plan : PV := fun ds C Q => ∃ (o o' : Bool) (f st : Str) (rs : List (Int × Int)) (w : Nat → Int) (m : Option Int), ds = [pil o f st rs, .lst o' (wL st.length w), mD m] ∧ Pil f st rs ∧ PlanU f st rs w ∧ (∀ t, m = some t → ∀ j, j < st.length → w j ≤ t) ∧ Q .non C
theorem v_need_plan (ds : List D) (C : Store) (Q3 : D → Store → Prop) (h : P_need_plan ds C Q3) (hC : C.length = 0) : T_need_plan P_is_plan_of (enF 0 Q3) (start3 N_need_plan ds) C := by
  obtain ⟨o, o', f, st, rs, w, m, rfl, hp, P, hm, q⟩ := h
  rw [List.length_eq_zero_iff] at hC
  subst hC
  refine ⟨_, rfl, _, rfl, _, rfl, true, true, f, st, rs, w, m, by rw [views_pil, views_wL, views_mD, views_nil], hp, fun b hb => ⟨rfl, _, rfl, ?_⟩⟩
  rw [hb.mpr ⟨P, hm⟩]
  exact goF rfl q
def P_need_two : PV := fun ds C Q => ∃ (o o1 o2 : Bool) (f st : Str) (rs : List (Int × Int)) (a b : Nat → Int), ds = [pil o f st rs, .lst o1 (wL st.length a), .lst o2 (wL st.length b)] ∧ Pil f st rs ∧ PlanU f st rs a ∧ PlanU f st rs b ∧ Q .non C
theorem v_need_two (ds : List D) (C : Store) (Q3 : D → Store → Prop) (h : P_need_two ds C Q3) (hC : C.length = 0) : T_need_two P_need_pile P_need_plan (enF 0 Q3) (start3 N_need_two ds) C := by
  obtain ⟨o, o1, o2, f, st, rs, a, b, rfl, hp, A, B, q⟩ := h
  rw [List.length_eq_zero_iff] at hC
  subst hC
  refine ⟨_, rfl, true, f, st, rs, views_pil1, hp, rfl, ?_⟩
  refine ⟨_, rfl, _, rfl, true, true, f, st, rs, a, none, by rw [views_pil, views_wL]; rfl, hp, A, (fun t e => by cases e), rfl, ?_⟩
  refine ⟨_, rfl, _, rfl, true, true, f, st, rs, b, none, by rw [views_pil, views_wL]; rfl, hp, B, (fun t e => by cases e), rfl, ?_⟩
  exact q
theorem views_p2 {C : Store} {o o1 o2 : Bool} {f st : Str} {rs : List (Int × Int)} {n m : Nat} {a b : Nat → Int} : views [] C [pil o f st rs, .lst o1 (wL n a), .lst o2 (wL m b)] = [pil true f st rs, .lst true (wL n a), .lst true (wL m b)] := by
  rw [views_pil, views_wL, views_wL, views_nil]
theorem views_w2 {C : Store} {o1 o2 : Bool} {n m : Nat} {a b : Nat → Int} : views [] C [.lst o1 (wL n a), .lst o2 (wL m b)] = [.lst true (wL n a), .lst true (wL m b)] := by
  rw [views_wL, views_wL, views_nil]
def P_two (g : Int → Int → Int) : PV := fun ds C Q => ∃ (o o1 o2 : Bool) (f st : Str) (rs : List (Int × Int)) (a b : Nat → Int), ds = [pil o f st rs, .lst o1 (wL st.length a), .lst o2 (wL st.length b)] ∧ Pil f st rs ∧ PlanU f st rs a ∧ PlanU f st rs b ∧ Q (.lst false (wL st.length fun j => g (a j) (b j))) C
abbrev P_lesser : PV := P_two min
abbrev P_greater : PV := P_two max
theorem v_lesser (ds : List D) (C : Store) (Q3 : D → Store → Prop) (h : P_lesser ds C Q3) (hC : C.length = 0) : T_lesser P_need_two (enF 0 Q3) (start3 N_lesser ds) C := by
  obtain ⟨o, o1, o2, f, st, rs, a, b, rfl, hp, A, B, q⟩ := h
  rw [List.length_eq_zero_iff] at hC
  subst hC
  have hz := sizeL
  have h24 := hp.top
  refine ⟨_, rfl, _, rfl, _, rfl, true, true, true, f, st, rs, a, b, views_p2, hp, A, B, rfl, ?_⟩
  refine ⟨_, rfl, _, rfl, _, _, _, _, rfl, rfl, rfl, np_w2, ?_⟩
  rw [zip2_wL]
  refine lc_of (List.range st.length) _ (fun j => .int (min (a j) (b j))) (fun _ h => by simp [srcOf] at h) (by simp; omega) (fun j hj R hR => ?_) ?_
  · refine ⟨_, rfl, [a j, b j], rfl, by simp, fun m h1 h2 => ?_⟩
    have e1 := h2 (a j) (by simp)
    have e2 := h2 (b j) (by simp)
    have e : m = min (a j) (b j) := by
      simp at h1
      omega
    rw [e]
    exact hR
  show Q3 (fin 0 _ (.lst false (wL _ _))) (finS 0 _)
  rw [fin_w, finS0]
  exact q
theorem v_greater (ds : List D) (C : Store) (Q3 : D → Store → Prop) (h : P_greater ds C Q3) (hC : C.length = 0) : T_greater P_need_two (enF 0 Q3) (start3 N_greater ds) C := by
  obtain ⟨o, o1, o2, f, st, rs, a, b, rfl, hp, A, B, q⟩ := h
  rw [List.length_eq_zero_iff] at hC
  subst hC
  have hz := sizeL
  have h24 := hp.top
  refine ⟨_, rfl, _, rfl, _, rfl, true, true, true, f, st, rs, a, b, views_p2, hp, A, B, rfl, ?_⟩
  refine ⟨_, rfl, _, rfl, _, _, _, _, rfl, rfl, rfl, np_w2, ?_⟩
  rw [zip2_wL]
  refine lc_of (List.range st.length) _ (fun j => .int (max (a j) (b j))) (fun _ h => by simp [srcOf] at h) (by simp; omega) (fun j hj R hR => ?_) ?_
  · refine ⟨_, rfl, [a j, b j], rfl, by simp, fun m h1 h2 => ?_⟩
    have e1 := h2 (a j) (by simp)
    have e2 := h2 (b j) (by simp)
    have e : m = max (a j) (b j) := by
      simp at h1
      omega
    rw [e]
    exact hR
  show Q3 (fin 0 _ (.lst false (wL _ _))) (finS 0 _)
  rw [fin_w, finS0]
  exact q
/-- how far two are apart -/
def dist (x y : Int) : Int := if x - y < 0 then - (x - y) else x - y
def dsum (n : Nat) (a b : Nat → Int) : Int := ((List.range n).map fun j => dist (a j) (b j)).sum
def far (n : Nat) (a b : Nat → Int) : Int := dsum n a b / 2
def P_far_between : PV := fun ds C Q => ∃ (o1 o2 : Bool) (n : Nat) (a b : Nat → Int), ds = [.lst o1 (wL n a), .lst o2 (wL n b)] ∧ n ≤ 24 ∧ Q (.int (far n a b)) C
theorem v_far_between (ds : List D) (C : Store) (Q3 : D → Store → Prop) (h : P_far_between ds C Q3) (hC : C.length = 0) : T_far_between (enF 0 Q3) (start3 N_far_between ds) C := by
  obtain ⟨o1, o2, n, a, b, rfl, hn, q⟩ := h
  rw [List.length_eq_zero_iff] at hC
  subst hC
  have hz := sizeL
  refine ⟨_, rfl, _, rfl, _, _, _, _, rfl, rfl, rfl, np_w2, ?_⟩
  rw [zip2_wL]
  refine lc_of (List.range n) _ (fun j => .int (dist (a j) (b j))) (fun _ h => by simp [srcOf] at h) (by simp; omega) (fun j hj R hR => ?_) ?_
  · exact ⟨_, rfl, rfl, _, _, rfl, _, _, rfl, rfl, _, rfl, _, rfl, _, _, rfl, rfl, _, rfl, hR⟩
  refine ⟨_, (List.range n).map fun j => dist (a j) (b j), rfl, by simp [lstOf, Cell.frz], _, _, rfl, rfl, ⟨by decide, by decide⟩, ?_⟩
  exact q
def P_Lw_far : PV := P_far_between
theorem v_Lw_far (ds : List D) (C : Store) (Q3 : D → Store → Prop) (h : P_Lw_far ds C Q3) (hC : C.length = 0) : T_Lw_far (enF 0 Q3) (start3 N_Lw_far ds) C := v_far_between ds C Q3 h hC
def P_apart : PV := fun ds C Q => ∃ (o o1 o2 : Bool) (f st : Str) (rs : List (Int × Int)) (a b : Nat → Int), ds = [pil o f st rs, .lst o1 (wL st.length a), .lst o2 (wL st.length b)] ∧ Pil f st rs ∧ PlanU f st rs a ∧ PlanU f st rs b ∧ Q (.int (far st.length a b)) C
theorem v_apart (ds : List D) (C : Store) (Q3 : D → Store → Prop) (h : P_apart ds C Q3) (hC : C.length = 0) : T_apart P_need_two P_far_between (enF 0 Q3) (start3 N_apart ds) C := by
  obtain ⟨o, o1, o2, f, st, rs, a, b, rfl, hp, A, B, q⟩ := h
  rw [List.length_eq_zero_iff] at hC
  subst hC
  refine ⟨_, rfl, _, rfl, _, rfl, true, true, true, f, st, rs, a, b, views_p2, hp, A, B, rfl, ?_⟩
  exact ⟨_, rfl, _, rfl, true, true, st.length, a, b, views_w2, hp.top, rfl, q⟩
end PN
end L3

namespace L3
namespace PN
open PySem PySem.Spec PyProof.Rows L2
def P_Lw_cells : PV := fun ds C Q => ∃ (o : Bool) (ns : List Int), ds = [.lst o (ns.map .int)] ∧ ns.length ≤ 63 ∧ ∀ ms : List Int, ms.length ≤ 64 → Q (.lst false (ms.map .int)) C
theorem v_Lw_cells (ds : List D) (C : Store) (Q3 : D → Store → Prop) (h : P_Lw_cells ds C Q3) (hC : C.length = 0) : T_Lw_cells (enF 0 Q3) (start3 N_Lw_cells ds) C := by
  obtain ⟨o, ns, rfl, hl, q⟩ := h
  rw [List.length_eq_zero_iff] at hC
  subst hC
  have hz := sizeL
  obtain ⟨ms, em, hml⟩ := cut_ints (ns := ns) (a := none) (b := some 7)
  refine ⟨_, rfl, _, _, rfl, rfl, by rw [hz]; show 1 ≤ 16777216; decide, _, rfl, _, rfl, ns.map .int, rfl, [.int (ns.map D.int).length], cutD (ns.map .int) none (some 7), rfl, rfl, ?_⟩
  rw [em]
  refine ⟨by rw [hz]; simp; omega, ?_⟩
  have e1 : [D.int ((ns.map D.int).length : Nat)] ++ ms.map D.int = ((((ns.map D.int).length : Nat) : Int) :: ms).map .int := rfl
  show Q3 (fin 0 _ (.lst false ([D.int ((ns.map D.int).length : Nat)] ++ ms.map D.int))) (finS 0 _)
  rw [e1, fin_ints, finS0]
  exact q _ (by simp; omega)
theorem rul1 {n : Nat} (h : 2 ≤ n) : Rul n [(0, 1)] := ⟨by decide, fun z hz => by simp at hz; subst hz; simp; omega, by simp⟩
theorem rul2 : Rul 3 [(0, 1), (1, 2)] := ⟨by decide, fun z hz => by simp at hz; rcases hz with rfl | rfl <;> simp, by simp [SrtO.lexB]⟩
theorem pil_few {st : Str} {n : Nat} (h : st.length = n) (h2 : 2 ≤ n) (h3 : n ≤ 3) (hs : ∀ c, c ∈ st.cps.toList → c = 82 ∨ c = 66) {rs : List (Int × Int)} (hr : Rul n rs) (hk : ∀ z, z ∈ rs → z.1.toNat < z.2.toNat) : Pil cR st rs :=
  ⟨.inl rfl, by omega, by omega, hs, by rw [h]; exact hr, fun x => x.toNat, hk⟩
def P_Lw_some_pile : PV := fun ds C Q => ∃ (o : Bool) (ns : List Int) (t c : Int) (x : Cell), ds = [.lst o (ns.map .int), .ptr 0, .int t] ∧ C = [x] ∧ Bag c x ∧ c < 10 ^ 3 ∧ 4 ≤ t ∧ t ≤ 24 ∧
  ∀ f st rs c' y, Pil f st rs → (st.length : Int) ≤ t → Bag c' y → c' ≤ c + 300 → Q (pil false f st rs) [y]
theorem mono_pile {ds : List D} {C : Store} (R R' : D → Store → Prop) (h : ∀ d Cc, R d Cc → R' d Cc) : P_Lw_pile ds C R → P_Lw_pile ds C R' := fun ⟨t, r, c, x, e1, e2, e3, e4, e5, e6, e7, e8, q⟩ => ⟨t, r, c, x, e1, e2, e3, e4, e5, e6, e7, e8, fun f st rs c' y a b d e => h _ _ (q f st rs c' y a b d e)⟩
theorem v_Lw_some_pile (ds : List D) (C : Store) (Q3 : D → Store → Prop) (h : P_Lw_some_pile ds C Q3) (hC : C.length = 1) : T_Lw_some_pile P_Lw_draw P_Lw_pile (enF 1 Q3) (start3 N_Lw_some_pile ds) C := by
  obtain ⟨o, ns, t, c, x, rfl, rfl, hx, hc, ht0, ht1, q⟩ := h
  have hz := sizeL
  refine ⟨_, rfl, Nat.zero_le _, ?_⟩
  refine oEq_ints (ns := ns) (ms := []) (o' := false) ⟨_, rfl, ?_⟩
  by_cases he : ns = []
  · refine goT (by simp [he]) ?_
    rw [u_sSeq, u_sAsg, u_eBin, u_eC]
    refine draw_e (k := 0) (m := 2) rfl hx rfl (fun R h => h) (by decide) (by decide) (by omega) fun r1 y1 h10 h11 hy1 => ?_
    refine ⟨_, _, rfl, rfl, ?_⟩
    dsimp only
    rw [u_gvName, u_sSeq, u_sAsg]
    obtain ⟨r1n, rfl⟩ := Int.eq_ofNat_of_zero_le h10
    refine signs_e (k := 0) (i := 1) (v := 3) (n := 2 + r1n) (x := y1) rfl hy1 rfl (by decide) (by show some (some (D.int (2 + (r1n : Nat)))) = _; simp) (by omega) (by omega) fun st y2 hst hsg hy2 => ?_
    dsimp only
    rw [u_gvName, u_sRet, u_eTup, u_aCons, u_eC, u_aCons]
    refine ⟨_, rfl, ?_⟩
    dsimp only
    rw [u_aCons, u_eBin]
    have le5 : ∀ l : List D, l.length ≤ 5 → l.length ≤ sizeLine := fun l h => by rw [hz]; omega
    refine ⟨le5 _ (by simp), le5 _ (by simp), le5 _ (by simp), _, rfl, _, _, rfl, rfl, le5 _ (by simp), le5 _ (by simp), _, rfl, _, _, rfl, rfl, _, rfl, _, rfl, le5 _ (by simp), ?_⟩
    refine draw_e (k := 0) (m := 2) (x := y2) rfl hy2 rfl (fun R h => h) (by decide) (by decide) (by omega) fun r2 y3 h20 h21 hy3 => ?_
    have key : ∃ rs : List (Int × Int), atI [D.lst false [.tup [.int 0, .int 1]], D.lst false (cutD [.tup [.int 0, .int 1], .tup [.int 1, .int (2 + (r1n : Nat) - 1)]] none (some (2 + (r1n : Nat) - 1)))] r2 = some (.lst false (rs.map pD)) ∧ Rul (2 + r1n) rs ∧ ∀ z, z ∈ rs → z.1.toNat < z.2.toNat := by
      have h2 : r2 = 0 ∨ r2 = 1 := by omega
      have h1 : r1n = 0 ∨ r1n = 1 := by omega
      rcases h2 with rfl | rfl
      · exact ⟨[(0, 1)], rfl, rul1 (by omega), fun z hz => by simp at hz; subst hz; decide⟩
      · rcases h1 with rfl | rfl
        · exact ⟨[(0, 1)], rfl, rul1 (by omega), fun z hz => by simp at hz; subst hz; decide⟩
        · exact ⟨[(0, 1), (1, 2)], rfl, rul2, fun z hz => by simp at hz; rcases hz with rfl | rfl <;> decide⟩
    obtain ⟨rs, hat, hr, hk⟩ := key
    refine ⟨_, _, _, rfl, rfl, hat, by rw [hz]; show 3 ≤ 16777216; decide, ?_⟩
    have hp := pil_few hst (by omega) (by omega) hsg hr hk
    show Q3 (fin 1 _ (pil false cR st rs)) (finS 1 [y3])
    rw [fin_pil', hy3.finS]
    exact q cR st rs _ y3 hp (by omega) hy3 (by omega)
  · refine goF (by simp [he]) ?_
    show sRet (eCallK 1 kf1 P_Lw_pile (aCons (eVar 1) (aCons (eBin oIxL (eFrz (fLst (aCons (eC (.int 4)) (aCons (eCB oMin2 (aCons (eC (.int 9)) (aCons (eVar 2) aNil))) (aCons (eVar 2) aNil))))) (eCallK 1 kf1 P_Lw_draw (aCons (eVar 1) (aCons (eC (.int 3)) aNil)))) (aCons (eBin oIxL (eFrz (fLst (aCons (eC (.int 3)) (aCons (eC (.int 12)) (aCons (eC (.int 60)) aNil))))) (eCallK 1 kf1 P_Lw_draw (aCons (eVar 1) (aCons (eC (.int 3)) aNil)))) aNil)))) _ _ _
    rw [u_sRet, u_eCallK, u_aCons]
    refine ⟨_, rfl, ?_⟩
    dsimp only
    rw [u_aCons, u_eBin]
    refine ⟨_, rfl, _, _, rfl, _, rfl, by rw [hz]; show 3 ≤ 16777216; decide, ?_⟩
    refine draw_e (k := 0) (m := 3) rfl hx rfl (fun R h => h) (by decide) (by decide) (by omega) fun r1 y1 h10 h11 hy1 => ?_
    obtain ⟨w, hw, hw0, hw1⟩ : ∃ w : Int, atI [D.int 4, D.int (min 9 t), D.int t] r1 = some (.int w) ∧ 1 ≤ w ∧ w ≤ t := by
      have : r1 = 0 ∨ r1 = 1 ∨ r1 = 2 := by omega
      rcases this with rfl | rfl | rfl
      · exact ⟨4, rfl, by omega, by omega⟩
      · exact ⟨_, rfl, by omega, by omega⟩
      · exact ⟨t, rfl, by omega, by omega⟩
    refine ⟨_, _, _, rfl, rfl, hw, ?_⟩
    dsimp only
    rw [u_aCons, u_eBin]
    refine ⟨by rw [hz]; show 3 ≤ 16777216; decide, ?_⟩
    refine draw_e (k := 0) (m := 3) (x := y1) rfl hy1 rfl (fun R h => h) (by decide) (by decide) (by omega) fun r2 y2 h20 h21 hy2 => ?_
    obtain ⟨w2, hw2, hw20, hw21⟩ : ∃ w : Int, atI [D.int 3, D.int 12, D.int 60] r2 = some (.int w) ∧ 0 ≤ w ∧ w ≤ 60 := by
      have : r2 = 0 ∨ r2 = 1 ∨ r2 = 2 := by omega
      rcases this with rfl | rfl | rfl
      · exact ⟨3, rfl, by omega, by omega⟩
      · exact ⟨12, rfl, by omega, by omega⟩
      · exact ⟨60, rfl, by omega, by omega⟩
    refine ⟨_, _, _, rfl, rfl, hw2, ?_⟩
    refine callB (k := 0) (ds' := [.ptr 0, .int w, .int w2]) rfl rfl hy2 (by rw [views_p1]; rfl) ?_ mono_pile
    refine ⟨w, w2, c + 1 + 1, y2, rfl, rfl, hy2, by omega, hw0, by omega, hw20, hw21, fun f st rs c' y hp hl hy hc' => ⟨y, c', rfl, hy, np_pil, ?_⟩⟩
    show Q3 (fin 1 _ (pil false f st rs)) (finS 1 [y])
    rw [fin_pil', hy.finS]
    exact q f st rs c' y hp (by omega) hy (by omega)
end PN
end L3

namespace L3
namespace PN
open PySem PySem.Spec PyProof.Rows L2
theorem fix_par2 {f st : Str} {rs : List (Int × Int)} (hp : Pil f st rs) {start V : Nat → Int} (hs : ∀ j, j < st.length → (start j - bsOf f st j) % 2 = 0) (F : Fix st.length start (chOf st) rs V) : ∀ j, j < st.length → (V j - bsOf f st j) % 2 = 0 := by
  obtain ⟨rk, hrk⟩ := hp.acy
  have all : ∀ m : Nat, ∀ j : Nat, j < st.length → rk j < m → (V j - bsOf f st j) % 2 = 0 := by
    intro m
    induction m with
    | zero => intro j _ h; omega
    | succ m ih =>
      intro j hj hm
      rcases F.by_ j hj with e | ⟨z, hz, e1, e2⟩
      · rw [e]; exact hs j hj
      · obtain ⟨h0, h1⟩ := hp.r2 z hz
        obtain ⟨i, hi⟩ := Int.eq_ofNat_of_zero_le h0
        have h2 := hrk z hz
        rw [e1, hi] at h2
        have hi' : i < st.length := by omega
        have h3 := ih i hi' (by omega)
        obtain ⟨p1, p2, p3⟩ := bs_par hp hi' hj
        rw [hi] at e2
        simp only [Int.toNat_natCast] at e2
        omega
  exact fun j hj => all (rk j + 1) j hj (by omega)
theorem led_plan {f st : Str} {rs : List (Int × Int)} (hp : Pil f st rs) {start V v u : Nat → Int} {m t : Int} (h0 : ∀ j, j < st.length → bsOf f st j ≤ start j) (hs : ∀ j, j < st.length → (start j - bsOf f st j) % 2 = 0) (F : Fix st.length start (chOf st) rs V)
    (hV : PFix f st rs v) (hU : OFix st rs u) (M : IsMax st.length v m) (hm : m ≤ t) : Plan f st rs t fun j => min (V j) (late t v u j) := by
  have L := plan_late hp hV hU M hm
  refine ⟨fun j hj => ?_, fun z hz => ?_⟩
  · have h1 := F.low j hj
    have h2 := h0 j hj
    have h3 := fix_par2 hp hs F j hj
    have h4 := L.blk j hj
    show bsOf f st j ≤ min (V j) (late t v u j) ∧ min (V j) (late t v u j) ≤ t ∧ (min (V j) (late t v u j) - bsOf f st j) % 2 = 0
    omega
  · have h1 := F.up z hz
    have h2 := ch01 st z.1.toNat z.2.toNat
    have h3 := L.led z hz
    show min (V z.1.toNat) (late t v u z.1.toNat) ≤ min (V z.2.toNat) (late t v u z.2.toNat)
    omega
def P_Lw_led : PV := fun ds C Q => ∃ (o o' : Bool) (f st : Str) (rs : List (Int × Int)) (b : Nat → Int) (t : Int), ds = [pil o f st rs, .lst o' (wL st.length b), .int t] ∧ Pil f st rs ∧ (∃ v m, PFix f st rs v ∧ IsMax st.length v m ∧ m ≤ t) ∧ ∀ w, Plan f st rs t w → Q (.lst false (wL st.length w)) C
theorem v_Lw_led (ds : List D) (C : Store) (Q3 : D → Store → Prop) (h : P_Lw_led ds C Q3) (hC : C.length = 0) : T_Lw_led P_Lw_base P_Lw_change P_Lw_late (enF 0 Q3) (start3 N_Lw_led ds) C := by
  obtain ⟨o, o', f, st, rs, b, t, rfl, hp, ⟨v0, m, hv0, M, hm⟩, q⟩ := h
  rw [List.length_eq_zero_iff] at hC
  subst hC
  have hz := sizeL
  have h24 := hp.top
  refine ⟨_, rfl, _, _, rfl, rfl, ?_⟩
  rw [enum_wL]
  refine lc_of (List.range st.length) _ (fun j => .int (max 0 (b j - (b j - bsOf f st j) % 2))) (fun _ h => by simp [srcOf] at h) (by simp; omega) (fun j hj R hR => ?_) ?_
  · have hj' : j < st.length := by simpa using hj
    refine ⟨_, rfl, rfl, _, _, rfl, _, _, rfl, rfl, ?_⟩
    exact ⟨_, rfl, _, rfl, base_e hp rfl rfl hj' ⟨_, _, rfl, rfl, _, _, rfl, rfl, (show (0 : Int) < 2 by decide), _, _, rfl, rfl, _, _, rfl, hR⟩⟩
  dsimp only
  rw [u_gvName, u_sSeq, u_sAsg]
  refine ⟨_, rfl, _, wL st.length _, rfl, rfl, ?_⟩
  rw [enum_wL]
  refine lc_of (List.range st.length) _ (fun j => .int (max (bsOf f st j) (max 0 (b j - (b j - bsOf f st j) % 2)))) (fun _ _ => rfl) (by simp; omega) (fun j hj R hR => ?_) ?_
  · have hj' : j < st.length := by simpa using hj
    refine ⟨_, rfl, rfl, _, _, rfl, _, _, rfl, rfl, ?_⟩
    exact base_e hp rfl rfl hj' ⟨_, rfl, _, _, rfl, hR⟩
  dsimp only
  rw [u_gvName, u_sSeq]
  refine rounds_up (k0 := 1) (start := fun j => max (bsOf f st j) (max 0 (b j - (b j - bsOf f st j) % 2))) hp (by decide) rfl rfl rfl (show (6 : Nat) < 9 by decide) (show (7 : Nat) < 9 by decide) fun V hV gx gy => ?_
  dsimp only
  refine ⟨_, rfl, _, rfl, _, rfl, true, f, st, rs, t, by rw [views_pil, views_int, views_nil], hp, fun v u hv hu => ⟨np_wL, _, _, wL st.length V, wL st.length (late t v u), rfl, rfl, rfl, np_w2, ?_⟩⟩
  rw [zip2_wL]
  refine lc_of (List.range st.length) _ (fun j => .int (min (V j) (late t v u j))) (fun _ _ => rfl) (by simp; omega) (fun j hj R hR => ?_) ?_
  · refine ⟨_, rfl, rfl, _, _, rfl, _, _, rfl, rfl, ?_⟩
    exact ⟨_, rfl, _, rfl, _, _, rfl, hR⟩
  show Q3 (fin 0 _ (.lst false (wL st.length _))) (finS 0 _)
  rw [fin_w, finS0]
  have hm' : ∃ m', IsMax st.length v m' ∧ m' ≤ t := ⟨m, by
    have e := hp.peq hv0 hv
    obtain ⟨⟨i, hi, ei⟩, hle⟩ := M
    exact ⟨⟨i, hi, by rw [← e i hi]; exact ei⟩, fun j hj => by rw [← e j hj]; exact hle j hj⟩, hm⟩
  obtain ⟨m', M', hm'⟩ := hm'
  exact q _ (led_plan hp (fun j hj => by omega) (fun j hj => by have := b01 f st j; omega) hV hv hu M' hm')
/-- a plan within a most is drawn -/
def P_Lw_plan : PV := fun ds C Q => ∃ (o : Bool) (f st : Str) (rs : List (Int × Int)) (t c : Int) (x : Cell), ds = [.ptr 0, pil o f st rs, .int t] ∧ C = [x] ∧ Bag c x ∧ c < 10 ^ 5 ∧ Pil f st rs ∧ t ≤ 10 ^ 30 ∧ (∃ v m, PFix f st rs v ∧ IsMax st.length v m ∧ m ≤ t) ∧
  ∀ w y, Plan f st rs t w → Bag (c + 25) y → Q (.lst false (wL st.length w)) [y]
theorem v_Lw_plan (ds : List D) (C : Store) (Q3 : D → Store → Prop) (h : P_Lw_plan ds C Q3) (hC : C.length = 1) : T_Lw_plan P_Lw_draw P_Lw_early P_Lw_late P_Lw_led (enF 1 Q3) (start3 N_Lw_plan ds) C := by
  obtain ⟨o, f, st, rs, t, c, x, rfl, rfl, hx, hc, hp, ht30, ⟨v0, m, hv0, M, hm⟩, q⟩ := h
  have hz := sizeL
  have h24 := hp.top
  have mx : ∀ v, PFix f st rs v → IsMax st.length v m := fun v hv => by
    have e := hp.peq hv0 hv
    obtain ⟨⟨i, hi, ei⟩, hle⟩ := M
    exact ⟨⟨i, hi, by rw [← e i hi]; exact ei⟩, fun j hj => by rw [← e j hj]; exact hle j hj⟩
  have ret : ∀ w y c', Plan f st rs t w → Bag c' y → c' ≤ c + 25 → (enF 1 Q3).rt (.lst false (wL st.length w)) [y] := fun w y c' P hy hc' => by
    show Q3 (fin 1 _ (.lst false (wL st.length w))) (finS 1 [y])
    rw [fin_w, hy.finS]
    exact q w y P (hy.le hc')
  show sSeq (sAsg (eCallK 1 kf1 P_Lw_draw (aCons (eVar 0) (aCons (eC (.int 4)) aNil))) (gvName 3)) _ _ _ _
  rw [u_sSeq, u_sAsg]
  refine draw_e (k := 0) (m := 4) rfl hx rfl (fun R h => h) (by decide) (by decide) (by omega) fun kind y1 h10 h11 hy1 => ?_
  dsimp only
  rw [u_gvName]
  refine ⟨_, rfl, _, rfl, ?_⟩
  by_cases hk0 : kind = 0
  · refine goT (by rw [eqN, decide_eq_true hk0]) ?_
    refine ⟨_, rfl, true, f, st, rs, views_pil1, hp, fun v hv => ⟨np_wL, ?_⟩⟩
    exact ret v y1 _ (plan_v hp hv (mx v hv) hm) hy1 (by omega)
  refine goF (by rw [eqN, decide_eq_false hk0]) ?_
  refine ⟨_, rfl, _, rfl, ?_⟩
  by_cases hk1 : kind = 1
  · refine goT (by rw [eqN, decide_eq_true hk1]) ?_
    refine ⟨_, rfl, _, rfl, true, f, st, rs, t, by rw [views_pil, views_int, views_nil], hp, fun v u hv hu => ⟨np_wL, ?_⟩⟩
    exact ret _ y1 _ (plan_late hp hv hu (mx v hv) hm) hy1 (by omega)
  refine goF (by rw [eqN, decide_eq_false hk1]) ?_
  refine ⟨_, rfl, true, f, st, rs, views_pil1, hp, fun v hv => ⟨np_wL, ?_⟩⟩
  refine ⟨_, rfl, _, rfl, true, f, st, rs, t, by rw [views_pil, views_int, views_nil], hp, fun v1 u hv1 hu => ⟨np_wL, _, _, rfl, ?_⟩⟩
  dsimp only
  rw [u_sRet, u_eCall, u_aCons]
  refine ⟨_, rfl, ?_⟩
  dsimp only
  rw [u_aCons, u_eFrz]
  refine ⟨_, rfl, _, rfl, _, _, wL st.length v, wL st.length (late t v1 u), rfl, rfl, rfl, np_w2, ?_⟩
  rw [zip2_wL]
  refine lc_go (n := st.length) _ (fun k acc C' => ∃ (b : Nat → Int) (y : Cell), acc = wL k b ∧ C' = [y] ∧ Bag (c + 1 + k) y) ⟨v, y1, rfl, rfl, by simpa using hy1⟩ (fun k acc C' hk ⟨b, y, e1, e2, hy⟩ R hR => ?_) (fun acc C' ⟨b, y, e1, e2, hy⟩ => ?_)
  · subst e1 e2
    refine ⟨_, rfl, rfl, _, _, rfl, _, _, rfl, rfl, ?_⟩
    dsimp only
    rw [u_bYes, if_pos rfl, u_eBin]
    refine ⟨_, rfl, ?_⟩
    have hle : v k ≤ late t v1 u k := by
      have e := hp.peq hv hv1 k hk
      have h1 := plan_up hp hv1 hu (plan_v hp hv1 (mx v1 hv1) hm) k hk
      omega
    have hlt : late t v1 u k ≤ t := ((plan_late hp hv1 hu (mx v1 hv1) hm).blk k hk).2.1
    have hv0' : 0 ≤ v k := by
      have := hv.low k hk
      have := b01 f st k
      omega
    refine draw_e (k := 0) (m := late t v1 u k - v k + 1) (x := y) rfl hy rfl (fun R h => ⟨_, rfl, _, rfl, _, _, rfl, rfl, _, _, rfl, rfl, h⟩) (by omega) (by omega) (by omega) fun r y2 h20 h21 hy2 => ?_
    refine ⟨_, _, rfl, rfl, by rw [wL_len]; omega, fun k hk => by simp [srcOf] at hk, hR _ _ ⟨fun j => if j = k then v k + r else b j, y2, ?_, rfl, hy2.le (by omega)⟩⟩
    unfold wL
    rw [List.range_succ, List.map_append]
    refine congr (congrArg _ (List.map_congr_left fun j hj => ?_)) ?_
    · have hjk : j < k := by simpa using hj
      show D.int (b j) = D.int (if j = k then v k + r else b j)
      rw [if_neg (by omega)]
    · simp
  · subst e1 e2
    refine ⟨_, rfl, true, true, f, st, rs, b, t, by rw [views_pil, Cell.frz, views_wL, views_int, views_nil], hp, ⟨v0, m, hv0, M, hm⟩, fun w P => ⟨np_wL, ?_⟩⟩
    exact ret w y _ P hy (by omega)
/-! ### alike, kinds too -/
inductive Sm : Nat → D → D → Prop
  | int {k : Nat} {n : Int} : Sm k (.int n) (.int n)
  | lst {k : Nat} {o o' : Bool} {xs ys : List D} : xs.length = ys.length → ys.length ≤ 10000 → (∀ (i : Nat) (x y : D), xs[i]? = some x → ys[i]? = some y → Sm k x y) → Sm (k + 1) (.lst o xs) (.lst o' ys)
  | tup {k : Nat} {xs ys : List D} : xs.length = ys.length → ys.length ≤ 10000 → (∀ (i : Nat) (x y : D), xs[i]? = some x → ys[i]? = some y → Sm k x y) → Sm (k + 1) (.tup xs) (.tup ys)
theorem mapWs_get {h : Bool → Bool} {g : Nat → D} : ∀ {xs : List D} {i : Nat} {x : D}, (mapWs h g xs)[i]? = some x → ∃ y, xs[i]? = some y ∧ x = mapW h g y
  | [], _, _, e => by simp [mapWs] at e
  | a :: l, 0, x, e => by simp [mapWs] at e; exact ⟨a, rfl, e.symm⟩
  | a :: l, i + 1, x, e => by
    have e' : (mapWs h g l)[i]? = some x := by simpa [mapWs] using e
    simpa using mapWs_get e'
theorem mapWs_len {h : Bool → Bool} {g : Nat → D} : ∀ xs : List D, (mapWs h g xs).length = xs.length
  | [] => rfl
  | _ :: l => by simp only [mapWs, List.length_cons, mapWs_len l]
theorem Sm.view {k : Nat} {x y : D} (s : Sm k x y) {h h' : Bool → Bool} {g g' : Nat → D} : Sm k (mapW h g x) (mapW h' g' y) := by
  induction s with
  | int => exact .int
  | lst e hl _ ih =>
    refine .lst (by rw [mapWs_len, mapWs_len, e]) (by rw [mapWs_len]; exact hl) fun i x y e1 e2 => ?_
    obtain ⟨x', f1, rfl⟩ := mapWs_get e1
    obtain ⟨y', f2, rfl⟩ := mapWs_get e2
    exact ih i x' y' f1 f2
  | tup e hl _ ih =>
    refine .tup (by rw [mapWs_len, mapWs_len, e]) (by rw [mapWs_len]; exact hl) fun i x y e1 e2 => ?_
    obtain ⟨x', f1, rfl⟩ := mapWs_get e1
    obtain ⟨y', f2, rfl⟩ := mapWs_get e2
    exact ih i x' y' f1 f2
theorem Sm.up {k : Nat} {x y : D} (s : Sm k x y) : Sm (k + 1) x y := by
  induction s with
  | int => exact .int
  | lst e hl _ ih => exact .lst e hl ih
  | tup e hl _ ih => exact .tup e hl ih
theorem Sm.ints {k : Nat} {o o' : Bool} {l : List Int} (h : l.length ≤ 10000) : Sm (k + 1) (.lst o (l.map .int)) (.lst o' (l.map .int)) := .lst rfl (by simpa using h) fun i x y e1 e2 => by
  rw [e1] at e2
  cases e2
  rw [List.getElem?_map] at e1
  cases hl : l[i]? with
  | none => rw [hl] at e1; cases e1
  | some n => rw [hl] at e1; cases e1; exact .int
theorem Sm.wL {k n : Nat} {o o' : Bool} {a b : Nat → Int} (h : n ≤ 24) (e : ∀ j, j < n → a j = b j) : Sm (k + 1) (.lst o (wL n a)) (.lst o' (wL n b)) := by
  rw [wL_congr e, wL_ints]
  exact .ints (by simp; omega)
theorem Sm.pairs {k : Nat} {o o' : Bool} {l : List (Int × Int)} (h : l.length ≤ 10000) : Sm (k + 2) (.lst o (l.map pD)) (.lst o' (l.map pD)) := .lst rfl (by simpa using h) fun i x y e1 e2 => by
  rw [e1] at e2
  cases e2
  rw [List.getElem?_map] at e1
  cases hl : l[i]? with
  | none => rw [hl] at e1; cases e1
  | some z =>
    rw [hl] at e1
    cases e1
    refine .tup rfl (by simp) fun i x y f1 f2 => ?_
    rw [f1] at f2
    cases f2
    have : i = 0 ∨ i = 1 := by
      have := (List.getElem?_eq_some_iff.mp f1).1
      simp at this
      omega
    rcases this with rfl | rfl <;> (cases f1; exact .int)
def P_sm (k : Nat) : PV := fun ds C Q => ∃ x y, ds = [x, y] ∧ Sm k x y ∧ Q (.bl true) C
abbrev P_sm_lo : PV := P_sm 0
abbrev P_sm_mid : PV := P_sm 1
abbrev P_sm_hi : PV := P_sm 2
theorem v_sm {P : PV} (k : Nat) (hP : ∀ j, k = j + 1 → P = P_sm j) (ds : List D) (C : Store) (Q3 : D → Store → Prop) (h : P_sm k ds C Q3) (hC : C.length = 0) : T_Lw_same P (enF 0 Q3) (start3 N_Lw_same ds) C := by
  obtain ⟨x, y, rfl, s, q⟩ := h
  rw [List.length_eq_zero_iff] at hC
  subst hC
  have hz := sizeL
  have fin' : ∀ b : Bool, (enF 0 Q3).rt (.bl b) [] = Q3 (.bl b) [] := fun b => rfl
  have tr : ∀ n : Nat, ((List.range n).map fun _ => true).all (fun b => b) = true := fun n => by simp
  cases s with
  | @int _ n =>
    refine ⟨_, rfl, .int, rfl, _, rfl, ?_⟩
    refine goF rfl ?_
    refine ⟨_, rfl, .int, rfl, _, rfl, ?_⟩
    refine goT rfl ?_
    refine ⟨_, rfl, .int, rfl, _, rfl, ?_⟩
    refine goT rfl ?_
    refine ⟨_, rfl, .int, rfl, _, rfl, .int, rfl, _, rfl, ?_⟩
    refine goT rfl ?_
    refine ⟨_, rfl, _, rfl, ?_⟩
    show Q3 (.bl (false != decide (n = n))) []
    rw [decide_eq_true rfl]
    exact q
  | @lst j o o' xs ys e hl ih =>
    refine ⟨_, rfl, .list, rfl, _, rfl, ?_⟩
    refine goT rfl ?_
    refine ⟨_, rfl, .list, rfl, _, rfl, ?_⟩
    refine goF rfl ?_
    refine ⟨_, rfl, .list, rfl, _, rfl, .list, rfl, _, rfl, ?_⟩
    refine goF rfl ?_
    refine ⟨_, rfl, _, _, rfl, rfl, _, rfl, _, _, rfl, rfl, _, rfl, ?_⟩
    refine goT (by rw [eqN, decide_eq_true (by rw [e])]) ?_
    refine ⟨_, rfl, _, _, rfl, rfl, (ys.length : Nat), rfl, by omega, by omega, ?_⟩
    rw [rgI_range]
    refine lc_of (List.range ys.length) _ (fun _ => .bl true) (fun _ h => by simp [srcOf] at h) (by simp; omega) (fun i hi R hR => ?_) ?_
    · have hi' : i < ys.length := by simpa using hi
      have ex := List.getElem?_eq_getElem (l := xs) (i := i) (by omega)
      have ey := List.getElem?_eq_getElem (l := ys) (i := i) hi'
      refine ⟨_, rfl, _, rfl, xs, (i : Nat), xs[i], rfl, rfl, ?_, ?_⟩
      · unfold atI; rw [ix_nat (by omega)]; exact ex
      refine ⟨_, rfl, _, rfl, ys, (i : Nat), ys[i], rfl, rfl, ?_, ?_⟩
      · unfold atI; rw [ix_nat hi']; exact ey
      rw [hP j rfl]
      exact ⟨_, _, rfl, (ih i _ _ ex ey).view, rfl, hR⟩
    refine ⟨_, (List.range ys.length).map fun _ => true, rfl, by simp [lstOf, Cell.frz], ?_⟩
    show Q3 (.bl (((List.range ys.length).map fun _ => true).all fun b => b)) []
    rw [tr]
    exact q
  | @tup j xs ys e hl ih =>
    refine ⟨_, rfl, .tuple, rfl, _, rfl, ?_⟩
    refine goT rfl ?_
    refine ⟨_, rfl, .tuple, rfl, _, rfl, ?_⟩
    refine goF rfl ?_
    refine ⟨_, rfl, .tuple, rfl, _, rfl, .tuple, rfl, _, rfl, ?_⟩
    refine goF rfl ?_
    refine ⟨_, rfl, _, _, rfl, rfl, _, rfl, _, _, rfl, rfl, _, rfl, ?_⟩
    refine goT (by rw [eqN, decide_eq_true (by rw [e])]) ?_
    refine ⟨_, rfl, _, _, rfl, rfl, (ys.length : Nat), rfl, by omega, by omega, ?_⟩
    rw [rgI_range]
    refine lc_of (List.range ys.length) _ (fun _ => .bl true) (fun _ h => by simp [srcOf] at h) (by simp; omega) (fun i hi R hR => ?_) ?_
    · have hi' : i < ys.length := by simpa using hi
      have ex := List.getElem?_eq_getElem (l := xs) (i := i) (by omega)
      have ey := List.getElem?_eq_getElem (l := ys) (i := i) hi'
      refine ⟨_, rfl, _, rfl, (i : Nat), xs[i], rfl, ?_, ?_⟩
      · unfold atI; rw [ix_nat (by omega)]; exact ex
      refine ⟨_, rfl, _, rfl, (i : Nat), ys[i], rfl, ?_, ?_⟩
      · unfold atI; rw [ix_nat hi']; exact ey
      rw [hP j rfl]
      exact ⟨_, _, rfl, (ih i _ _ ex ey).view, rfl, hR⟩
    refine ⟨_, (List.range ys.length).map fun _ => true, rfl, by simp [lstOf, Cell.frz], ?_⟩
    show Q3 (.bl (((List.range ys.length).map fun _ => true).all fun b => b)) []
    rw [tr]
    exact q
theorem v_sm_lo (ds : List D) (C : Store) (Q3 : D → Store → Prop) (h : P_sm_lo ds C Q3) (hC : C.length = 0) : T_Lw_same P_never (enF 0 Q3) (start3 N_Lw_same ds) C := v_sm 0 (fun j e => by omega) ds C Q3 h hC
theorem v_sm_mid (ds : List D) (C : Store) (Q3 : D → Store → Prop) (h : P_sm_mid ds C Q3) (hC : C.length = 0) : T_Lw_same P_sm_lo (enF 0 Q3) (start3 N_Lw_same ds) C := v_sm 1 (fun j e => by cases e; rfl) ds C Q3 h hC
theorem v_sm_hi (ds : List D) (C : Store) (Q3 : D → Store → Prop) (h : P_sm_hi ds C Q3) (hC : C.length = 0) : T_Lw_same P_sm_mid (enF 0 Q3) (start3 N_Lw_same ds) C := v_sm 2 (fun j e => by cases e; rfl) ds C Q3 h hC
end PN
end L3

namespace L3
namespace PN
open PySem PySem.Spec PyProof.Rows L2
/-! ### calls that draw -/
theorem mono_some {ds : List D} {C : Store} (R R' : D → Store → Prop) (h : ∀ d Cc, R d Cc → R' d Cc) : P_Lw_some_pile ds C R → P_Lw_some_pile ds C R' := fun ⟨o, ns, t, c, x, e1, e2, e3, e4, e5, e6, q⟩ => ⟨o, ns, t, c, x, e1, e2, e3, e4, e5, e6, fun f st rs c' y a b d e => h _ _ (q f st rs c' y a b d e)⟩
theorem some_k {o : Bool} {ns : List Int} {t c : Int} {x : Cell} {k : Nat} {C1 : Store} {Q : D → Store → Prop} (hk : C1[k]? = some x) (hx : Bag c x) (hc : c < 10 ^ 3) (h4 : 4 ≤ t) (h24 : t ≤ 24)
    (q : ∀ f st rs c' y, Pil f st rs → (st.length : Int) ≤ t → Bag c' y → c' ≤ c + 300 → Q (pil false f st rs) (C1.set k y)) : callK 1 kf2 P_Lw_some_pile [.lst o (ns.map .int), .ptr k, .int t] C1 Q := by
  refine callB (k := k) (ds' := [.lst true (ns.map .int), .ptr 0, .int t]) rfl hk hx ?_ ⟨true, ns, t, c, x, rfl, rfl, hx, hc, h4, h24, fun f st rs c' y hp hl hy hc' => ⟨y, c', rfl, hy, np_pil, q f st rs c' y hp hl hy hc'⟩⟩ mono_some
  rw [views_ints, views_p1]
  rfl
theorem mono_most {ds : List D} {C : Store} (R R' : D → Store → Prop) (h : ∀ d Cc, R d Cc → R' d Cc) : P_Lw_most ds C R → P_Lw_most ds C R' := fun ⟨o, f, st, rs, c, x, e1, e2, e3, e4, e5, q⟩ => ⟨o, f, st, rs, c, x, e1, e2, e3, e4, e5, fun t y a b d => h _ _ (q t y a b d)⟩
theorem mono_plan {ds : List D} {C : Store} (R R' : D → Store → Prop) (h : ∀ d Cc, R d Cc → R' d Cc) : P_Lw_plan ds C R → P_Lw_plan ds C R' := fun ⟨o, f, st, rs, t, c, x, e1, e2, e3, e4, e5, e6, e7, q⟩ => ⟨o, f, st, rs, t, c, x, e1, e2, e3, e4, e5, e6, e7, fun w y a b => h _ _ (q w y a b)⟩
theorem mapWs_pil {h : Bool → Bool} {g : Nat → D} {o : Bool} {f st : Str} {rs : List (Int × Int)} {ds : List D} : mapWs h g (pil o f st rs :: ds) = pil (h o) f st rs :: mapWs h g ds := by
  unfold pil
  simp only [mapWs, mapW, mapWs_flat (flat_pairs rs)]
theorem most_k {o : Bool} {f st : Str} {rs : List (Int × Int)} {c : Int} {x : Cell} {k : Nat} {C1 : Store} {Q : D → Store → Prop} (hk : C1[k]? = some x) (hx : Bag c x) (hc : c < 10 ^ 5) (hp : Pil f st rs)
    (q : ∀ t y, Most f st rs t → (∃ v m, PFix f st rs v ∧ IsMax st.length v m ∧ m ≤ t) → Bag (c + 3) y → Q (.int t) (C1.set k y)) : callK 1 kf1 P_Lw_most [.ptr k, pil o f st rs] C1 Q := by
  refine callB (k := k) (ds' := [.ptr 0, pil true f st rs]) rfl hk hx (by rw [views_p1, mapWs_pil]; rfl) ⟨true, f, st, rs, c, x, rfl, rfl, hx, hc, hp, fun t y ht hm hy => ⟨y, _, rfl, hy, rfl, q t y ht hm hy⟩⟩ mono_most
theorem plan_k {o : Bool} {f st : Str} {rs : List (Int × Int)} {t c : Int} {x : Cell} {k : Nat} {C1 : Store} {Q : D → Store → Prop} (hk : C1[k]? = some x) (hx : Bag c x) (hc : c < 10 ^ 5) (hp : Pil f st rs) (ht : t ≤ 10 ^ 30) (hm : ∃ v m, PFix f st rs v ∧ IsMax st.length v m ∧ m ≤ t)
    (q : ∀ w y, Plan f st rs t w → Bag (c + 25) y → Q (.lst false (wL st.length w)) (C1.set k y)) : callK 1 kf1 P_Lw_plan [.ptr k, pil o f st rs, .int t] C1 Q := by
  refine callB (k := k) (ds' := [.ptr 0, pil true f st rs, .int t]) rfl hk hx (by rw [views_p1, mapWs_pil]; rfl) ⟨true, f, st, rs, t, c, x, rfl, rfl, hx, hc, hp, ht, hm, fun w y P hy => ⟨y, _, rfl, hy, np_wL, q w y P hy⟩⟩ mono_plan
/-- a plan within a most that is drawn, too -/
theorem planm_e {i j k : Nat} {o : Bool} {f st : Str} {rs : List (Int × Int)} {c : Int} {x : Cell} {C1 : Store} {Γ : Slots} {Q : D → Store → Prop} (hk : C1[k]? = some x) (hx : Bag c x) (hc : c < 10 ^ 4) (hi : Γ[i]? = some (some (.ptr k))) (hj : Γ[j]? = some (some (pil o f st rs))) (hp : Pil f st rs)
    (q : ∀ t w y, Most f st rs t → Plan f st rs t w → Bag (c + 28) y → Q (.lst false (wL st.length w)) (C1.set k y)) :
    eCallK 1 kf1 P_Lw_plan (aCons (eVar i) (aCons (eVar j) (aCons (eCallK 1 kf1 P_Lw_most (aCons (eVar i) (aCons (eVar j) aNil))) aNil))) Γ C1 Q := by
  rw [u_eCallK, u_aCons]
  refine ⟨_, hi, ?_⟩
  dsimp only
  rw [u_aCons]
  refine ⟨_, hj, ?_⟩
  dsimp only
  rw [u_aCons, u_eCallK]
  refine ⟨_, hi, _, hj, ?_⟩
  dsimp only
  rw [u_aNil]
  refine most_k hk hx (by omega) hp fun t y ht hm hy => ?_
  rw [u_aNil]
  refine plan_k (x := y) (set_at hk) hy (by omega) hp ht.1 hm fun w y2 P hy2 => ?_
  rw [List.set_set]
  exact q t w y2 ht P (hy2.le (by omega))
/-! ### what is shown -/
def wP (n : Nat) (w : Nat → Int) : PyData := .list (((List.range n).map w).map .int)
theorem pyW_w {g : Nat → Option PyData} {o : Bool} {n : Nat} {w : Nat → Int} : pyW g (.lst o (wL n w)) = some (wP n w) := by
  have e : ∀ l : List Int, pyWs g (l.map .int) = some (l.map .int) := by
    intro l
    induction l with
    | nil => rfl
    | cons a l ih => simp only [List.map_cons, pyWs, pyW, ih]; rfl
  rw [wL_ints]
  simp only [pyW, e]
  rfl
theorem shw_w {n : Nat} {w : Nat → Int} (hn : n ≤ 24) (h : ∀ j, j < n → 0 ≤ w j ∧ w j < 10 ^ 40) : Shw (wP n w) 1 1100 := by
  refine (Shw.ints (ns := (List.range n).map w) fun x hx => ?_).le (Nat.le_refl _) (by simp; omega)
  obtain ⟨j, hj, rfl⟩ := List.mem_map.mp hx
  exact h j (by simpa using hj)
theorem repr_pw {C : Store} {o o1 : Bool} {f st : Str} {rs : List (Int × Int)} {Q : D → Prop} (ows : List (Bool × (Nat → Int))) (hp : Pil f st rs) (h : ∀ x, x ∈ ows → ∀ j, j < st.length → 0 ≤ x.2 j ∧ x.2 j < 10 ^ 40) (hl : ows.length ≤ 5)
    (q : Q (.str (PyData.list (pilP f st rs :: ows.map fun x => wP st.length x.2)).shown)) : oRepr C [.lst o (pil o1 f st rs :: ows.map fun x => .lst x.1 (wL st.length x.2))] Q := by
  have e : ∀ g : Nat → Option PyData, ∀ l : List (Bool × (Nat → Int)), pyWs g (l.map fun x => .lst x.1 (wL st.length x.2)) = some (l.map fun x => wP st.length x.2) := by
    intro g l
    induction l with
    | nil => rfl
    | cons a l ih => simp only [List.map_cons, pyWs, pyW_w, ih]; rfl
  have hs : Shws (ows.map fun x => wP st.length x.2) 3 ((ows.map fun x => wP st.length x.2).length * (1100 + 2)) := Shws.all fun p hp' => by
    obtain ⟨x, hx, rfl⟩ := List.mem_map.mp hp'
    exact (shw_w hp.top (h x hx)).le (by decide) (Nat.le_refl _)
  have hw := Shw.list (Shws.cons (shw_pil hp) hs)
  rw [List.length_map] at hw
  refine oRepr_of (n := 20000) rfl ?_ (hw.le (by omega) (by omega)) (by decide) q
  show pyW _ _ = _
  simp only [pyW, pyWs, pyW_pil, e]
  rfl
theorem flat_w {n : Nat} {w : Nat → Int} : flatDs (wL n w) = true := by rw [wL_ints]; exact flat_ints _
theorem PlanU.nn {f st : Str} {rs : List (Int × Int)} {w : Nat → Int} (P : PlanU f st rs w) {j : Nat} (hj : j < st.length) : 0 ≤ w j := (P.blk j hj).1
/-! ### the law itself -/
def P_Lw_right : PV := fun ds C Q => ∃ (ns : List Int) (x : Cell), ds = [.lst true (ns.map .int), .ptr 0] ∧ C = [x] ∧ Bag 0 x ∧ ns.length ≤ 63 ∧ ∀ y c', Bag c' y → Q (.bl true) [y]
theorem mono_right {ds : List D} {C : Store} (R R' : D → Store → Prop) (h : ∀ d Cc, R d Cc → R' d Cc) : P_Lw_right ds C R → P_Lw_right ds C R' := fun ⟨ns, x, e1, e2, e3, e4, q⟩ => ⟨ns, x, e1, e2, e3, e4, fun y c' a => h _ _ (q y c' a)⟩
theorem enum_ints (ms : List Int) : enumD 0 (ms.map .int) = (List.range ms.length).map fun i : Nat => .tup [.int (i : Nat), .int (ms.getD i 0)] := by
  apply List.ext_getElem?
  intro i
  by_cases h : i < ms.length
  · have e : (ms.map D.int)[i]? = some (.int (ms.getD i 0)) := by
      rw [List.getElem?_map, List.getElem?_eq_getElem h, List.getD_eq_getElem?_getD, List.getElem?_eq_getElem h]
      rfl
    rw [enumD_get _ 0 i e, List.getElem?_map, List.getElem?_range h, Nat.zero_add]
    rfl
  · rw [List.getElem?_eq_none (by rw [enumD_len, List.length_map]; omega), List.getElem?_eq_none (by simp; omega)]
def P_law : PV := fun ds C Q => ∃ ns : List Int, ds = [.lst true (ns.map .int)] ∧ C = [] ∧ ns.length ≤ 63 ∧ Q (.bl true) []
theorem v_law (ds : List D) (C : Store) (Q3 : D → Store → Prop) (h : P_law ds C Q3) (hC : C.length = 0) : T_law P_Lw_cells P_Lw_right P_Lw_bag (enF 0 Q3) (start3 N_law ds) C := by
  obtain ⟨ns, rfl, rfl, hl, q⟩ := h
  have hz := sizeL
  refine ⟨_, rfl, true, ns, by rw [views_ints, views_nil], hl, fun ms hm => ⟨np_ints, _, _, rfl, rfl, ?_⟩⟩
  rw [enum_ints]
  refine ⟨rfl, noptrs_map _ fun _ _ => rfl, ?_⟩
  refine forW_run (fun ds Γ C => ∃ (k : Nat), k ≤ ms.length ∧ ds = ((List.range ms.length).drop k).map (fun i : Nat => D.tup [.int (i : Nat), .int (ms.getD i 0)]) ∧ ∃ a b, Γ = [some (.lst true (ns.map .int)), a, b]) ?step ?stop _ _ _ ⟨0, Nat.zero_le _, by rw [List.drop_zero], _, _, rfl⟩
  case step =>
    rintro d ds Γ C0 ⟨k, hk, eds, a, b, rfl⟩ R hR
    by_cases hkn : k < ms.length
    · rw [range_drop hkn, List.cons.injEq] at eds
      obtain ⟨rfl, rfl⟩ := eds
      refine ⟨_, rfl, rfl, _, _, rfl, _, _, rfl, rfl, ?_⟩
      dsimp only
      rw [u_sIf, u_bNot, u_bB, u_eCallK, u_aCons]
      refine ⟨_, rfl, ?_⟩
      dsimp only
      rw [u_aCons, u_eCell]
      refine ⟨_, rfl, _, rfl, ms.getD k 0, (k : Nat), by rw [views_int, views_int, views_nil], by omega, by omega, fun xs hx hf => ⟨xs, rfl, hf, ?_⟩⟩
      have hkk : (C0 ++ [Cell.lst xs])[C0.length]? = some (.lst xs) := by simp
      dsimp only
      rw [u_aNil]
      refine callB (k := C0.length) (ds' := [.lst true (ns.map .int), .ptr 0]) rfl hkk hx (by rw [views_ints, views_p1]; rfl) ⟨ns, .lst xs, rfl, rfl, hx, hl, fun y c' hy => ⟨y, c', rfl, hy, rfl, true, rfl, goF rfl ?_⟩⟩ mono_right
      exact hR _ _ ⟨k + 1, hkn, rfl, _, _, rfl⟩
    · rw [List.drop_eq_nil_of_le (by simp; omega)] at eds
      cases eds
  case stop =>
    rintro Γ C0 ⟨k, hk, eds, a, b, rfl⟩
    show Q3 (fin 0 C0 (.bl true)) (finS 0 C0)
    rw [finS0]
    exact q
end PN
end L3

namespace L3
namespace PN
open PySem PySem.Spec PyProof.Rows L2
theorem some_e {i j k : Nat} {o : Bool} {ns : List Int} {t c : Int} {x : Cell} {C1 : Store} {Γ : Slots} {Q : D → Store → Prop} (hk : C1[k]? = some x) (hx : Bag c x) (hc : c < 10 ^ 3) (h4 : 4 ≤ t) (h24 : t ≤ 24) (hi : Γ[i]? = some (some (.lst o (ns.map .int)))) (hj : Γ[j]? = some (some (.ptr k)))
    (q : ∀ f st rs c' y, Pil f st rs → (st.length : Int) ≤ t → Bag c' y → c' ≤ c + 300 → Q (pil false f st rs) (C1.set k y)) : eCallK 1 kf2 P_Lw_some_pile (aCons (eVar i) (aCons (eVar j) (aCons (eC (.int t)) aNil))) Γ C1 Q := by
  rw [u_eCallK]
  simp only [u_aCons, u_aNil, u_eVar, u_eC]
  exact ⟨_, hi, _, hj, some_k hk hx hc h4 h24 q⟩
theorem most_e {i j k : Nat} {o : Bool} {f st : Str} {rs : List (Int × Int)} {c : Int} {x : Cell} {C1 : Store} {Γ : Slots} {Q : D → Store → Prop} (hk : C1[k]? = some x) (hx : Bag c x) (hc : c < 10 ^ 5) (hi : Γ[i]? = some (some (.ptr k))) (hj : Γ[j]? = some (some (pil o f st rs))) (hp : Pil f st rs)
    (q : ∀ t y, Most f st rs t → (∃ v m, PFix f st rs v ∧ IsMax st.length v m ∧ m ≤ t) → Bag (c + 3) y → Q (.int t) (C1.set k y)) : eCallK 1 kf1 P_Lw_most (aCons (eVar i) (aCons (eVar j) aNil)) Γ C1 Q := by
  rw [u_eCallK]
  simp only [u_aCons, u_aNil, u_eVar]
  exact ⟨_, hi, _, hj, most_k hk hx hc hp q⟩
theorem plan_e {i j l k : Nat} {o : Bool} {f st : Str} {rs : List (Int × Int)} {t c : Int} {x : Cell} {C1 : Store} {Γ : Slots} {Q : D → Store → Prop} (hk : C1[k]? = some x) (hx : Bag c x) (hc : c < 10 ^ 5) (hi : Γ[i]? = some (some (.ptr k))) (hj : Γ[j]? = some (some (pil o f st rs))) (hl : Γ[l]? = some (some (.int t)))
    (hp : Pil f st rs) (ht : t ≤ 10 ^ 30) (hm : ∃ v m, PFix f st rs v ∧ IsMax st.length v m ∧ m ≤ t) (q : ∀ w y, Plan f st rs t w → Bag (c + 25) y → Q (.lst false (wL st.length w)) (C1.set k y)) : eCallK 1 kf1 P_Lw_plan (aCons (eVar i) (aCons (eVar j) (aCons (eVar l) aNil))) Γ C1 Q := by
  rw [u_eCallK]
  simp only [u_aCons, u_aNil, u_eVar]
  exact ⟨_, hi, _, hj, _, hl, plan_k hk hx hc hp ht hm q⟩
theorem repr_e {L : AV} {Γ : Slots} {C : Store} {Q : D → Store → Prop} {ds : List D} (hL : ∀ R : List D → Store → Prop, R ds C → L Γ C R) (hl : ds.length ≤ sizeLine) (h : oRepr C [.lst false ds] fun z => Q z C) : eCB oRepr (aCons (eFrz (fLst L)) aNil) Γ C Q := by
  rw [u_eCB]
  simp only [u_aCons, u_eFrz, u_fLst, u_frz, u_aNil]
  exact hL _ ⟨hl, h⟩
theorem p30 : (10 : Int) ^ (30 : Int).toNat = 10 ^ 30 := by decide
theorem PlanU.lo {f st : Str} {rs : List (Int × Int)} {a b : Nat → Int} (A : PlanU f st rs a) (B : PlanU f st rs b) : PlanU f st rs fun j => min (a j) (b j) :=
  ⟨fun j hj => by have := A.blk j hj; have := B.blk j hj; show 0 ≤ min (a j) (b j) ∧ min (a j) (b j) % 2 = _; omega, fun z hz => by have := A.led z hz; have := B.led z hz; show min (a z.1.toNat) (b z.1.toNat) ≤ min (a z.2.toNat) (b z.2.toNat); omega⟩
theorem PlanU.hi {f st : Str} {rs : List (Int × Int)} {a b : Nat → Int} (A : PlanU f st rs a) (B : PlanU f st rs b) : PlanU f st rs fun j => max (a j) (b j) :=
  ⟨fun j hj => by have := A.blk j hj; have := B.blk j hj; show 0 ≤ max (a j) (b j) ∧ max (a j) (b j) % 2 = _; omega, fun z hz => by have := A.led z hz; have := B.led z hz; show max (a z.1.toNat) (b z.1.toNat) ≤ max (a z.2.toNat) (b z.2.toNat); omega⟩
theorem PlanU.far {f st : Str} {rs : List (Int × Int)} {b : Nat → Int} (B : PlanU f st rs b) : PlanU f st rs fun j => b j + 10 ^ 30 :=
  ⟨fun j hj => by have := B.blk j hj; show 0 ≤ b j + 10 ^ 30 ∧ (b j + 10 ^ 30) % 2 = _; omega, fun z hz => by have := B.led z hz; show b z.1.toNat + 10 ^ 30 ≤ b z.2.toNat + 10 ^ 30; omega⟩
theorem Sm.w {n : Nat} (hn : n ≤ 24) (h h' : Bool → Bool) (g g' : Nat → D) (o o' : Bool) {w w' : Nat → Int} (e : ∀ j, j < n → w j = w' j) : Sm 1 (mapW h g (.lst o (L3.wL n w))) (mapW h' g' (.lst o' (L3.wL n w'))) := (Sm.wL hn e).view
theorem view_w {h : Bool → Bool} {C : Store} {k n : Nat} {w : Nat → Int} (hk : C[k]? = some (.lst (L3.wL n w))) : mapW h (viewG [] C 2) (.ptr k) = .lst true (L3.wL n w) := by
  rw [mapW, viewG]
  simp only [posOf, hk, L3.wL_ints, mapWs_ints]
theorem Sm.ptr {n k : Nat} {C : Store} (hn : n ≤ 24) (h h' : Bool → Bool) (g' : Nat → D) (o' : Bool) {w w' : Nat → Int} (hk : C[k]? = some (.lst (L3.wL n w))) (e : ∀ j, j < n → w j = w' j) : Sm 1 (mapW h (viewG [] C 2) (.ptr k)) (mapW h' g' (.lst o' (L3.wL n w'))) := by
  rw [view_w hk]
  exact (Sm.w hn id h' (fun _ => .bad) g' true o' e : Sm 1 (mapW id (fun _ => .bad) (.lst true (L3.wL n w))) _) |> fun s => by
    have : mapW id (fun _ => D.bad) (.lst true (L3.wL n w)) = .lst true (L3.wL n w) := by rw [L3.wL_ints, mapW, mapWs_ints]; rfl
    rwa [this] at s
theorem Sm.two {o o' : Bool} {p1 p2 q1 q2 : D} (s1 : Sm 1 p1 q1) (s2 : Sm 1 p2 q2) : Sm 2 (.lst o [p1, p2]) (.lst o' [q1, q2]) := .lst rfl (by simp) fun i x y e1 e2 => by
  have : i = 0 ∨ i = 1 := by
    have := (List.getElem?_eq_some_iff.mp e1).1
    simp at this
    omega
  rcases this with rfl | rfl
  · cases e1; cases e2; exact s1
  · cases e1; cases e2; exact s2
end PN
end L3

namespace L3
namespace PN
open PySem PySem.Spec PyProof.Rows L2
/-! ### distances, plain -/
def S (n : Nat) (g : Nat → Int) : Int := ((List.range n).map g).sum
theorem S_zero {g : Nat → Int} : S 0 g = 0 := rfl
theorem S_succ {n : Nat} {g : Nat → Int} : S (n + 1) g = S n g + g n := by
  unfold S
  rw [List.range_succ, List.map_append, List.sum_append]
  simp
theorem S_congr {n : Nat} {g h : Nat → Int} (e : ∀ j, j < n → g j = h j) : S n g = S n h := by
  induction n with
  | zero => rfl
  | succ n ih => rw [S_succ, S_succ, ih fun j hj => e j (by omega), e n (by omega)]
theorem S_le {n : Nat} {g h : Nat → Int} (e : ∀ j, j < n → g j ≤ h j) : S n g ≤ S n h := by
  induction n with
  | zero => exact Int.le_refl _
  | succ n ih =>
    have := ih fun j hj => e j (by omega)
    have := e n (by omega)
    rw [S_succ, S_succ]
    omega
theorem S_add {n : Nat} {g h : Nat → Int} : S n (fun j => g j + h j) = S n g + S n h := by
  induction n with
  | zero => rfl
  | succ n ih => rw [S_succ, S_succ, S_succ, ih]; omega
theorem S_even {n : Nat} {g : Nat → Int} (e : ∀ j, j < n → g j % 2 = 0) : S n g % 2 = 0 := by
  induction n with
  | zero => rfl
  | succ n ih =>
    have := ih fun j hj => e j (by omega)
    have := e n (by omega)
    rw [S_succ]
    omega
theorem S_nn {n : Nat} {g : Nat → Int} (e : ∀ j, j < n → 0 ≤ g j) : 0 ≤ S n g := by
  induction n with
  | zero => exact Int.le_refl _
  | succ n ih =>
    have := ih fun j hj => e j (by omega)
    have := e n (by omega)
    rw [S_succ]
    omega
theorem dist_comm (x y : Int) : dist x y = dist y x := by unfold dist; split <;> split <;> omega
theorem dist_self (x : Int) : dist x x = 0 := by unfold dist; split <;> omega
theorem dist_nn (x y : Int) : 0 ≤ dist x y := by unfold dist; split <;> omega
theorem dist_tri (x y z : Int) : dist x y ≤ dist x z + dist z y := by unfold dist; split <;> split <;> split <;> omega
theorem dist_lohi (x y : Int) : dist (min x y) (max x y) = dist x y := by unfold dist; split <;> split <;> omega
theorem dist_mid (x y : Int) : dist x y = dist x (min x y) + dist (min x y) y := by unfold dist; split <;> split <;> split <;> omega
theorem far_S {n : Nat} {a b : Nat → Int} : far n a b = S n (fun j => dist (a j) (b j)) / 2 := rfl
theorem far_comm {n : Nat} (a b : Nat → Int) : far n a b = far n b a := by
  rw [far_S, far_S, S_congr fun j _ => dist_comm (a j) (b j)]
theorem far_congr {n : Nat} {a b a' b' : Nat → Int} (h : ∀ j, j < n → a j = a' j) (h' : ∀ j, j < n → b j = b' j) : far n a b = far n a' b' := by
  rw [far_S, far_S, S_congr fun j hj => by rw [h j hj, h' j hj]]
theorem far_self {n : Nat} (a : Nat → Int) : far n a a = 0 := by
  rw [far_S, S_congr (h := fun _ => 0) fun j _ => dist_self (a j)]
  have : S n (fun _ => 0) = 0 := by
    induction n with
    | zero => rfl
    | succ n ih => rw [S_succ, ih]; rfl
  rw [this]
  rfl
theorem far_lohi {n : Nat} (a b : Nat → Int) : far n (fun j => min (a j) (b j)) (fun j => max (a j) (b j)) = far n a b := by
  rw [far_S, far_S, S_congr fun j _ => dist_lohi (a j) (b j)]
theorem dist_even {f st : Str} {rs : List (Int × Int)} {a b : Nat → Int} (A : PlanU f st rs a) (B : PlanU f st rs b) : ∀ j, j < st.length → dist (a j) (b j) % 2 = 0 := fun j hj => by
  have := A.blk j hj
  have := B.blk j hj
  unfold dist
  split <;> omega
theorem far_two {f st : Str} {rs : List (Int × Int)} {a b : Nat → Int} (A : PlanU f st rs a) (B : PlanU f st rs b) : S st.length (fun j => dist (a j) (b j)) = 2 * far st.length a b := by
  have := S_even (dist_even A B)
  rw [far_S]
  omega
theorem far_tri {f st : Str} {rs : List (Int × Int)} {a b c : Nat → Int} (A : PlanU f st rs a) (B : PlanU f st rs b) (G : PlanU f st rs c) : far st.length a b ≤ far st.length a c + far st.length c b := by
  have h1 := far_two A B
  have h2 := far_two A G
  have h3 := far_two G B
  have h4 : S st.length (fun j => dist (a j) (b j)) ≤ S st.length (fun j => dist (a j) (c j) + dist (c j) (b j)) := S_le fun j _ => dist_tri (a j) (b j) (c j)
  rw [S_add] at h4
  omega
theorem far_mid {f st : Str} {rs : List (Int × Int)} {a b : Nat → Int} (A : PlanU f st rs a) (B : PlanU f st rs b) : far st.length a b = far st.length a (fun j => min (a j) (b j)) + far st.length (fun j => min (a j) (b j)) b := by
  have G := PlanU.lo A B
  have h1 := far_two A B
  have h2 := far_two A G
  have h3 := far_two G B
  have h4 : S st.length (fun j => dist (a j) (b j)) = S st.length (fun j => dist (a j) (min (a j) (b j)) + dist (min (a j) (b j)) (b j)) := S_congr fun j _ => dist_mid (a j) (b j)
  rw [S_add] at h4
  omega
/-! ### steps that laws share -/
theorem far_if {x0 xp xa : Option D} {rest : Slots} {f st : Str} {rs : List (Int × Int)} (hp : Pil f st rs) {b0 : Nat → Int} {c : Int} {y : Cell} (hy : Bag c y) (hc : c < 10 ^ 5) (B0 : PlanU f st rs b0) (b40 : ∀ j, j < st.length → b0 j < 10 ^ 31) {Q3 : D → Store → Prop} {nx : Slots → Store → Prop} {rt : D → Store → Prop} {bk ct : Slots → Store → Prop}
    (hnx : ∀ b y', PlanU f st rs b → (∀ j, j < st.length → b j < 10 ^ 32) → Bag (c + 1) y' → nx (x0 :: some (.ptr 0) :: xp :: xa :: some (.lst false (wL st.length b)) :: none :: rest) [y']) :
    sIf (bB (eBin (oEq false) (eCallK 1 kf1 P_Lw_draw (aCons (eVar 1) (aCons (eC (.int 3)) aNil))) (eC (.int 0)))) (sAsg (eFrz (fLc [5] (iLst (eVar 4)) (gvName 5) bYes (eBin oAdd (eVar 5) (eBin oPowW (eC (.int 10)) (eC (.int 30)))))) (gvName 4)) sNext
      { nx := nx, rt := rt, bk := bk, ct := ct } (x0 :: some (.ptr 0) :: xp :: xa :: some (.lst false (wL st.length b0)) :: none :: rest) [y] := by
  have hz := sizeL
  have h24 := hp.top
  rw [u_sIf, u_bB, u_eBin]
  refine draw_e (k := 0) (m := 3) (x := y) rfl hy rfl (fun R h => h) (by decide) (by decide) (by omega) fun r y4 h0 h1 hy4 => ?_
  refine ⟨_, rfl, ?_⟩
  by_cases hr : r = 0
  · refine goT (by rw [eqN, decide_eq_true hr]) ?_
    refine ⟨_, rfl, wL st.length b0, rfl, ?_⟩
    refine lc_of (List.range st.length) _ (fun j => .int (b0 j + 10 ^ 30)) (fun _ h => by simp [srcOf] at h) (by simp; omega) (fun j hj R hR => ?_) ?_
    · refine ⟨_, rfl, _, _, rfl, rfl, cpow10 30 (by decide), _, _, rfl, rfl, ?_⟩
      rw [p30]
      exact hR
    exact hnx _ y4 (PlanU.far B0) (fun j hj => by have := b40 j hj; omega) hy4
  · exact goF (by rw [eqN, decide_eq_false hr]) (hnx _ y4 B0 (fun j hj => by have := b40 j hj; omega) hy4)
/-- numbers below 10 ** 40, two of them -/
theorem bnd2 {f st : Str} {rs : List (Int × Int)} {a b : Nat → Int} (A : PlanU f st rs a) (B : PlanU f st rs b) (ha : ∀ j, j < st.length → a j < 10 ^ 32) (hb : ∀ j, j < st.length → b j < 10 ^ 32) : ∀ x, x ∈ [(false, a), (false, b)] → ∀ j, j < st.length → 0 ≤ x.2 j ∧ x.2 j < 10 ^ 40 := fun x hx j hj => by
  simp only [List.mem_cons, List.not_mem_nil, or_false] at hx
  rcases hx with rfl | rfl
  · exact ⟨A.nn hj, by have := ha j hj; show a j < 10 ^ 40; omega⟩
  · exact ⟨B.nn hj, by have := hb j hj; show b j < 10 ^ 40; omega⟩
theorem le5 : ∀ l : List D, l.length ≤ 5 → l.length ≤ sizeLine := fun l h => by rw [sizeL]; omega
theorem oEq_w {neg o o' : Bool} {C : Store} {n : Nat} {a b : Nat → Int} {q : D → Prop} (e : ∀ j, j < n → a j = b j) (h : q (.bl (neg != true))) : oEq neg C (.lst o (wL n a)) (.lst o' (wL n b)) q := by
  rw [wL_congr e, wL_ints]
  refine oEq_ints (o := o) (o' := o') ?_
  rw [decide_eq_true rfl]
  exact h
theorem np_i {i : Int} : (noold (.int i) && noptr (.int i)) = true := rfl
end PN
end L3

namespace L3
namespace PN
open PySem PySem.Spec PyProof.Rows L2
/-- two sources, pure elements -/
theorem lc2_of {α β : Type} {G G1 : GV} {I1 : IV} {E : EV} {vs1 : List Nat} {Γ : Slots} {ok : Store → Prop} {Q : Cell → Store → Prop} {C : Store} (it : α → D) (m : α → List β) (it1 : β → D) (out : α → β → D) (hok : ok C)
    (h : ∀ a, ∃ Γ1 : Slots, (∀ R : Slots → Store → Prop, R Γ1 C → G (it a) Γ C R) ∧ (∀ W : List D → List Nat → Store → Prop, W ((m a).map it1) [] C → I1 Γ1 C W) ∧ ∀ b, b ∈ m a → ∀ R : D → Store → Prop, R (out a b) C → G1 (it1 b) (wipe3 Γ1 vs1) C fun Γ2 C2 => E Γ2 C2 R) :
    ∀ (l : List α) (acc : List D), acc.length + (l.flatMap m).length ≤ sizeLine → Q (.lst (acc ++ l.flatMap fun a => (m a).map (out a))) C → lc2W G bYes I1 G1 bYes E vs1 Γ ok Q (l.map it) acc C
  | [], acc, _, q => by
    rw [List.flatMap_nil, List.append_nil] at q
    exact q
  | a :: l, acc, hl, q => by
    obtain ⟨Γ1, h1, h2, h3⟩ := h a
    rw [List.flatMap_cons, List.length_append] at hl
    rw [List.map_cons, lc2W]
    refine h1 _ ?_
    rw [u_bYes, if_pos rfl]
    refine h2 _ ?_
    refine lcW_run (fun ds acc' C' => C' = C ∧ ∃ p r, m a = p ++ r ∧ ds = r.map it1 ∧ acc' = acc ++ p.map (out a)) (fun d ds acc' C' ⟨e, p, r, e1, e2, e3⟩ R hR => ?_) (fun acc' C' ⟨e, p, r, e1, e2, e3⟩ => ?_) _ _ _ ⟨rfl, [], m a, rfl, rfl, by simp⟩
    · subst e e3
      cases r with
      | nil => cases e2
      | cons b r =>
        rw [List.map_cons, List.cons.injEq] at e2
        obtain ⟨rfl, rfl⟩ := e2
        refine h3 b (by rw [e1]; simp) _ ⟨?_, ⟨hok, fun _ _ => rfl⟩, hR _ _ ⟨rfl, p ++ [b], r, by rw [e1]; simp, rfl, by simp⟩⟩
        rw [e1] at hl
        simp at hl ⊢
        omega
    · subst e e3
      cases r with
      | cons b r => cases e2
      | nil =>
        rw [List.append_nil] at e1
        subst e1
        refine ⟨hok, lc2_of it m it1 out hok h l _ (by simp; simp at hl; omega) ?_⟩
        rw [List.flatMap_cons, ← List.append_assoc] at q
        exact q
/-! ### moves -/
def mv (w : Nat → Int) (p : Nat) (b : Int) : Nat → Int := fun j => if j = p then w j + b else w j
def okz (w : Nat → Int) (p : Nat) (x : Int) (z : Int × Int) : Bool := !((decide (z.1 = (p : Int)) && decide (w z.2.toNat < x)) || (decide (z.2 = (p : Int)) && decide (x < w z.1.toNat)))
def okB (rs : List (Int × Int)) (t : Int) (w : Nat → Int) (p : Nat) (b : Int) : Bool := decide (0 ≤ w p + b) && decide (w p + b ≤ t) && rs.all (okz w p (w p + b))
theorem okB_iff {f st : Str} {rs : List (Int × Int)} (hp : Pil f st rs) {t : Int} {w : Nat → Int} (P : Plan f st rs t w) {p : Nat} (hpn : p < st.length) {b : Int} (hb : b = 2 ∨ b = -2) : okB rs t w p b = true ↔ Plan f st rs t (mv w p b) := by
  unfold okB
  simp only [Bool.and_eq_true, decide_eq_true_eq, List.all_eq_true]
  have self : mv w p b p = w p + b := if_pos rfl
  have oth : ∀ j, j ≠ p → mv w p b j = w j := fun j h => if_neg h
  constructor
  · rintro ⟨⟨h1, h2⟩, h3⟩
    refine ⟨fun j hj => ?_, fun z hz => ?_⟩
    · have hB := P.blk j hj
      by_cases e : j = p
      · subst e
        rw [self]
        have := b01 f st j
        omega
      · rw [oth j e]
        exact hB
    · obtain ⟨a1, a2, a3, a4, a5⟩ := hp.rul.inn z hz
      have h4 := h3 z hz
      have h5 := P.led z hz
      simp only [okz, Bool.not_eq_true', Bool.or_eq_false_iff, Bool.and_eq_false_iff, decide_eq_false_iff_not] at h4
      by_cases e1 : z.1.toNat = p
      · have e1' : z.1 = (p : Int) := by omega
        have e2 : z.2.toNat ≠ p := by omega
        rw [e1, self, oth _ e2]
        have := h4.1
        omega
      · by_cases e2 : z.2.toNat = p
        · have e2' : z.2 = (p : Int) := by omega
          rw [e2, self, oth _ e1]
          have := h4.2
          omega
        · rw [oth _ e1, oth _ e2]
          exact h5
  · intro M
    have hB := M.blk p hpn
    rw [self] at hB
    have := b01 f st p
    refine ⟨⟨by omega, by omega⟩, fun z hz => ?_⟩
    obtain ⟨a1, a2, a3, a4, a5⟩ := hp.rul.inn z hz
    have h5 := M.led z hz
    simp only [okz, Bool.not_eq_true', Bool.or_eq_false_iff, Bool.and_eq_false_iff, decide_eq_false_iff_not]
    constructor
    · by_cases e1 : z.1 = (p : Int)
      · right
        have e1' : z.1.toNat = p := by omega
        have e2 : z.2.toNat ≠ p := by omega
        rw [e1', self, oth _ e2] at h5
        omega
      · exact .inl e1
    · by_cases e2 : z.2 = (p : Int)
      · right
        have e2' : z.2.toNat = p := by omega
        have e1 : z.1.toNat ≠ p := by omega
        rw [e2', self, oth _ e1] at h5
        omega
      · exact .inl e2
def P_can_move : PV := fun ds C Q => ∃ (o o' : Bool) (f st : Str) (rs : List (Int × Int)) (t : Int) (w : Nat → Int) (p : Nat) (b : Int), ds = [pil o f st rs, .int t, .lst o' (wL st.length w), .int (p : Nat), .int b] ∧ Pil f st rs ∧ p < st.length ∧ Q (.bl (okB rs t w p b)) C
theorem v_can_move (ds : List D) (C : Store) (Q3 : D → Store → Prop) (h : P_can_move ds C Q3) (hC : C.length = 0) : T_can_move (enF 0 Q3) (start3 N_can_move ds) C := by
  obtain ⟨o, o', f, st, rs, t, w, p, b, rfl, hp, hpn, q⟩ := h
  rw [List.length_eq_zero_iff] at hC
  subst hC
  have hz := sizeL
  have h24 := hp.top
  refine ⟨_, rfl, _, rfl, _, _, _, rfl, rfl, wL_at hpn, _, rfl, _, _, rfl, rfl, ?_⟩
  refine ⟨_, rfl, _, _, rfl, rfl, _, rfl, ?_⟩
  have no : okB rs t w p b = false → sRet (eC (.bl false)) { (enF 0 Q3) with nx := (enF 0 Q3).nx } (start3 N_can_move [pil o f st rs, .int t, .lst o' (wL st.length w), .int (p : Nat), .int b]) [] := fun h => by
    show Q3 (.bl false) _
    rw [h] at q
    exact q
  by_cases h1 : 0 ≤ w p + b
  · refine goT (decide_eq_true h1) ?_
    refine ⟨_, rfl, _, _, rfl, rfl, _, rfl, ?_⟩
    by_cases h2 : w p + b ≤ t
    · rw [decide_eq_true h2]
      refine goF rfl ?_
      refine ⟨_, rfl, _, _, _, rfl, rfl, rfl, _, rfl, rfl, np_pairs rs, ?_⟩
      refine forW_run (fun ds Γ C => ∃ (dn rest : List (Int × Int)), rs = dn ++ rest ∧ ds = rest.map pD ∧ (∀ z, z ∈ dn → okz w p (w p + b) z = true) ∧ C = [] ∧ ∃ x y, Γ = [some (pil o f st rs), some (.int t), some (.lst o' (wL st.length w)), some (.int (p : Nat)), some (.int b), some (.int (w p + b)), x, y]) ?step ?stop _ _ _ ⟨[], rs, rfl, rfl, fun z h => by simp at h, rfl, _, _, rfl⟩
      case step =>
        rintro d ds Γ C ⟨dn, rest, e1, e2, ho, rfl, x, y, rfl⟩ R hR
        cases rest with
        | nil => cases e2
        | cons z rest =>
        simp only [List.map_cons, List.cons.injEq] at e2
        obtain ⟨rfl, rfl⟩ := e2
        have hzm : z ∈ rs := by rw [e1]; simp
        obtain ⟨a1, a2, a3, a4, a5⟩ := hp.rul.inn z hzm
        obtain ⟨zi, zj⟩ := z
        obtain ⟨i, rfl⟩ := Int.eq_ofNat_of_zero_le a1
        obtain ⟨j, rfl⟩ := Int.eq_ofNat_of_zero_le a3
        have hi : i < st.length := by simpa using a2
        have hj : j < st.length := by simpa using a4
        have go : okz w p (w p + b) ((i : Int), (j : Int)) = true → R [some (pil o f st rs), some (.int t), some (.lst o' (wL st.length w)), some (.int (p : Nat)), some (.int b), some (.int (w p + b)), some (.int (i : Nat)), some (.int (j : Nat))] [] := fun h => hR _ _ ⟨dn ++ [((i : Int), (j : Int))], rest, by rw [e1]; simp, rfl, fun z hz => (List.mem_append.mp hz).elim (ho z) fun h' => by rw [List.mem_singleton.mp h']; exact h, rfl, _, _, rfl⟩
        have bad : okz w p (w p + b) ((i : Int), (j : Int)) = false → Q3 (.bl false) [] := fun h => by
          have e : okB rs t w p b = false := by
            unfold okB
            rw [Bool.and_eq_false_iff]
            exact .inr (List.all_eq_false.mpr ⟨_, hzm, by rw [h]; decide⟩)
          rw [e] at q
          exact q
        refine ⟨_, rfl, rfl, _, _, rfl, _, _, rfl, rfl, ?_⟩
        refine ⟨_, rfl, _, rfl, _, rfl, ?_⟩
        have second : ∀ (rt : D → Store → Prop) (bk : Slots → Store → Prop), (rt (.bl false) [] = Q3 (.bl false) []) → ((i : Int) = (p : Int) ∧ w j < w p + b → False) → (bAnd (bB (eBin (oEq false) (eVar 7) (eVar 3))) (bB (eBin oGt (eBin oIxL (eVar 2) (eVar 6)) (eVar 5)))) [some (pil o f st rs), some (.int t), some (.lst o' (wL st.length w)), some (.int (p : Nat)), some (.int b), some (.int (w p + b)), some (.int (i : Nat)), some (.int (j : Nat))] [] (fun k C' => if k = true then sRet (eC (.bl false)) { nx := R, rt := rt, bk := bk, ct := R } [some (pil o f st rs), some (.int t), some (.lst o' (wL st.length w)), some (.int (p : Nat)), some (.int b), some (.int (w p + b)), some (.int (i : Nat)), some (.int (j : Nat))] C' else sNext { nx := R, rt := rt, bk := bk, ct := R } [some (pil o f st rs), some (.int t), some (.lst o' (wL st.length w)), some (.int (p : Nat)), some (.int b), some (.int (w p + b)), some (.int (i : Nat)), some (.int (j : Nat))] C') := by
          intro rt bk hrt hn
          refine ⟨_, rfl, _, rfl, _, rfl, ?_⟩
          by_cases e3 : (j : Int) = (p : Int)
          · refine goT (by rw [eqN, decide_eq_true e3]) ?_
            refine ⟨_, rfl, _, rfl, _, _, _, rfl, rfl, wL_at hi, _, rfl, _, _, rfl, rfl, _, rfl, ?_⟩
            by_cases e4 : w p + b < w i
            · refine goT (decide_eq_true e4) ?_
              show rt (.bl false) []
              rw [hrt]
              exact bad (by simp [okz, e3, e4])
            · refine goF (decide_eq_false e4) ?_
              exact go (by
                simp only [okz, Int.toNat_natCast, Bool.not_eq_true', Bool.or_eq_false_iff, Bool.and_eq_false_iff, decide_eq_false_iff_not]
                refine ⟨?_, .inr e4⟩
                by_cases e5 : (i : Int) = (p : Int)
                · exact .inr fun h => hn ⟨e5, h⟩
                · exact .inl e5)
          · refine goF (by rw [eqN, decide_eq_false e3]) ?_
            refine goF rfl ?_
            exact go (by
              simp only [okz, Int.toNat_natCast, Bool.not_eq_true', Bool.or_eq_false_iff, Bool.and_eq_false_iff, decide_eq_false_iff_not]
              refine ⟨?_, .inl e3⟩
              by_cases e5 : (i : Int) = (p : Int)
              · exact .inr fun h => hn ⟨e5, h⟩
              · exact .inl e5)
        by_cases e3 : (i : Int) = (p : Int)
        · refine goT (by rw [eqN, decide_eq_true e3]) ?_
          refine ⟨_, rfl, _, rfl, _, _, _, rfl, rfl, wL_at hj, _, rfl, _, _, rfl, rfl, _, rfl, ?_⟩
          by_cases e4 : w j < w p + b
          · refine goT (decide_eq_true e4) ?_
            refine goT rfl ?_
            exact bad (by simp [okz, e3, e4])
          · refine goF (decide_eq_false e4) ?_
            exact second _ _ rfl fun h => e4 h.2
        · refine goF (by rw [eqN, decide_eq_false e3]) ?_
          refine goF rfl ?_
          exact second _ _ rfl fun h => e3 h.1
      case stop =>
        rintro Γ C ⟨dn, rest, e1, e2, ho, rfl, x, y, rfl⟩
        cases rest with
        | cons z rest => cases e2
        | nil =>
        rw [List.append_nil] at e1
        subst e1
        have e : okB rs t w p b = true := by
          unfold okB
          rw [decide_eq_true h1, decide_eq_true h2]
          exact List.all_eq_true.mpr ho
        rw [e] at q
        exact q
    · rw [decide_eq_false h2]
      exact goT rfl (no (by unfold okB; rw [decide_eq_false h2, Bool.and_false]; rfl))
  · refine goF (decide_eq_false h1) ?_
    refine ⟨_, rfl, goT rfl (no (by unfold okB; rw [decide_eq_false h1]; rfl))⟩
end PN
end L3

namespace L3
namespace PN
open PySem PySem.Spec PyProof.Rows L2
def two (p : Nat) : List (Int × Int) := [((p : Int), -2), ((p : Int), 2)]
def cand (n : Nat) : List (Int × Int) := (List.range n).flatMap two
theorem cand_succ (n : Nat) : cand (n + 1) = cand n ++ two n := by
  unfold cand
  rw [List.range_succ, List.flatMap_append, List.flatMap_cons, List.flatMap_nil, List.append_nil]
theorem cand_len (n : Nat) : (cand n).length = 2 * n := by
  induction n with
  | zero => rfl
  | succ n ih => rw [cand_succ, List.length_append, ih]; simp [two]; omega
theorem cand_mem {n : Nat} {z : Int × Int} : z ∈ cand n ↔ (0 ≤ z.1 ∧ z.1 < n) ∧ (z.2 = -2 ∨ z.2 = 2) := by
  unfold cand
  rw [List.mem_flatMap]
  constructor
  · rintro ⟨p, hp, h⟩
    have hp' : p < n := by simpa using hp
    simp only [two, List.mem_cons, List.not_mem_nil, or_false] at h
    rcases h with rfl | rfl
    · exact ⟨⟨by simp, by simpa using hp'⟩, .inl rfl⟩
    · exact ⟨⟨by simp, by simpa using hp'⟩, .inr rfl⟩
  · rintro ⟨⟨h0, h1⟩, h2⟩
    obtain ⟨p, hp⟩ := Int.eq_ofNat_of_zero_le h0
    refine ⟨p, by simp; omega, ?_⟩
    simp only [two, List.mem_cons, List.not_mem_nil, or_false]
    rcases h2 with h2 | h2
    · exact .inl (Prod.ext hp h2)
    · exact .inr (Prod.ext hp h2)
/-- the moves within a most -/
def mvs (n : Nat) (rs : List (Int × Int)) (t : Int) (w : Nat → Int) : List (Int × Int) := (cand n).filter fun z => okB rs t w z.1.toNat z.2
theorem mvs_len {n : Nat} {rs : List (Int × Int)} {t : Int} {w : Nat → Int} : (mvs n rs t w).length ≤ 2 * n := by
  have := List.length_filter_le (fun z => okB rs t w z.1.toNat z.2) (cand n)
  rw [cand_len] at this
  exact this
theorem flat_pD (l : List (Int × Int)) : flatDs (l.map pD) = true := flat_pairs l
theorem np_pD (l : List (Int × Int)) : (noold (.lst false (l.map pD)) && noptr (.lst false (l.map pD))) = true := by
  have := flats_np (flat_pairs l)
  simp only [noold, okW, noptr, this.1, this.2]
  rfl
theorem fin_pD {o : Bool} {l : List (Int × Int)} {C : Store} {k : Nat} : fin k C (.lst o (l.map pD)) = .lst o (l.map pD) := by
  unfold fin
  rw [mapW, mapWs_flat (flat_pairs l)]
  rfl
def P_moves : PV := fun ds C Q => ∃ (o o' : Bool) (f st : Str) (rs : List (Int × Int)) (t : Int) (w : Nat → Int), ds = [pil o f st rs, .int t, .lst o' (wL st.length w)] ∧ Pil f st rs ∧ Most f st rs t ∧ Plan f st rs t w ∧ Q (.lst false ((mvs st.length rs t w).map pD)) C
theorem v_moves (ds : List D) (C : Store) (Q3 : D → Store → Prop) (h : P_moves ds C Q3) (hC : C.length = 0) : T_moves P_latest P_need_plan P_can_move (enF 0 Q3) (start3 N_moves ds) C := by
  obtain ⟨o, o', f, st, rs, t, w, rfl, hp, ht, P, q⟩ := h
  rw [List.length_eq_zero_iff] at hC
  subst hC
  have hz := sizeL
  have h24 := hp.top
  refine ⟨_, rfl, _, rfl, true, f, st, rs, t, by rw [views_pil, views_int, views_nil], hp, ht, fun v u V U => ⟨np_wL, ?_⟩⟩
  refine ⟨_, rfl, _, rfl, _, rfl, true, true, f, st, rs, w, some t, by rw [views_pil, views_wL]; rfl, hp, Plan.u P, (fun t' e j hj => by cases e; exact (P.blk j hj).2.1), rfl, ?_⟩
  refine ⟨_, rfl, _, _, rfl, rfl, st.length, by rw [wL_len], by omega, by omega, ?_⟩
  rw [rgI_range]
  have hl2 : ((List.range st.length).flatMap fun _ : Nat => [(-2 : Int), 2]).length = 2 * st.length := by
    generalize st.length = n
    induction n with
    | zero => rfl
    | succ n ih => rw [List.range_succ, List.flatMap_append, List.length_append, ih]; simp; omega
  refine lc2_of (α := Nat) (β := Int) (fun j : Nat => D.int (j : Nat)) (fun _ => [-2, 2]) (fun b => .int b) (fun p b => pD ((p : Int), b)) (fun _ h => by simp [srcOf] at h) (fun p => ⟨_, fun R h => h, fun W h => ⟨_, rfl, le5 _ (by simp), _, rfl, h⟩, fun b hb R hR => ⟨_, rfl, _, rfl, le5 _ (by simp), hR⟩⟩) (List.range st.length) [] (by rw [hl2]; simp; omega) ?_
  have ec : ((List.range st.length).flatMap fun p : Nat => [(-2 : Int), 2].map fun b : Int => pD ((p : Int), b)) = (cand st.length).map pD := by
    unfold cand
    rw [List.map_flatMap]
    rfl
  rw [List.nil_append, ec]
  refine ⟨_, rfl, (cand st.length).map pD, rfl, ?_⟩
  refine lc_ofF (cand st.length) pD pD (fun z => okB rs t w z.1.toNat z.2) (fun _ h => by simp [srcOf] at h) (by rw [cand_len]; omega) (fun z hzm R R' hR hR' => ?_) ?_
  · obtain ⟨⟨h0, h1⟩, h2⟩ := cand_mem.mp hzm
    obtain ⟨zp, zb⟩ := z
    obtain ⟨p, rfl⟩ := Int.eq_ofNat_of_zero_le h0
    have hpn : p < st.length := by simpa using h1
    refine ⟨_, rfl, rfl, _, _, rfl, _, _, rfl, rfl, ?_⟩
    refine ⟨_, rfl, _, rfl, _, rfl, _, rfl, _, rfl, true, true, f, st, rs, t, w, p, zb, by rw [views_pil, views_int, views_wL, views_int, views_int, views_nil], hp, hpn, rfl, _, rfl, ?_⟩
    cases e : okB rs t w p zb with
    | true => exact goT rfl ⟨_, rfl, _, rfl, le5 _ (by simp), hR e⟩
    | false => exact goF rfl (hR' e)
  show Q3 (fin 0 _ (.lst false ((mvs st.length rs t w).map pD))) (finS 0 _)
  rw [fin_pD, finS0]
  exact q
/-- the blocks behind a move -/
def P_Lw_moved : PV := fun ds C Q => ∃ (o : Bool) (n : Nat) (w : Nat → Int) (p : Nat) (b : Int), ds = [.lst o (wL n w), pD ((p : Int), b)] ∧ n ≤ 24 ∧ (b = 2 ∨ b = -2) ∧ Q (.lst false (wL n (mv w p b))) C
theorem v_Lw_moved (ds : List D) (C : Store) (Q3 : D → Store → Prop) (h : P_Lw_moved ds C Q3) (hC : C.length = 0) : T_Lw_moved (enF 0 Q3) (start3 N_Lw_moved ds) C := by
  obtain ⟨o, n, w, p, b, rfl, hn, hb, q⟩ := h
  rw [List.length_eq_zero_iff] at hC
  subst hC
  have hz := sizeL
  refine ⟨_, rfl, _, _, rfl, rfl, ?_⟩
  rw [enum_wL]
  refine lc_of (List.range n) _ (fun j => .int (mv w p b j)) (fun _ h => by simp [srcOf] at h) (by simp; omega) (fun j hj R hR => ?_) ?_
  · refine ⟨_, rfl, rfl, _, _, rfl, _, _, rfl, rfl, ?_⟩
    refine ⟨_, rfl, _, rfl, _, _, _, rfl, rfl, rfl, _, rfl, _, rfl, _, _, _, rfl, rfl, rfl, ?_⟩
    dsimp only
    rw [u_eqI, u_aNil, eqN]
    have fin' : ∀ x : Int, (x = 0 ∨ x = 1) → w j + b * x = mv w p b j → ∃ i i_1, D.int b = .int i ∧ D.int x = .int i_1 ∧ CMul i i_1 ∧ ∃ i_2 j_1, D.int (w j) = .int i_2 ∧ D.int (i * i_1) = .int j_1 ∧ R (.int (i_2 + j_1)) [] := fun x hx e => ⟨_, _, rfl, rfl, .inr (by omega), _, _, rfl, rfl, by rw [e]; exact hR⟩
    by_cases e : j = p
    · rw [decide_eq_true (by rw [e])]
      exact fin' 1 (.inr rfl) (by unfold mv; rw [if_pos e]; omega)
    · rw [decide_eq_false (by omega)]
      exact fin' 0 (.inl rfl) (by unfold mv; rw [if_neg e]; omega)
  show Q3 (fin 0 _ (.lst false (wL n (mv w p b)))) (finS 0 _)
  rw [fin_w, finS0]
  exact q
theorem views_wpd {C : Store} {o : Bool} {n : Nat} {w : Nat → Int} {z : Int × Int} : views [] C [.lst o (wL n w), pD z] = [.lst true (wL n w), pD z] := by
  rw [views_wL]
  rfl
def P_Lw_can : PV := fun ds C Q => ∃ (o o' : Bool) (f st : Str) (rs : List (Int × Int)) (t : Int) (w : Nat → Int) (p : Nat) (b : Int), ds = [pil o f st rs, .lst o' (wL st.length w), .int t, pD ((p : Int), b)] ∧ Pil f st rs ∧ Plan f st rs t w ∧ p < st.length ∧ (b = 2 ∨ b = -2) ∧ Q (.bl (okB rs t w p b)) C
theorem v_Lw_can (ds : List D) (C : Store) (Q3 : D → Store → Prop) (h : P_Lw_can ds C Q3) (hC : C.length = 0) : T_Lw_can P_Lw_moved P_Lw_good (enF 0 Q3) (start3 N_Lw_can ds) C := by
  obtain ⟨o, o', f, st, rs, t, w, p, b, rfl, hp, P, hpn, hb, q⟩ := h
  rw [List.length_eq_zero_iff] at hC
  subst hC
  have hz := sizeL
  have h24 := hp.top
  have iff := okB_iff hp P hpn hb
  refine ⟨_, rfl, _, rfl, true, st.length, w, p, b, views_wpd, h24, hb, np_wL, ?_⟩
  refine ⟨_, rfl, _, rfl, true, true, f, st, rs, mv w p b, by rw [views_pil, views_wL, views_nil], hp, fun k hk => ⟨rfl, _, rfl, ?_⟩⟩
  cases k with
  | false =>
    refine goF rfl ?_
    have e : okB rs t w p b = false := by
      cases e : okB rs t w p b with
      | false => rfl
      | true => have := hk.mpr (Plan.u (iff.mp e)); cases this
    show Q3 (.bl false) []
    rw [e] at q
    exact q
  | true =>
    refine goT rfl ?_
    have M := hk.mp rfl
    refine ⟨_, rfl, _, _, rfl, wl_lst, wl_pos hp.pos, fun m hm hle => ⟨_, rfl, _, _, rfl, rfl, ?_⟩⟩
    show Q3 (.bl (decide (m ≤ t))) []
    obtain ⟨j, hj, ej⟩ := List.mem_map.mp hm
    have hj' : j < st.length := by simpa using hj
    by_cases e1 : m ≤ t
    · have e : okB rs t w p b = true := iff.mpr (PlanU.plan M fun i hi => Int.le_trans (hle _ (List.mem_map.mpr ⟨i, by simpa using hi, rfl⟩)) e1)
      rw [decide_eq_true e1]
      rw [e] at q
      exact q
    · have e : okB rs t w p b = false := by
        cases e : okB rs t w p b with
        | false => rfl
        | true => have := ((iff.mp e).blk j hj').2.1; rw [ej] at this; exact absurd this e1
      rw [decide_eq_false e1]
      rw [e] at q
      exact q
end PN
end L3

namespace L3
namespace PN
namespace K39
open PySem PySem.Spec PyProof.Rows L2
def T_Lw_right (P_Lw_some_pile P_Lw_most P_Lw_plan P_Lw_can P_moves P_Lw_same : PV) : SV :=
  (sSeq (sAsg (eCallK 1 kf2 P_Lw_some_pile (aCons (eVar 0) (aCons (eVar 1) (aCons (eC (.int 24)) aNil)))) (gvName 2))
  (sSeq (sAsg (eCallK 1 kf1 P_Lw_most (aCons (eVar 1) (aCons (eVar 2) aNil))) (gvName 3))
  (sSeq (sAsg (eCallK 1 kf1 P_Lw_plan (aCons (eVar 1) (aCons (eVar 2) (aCons (eVar 3) aNil)))) (gvName 4))
  (sSeq (sAsg (eCB oRepr (aCons (eFrz (fLst (aCons (eVar 2) (aCons (eVar 4) aNil)))) aNil)) (gvName 5))
  (sSeq (sAsg (eCell (fLst aNil)) (gvName 6))
  (sSeq (sFor (iRange1 (aCons (eCB oLenA (aCons (eVar 4) aNil)) aNil)) (gvName 7) (sDrop (eMl mExtend (eVar 6) (aCons (eFrz (fLc [8] (iLst (eFrz (fLst (aCons (eUn oNeg (eC (.int 2))) (aCons (eC (.int 2)) aNil))))) (gvName 8) (bB (eCall P_Lw_can (aCons (eVar 2) (aCons (eVar 4) (aCons (eVar 3) (aCons (eTup (aCons (eVar 7) (aCons (eVar 8) aNil))) aNil)))))) (eTup (aCons (eVar 7) (aCons (eVar 8) aNil))))) aNil))))
  (sSeq (sAsg (eCell (fCall P_moves (aCons (eVar 2) (aCons (eVar 3) (aCons (eVar 4) aNil))))) (gvName 9))
  (sSeq (sIf (bNot (bB (eCall P_Lw_same (aCons (eVar 9) (aCons (eVar 6) aNil))))) (sRet (eC (.bl false))) sNext)
  (sSeq (sDrop (eMl mAppend (eVar 9) (aCons (eTup (aCons (eC (.int 0)) (aCons (eC (.int 2)) aNil))) aNil)))
  (sRet (eAnd (eCall P_Lw_same (aCons (eCall P_moves (aPick [2, 1, 0] (aCons (eVar 4) (aCons (eVar 3) (aCons (eVar 2) aNil))))) (aCons (eVar 6) aNil))) (eBin (oEq false) (eCB oRepr (aCons (eFrz (fLst (aCons (eVar 2) (aCons (eVar 4) aNil)))) aNil)) (eVar 5)))))))))))))
abbrev N_Lw_right : List Str := ["_law_script", "_law_bag_here", "_law_heap", "_law_top", "_law_blocks", "_law_kept", "_law_due", "_law_paper", "_law_by", "_law_told"]
end K39
end PN
end L3

namespace L3
namespace PN
namespace K39
open PySem PySem.Spec PyProof.Rows L2
theorem mvs_two (n : Nat) (rs : List (Int × Int)) (t : Int) (w : Nat → Int) : mvs (n + 1) rs t w = mvs n rs t w ++ (two n).filter fun z => okB rs t w z.1.toNat z.2 := by
  unfold mvs
  rw [cand_succ, List.filter_append]
theorem filt_two (n : Nat) (rs : List (Int × Int)) (t : Int) (w : Nat → Int) : ([(-2 : Int), 2].filter fun b => okB rs t w n b).map (fun b => pD ((n : Int), b)) = ((two n).filter fun z => okB rs t w z.1.toNat z.2).map pD := by
  have e : two n = [(-2 : Int), 2].map fun b => ((n : Int), b) := rfl
  rw [e, List.filter_map, List.map_map]
  rfl
theorem view_pD {h : Bool → Bool} {C : Store} {k : Nat} {l : List (Int × Int)} (hk : C[k]? = some (.lst (l.map pD))) : mapW h (viewG [] C 2) (.ptr k) = .lst true (l.map pD) := by
  rw [mapW, viewG]
  simp only [posOf, hk, mapWs_flat (flat_pairs l)]
theorem v_Lw_right (ds : List D) (C : Store) (Q3 : D → Store → Prop) (h : P_Lw_right ds C Q3) (hC : C.length = 1) : T_Lw_right P_Lw_some_pile P_Lw_most P_Lw_plan P_Lw_can P_moves P_sm_hi (enF 1 Q3) (start3 N_Lw_right ds) C := by
  obtain ⟨ns, x, rfl, rfl, hx, hl, q⟩ := h
  have hz := sizeL
  unfold T_Lw_right
  rw [u_sSeq, u_sAsg]
  refine some_e (k := 0) rfl hx (by decide) (by decide) (by decide) rfl rfl fun f st rs c1 y1 hp hl24 hy1 hc1 => ?_
  have h24 := hp.top
  try dsimp only
  rw [u_gvName, u_sSeq, u_sAsg]
  refine most_e (k := 0) rfl hy1 (by omega) rfl rfl hp fun t y2 ht hm hy2 => ?_
  try dsimp only
  rw [u_gvName, u_sSeq, u_sAsg]
  refine plan_e (k := 0) (x := y2) rfl hy2 (by omega) rfl rfl rfl hp ht.1 hm fun w y3 P hy3 => ?_
  have U := Plan.u P
  have w40 : ∀ j, j < st.length → w j < 10 ^ 32 := fun j hj => by have := (P.blk j hj).2.1; have := ht.1; omega
  have bnd : ∀ x, x ∈ [(false, w)] → ∀ j, j < st.length → 0 ≤ x.2 j ∧ x.2 j < 10 ^ 40 := fun x hx j hj => by
    rw [List.mem_singleton.mp hx]
    exact ⟨U.nn hj, by have := w40 j hj; show w j < 10 ^ 40; omega⟩
  try dsimp only
  rw [u_gvName, u_sSeq, u_sAsg]
  refine repr_e (ds := [pil false f st rs, .lst false (wL st.length w)]) (fun R h => ⟨_, rfl, _, rfl, h⟩) (le5 _ (by simp)) (repr_pw [(false, w)] hp bnd (by simp) ?_)
  try dsimp only
  rw [u_gvName, u_sSeq, u_sAsg]
  refine ⟨Nat.zero_le _, ?_⟩
  try dsimp only
  rw [u_gvName, u_sSeq]
  refine ⟨_, rfl, _, _, rfl, rfl, st.length, by rw [wL_len], by omega, by omega, rfl, np_rg' 0 _, ?_⟩
  rw [rgI_range]
  refine forW_run (fun ds Γ C => ∃ k, k ≤ st.length ∧ ds = ((List.range st.length).drop k).map (fun j : Nat => D.int (j : Nat)) ∧ C = [y3, .lst ((mvs k rs t w).map pD)] ∧ ∃ a b, Γ = [some (.lst true (ns.map .int)), some (.ptr 0), some (pil false f st rs), some (.int t), some (.lst false (wL st.length w)), some (.str (PyData.list (pilP f st rs :: [(false, w)].map fun x => wP st.length x.2)).shown), some (.ptr 1), a, none, b]) ?step ?stop _ _ _ ⟨0, Nat.zero_le _, by rw [List.drop_zero], rfl, _, _, rfl⟩
  case step =>
    rintro d ds Γ C0 ⟨k, hk, eds, rfl, a, b, rfl⟩ R hR
    by_cases hkn : k < st.length
    · rw [range_drop hkn, List.cons.injEq] at eds
      obtain ⟨rfl, rfl⟩ := eds
      refine ⟨_, rfl, _, rfl, _, rfl, le5 _ (by simp), _, rfl, ?_⟩
      refine lc_ofF [(-2 : Int), 2] D.int (fun b => pD ((k : Int), b)) (fun b => okB rs t w k b) (fun _ h => by simp [srcOf] at h) (by rw [hz]; decide) (fun b hb R' R'' hR' hR'' => ?_) ?_
      · have hb' : b = 2 ∨ b = -2 := by
          simp only [List.mem_cons, List.not_mem_nil, or_false] at hb
          exact hb.symm
        refine ⟨_, rfl, _, rfl, _, rfl, _, rfl, _, rfl, le5 _ (by simp), true, true, f, st, rs, t, w, k, b, by rw [views_pil, views_wL, views_int]; rfl, hp, P, hkn, hb', rfl, _, rfl, ?_⟩
        cases e : okB rs t w k b with
        | true => exact goT rfl ⟨_, rfl, _, rfl, le5 _ (by simp), hR' e⟩
        | false => exact goF rfl (hR'' e)
      rw [filt_two]
      refine ⟨1, (mvs k rs t w).map pD, _, _, rfl, rfl, rfl, rfl, ?_, ?_⟩
      · have := mvs_len (n := k) (rs := rs) (t := t) (w := w)
        have h2 := List.length_filter_le (fun z => okB rs t w z.1.toNat z.2) (two k)
        simp only [List.length_map]
        have h3 : (two k).length = 2 := rfl
        omega
      · rw [← List.map_append, ← mvs_two]
        exact hR _ _ ⟨k + 1, hkn, rfl, rfl, _, _, rfl⟩
    · rw [List.drop_eq_nil_of_le (by simp; omega)] at eds
      cases eds
  case stop =>
    rintro Γ C0 ⟨k, hk, eds, rfl, a, b, rfl⟩
    have ek : k = st.length := by
      by_cases hkn : k < st.length
      · rw [range_drop hkn] at eds
        cases eds
      · omega
    subst ek
    have ml : (mvs st.length rs t w).length ≤ 10000 := by
      have := mvs_len (n := st.length) (rs := rs) (t := t) (w := w)
      omega
    try dsimp only
    rw [u_sSeq, u_sAsg]
    refine ⟨_, rfl, _, rfl, _, rfl, true, true, f, st, rs, t, w, by rw [views_pil, views_int, views_wL, views_nil], hp, ht, P, _, rfl, flat_pD _, ?_⟩
    try dsimp only
    rw [u_gvName, u_sSeq, u_sIf]
    refine ⟨_, rfl, _, rfl, _, _, rfl, ?_, rfl, ?_⟩
    · rw [view_pD rfl, view_pD rfl]
      exact .pairs ml
    refine ⟨_, rfl, goF rfl ?_⟩
    rw [u_sNext]
    try dsimp only
    rw [u_sSeq, u_sDrop]
    refine ⟨_, rfl, _, rfl, le5 _ (by simp), 2, _, _, rfl, rfl, rfl, by rw [List.length_map]; omega, ?_⟩
    try dsimp only
    rw [u_sRet, u_eAnd]
    refine ⟨_, rfl, _, rfl, _, rfl, by simp, true, true, f, st, rs, t, w, (show views [] _ [pil false f st rs, .int t, .lst false (wL _ w)] = _ by rw [views_pil, views_int, views_wL, views_nil]), hp, ht, P, np_pD _, ?_⟩
    refine ⟨_, rfl, _, _, rfl, ?_, rfl, _, rfl, goT rfl ?_⟩
    · rw [view_pD rfl, mapW, mapWs_flat (flat_pairs _)]
      exact .pairs ml
    rw [u_eBin]
    refine repr_e (ds := [pil false f st rs, .lst false (wL st.length w)]) (fun R h => ⟨_, rfl, _, rfl, h⟩) (le5 _ (by simp)) (repr_pw [(false, w)] hp bnd (by simp) ?_)
    refine ⟨_, rfl, ?_⟩
    show Q3 (fin 1 _ (.bl (false != decide (_ = _)))) (finS 1 (y3 :: _))
    rw [decide_eq_true rfl, hy3.finS]
    exact q y3 _ hy3
end K39
end PN
end L3

namespace L3
open PySem PySem.Spec PyProof.Rows L2
namespace PN
namespace K39
def top (i : Nat) : Stmt := PySem.Challenge.pw_twostamps_k39_moves_told.main.body.getD i (.Pass ⟨0, 0, 0, 0⟩)
section
variable {P : Program} {w : World} {K : PySem.W.Frag} {mg : Str → Option Value} {base : Heap}
abbrev s_Lw_cells : Stmt := top 57
theorem sc_Lw_cells : FnScope N_Lw_cells ["_law_script"] (defScope s_Lw_cells) := ⟨rfl, rfl, rfl, by decide +kernel, rfl, by decide +kernel, by decide +kernel⟩
theorem d_Lw_cells {f : Addr} {fd : FuncData} (F : FnD K "_law_cells" s_Lw_cells f fd) (g : mg "_law_cells" = some (.ref f)) {P_Lw_cells : PV} (l : ∀ ds C Q, P_Lw_cells ds C Q → ds.length = 1) (v : ∀ ds C Q3, P_Lw_cells ds C Q3 → C.length = 0 → T_Lw_cells (enF 0 Q3) (start3 N_Lw_cells ds) C) (m_len : mg "len" = none) : Cal P w K mg base 1 "_law_cells" s_Lw_cells ["_law_script"] 0 P_Lw_cells := by
  have nd : (N_Lw_cells).Nodup := sc_Lw_cells.nd
  exact ⟨f, fd, ok3 (T := T_Lw_cells) F sc_Lw_cells l (fun cdv A outer s H E hr => (vss_one (vs_ret (VF.frz (vf_op op_catR sf_cat (VF.frz (vf_lst (va_cons (ve_callB (call_lenAA rfl) sc_lenA m_len (va_cons (ve_var 0) va_nil)) va_nil))) (VF.frz (vf_slL rfl (ve_var 0) vo_none (vo_some ve_int)))))))) v, g, F.kp, FunD.bindsN F fun _ _ _ _ _ _ us hl => match us, hl with | [_], _ => rfl, F⟩
abbrev s_Lw_draw : Stmt := top 42
theorem sc_Lw_draw : FnScope N_Lw_draw ["_law_bag_here", "_law_many"] (defScope s_Lw_draw) := ⟨rfl, rfl, rfl, by decide +kernel, rfl, by decide +kernel, by decide +kernel⟩
theorem d_Lw_draw {f : Addr} {fd : FuncData} (F : FnD K "_law_draw" s_Lw_draw f fd) (g : mg "_law_draw" = some (.ref f)) {P_Lw_draw : PV} (l : ∀ ds C Q, P_Lw_draw ds C Q → ds.length = 2) (v : ∀ ds C Q3, P_Lw_draw ds C Q3 → C.length = 1 → T_Lw_draw (enF 1 Q3) (start3 N_Lw_draw ds) C) : Cal P w K mg base 1 "_law_draw" s_Lw_draw ["_law_bag_here", "_law_many"] 1 P_Lw_draw := by
  have nd : (N_Lw_draw).Nodup := sc_Lw_draw.nd
  exact ⟨f, fd, ok3 (T := T_Lw_draw) F sc_Lw_draw l (fun cdv A outer s H E hr => (vss_cons (vs_if (vt_cmp op_gt sr_gt (ve_ix (ix_listA rfl) sr_ixL (ve_var 0) ve_int) ve_int (nomark _)) (vss_cons (vs_set 2 nd (ve_op op_mod sr_mod (ve_ix (ix_listA rfl) sr_ixL (ve_var 0) ve_int) (ve_var 1)))
  (vss_cons (vs_asg (ve_op op_fdivW sr_divW (ve_ix (ix_listA rfl) sr_ixL (ve_var 0) ve_int) (ve_var 1)) (vg_subL (ve_var 0) ve_int))
  (vss_one (vs_ret (ve_var 2))))) vss_nil)
  (vss_cons (vs_asg (ve_op op_add sr_add (ve_ix (ix_listA rfl) sr_ixL (ve_var 0) ve_int) ve_int) (vg_subL (ve_var 0) ve_int))
  (vss_cons (vs_set 3 nd (ve_op op_mod sr_mod (ve_op op_add sr_add (ve_ix (ix_listA rfl) sr_ixL (ve_var 0) ve_int) (ve_op op_mulW sr_mulW (ve_ix (ix_listA rfl) sr_ixL (ve_var 0) ve_int) (ve_op op_powW sr_powW ve_int ve_int))) (ve_op op_add sr_add (ve_op op_powW sr_powW ve_int ve_int) ve_int)))
  (vss_cons (vs_set 3 nd (ve_op op_add sr_add (ve_op op_mod sr_mod (ve_op op_powW sr_powW (ve_var 3) ve_int) (ve_op op_add sr_add (ve_op op_powW sr_powW ve_int ve_int) ve_int)) (ve_op op_mulW sr_mulW (ve_ix (ix_listA rfl) sr_ixL (ve_var 0) ve_int) ve_int)))
  (vss_one (vs_ret (ve_op op_mod sr_mod (ve_op op_fdivW sr_divW (ve_op op_mod sr_mod (ve_op op_powW sr_powW (ve_var 3) ve_int) (ve_op op_add sr_add (ve_op op_powW sr_powW ve_int ve_int) ve_int)) ve_int) (ve_var 1))))))))) v, g, F.kp, FunD.bindsN F fun _ _ _ _ _ _ us hl => match us, hl with | [_, _], _ => rfl, F⟩
abbrev s_Lw_pile : Stmt := top 43
theorem sc_Lw_pile : FnScope N_Lw_pile ["_law_bag_here", "_law_top", "_law_rules"] (defScope s_Lw_pile) := ⟨rfl, rfl, rfl, by decide +kernel, rfl, by decide +kernel, by decide +kernel⟩
theorem d_Lw_pile {f : Addr} {fd : FuncData} (F : FnD K "_law_pile" s_Lw_pile f fd) (g : mg "_law_pile" = some (.ref f)) {P_Lw_pile P_Lw_draw : PV} (l : ∀ ds C Q, P_Lw_pile ds C Q → ds.length = 3) (v : ∀ ds C Q3, P_Lw_pile ds C Q3 → C.length = 1 → T_Lw_pile P_Lw_draw (enF 1 Q3) (start3 N_Lw_pile ds) C) (C_Lw_draw : Cal P w K mg base 1 "_law_draw" s_Lw_draw ["_law_bag_here", "_law_many"] 1 P_Lw_draw) (m_range : mg "range" = none) (m_list : mg "list" = none) (m_len : mg "len" = none) (m_max : mg "max" = none) (m_min : mg "min" = none) (m_sorted : mg "sorted" = none) : Cal P w K mg base 2 "_law_pile" s_Lw_pile ["_law_bag_here", "_law_top", "_law_rules"] 1 P_Lw_pile := by
  obtain ⟨f_Lw_draw, fd_Lw_draw, G_Lw_draw, g_Lw_draw, kp_Lw_draw, b_Lw_draw, F_Lw_draw⟩ := C_Lw_draw
  have nd : (N_Lw_pile).Nodup := sc_Lw_pile.nd
  exact ⟨f, fd, ok3 (T := T_Lw_pile P_Lw_draw) F sc_Lw_pile l (fun cdv A outer s H E hr => (vss_cons (vs_set 3 nd (ve_op op_add sr_add ve_int (ve_callK (kf := kf1) (G_Lw_draw.mono (by decide)) hr g_Lw_draw kp_Lw_draw b_Lw_draw (va_cons (ve_var 0) (va_cons (ve_var 1) va_nil)))))
  (vss_cons (vs_set 4 nd (ve_join rfl ve_str (VF.frz (vf_lc (own := [("_law_paper", 5)]) rfl nd (vi_range1 m_range (va_cons (ve_var 3) va_nil)) (blkOk_by (by kernel_rfl)) (own_name (by decide)) (fun _ _ _ _ _ => (vg_name 5 nd)) (fun _ _ _ _ _ => vts_nil) (fun _ _ _ _ _ => (ve_ix ix_str sr_ixS ve_str (ve_callK (kf := kf1) (G_Lw_draw.mono (by decide)) hr g_Lw_draw kp_Lw_draw b_Lw_draw (va_cons (ve_var 0) (va_cons ve_int va_nil)))))))))
  (vss_cons (vs_set 6 nd (VF.cell (vf_listRange rfl m_list m_range (ve_var 3))))
  (vss_cons (vs_setLc 7 false (own := [("_law_bout", 8)]) rfl nd (vi_range1 m_range (va_cons (ve_var 3) va_nil)) (blkOk_by (by kernel_rfl)) (own_name (by decide)) (fun _ _ _ _ _ => (vg_name 8 nd)) (fun _ _ _ _ _ => vts_nil) (fun _ _ _ _ _ => (ve_ml rfl PySem.F.plainAttrs_list PySem.F.slot_list_pop PySem.F.type_list_pop mt_popAt sm_popAt (ve_var 6) (va_cons (ve_callK (kf := kf1) (G_Lw_draw.mono (by decide)) hr g_Lw_draw kp_Lw_draw b_Lw_draw (va_cons (ve_var 0) (va_cons (ve_callB (call_lenAA rfl) sc_lenA m_len (va_cons (ve_var 6) va_nil)) va_nil))) va_nil))))
  (vss_cons (vs_set 9 nd (VF.cell vf_dt0))
  (vss_cons (vs_for PassesOwn.never rfl (vi_range1 m_range (va_cons (ve_callK (kf := kf1) (G_Lw_draw.mono (by decide)) hr g_Lw_draw kp_Lw_draw b_Lw_draw (va_cons (ve_var 0) (va_cons (ve_op op_add sr_add (ve_var 2) ve_int) va_nil))) va_nil)) (vg_name 8 nd) (vss_cons (vs_par 10 11 rfl nd (va_cons (ve_callK (kf := kf1) (G_Lw_draw.mono (by decide)) hr g_Lw_draw kp_Lw_draw b_Lw_draw (va_cons (ve_var 0) (va_cons (ve_var 3) va_nil))) (va_cons (ve_callK (kf := kf1) (G_Lw_draw.mono (by decide)) hr g_Lw_draw kp_Lw_draw b_Lw_draw (va_cons (ve_var 0) (va_cons (ve_var 3) va_nil))) va_nil)) (ps := fun h => ps_par rfl nd rfl rfl (by decide) rfl rfl h rfl))
  (vss_one (vs_if (vt_cmp (op_neA rfl hr.units) sr_ne (ve_var 10) (ve_var 11) (nomark _)) (vss_one (vs_asg ve_bl (vg_subT (u1 hr) (ve_var 9) (ve_tup (va_cons (ve_ix (ix_listA rfl) sr_ixL (ve_var 7) (ve_callB (call_min2 rfl) sc_min2 m_min (va_cons (ve_var 10) (va_cons (ve_var 11) va_nil)))) (va_cons (ve_ix (ix_listA rfl) sr_ixL (ve_var 7) (ve_callB (call_max2 rfl) sc_max2 m_max (va_cons (ve_var 10) (va_cons (ve_var 11) va_nil)))) va_nil)))))) vss_nil))))
  (vss_one (vs_ret (ve_tup (va_cons (ve_ix ix_str sr_ixS ve_str (ve_callK (kf := kf1) (G_Lw_draw.mono (by decide)) hr g_Lw_draw kp_Lw_draw b_Lw_draw (va_cons (ve_var 0) (va_cons ve_int va_nil)))) (va_cons (ve_var 4) (va_cons (VF.frz (vf_callB (call_sortDT rfl) sf_sortT m_sorted (va_cons (ve_var 9) va_nil))) va_nil))))))))))))) v, g, F.kp, FunD.bindsN F fun _ _ _ _ _ _ us hl => match us, hl with | [_, _, _], _ => rfl, F⟩
abbrev s_Lw_some_pile : Stmt := top 44
theorem sc_Lw_some_pile : FnScope N_Lw_some_pile ["_law_script", "_law_bag_here", "_law_top"] (defScope s_Lw_some_pile) := ⟨rfl, rfl, rfl, by decide +kernel, rfl, by decide +kernel, by decide +kernel⟩
theorem d_Lw_some_pile {f : Addr} {fd : FuncData} (F : FnD K "_law_some_pile" s_Lw_some_pile f fd) (g : mg "_law_some_pile" = some (.ref f)) {P_Lw_some_pile P_Lw_draw P_Lw_pile : PV} (l : ∀ ds C Q, P_Lw_some_pile ds C Q → ds.length = 3) (v : ∀ ds C Q3, P_Lw_some_pile ds C Q3 → C.length = 1 → T_Lw_some_pile P_Lw_draw P_Lw_pile (enF 1 Q3) (start3 N_Lw_some_pile ds) C) (C_Lw_draw : Cal P w K mg base 1 "_law_draw" s_Lw_draw ["_law_bag_here", "_law_many"] 1 P_Lw_draw) (C_Lw_pile : Cal P w K mg base 2 "_law_pile" s_Lw_pile ["_law_bag_here", "_law_top", "_law_rules"] 1 P_Lw_pile) (m_range : mg "range" = none) (m_min : mg "min" = none) : Cal P w K mg base 3 "_law_some_pile" s_Lw_some_pile ["_law_script", "_law_bag_here", "_law_top"] 1 P_Lw_some_pile := by
  obtain ⟨f_Lw_draw, fd_Lw_draw, G_Lw_draw, g_Lw_draw, kp_Lw_draw, b_Lw_draw, F_Lw_draw⟩ := C_Lw_draw
  obtain ⟨f_Lw_pile, fd_Lw_pile, G_Lw_pile, g_Lw_pile, kp_Lw_pile, b_Lw_pile, F_Lw_pile⟩ := C_Lw_pile
  have nd : (N_Lw_some_pile).Nodup := sc_Lw_some_pile.nd
  exact ⟨f, fd, ok3 (T := T_Lw_some_pile P_Lw_draw P_Lw_pile) F sc_Lw_some_pile l (fun cdv A outer s H E hr => (vss_cons (vs_if (vt_cmp (op_eqA rfl hr.units) sr_eq (ve_var 0) (VF.frz (vf_lst va_nil)) (nomark _)) (vss_cons (vs_set 3 nd (ve_op op_add sr_add ve_int (ve_callK (kf := kf1) (G_Lw_draw.mono (by decide)) hr g_Lw_draw kp_Lw_draw b_Lw_draw (va_cons (ve_var 1) (va_cons ve_int va_nil)))))
  (vss_cons (vs_set 4 nd (ve_join rfl ve_str (VF.frz (vf_lc (own := [("_law_paper", 5)]) rfl nd (vi_range1 m_range (va_cons (ve_var 3) va_nil)) (blkOk_by (by kernel_rfl)) (own_name (by decide)) (fun _ _ _ _ _ => (vg_name 5 nd)) (fun _ _ _ _ _ => vts_nil) (fun _ _ _ _ _ => (ve_ix ix_str sr_ixS ve_str (ve_callK (kf := kf1) (G_Lw_draw.mono (by decide)) hr g_Lw_draw kp_Lw_draw b_Lw_draw (va_cons (ve_var 1) (va_cons ve_int va_nil)))))))))
  (vss_one (vs_ret (ve_tup (va_cons ve_str (va_cons (ve_var 4) (va_cons (ve_ix (ix_listA rfl) sr_ixL (VF.frz (vf_lst (va_cons (VF.frz (vf_lst (va_cons (ve_tup (va_cons ve_int (va_cons ve_int va_nil))) va_nil))) (va_cons (VF.frz (vf_slL rfl (VF.frz (vf_lst (va_cons (ve_tup (va_cons ve_int (va_cons ve_int va_nil))) (va_cons (ve_tup (va_cons ve_int (va_cons (ve_op op_sub sr_sub (ve_var 3) ve_int) va_nil))) va_nil)))) vo_none (vo_some (ve_op op_sub sr_sub (ve_var 3) ve_int)))) va_nil)))) (ve_callK (kf := kf1) (G_Lw_draw.mono (by decide)) hr g_Lw_draw kp_Lw_draw b_Lw_draw (va_cons (ve_var 1) (va_cons ve_int va_nil)))) va_nil)))))))) vss_nil)
  (vss_one (vs_ret (ve_callK (kf := kf1) (G_Lw_pile.mono (by decide)) hr g_Lw_pile kp_Lw_pile b_Lw_pile (va_cons (ve_var 1) (va_cons (ve_ix (ix_listA rfl) sr_ixL (VF.frz (vf_lst (va_cons ve_int (va_cons (ve_callB (call_min2 rfl) sc_min2 m_min (va_cons ve_int (va_cons (ve_var 2) va_nil))) (va_cons (ve_var 2) va_nil))))) (ve_callK (kf := kf1) (G_Lw_draw.mono (by decide)) hr g_Lw_draw kp_Lw_draw b_Lw_draw (va_cons (ve_var 1) (va_cons ve_int va_nil)))) (va_cons (ve_ix (ix_listA rfl) sr_ixL (VF.frz (vf_lst (va_cons ve_int (va_cons ve_int (va_cons ve_int va_nil))))) (ve_callK (kf := kf1) (G_Lw_draw.mono (by decide)) hr g_Lw_draw kp_Lw_draw b_Lw_draw (va_cons (ve_var 1) (va_cons ve_int va_nil)))) va_nil)))))))) v, g, F.kp, FunD.bindsN F fun _ _ _ _ _ _ us hl => match us, hl with | [_, _, _], _ => rfl, F⟩
abbrev s_Lw_base : Stmt := top 45
theorem sc_Lw_base : FnScope N_Lw_base ["_law_heap", "_law_paper"] (defScope s_Lw_base) := ⟨rfl, rfl, rfl, by decide +kernel, rfl, by decide +kernel, by decide +kernel⟩
theorem d_Lw_base {f : Addr} {fd : FuncData} (F : FnD K "_law_base" s_Lw_base f fd) (g : mg "_law_base" = some (.ref f)) {P_Lw_base : PV} (l : ∀ ds C Q, P_Lw_base ds C Q → ds.length = 2) (v : ∀ ds C Q3, P_Lw_base ds C Q3 → C.length = 0 → T_Lw_base (enF 0 Q3) (start3 N_Lw_base ds) C) (m_int : mg "int" = none) : Cal P w K mg base 1 "_law_base" s_Lw_base ["_law_heap", "_law_paper"] 0 P_Lw_base := by
  have nd : (N_Lw_base).Nodup := sc_Lw_base.nd
  exact ⟨f, fd, ok3 (T := T_Lw_base) F sc_Lw_base l (fun cdv A outer s H E hr => (vss_one (vs_ret (ve_callTy call_int1 sc_int m_int (va_cons (ve_cmp (op_neA rfl hr.units) sr_ne (ve_ix ix_str sr_ixS (ve_ix (ix_tupA rfl) sr_ixT (ve_var 0) ve_int) (ve_var 1)) (ve_ix (ix_tupA rfl) sr_ixT (ve_var 0) ve_int) (nomark _)) va_nil))))) v, g, F.kp, FunD.bindsN F fun _ _ _ _ _ _ us hl => match us, hl with | [_, _], _ => rfl, F⟩
abbrev s_Lw_change : Stmt := top 46
theorem sc_Lw_change : FnScope N_Lw_change ["_law_heap", "_law_rule"] (defScope s_Lw_change) := ⟨rfl, rfl, rfl, by decide +kernel, rfl, by decide +kernel, by decide +kernel⟩
theorem d_Lw_change {f : Addr} {fd : FuncData} (F : FnD K "_law_change" s_Lw_change f fd) (g : mg "_law_change" = some (.ref f)) {P_Lw_change : PV} (l : ∀ ds C Q, P_Lw_change ds C Q → ds.length = 2) (v : ∀ ds C Q3, P_Lw_change ds C Q3 → C.length = 0 → T_Lw_change (enF 0 Q3) (start3 N_Lw_change ds) C) (m_int : mg "int" = none) : Cal P w K mg base 1 "_law_change" s_Lw_change ["_law_heap", "_law_rule"] 0 P_Lw_change := by
  have nd : (N_Lw_change).Nodup := sc_Lw_change.nd
  exact ⟨f, fd, ok3 (T := T_Lw_change) F sc_Lw_change l (fun cdv A outer s H E hr => (vss_one (vs_ret (ve_callTy call_int1 sc_int m_int (va_cons (ve_cmp (op_neA rfl hr.units) sr_ne (ve_ix ix_str sr_ixS (ve_ix (ix_tupA rfl) sr_ixT (ve_var 0) ve_int) (ve_ix (ix_tupA rfl) sr_ixT (ve_var 1) ve_int)) (ve_ix ix_str sr_ixS (ve_ix (ix_tupA rfl) sr_ixT (ve_var 0) ve_int) (ve_ix (ix_tupA rfl) sr_ixT (ve_var 1) ve_int)) (nomark _)) va_nil))))) v, g, F.kp, FunD.bindsN F fun _ _ _ _ _ _ us hl => match us, hl with | [_, _], _ => rfl, F⟩
abbrev s_Lw_early : Stmt := top 47
theorem sc_Lw_early : FnScope N_Lw_early ["_law_heap"] (defScope s_Lw_early) := ⟨rfl, rfl, rfl, by decide +kernel, rfl, by decide +kernel, by decide +kernel⟩
theorem d_Lw_early {f : Addr} {fd : FuncData} (F : FnD K "_law_early" s_Lw_early f fd) (g : mg "_law_early" = some (.ref f)) {P_Lw_early P_Lw_base P_Lw_change : PV} (l : ∀ ds C Q, P_Lw_early ds C Q → ds.length = 1) (v : ∀ ds C Q3, P_Lw_early ds C Q3 → C.length = 0 → T_Lw_early P_Lw_base P_Lw_change (enF 0 Q3) (start3 N_Lw_early ds) C) (C_Lw_base : Cal P w K mg base 1 "_law_base" s_Lw_base ["_law_heap", "_law_paper"] 0 P_Lw_base) (C_Lw_change : Cal P w K mg base 1 "_law_change" s_Lw_change ["_law_heap", "_law_rule"] 0 P_Lw_change) (m_len : mg "len" = none) (m_range : mg "range" = none) (m_max : mg "max" = none) : Cal P w K mg base 2 "_law_early" s_Lw_early ["_law_heap"] 0 P_Lw_early := by
  obtain ⟨f_Lw_base, fd_Lw_base, G_Lw_base, g_Lw_base, kp_Lw_base, b_Lw_base, F_Lw_base⟩ := C_Lw_base
  obtain ⟨f_Lw_change, fd_Lw_change, G_Lw_change, g_Lw_change, kp_Lw_change, b_Lw_change, F_Lw_change⟩ := C_Lw_change
  have nd : (N_Lw_early).Nodup := sc_Lw_early.nd
  exact ⟨f, fd, ok3 (T := T_Lw_early P_Lw_base P_Lw_change) F sc_Lw_early l (fun cdv A outer s H E hr => (vss_cons (vs_setLc 1 true (own := [("_law_paper", 2)]) rfl nd (vi_range1 m_range (va_cons (ve_callB (call_lenAA rfl) sc_lenA m_len (va_cons (ve_ix (ix_tupA rfl) sr_ixT (ve_var 0) ve_int) va_nil)) va_nil)) (blkOk_by (by kernel_rfl)) (own_name (by decide)) (fun _ _ _ _ _ => (vg_name 2 nd)) (fun _ _ _ _ _ => vts_nil) (fun _ _ _ _ _ => (ve_call (G_Lw_base.mono (by decide)) hr g_Lw_base kp_Lw_base b_Lw_base (va_cons (ve_var 0) (va_cons (ve_var 2) va_nil)))))
  (vss_cons (vs_for PassesOwn.never rfl (vi_range1 m_range (va_cons (ve_callB (call_lenAA rfl) sc_lenA m_len (va_cons (ve_var 1) va_nil)) va_nil)) (vg_name 3 nd) (vss_one (vs_for PassesOwn.never rfl (vi_list rfl (ve_ix (ix_tupA rfl) sr_ixT (ve_var 0) ve_int)) (vg_name 4 nd) (vss_one (vs_asg (ve_callB (call_max2 rfl) sc_max2 m_max (va_cons (ve_ix (ix_listA rfl) sr_ixL (ve_var 1) (ve_ix (ix_tupA rfl) sr_ixT (ve_var 4) ve_int)) (va_cons (ve_op op_add sr_add (ve_ix (ix_listA rfl) sr_ixL (ve_var 1) (ve_ix (ix_tupA rfl) sr_ixT (ve_var 4) ve_int)) (ve_call (G_Lw_change.mono (by decide)) hr g_Lw_change kp_Lw_change b_Lw_change (va_cons (ve_var 0) (va_cons (ve_var 4) va_nil)))) va_nil))) (vg_subL (ve_var 1) (ve_ix (ix_tupA rfl) sr_ixT (ve_var 4) ve_int)))))))
  (vss_one (vs_ret (ve_var 1)))))) v, g, F.kp, FunD.bindsN F fun _ _ _ _ _ _ us hl => match us, hl with | [_], _ => rfl, F⟩
abbrev s_Lw_fewest : Stmt := top 49
theorem sc_Lw_fewest : FnScope N_Lw_fewest ["_law_heap"] (defScope s_Lw_fewest) := ⟨rfl, rfl, rfl, by decide +kernel, rfl, by decide +kernel, by decide +kernel⟩
theorem d_Lw_fewest {f : Addr} {fd : FuncData} (F : FnD K "_law_fewest" s_Lw_fewest f fd) (g : mg "_law_fewest" = some (.ref f)) {P_Lw_fewest P_Lw_early : PV} (l : ∀ ds C Q, P_Lw_fewest ds C Q → ds.length = 1) (v : ∀ ds C Q3, P_Lw_fewest ds C Q3 → C.length = 0 → T_Lw_fewest P_Lw_early (enF 0 Q3) (start3 N_Lw_fewest ds) C) (C_Lw_early : Cal P w K mg base 2 "_law_early" s_Lw_early ["_law_heap"] 0 P_Lw_early) (m_max : mg "max" = none) : Cal P w K mg base 3 "_law_fewest" s_Lw_fewest ["_law_heap"] 0 P_Lw_fewest := by
  obtain ⟨f_Lw_early, fd_Lw_early, G_Lw_early, g_Lw_early, kp_Lw_early, b_Lw_early, F_Lw_early⟩ := C_Lw_early
  have nd : (N_Lw_fewest).Nodup := sc_Lw_fewest.nd
  exact ⟨f, fd, ok3 (T := T_Lw_fewest P_Lw_early) F sc_Lw_fewest l (fun cdv A outer s H E hr => (vss_one (vs_ret (ve_callB (call_maxL rfl rfl) sc_maxL m_max (va_cons (ve_call (G_Lw_early.mono (by decide)) hr g_Lw_early kp_Lw_early b_Lw_early (va_cons (ve_var 0) va_nil)) va_nil))))) v, g, F.kp, FunD.bindsN F fun _ _ _ _ _ _ us hl => match us, hl with | [_], _ => rfl, F⟩
abbrev s_Lw_most : Stmt := top 50
theorem sc_Lw_most : FnScope N_Lw_most ["_law_bag_here", "_law_heap"] (defScope s_Lw_most) := ⟨rfl, rfl, rfl, by decide +kernel, rfl, by decide +kernel, by decide +kernel⟩
theorem d_Lw_most {f : Addr} {fd : FuncData} (F : FnD K "_law_most" s_Lw_most f fd) (g : mg "_law_most" = some (.ref f)) {P_Lw_most P_Lw_fewest P_Lw_draw : PV} (l : ∀ ds C Q, P_Lw_most ds C Q → ds.length = 2) (v : ∀ ds C Q3, P_Lw_most ds C Q3 → C.length = 1 → T_Lw_most P_Lw_fewest P_Lw_draw (enF 1 Q3) (start3 N_Lw_most ds) C) (C_Lw_fewest : Cal P w K mg base 3 "_law_fewest" s_Lw_fewest ["_law_heap"] 0 P_Lw_fewest) (C_Lw_draw : Cal P w K mg base 1 "_law_draw" s_Lw_draw ["_law_bag_here", "_law_many"] 1 P_Lw_draw) : Cal P w K mg base 4 "_law_most" s_Lw_most ["_law_bag_here", "_law_heap"] 1 P_Lw_most := by
  obtain ⟨f_Lw_fewest, fd_Lw_fewest, G_Lw_fewest, g_Lw_fewest, kp_Lw_fewest, b_Lw_fewest, F_Lw_fewest⟩ := C_Lw_fewest
  obtain ⟨f_Lw_draw, fd_Lw_draw, G_Lw_draw, g_Lw_draw, kp_Lw_draw, b_Lw_draw, F_Lw_draw⟩ := C_Lw_draw
  have nd : (N_Lw_most).Nodup := sc_Lw_most.nd
  exact ⟨f, fd, ok3 (T := T_Lw_most P_Lw_fewest P_Lw_draw) F sc_Lw_most l (fun cdv A outer s H E hr => (vss_cons (vs_set 2 nd (ve_call (G_Lw_fewest.mono (by decide)) hr g_Lw_fewest kp_Lw_fewest b_Lw_fewest (va_cons (ve_var 1) va_nil)))
  (vss_one (vs_ret (ve_op op_add sr_add (ve_var 2) (ve_ix (ix_listA rfl) sr_ixL (VF.frz (vf_lst (va_cons ve_int (va_cons ve_int (va_cons ve_int (va_cons (ve_callK (kf := kf1) (G_Lw_draw.mono (by decide)) hr g_Lw_draw kp_Lw_draw b_Lw_draw (va_cons (ve_var 0) (va_cons ve_int va_nil))) (va_cons (ve_callK (kf := kf1) (G_Lw_draw.mono (by decide)) hr g_Lw_draw kp_Lw_draw b_Lw_draw (va_cons (ve_var 0) (va_cons (ve_op op_powW sr_powW ve_int ve_int) va_nil))) va_nil))))))) (ve_callK (kf := kf1) (G_Lw_draw.mono (by decide)) hr g_Lw_draw kp_Lw_draw b_Lw_draw (va_cons (ve_var 0) (va_cons ve_int va_nil))))))))) v, g, F.kp, FunD.bindsN F fun _ _ _ _ _ _ us hl => match us, hl with | [_, _], _ => rfl, F⟩
abbrev s_Lw_late : Stmt := top 48
theorem sc_Lw_late : FnScope N_Lw_late ["_law_heap", "_law_top"] (defScope s_Lw_late) := ⟨rfl, rfl, rfl, by decide +kernel, rfl, by decide +kernel, by decide +kernel⟩
theorem d_Lw_late {f : Addr} {fd : FuncData} (F : FnD K "_law_late" s_Lw_late f fd) (g : mg "_law_late" = some (.ref f)) {P_Lw_late P_Lw_base P_Lw_change : PV} (l : ∀ ds C Q, P_Lw_late ds C Q → ds.length = 2) (v : ∀ ds C Q3, P_Lw_late ds C Q3 → C.length = 0 → T_Lw_late P_Lw_base P_Lw_change (enF 0 Q3) (start3 N_Lw_late ds) C) (C_Lw_base : Cal P w K mg base 1 "_law_base" s_Lw_base ["_law_heap", "_law_paper"] 0 P_Lw_base) (C_Lw_change : Cal P w K mg base 1 "_law_change" s_Lw_change ["_law_heap", "_law_rule"] 0 P_Lw_change) (m_len : mg "len" = none) (m_range : mg "range" = none) (m_min : mg "min" = none) : Cal P w K mg base 2 "_law_late" s_Lw_late ["_law_heap", "_law_top"] 0 P_Lw_late := by
  obtain ⟨f_Lw_base, fd_Lw_base, G_Lw_base, g_Lw_base, kp_Lw_base, b_Lw_base, F_Lw_base⟩ := C_Lw_base
  obtain ⟨f_Lw_change, fd_Lw_change, G_Lw_change, g_Lw_change, kp_Lw_change, b_Lw_change, F_Lw_change⟩ := C_Lw_change
  have nd : (N_Lw_late).Nodup := sc_Lw_late.nd
  exact ⟨f, fd, ok3 (T := T_Lw_late P_Lw_base P_Lw_change) F sc_Lw_late l (fun cdv A outer s H E hr => (vss_cons (vs_setLc 2 true (own := [("_law_paper", 3)]) rfl nd (vi_range1 m_range (va_cons (ve_callB (call_lenAA rfl) sc_lenA m_len (va_cons (ve_ix (ix_tupA rfl) sr_ixT (ve_var 0) ve_int) va_nil)) va_nil)) (blkOk_by (by kernel_rfl)) (own_name (by decide)) (fun _ _ _ _ _ => (vg_name 3 nd)) (fun _ _ _ _ _ => vts_nil) (fun _ _ _ _ _ => (ve_op op_sub sr_sub (ve_var 1) (ve_op op_mod sr_mod (ve_op op_sub sr_sub (ve_var 1) (ve_call (G_Lw_base.mono (by decide)) hr g_Lw_base kp_Lw_base b_Lw_base (va_cons (ve_var 0) (va_cons (ve_var 3) va_nil)))) ve_int))))
  (vss_cons (vs_for PassesOwn.never rfl (vi_range1 m_range (va_cons (ve_callB (call_lenAA rfl) sc_lenA m_len (va_cons (ve_var 2) va_nil)) va_nil)) (vg_name 4 nd) (vss_one (vs_for PassesOwn.never rfl (vi_list rfl (ve_ix (ix_tupA rfl) sr_ixT (ve_var 0) ve_int)) (vg_name 5 nd) (vss_one (vs_asg (ve_callB (call_min2 rfl) sc_min2 m_min (va_cons (ve_ix (ix_listA rfl) sr_ixL (ve_var 2) (ve_ix (ix_tupA rfl) sr_ixT (ve_var 5) ve_int)) (va_cons (ve_op op_sub sr_sub (ve_ix (ix_listA rfl) sr_ixL (ve_var 2) (ve_ix (ix_tupA rfl) sr_ixT (ve_var 5) ve_int)) (ve_call (G_Lw_change.mono (by decide)) hr g_Lw_change kp_Lw_change b_Lw_change (va_cons (ve_var 0) (va_cons (ve_var 5) va_nil)))) va_nil))) (vg_subL (ve_var 2) (ve_ix (ix_tupA rfl) sr_ixT (ve_var 5) ve_int)))))))
  (vss_one (vs_ret (ve_var 2)))))) v, g, F.kp, FunD.bindsN F fun _ _ _ _ _ _ us hl => match us, hl with | [_, _], _ => rfl, F⟩
abbrev s_Lw_led : Stmt := top 52
theorem sc_Lw_led : FnScope N_Lw_led ["_law_heap", "_law_blocks", "_law_top"] (defScope s_Lw_led) := ⟨rfl, rfl, rfl, by decide +kernel, rfl, by decide +kernel, by decide +kernel⟩
theorem d_Lw_led {f : Addr} {fd : FuncData} (F : FnD K "_law_led" s_Lw_led f fd) (g : mg "_law_led" = some (.ref f)) {P_Lw_led P_Lw_base P_Lw_change P_Lw_late : PV} (l : ∀ ds C Q, P_Lw_led ds C Q → ds.length = 3) (v : ∀ ds C Q3, P_Lw_led ds C Q3 → C.length = 0 → T_Lw_led P_Lw_base P_Lw_change P_Lw_late (enF 0 Q3) (start3 N_Lw_led ds) C) (C_Lw_base : Cal P w K mg base 1 "_law_base" s_Lw_base ["_law_heap", "_law_paper"] 0 P_Lw_base) (C_Lw_change : Cal P w K mg base 1 "_law_change" s_Lw_change ["_law_heap", "_law_rule"] 0 P_Lw_change) (C_Lw_late : Cal P w K mg base 2 "_law_late" s_Lw_late ["_law_heap", "_law_top"] 0 P_Lw_late) (m_enumerate : mg "enumerate" = none) (m_max : mg "max" = none) (m_len : mg "len" = none) (m_range : mg "range" = none) (m_zip : mg "zip" = none) (m_min : mg "min" = none) : Cal P w K mg base 3 "_law_led" s_Lw_led ["_law_heap", "_law_blocks", "_law_top"] 0 P_Lw_led := by
  obtain ⟨f_Lw_base, fd_Lw_base, G_Lw_base, g_Lw_base, kp_Lw_base, b_Lw_base, F_Lw_base⟩ := C_Lw_base
  obtain ⟨f_Lw_change, fd_Lw_change, G_Lw_change, g_Lw_change, kp_Lw_change, b_Lw_change, F_Lw_change⟩ := C_Lw_change
  obtain ⟨f_Lw_late, fd_Lw_late, G_Lw_late, g_Lw_late, kp_Lw_late, b_Lw_late, F_Lw_late⟩ := C_Lw_late
  have nd : (N_Lw_led).Nodup := sc_Lw_led.nd
  exact ⟨f, fd, ok3 (T := T_Lw_led P_Lw_base P_Lw_change P_Lw_late) F sc_Lw_led l (fun cdv A outer s H E hr => (vss_cons (vs_setLc 3 true (own := [("_law_paper", 4), ("_law_block", 5)]) rfl nd (vi_enum rfl m_enumerate (va_cons (ve_var 1) va_nil)) (blkOk_by (by kernel_rfl)) (own_tup (own_cons (own_name (by decide)) (own_cons (own_name (by decide)) own_nil mono_name) mono_name)) (fun _ _ _ _ _ => (vg_tup rfl rfl (vgs_cons (vg_name 4 nd) (vgs_cons (vg_name 5 nd) vgs_nil)))) (fun _ _ _ _ _ => vts_nil) (fun _ _ _ _ _ => (ve_callB (call_max2 rfl) sc_max2 m_max (va_cons ve_int (va_cons (ve_op op_sub sr_sub (ve_var 5) (ve_op op_mod sr_mod (ve_op op_sub sr_sub (ve_var 5) (ve_call (G_Lw_base.mono (by decide)) hr g_Lw_base kp_Lw_base b_Lw_base (va_cons (ve_var 0) (va_cons (ve_var 4) va_nil)))) ve_int)) va_nil)))))
  (vss_cons (vs_setLc 3 true (own := [("_law_paper", 4), ("_law_block", 5)]) rfl nd (vi_enum rfl m_enumerate (va_cons (ve_var 3) va_nil)) (blkOk_by (by kernel_rfl)) (own_tup (own_cons (own_name (by decide)) (own_cons (own_name (by decide)) own_nil mono_name) mono_name)) (fun _ _ _ _ _ => (vg_tup rfl rfl (vgs_cons (vg_name 4 nd) (vgs_cons (vg_name 5 nd) vgs_nil)))) (fun _ _ _ _ _ => vts_nil) (fun _ _ _ _ _ => (ve_callB (call_max2 rfl) sc_max2 m_max (va_cons (ve_call (G_Lw_base.mono (by decide)) hr g_Lw_base kp_Lw_base b_Lw_base (va_cons (ve_var 0) (va_cons (ve_var 4) va_nil))) (va_cons (ve_var 5) va_nil)))))
  (vss_cons (vs_for PassesOwn.never rfl (vi_range1 m_range (va_cons (ve_callB (call_lenAA rfl) sc_lenA m_len (va_cons (ve_var 3) va_nil)) va_nil)) (vg_name 6 nd) (vss_one (vs_for PassesOwn.never rfl (vi_list rfl (ve_ix (ix_tupA rfl) sr_ixT (ve_var 0) ve_int)) (vg_name 7 nd) (vss_one (vs_asg (ve_callB (call_max2 rfl) sc_max2 m_max (va_cons (ve_ix (ix_listA rfl) sr_ixL (ve_var 3) (ve_ix (ix_tupA rfl) sr_ixT (ve_var 7) ve_int)) (va_cons (ve_op op_add sr_add (ve_ix (ix_listA rfl) sr_ixL (ve_var 3) (ve_ix (ix_tupA rfl) sr_ixT (ve_var 7) ve_int)) (ve_call (G_Lw_change.mono (by decide)) hr g_Lw_change kp_Lw_change b_Lw_change (va_cons (ve_var 0) (va_cons (ve_var 7) va_nil)))) va_nil))) (vg_subL (ve_var 3) (ve_ix (ix_tupA rfl) sr_ixT (ve_var 7) ve_int)))))))
  (vss_one (vs_ret (VF.frz (vf_lc (own := [("_law_block", 5), ("_law_late_here", 8)]) rfl nd (vi_zip rfl m_zip (va_cons (ve_var 3) (va_cons (ve_call (G_Lw_late.mono (by decide)) hr g_Lw_late kp_Lw_late b_Lw_late (va_cons (ve_var 0) (va_cons (ve_var 2) va_nil))) va_nil))) (blkOk_by (by kernel_rfl)) (own_tup (own_cons (own_name (by decide)) (own_cons (own_name (by decide)) own_nil mono_name) mono_name)) (fun _ _ _ _ _ => (vg_tup rfl rfl (vgs_cons (vg_name 5 nd) (vgs_cons (vg_name 8 nd) vgs_nil)))) (fun _ _ _ _ _ => vts_nil) (fun _ _ _ _ _ => (ve_callB (call_min2 rfl) sc_min2 m_min (va_cons (ve_var 5) (va_cons (ve_var 8) va_nil)))))))))))) v, g, F.kp, FunD.bindsN F fun _ _ _ _ _ _ us hl => match us, hl with | [_, _, _], _ => rfl, F⟩
abbrev s_Lw_plan : Stmt := top 53
theorem sc_Lw_plan : FnScope N_Lw_plan ["_law_bag_here", "_law_heap", "_law_top"] (defScope s_Lw_plan) := ⟨rfl, rfl, rfl, by decide +kernel, rfl, by decide +kernel, by decide +kernel⟩
theorem d_Lw_plan {f : Addr} {fd : FuncData} (F : FnD K "_law_plan" s_Lw_plan f fd) (g : mg "_law_plan" = some (.ref f)) {P_Lw_plan P_Lw_draw P_Lw_early P_Lw_late P_Lw_led : PV} (l : ∀ ds C Q, P_Lw_plan ds C Q → ds.length = 3) (v : ∀ ds C Q3, P_Lw_plan ds C Q3 → C.length = 1 → T_Lw_plan P_Lw_draw P_Lw_early P_Lw_late P_Lw_led (enF 1 Q3) (start3 N_Lw_plan ds) C) (C_Lw_draw : Cal P w K mg base 1 "_law_draw" s_Lw_draw ["_law_bag_here", "_law_many"] 1 P_Lw_draw) (C_Lw_early : Cal P w K mg base 2 "_law_early" s_Lw_early ["_law_heap"] 0 P_Lw_early) (C_Lw_late : Cal P w K mg base 2 "_law_late" s_Lw_late ["_law_heap", "_law_top"] 0 P_Lw_late) (C_Lw_led : Cal P w K mg base 3 "_law_led" s_Lw_led ["_law_heap", "_law_blocks", "_law_top"] 0 P_Lw_led) (m_zip : mg "zip" = none) : Cal P w K mg base 4 "_law_plan" s_Lw_plan ["_law_bag_here", "_law_heap", "_law_top"] 1 P_Lw_plan := by
  obtain ⟨f_Lw_draw, fd_Lw_draw, G_Lw_draw, g_Lw_draw, kp_Lw_draw, b_Lw_draw, F_Lw_draw⟩ := C_Lw_draw
  obtain ⟨f_Lw_early, fd_Lw_early, G_Lw_early, g_Lw_early, kp_Lw_early, b_Lw_early, F_Lw_early⟩ := C_Lw_early
  obtain ⟨f_Lw_late, fd_Lw_late, G_Lw_late, g_Lw_late, kp_Lw_late, b_Lw_late, F_Lw_late⟩ := C_Lw_late
  obtain ⟨f_Lw_led, fd_Lw_led, G_Lw_led, g_Lw_led, kp_Lw_led, b_Lw_led, F_Lw_led⟩ := C_Lw_led
  have nd : (N_Lw_plan).Nodup := sc_Lw_plan.nd
  exact ⟨f, fd, ok3 (T := T_Lw_plan P_Lw_draw P_Lw_early P_Lw_late P_Lw_led) F sc_Lw_plan l (fun cdv A outer s H E hr => (vss_cons (vs_set 3 nd (ve_callK (kf := kf1) (G_Lw_draw.mono (by decide)) hr g_Lw_draw kp_Lw_draw b_Lw_draw (va_cons (ve_var 0) (va_cons ve_int va_nil))))
  (vss_cons (vs_if (vt_cmp (op_eqA rfl hr.units) sr_eq (ve_var 3) ve_int (nomark _)) (vss_one (vs_ret (ve_call (G_Lw_early.mono (by decide)) hr g_Lw_early kp_Lw_early b_Lw_early (va_cons (ve_var 1) va_nil)))) vss_nil)
  (vss_cons (vs_if (vt_cmp (op_eqA rfl hr.units) sr_eq (ve_var 3) ve_int (nomark _)) (vss_one (vs_ret (ve_call (G_Lw_late.mono (by decide)) hr g_Lw_late kp_Lw_late b_Lw_late (va_cons (ve_var 1) (va_cons (ve_var 2) va_nil))))) vss_nil)
  (vss_cons (vs_par 4 5 rfl nd (va_cons (ve_call (G_Lw_early.mono (by decide)) hr g_Lw_early kp_Lw_early b_Lw_early (va_cons (ve_var 1) va_nil)) (va_cons (ve_call (G_Lw_late.mono (by decide)) hr g_Lw_late kp_Lw_late b_Lw_late (va_cons (ve_var 1) (va_cons (ve_var 2) va_nil))) va_nil)) (ps := fun h => ps_par rfl nd rfl rfl (by decide) rfl rfl h rfl))
  (vss_one (vs_ret (ve_call (G_Lw_led.mono (by decide)) hr g_Lw_led kp_Lw_led b_Lw_led (va_cons (ve_var 1) (va_cons (VF.frz (vf_lc (own := [("_law_one", 6), ("_law_two", 7)]) rfl nd (vi_zip rfl m_zip (va_cons (ve_var 4) (va_cons (ve_var 5) va_nil))) (blkOk_by (by kernel_rfl)) (own_tup (own_cons (own_name (by decide)) (own_cons (own_name (by decide)) own_nil mono_name) mono_name)) (fun _ _ _ _ _ => (vg_tup rfl rfl (vgs_cons (vg_name 6 nd) (vgs_cons (vg_name 7 nd) vgs_nil)))) (fun _ _ _ _ _ => vts_nil) (fun _ _ _ _ _ => (ve_op op_add sr_add (ve_var 6) (ve_callK (kf := kf1) (G_Lw_draw.mono (by decide)) hr g_Lw_draw kp_Lw_draw b_Lw_draw (va_cons (ve_var 0) (va_cons (ve_op op_add sr_add (ve_op op_sub sr_sub (ve_var 7) (ve_var 6)) ve_int) va_nil))))))) (va_cons (ve_var 2) va_nil))))))))))) v, g, F.kp, FunD.bindsN F fun _ _ _ _ _ _ us hl => match us, hl with | [_, _, _], _ => rfl, F⟩
abbrev s_is_stamp : Stmt := top 11
theorem sc_is_stamp : FnScope N_is_stamp ["thing"] (defScope s_is_stamp) := ⟨rfl, rfl, rfl, by decide +kernel, rfl, by decide +kernel, by decide +kernel⟩
theorem d_is_stamp {f : Addr} {fd : FuncData} (F : FnD K "is_stamp" s_is_stamp f fd) (g : mg "is_stamp" = some (.ref f)) {P_is_stamp : PV} (l : ∀ ds C Q, P_is_stamp ds C Q → ds.length = 1) (v : ∀ ds C Q3, P_is_stamp ds C Q3 → C.length = 0 → T_is_stamp (enF 0 Q3) (start3 N_is_stamp ds) C) (m_len : mg "len" = none) (m_isinstance : mg "isinstance" = none) (m_str : mg "str" = none) (c_STAMPS : ∃ t, mg "STAMPS" = some (.str "RB" t)) : Cal P w K mg base 1 "is_stamp" s_is_stamp ["thing"] 0 P_is_stamp := by
  have nd : (N_is_stamp).Nodup := sc_is_stamp.nd
  exact ⟨f, fd, ok3 (T := T_is_stamp) F sc_is_stamp l (fun cdv A outer s H E hr => (vss_one (vs_ret (ve_and (ve_isi .str rfl m_isinstance m_str (ve_var 0)) (ve_and (ve_cmp (op_eqA rfl hr.units) sr_eq (ve_callB (call_lenAA rfl) sc_lenA m_len (va_cons (ve_var 0) va_nil)) ve_int (nomark _)) (ve_one (ve_cmp (op_inA rfl (u65 hr)) sr_in (ve_var 0) (ve_gstr c_STAMPS) (by rfl)))))))) v, g, F.kp, FunD.bindsN F fun _ _ _ _ _ _ us hl => match us, hl with | [_], _ => rfl, F⟩
abbrev s_are_stamps : Stmt := top 12
theorem sc_are_stamps : FnScope N_are_stamps ["thing"] (defScope s_are_stamps) := ⟨rfl, rfl, rfl, by decide +kernel, rfl, by decide +kernel, by decide +kernel⟩
theorem d_are_stamps {f : Addr} {fd : FuncData} (F : FnD K "are_stamps" s_are_stamps f fd) (g : mg "are_stamps" = some (.ref f)) {P_are_stamps : PV} (l : ∀ ds C Q, P_are_stamps ds C Q → ds.length = 1) (v : ∀ ds C Q3, P_are_stamps ds C Q3 → C.length = 0 → T_are_stamps (enF 0 Q3) (start3 N_are_stamps ds) C) (m_all : mg "all" = none) (m_len : mg "len" = none) (m_isinstance : mg "isinstance" = none) (m_str : mg "str" = none) (c_STAMPS : ∃ t, mg "STAMPS" = some (.str "RB" t)) (c_MOST_PAPERS : ∃ t, mg "MOST_PAPERS" = some (.int 24 t)) : Cal P w K mg base 1 "are_stamps" s_are_stamps ["thing"] 0 P_are_stamps := by
  have nd : (N_are_stamps).Nodup := sc_are_stamps.nd
  exact ⟨f, fd, ok3 (T := T_are_stamps) F sc_are_stamps l (fun cdv A outer s H E hr => (vss_one (vs_ret (ve_and (ve_isi .str rfl m_isinstance m_str (ve_var 0)) (ve_and (ve_chain op_le sr_le op_le sr_le ve_int (ve_callB (call_lenAA rfl) sc_lenA m_len (va_cons (ve_var 0) va_nil)) (ve_gint c_MOST_PAPERS)) (ve_one (ve_callB (call_all rfl rfl) sc_all m_all (va_cons (VF.frz (vf_lc (own := [("sign", 1)]) rfl nd (vi_str (ve_var 0)) (blkOk_by (by kernel_rfl)) (own_name (by decide)) (fun _ _ _ _ _ => (vg_name 1 nd)) (fun _ _ _ _ _ => vts_nil) (fun _ _ _ _ _ => (ve_cmp (op_inA rfl (u65 hr)) sr_in (ve_var 1) (ve_gstr c_STAMPS) (by rfl))))) va_nil)))))))) v, g, F.kp, FunD.bindsN F fun _ _ _ _ _ _ us hl => match us, hl with | [_], _ => rfl, F⟩
abbrev s_is_between : Stmt := top 10
theorem sc_is_between : FnScope N_is_between ["thing", "least", "most"] (defScope s_is_between) := ⟨rfl, rfl, rfl, by decide +kernel, rfl, by decide +kernel, by decide +kernel⟩
theorem d_is_between {f : Addr} {fd : FuncData} (F : FnD K "is_between" s_is_between f fd) (g : mg "is_between" = some (.ref f)) {P_is_between : PV} (l : ∀ ds C Q, P_is_between ds C Q → ds.length = 3) (v : ∀ ds C Q3, P_is_between ds C Q3 → C.length = 0 → T_is_between (enF 0 Q3) (start3 N_is_between ds) C) (m_isinstance : mg "isinstance" = none) (m_bool : mg "bool" = none) (m_int : mg "int" = none) : Cal P w K mg base 1 "is_between" s_is_between ["thing", "least", "most"] 0 P_is_between := by
  have nd : (N_is_between).Nodup := sc_is_between.nd
  exact ⟨f, fd, ok3 (T := T_is_between) F sc_is_between l (fun cdv A outer s H E hr => (vss_one (vs_ret (ve_and (ve_isi .int rfl m_isinstance m_int (ve_var 0)) (ve_and (ve_not (ve_isi .bool rfl m_isinstance m_bool (ve_var 0))) (ve_one (ve_chain op_le sr_le op_le sr_le (ve_var 1) (ve_var 0) (ve_var 2)))))))) v, g, F.kp, FunD.bindsN F fun _ _ _ _ _ _ us hl => match us, hl with | [_, _, _], _ => rfl, F⟩
abbrev s_is_rule : Stmt := top 13
theorem sc_is_rule : FnScope N_is_rule ["thing", "many"] (defScope s_is_rule) := ⟨rfl, rfl, rfl, by decide +kernel, rfl, by decide +kernel, by decide +kernel⟩
theorem d_is_rule {f : Addr} {fd : FuncData} (F : FnD K "is_rule" s_is_rule f fd) (g : mg "is_rule" = some (.ref f)) {P_is_rule P_is_between : PV} (l : ∀ ds C Q, P_is_rule ds C Q → ds.length = 2) (v : ∀ ds C Q3, P_is_rule ds C Q3 → C.length = 0 → T_is_rule P_is_between (enF 0 Q3) (start3 N_is_rule ds) C) (C_is_between : Cal P w K mg base 1 "is_between" s_is_between ["thing", "least", "most"] 0 P_is_between) (m_all : mg "all" = none) (m_len : mg "len" = none) (m_isinstance : mg "isinstance" = none) (m_tuple : mg "tuple" = none) : Cal P w K mg base 2 "is_rule" s_is_rule ["thing", "many"] 0 P_is_rule := by
  obtain ⟨f_is_between, fd_is_between, G_is_between, g_is_between, kp_is_between, b_is_between, F_is_between⟩ := C_is_between
  have nd : (N_is_rule).Nodup := sc_is_rule.nd
  exact ⟨f, fd, ok3 (T := T_is_rule P_is_between) F sc_is_rule l (fun cdv A outer s H E hr => (vss_cons (vs_if (VW.vt (vw_or (vt_not (vt_val (ve_isi .tuple rfl m_isinstance m_tuple (ve_var 0)))) (vw_or (vt_cmp (op_neA rfl hr.units) sr_ne (ve_callB (call_lenAA rfl) sc_lenA m_len (va_cons (ve_var 0) va_nil)) ve_int (nomark _)) (vw_or1 (vt_not (vt_val (ve_callB (call_all rfl rfl) sc_all m_all (va_cons (VF.frz (vf_lc (own := [("one", 2)]) rfl nd (vi_tup rfl (ve_var 0)) (blkOk_by (by kernel_rfl)) (own_name (by decide)) (fun _ _ _ _ _ => (vg_name 2 nd)) (fun _ _ _ _ _ => vts_nil) (fun _ _ _ _ _ => (ve_call (G_is_between.mono (by decide)) hr g_is_between kp_is_between b_is_between (va_cons (ve_var 2) (va_cons ve_int (va_cons (ve_op op_sub sr_sub (ve_var 1) ve_int) va_nil))))))) va_nil)))))))) (vss_one (vs_ret ve_bl)) vss_nil)
  (vss_one (vs_ret (ve_cmp (op_neA rfl hr.units) sr_ne (ve_ix (ix_tupA rfl) sr_ixT (ve_var 0) ve_int) (ve_ix (ix_tupA rfl) sr_ixT (ve_var 0) ve_int) (nomark _)))))) v, g, F.kp, FunD.bindsN F fun _ _ _ _ _ _ us hl => match us, hl with | [_, _], _ => rfl, F⟩
abbrev s_are_rules : Stmt := top 14
theorem sc_are_rules : FnScope N_are_rules ["thing", "many"] (defScope s_are_rules) := ⟨rfl, rfl, rfl, by decide +kernel, rfl, by decide +kernel, by decide +kernel⟩
theorem d_are_rules {f : Addr} {fd : FuncData} (F : FnD K "are_rules" s_are_rules f fd) (g : mg "are_rules" = some (.ref f)) {P_are_rules P_is_rule : PV} (l : ∀ ds C Q, P_are_rules ds C Q → ds.length = 2) (v : ∀ ds C Q3, P_are_rules ds C Q3 → C.length = 0 → T_are_rules P_is_rule (enF 0 Q3) (start3 N_are_rules ds) C) (C_is_rule : Cal P w K mg base 2 "is_rule" s_is_rule ["thing", "many"] 0 P_is_rule) (m_all : mg "all" = none) (m_len : mg "len" = none) (m_isinstance : mg "isinstance" = none) (m_list : mg "list" = none) (m_zip : mg "zip" = none) (c_MOST_RULES : ∃ t, mg "MOST_RULES" = some (.int 60 t)) : Cal P w K mg base 3 "are_rules" s_are_rules ["thing", "many"] 0 P_are_rules := by
  obtain ⟨f_is_rule, fd_is_rule, G_is_rule, g_is_rule, kp_is_rule, b_is_rule, F_is_rule⟩ := C_is_rule
  have nd : (N_are_rules).Nodup := sc_are_rules.nd
  exact ⟨f, fd, ok3 (T := T_are_rules P_is_rule) F sc_are_rules l (fun cdv A outer s H E hr => (vss_cons (vs_if (VW.vt (vw_or (vt_not (vt_val (ve_isi .list rfl m_isinstance m_list (ve_var 0)))) (vw_or (vt_cmp op_gt sr_gt (ve_callB (call_lenAA rfl) sc_lenA m_len (va_cons (ve_var 0) va_nil)) (ve_gint c_MOST_RULES) (nomark _)) (vw_or1 (vt_not (vt_val (ve_callB (call_all rfl rfl) sc_all m_all (va_cons (VF.frz (vf_lc (own := [("one", 2)]) rfl nd (vi_list rfl (ve_var 0)) (blkOk_by (by kernel_rfl)) (own_name (by decide)) (fun _ _ _ _ _ => (vg_name 2 nd)) (fun _ _ _ _ _ => vts_nil) (fun _ _ _ _ _ => (ve_call (G_is_rule.mono (by decide)) hr g_is_rule kp_is_rule b_is_rule (va_cons (ve_var 2) (va_cons (ve_var 1) va_nil)))))) va_nil)))))))) (vss_one (vs_ret ve_bl)) vss_nil)
  (vss_one (vs_ret (ve_callB (call_all rfl rfl) sc_all m_all (va_cons (VF.frz (vf_lc (own := [("one", 2), ("other", 3)]) rfl nd (vi_zip rfl m_zip (va_cons (ve_var 0) (va_cons (VF.frz (vf_slL rfl (ve_var 0) (vo_some ve_int) vo_none)) va_nil))) (blkOk_by (by kernel_rfl)) (own_tup (own_cons (own_name (by decide)) (own_cons (own_name (by decide)) own_nil mono_name) mono_name)) (fun _ _ _ _ _ => (vg_tup rfl rfl (vgs_cons (vg_name 2 nd) (vgs_cons (vg_name 3 nd) vgs_nil)))) (fun _ _ _ _ _ => vts_nil) (fun _ _ _ _ _ => (ve_cmp (op_ltTA rfl hr.rm.units0) sr_ltT (ve_var 2) (ve_var 3) (nomark _))))) va_nil)))))) v, g, F.kp, FunD.bindsN F fun _ _ _ _ _ _ us hl => match us, hl with | [_, _], _ => rfl, F⟩
abbrev s_is_heap : Stmt := top 15
theorem sc_is_heap : FnScope N_is_heap ["thing"] (defScope s_is_heap) := ⟨rfl, rfl, rfl, by decide +kernel, rfl, by decide +kernel, by decide +kernel⟩
theorem d_is_heap {f : Addr} {fd : FuncData} (F : FnD K "is_heap" s_is_heap f fd) (g : mg "is_heap" = some (.ref f)) {P_is_heap P_are_rules P_are_stamps P_is_stamp : PV} (l : ∀ ds C Q, P_is_heap ds C Q → ds.length = 1) (v : ∀ ds C Q3, P_is_heap ds C Q3 → C.length = 0 → T_is_heap P_are_rules P_are_stamps P_is_stamp (enF 0 Q3) (start3 N_is_heap ds) C) (C_are_rules : Cal P w K mg base 3 "are_rules" s_are_rules ["thing", "many"] 0 P_are_rules) (C_are_stamps : Cal P w K mg base 1 "are_stamps" s_are_stamps ["thing"] 0 P_are_stamps) (C_is_stamp : Cal P w K mg base 1 "is_stamp" s_is_stamp ["thing"] 0 P_is_stamp) (m_len : mg "len" = none) (m_isinstance : mg "isinstance" = none) (m_tuple : mg "tuple" = none) : Cal P w K mg base 4 "is_heap" s_is_heap ["thing"] 0 P_is_heap := by
  obtain ⟨f_are_rules, fd_are_rules, G_are_rules, g_are_rules, kp_are_rules, b_are_rules, F_are_rules⟩ := C_are_rules
  obtain ⟨f_are_stamps, fd_are_stamps, G_are_stamps, g_are_stamps, kp_are_stamps, b_are_stamps, F_are_stamps⟩ := C_are_stamps
  obtain ⟨f_is_stamp, fd_is_stamp, G_is_stamp, g_is_stamp, kp_is_stamp, b_is_stamp, F_is_stamp⟩ := C_is_stamp
  have nd : (N_is_heap).Nodup := sc_is_heap.nd
  exact ⟨f, fd, ok3 (T := T_is_heap P_are_rules P_are_stamps P_is_stamp) F sc_is_heap l (fun cdv A outer s H E hr => (vss_cons (vs_if (VW.vt (vw_or (vt_not (vt_val (ve_isi .tuple rfl m_isinstance m_tuple (ve_var 0)))) (vw_or1 (vt_cmp (op_neA rfl hr.units) sr_ne (ve_callB (call_lenAA rfl) sc_lenA m_len (va_cons (ve_var 0) va_nil)) ve_int (nomark _))))) (vss_one (vs_ret ve_bl)) vss_nil)
  (vss_one (vs_ret (ve_and (ve_call (G_is_stamp.mono (by decide)) hr g_is_stamp kp_is_stamp b_is_stamp (va_cons (ve_ix (ix_tupA rfl) sr_ixT (ve_var 0) ve_int) va_nil)) (ve_and (ve_call (G_are_stamps.mono (by decide)) hr g_are_stamps kp_are_stamps b_are_stamps (va_cons (ve_ix (ix_tupA rfl) sr_ixT (ve_var 0) ve_int) va_nil)) (ve_one (ve_call (G_are_rules.mono (by decide)) hr g_are_rules kp_are_rules b_are_rules (va_cons (ve_ix (ix_tupA rfl) sr_ixT (ve_var 0) ve_int) (va_cons (ve_callB (call_lenAA rfl) sc_lenA m_len (va_cons (ve_ix (ix_tupA rfl) sr_ixT (ve_var 0) ve_int) va_nil)) va_nil)))))))))) v, g, F.kp, FunD.bindsN F fun _ _ _ _ _ _ us hl => match us, hl with | [_], _ => rfl, F⟩
abbrev s_straight_behind : Stmt := top 16
theorem sc_straight_behind : FnScope N_straight_behind ["many", "rules"] (defScope s_straight_behind) := ⟨rfl, rfl, rfl, by decide +kernel, rfl, by decide +kernel, by decide +kernel⟩
theorem d_straight_behind {f : Addr} {fd : FuncData} (F : FnD K "straight_behind" s_straight_behind f fd) (g : mg "straight_behind" = some (.ref f)) {P_straight_behind : PV} (l : ∀ ds C Q, P_straight_behind ds C Q → ds.length = 2) (v : ∀ ds C Q3, P_straight_behind ds C Q3 → C.length = 0 → T_straight_behind (enF 0 Q3) (start3 N_straight_behind ds) C) (m_range : mg "range" = none) : Cal P w K mg base 1 "straight_behind" s_straight_behind ["many", "rules"] 0 P_straight_behind := by
  have nd : (N_straight_behind).Nodup := sc_straight_behind.nd
  exact ⟨f, fd, ok3 (T := T_straight_behind) F sc_straight_behind l (fun cdv A outer s H E hr => (vss_cons (vs_setLc 2 true (own := [("paper", 3)]) rfl nd (vi_range1 m_range (va_cons (ve_var 0) va_nil)) (blkOk_by (by kernel_rfl)) (own_name (by decide)) (fun _ _ _ _ _ => (vg_name 3 nd)) (fun _ _ _ _ _ => vts_nil) (fun _ _ _ _ _ => (VF.cell (vf_lst va_nil))))
  (vss_cons (vs_for PassesOwn.never rfl (vi_list rfl (ve_var 1)) (vg_tup rfl rfl (vgs_cons (vg_name 3 nd) (vgs_cons (vg_name 4 nd) vgs_nil))) (vss_one (vs_expr (ve_ml rfl PySem.F.plainAttrs_list PySem.F.slot_list_append PySem.F.type_list_append mt_append sm_append (ve_ix (ix_listA rfl) sr_ixL (ve_var 2) (ve_var 3)) (va_cons (ve_var 4) va_nil)))))
  (vss_one (vs_ret (ve_var 2)))))) v, g, F.kp, FunD.bindsN F fun _ _ _ _ _ _ us hl => match us, hl with | [_, _], _ => rfl, F⟩
abbrev s_ordered : Stmt := top 17
theorem sc_ordered : FnScope N_ordered ["many", "rules"] (defScope s_ordered) := ⟨rfl, rfl, rfl, by decide +kernel, rfl, by decide +kernel, by decide +kernel⟩
theorem d_ordered {f : Addr} {fd : FuncData} (F : FnD K "ordered" s_ordered f fd) (g : mg "ordered" = some (.ref f)) {P_ordered P_straight_behind : PV} (l : ∀ ds C Q, P_ordered ds C Q → ds.length = 2) (v : ∀ ds C Q3, P_ordered ds C Q3 → C.length = 0 → T_ordered P_straight_behind (enF 0 Q3) (start3 N_ordered ds) C) (C_straight_behind : Cal P w K mg base 1 "straight_behind" s_straight_behind ["many", "rules"] 0 P_straight_behind) (m_range : mg "range" = none) (m_min : mg "min" = none) : Cal P w K mg base 2 "ordered" s_ordered ["many", "rules"] 0 P_ordered := by
  obtain ⟨f_straight_behind, fd_straight_behind, G_straight_behind, g_straight_behind, kp_straight_behind, b_straight_behind, F_straight_behind⟩ := C_straight_behind
  have nd : (N_ordered).Nodup := sc_ordered.nd
  exact ⟨f, fd, ok3 (T := T_ordered P_straight_behind) F sc_ordered l (fun cdv A outer s H E hr => (vss_cons (vs_set 2 nd (VF.cell (vf_lst va_nil)))
  (vss_cons (vs_set 3 nd (VF.cell (vf_op op_repR sf_rep (VF.frz (vf_lst (va_cons ve_int va_nil))) (ve_var 0))))
  (vss_cons (vs_for PassesOwn.never rfl (vi_list rfl (ve_var 1)) (vg_tup rfl rfl (vgs_cons (vg_name 4 nd) (vgs_cons (vg_name 5 nd) vgs_nil))) (vss_one (vs_augL rfl (ve_var 3) (ve_var 5) ip_add sr_ipI ve_int)))
  (vss_cons (vs_set 6 nd (ve_call (G_straight_behind.mono (by decide)) hr g_straight_behind kp_straight_behind b_straight_behind (va_cons (ve_var 0) (va_cons (ve_var 1) va_nil))))
  (vss_cons (vs_setLc 7 true (own := [("paper", 4)]) rfl nd (vi_range1 m_range (va_cons (ve_var 0) va_nil)) (blkOk_by (by kernel_rfl)) (own_name (by decide)) (fun _ _ _ _ _ => (vg_name 4 nd)) (fun _ _ _ _ _ => (vts_one (vt_cmp (op_eqA rfl hr.units) sr_eq (ve_ix (ix_listA rfl) sr_ixL (ve_var 3) (ve_var 4)) ve_int (nomark _)))) (fun _ _ _ _ _ => (ve_var 4)))
  (vss_cons (vs_while PassesOwn.never (vt_cmp (op_neA rfl hr.units) sr_ne (ve_var 7) (VF.frz (vf_lst va_nil)) (nomark _)) (vss_cons (vs_set 4 nd (ve_callB (call_minL rfl rfl) sc_minL m_min (va_cons (ve_var 7) va_nil)))
  (vss_cons (vs_expr (ve_ml rfl PySem.F.plainAttrs_list PySem.F.slot_list_remove PySem.F.type_list_remove mt_remove sm_remove (ve_var 7) (va_cons (ve_var 4) va_nil)))
  (vss_cons (vs_expr (ve_ml rfl PySem.F.plainAttrs_list PySem.F.slot_list_append PySem.F.type_list_append mt_append sm_append (ve_var 2) (va_cons (ve_var 4) va_nil)))
  (vss_one (vs_for PassesOwn.never rfl (vi_list rfl (ve_ix (ix_listA rfl) sr_ixL (ve_var 6) (ve_var 4))) (vg_name 5 nd) (vss_cons (vs_augL rfl (ve_var 3) (ve_var 5) ip_sub sr_ipI ve_int)
  (vss_one (vs_if (vt_cmp (op_eqA rfl hr.units) sr_eq (ve_ix (ix_listA rfl) sr_ixL (ve_var 3) (ve_var 5)) ve_int (nomark _)) (vss_one (vs_expr (ve_ml rfl PySem.F.plainAttrs_list PySem.F.slot_list_append PySem.F.type_list_append mt_append sm_append (ve_var 7) (va_cons (ve_var 5) va_nil)))) vss_nil)))))))))
  (vss_one (vs_ret (ve_var 2)))))))))) v, g, F.kp, FunD.bindsN F fun _ _ _ _ _ _ us hl => match us, hl with | [_, _], _ => rfl, F⟩
abbrev s_ring_by : Stmt := top 18
theorem sc_ring_by : FnScope N_ring_by ["many", "rules"] (defScope s_ring_by) := ⟨rfl, rfl, rfl, by decide +kernel, rfl, by decide +kernel, by decide +kernel⟩
theorem d_ring_by {f : Addr} {fd : FuncData} (F : FnD K "ring_by" s_ring_by f fd) (g : mg "ring_by" = some (.ref f)) {P_ring_by P_ordered : PV} (l : ∀ ds C Q, P_ring_by ds C Q → ds.length = 2) (v : ∀ ds C Q3, P_ring_by ds C Q3 → C.length = 0 → T_ring_by P_ordered (enF 0 Q3) (start3 N_ring_by ds) C) (C_ordered : Cal P w K mg base 2 "ordered" s_ordered ["many", "rules"] 0 P_ordered) (m_range : mg "range" = none) (m_min : mg "min" = none) : Cal P w K mg base 3 "ring_by" s_ring_by ["many", "rules"] 0 P_ring_by := by
  obtain ⟨f_ordered, fd_ordered, G_ordered, g_ordered, kp_ordered, b_ordered, F_ordered⟩ := C_ordered
  have nd : (N_ring_by).Nodup := sc_ring_by.nd
  exact ⟨f, fd, ok3 (T := T_ring_by P_ordered) F sc_ring_by l (fun cdv A outer s H E hr => (vss_cons (vs_set 2 nd (ve_call (G_ordered.mono (by decide)) hr g_ordered kp_ordered b_ordered (va_cons (ve_var 0) (va_cons (ve_var 1) va_nil))))
  (vss_cons (vs_set 3 nd (VF.frz (vf_lc (own := [("paper", 4)]) rfl nd (vi_range1 m_range (va_cons (ve_var 0) va_nil)) (blkOk_by (by kernel_rfl)) (own_name (by decide)) (fun _ _ _ _ _ => (vg_name 4 nd)) (fun _ _ _ _ _ => (vts_one (vt_cmp (op_notInA rfl (u65 hr)) sr_notIn (ve_var 4) (ve_var 2) (by rfl)))) (fun _ _ _ _ _ => (ve_var 4)))))
  (vss_cons (vs_if (vt_cmp (op_eqA rfl hr.units) sr_eq (ve_var 3) (VF.frz (vf_lst va_nil)) (nomark _)) (vss_one (vs_ret ve_non)) vss_nil)
  (vss_cons (vs_set 5 nd (VF.cell (vf_lst (va_cons (ve_ix (ix_listA rfl) sr_ixL (ve_var 3) ve_int) va_nil))))
  (vss_cons (vs_while PassesOwn.never (vt_cmp op_lt sr_lt (ve_ml rfl PySem.F.plainAttrs_list PySem.F.slot_list_count PySem.F.type_list_count (mt_countA rfl) sm_count (ve_var 5) (va_cons (ve_ix (ix_listA rfl) sr_ixL (ve_var 5) (ve_un un_neg su_neg ve_int)) va_nil)) ve_int (nomark _)) (vss_one (vs_expr (ve_ml rfl PySem.F.plainAttrs_list PySem.F.slot_list_append PySem.F.type_list_append mt_append sm_append (ve_var 5) (va_cons (ve_ix (ix_listA rfl) sr_ixL (VF.frz (vf_lc (own := [("paper", 4), ("other", 6)]) rfl nd (vi_list rfl (ve_var 1)) (blkOk_by (by kernel_rfl)) (own_tup (own_cons (own_name (by decide)) (own_cons (own_name (by decide)) own_nil mono_name) mono_name)) (fun _ _ _ _ _ => (vg_tup rfl rfl (vgs_cons (vg_name 4 nd) (vgs_cons (vg_name 6 nd) vgs_nil)))) (fun _ _ _ _ _ => (vts_one (VW.vt (vw_and (vt_cmp (op_eqA rfl hr.units) sr_eq (ve_var 6) (ve_ix (ix_listA rfl) sr_ixL (ve_var 5) (ve_un un_neg su_neg ve_int)) (nomark _)) (vw_and1 (vt_cmp (op_inA rfl (u65 hr)) sr_in (ve_var 4) (ve_var 3) (by rfl))))))) (fun _ _ _ _ _ => (ve_var 4)))) ve_int) va_nil)))))
  (vss_cons (vs_set 7 nd (VF.frz (vf_rev rfl (VF.frz (vf_slL rfl (ve_var 5) (vo_some (ve_op op_add sr_add (ve_ml rfl PySem.F.plainAttrs_list PySem.F.slot_list_index PySem.F.type_list_index (mt_indexA rfl) sm_index (ve_var 5) (va_cons (ve_ix (ix_listA rfl) sr_ixL (ve_var 5) (ve_un un_neg su_neg ve_int)) va_nil)) ve_int)) vo_none)))))
  (vss_cons (vs_set 8 nd (ve_ml rfl PySem.F.plainAttrs_list PySem.F.slot_list_index PySem.F.type_list_index (mt_indexA rfl) sm_index (ve_var 7) (va_cons (ve_callB (call_minL rfl rfl) sc_minL m_min (va_cons (ve_var 7) va_nil)) va_nil)))
  (vss_one (vs_ret (VF.frz (vf_op op_catR sf_cat (VF.frz (vf_slL rfl (ve_var 7) (vo_some (ve_var 8)) vo_none)) (VF.frz (vf_slL rfl (ve_var 7) vo_none (vo_some (ve_var 8)))))))))))))))) v, g, F.kp, FunD.bindsN F fun _ _ _ _ _ _ us hl => match us, hl with | [_, _], _ => rfl, F⟩
abbrev s_is_pile : Stmt := top 19
theorem sc_is_pile : FnScope N_is_pile ["thing"] (defScope s_is_pile) := ⟨rfl, rfl, rfl, by decide +kernel, rfl, by decide +kernel, by decide +kernel⟩
theorem d_is_pile {f : Addr} {fd : FuncData} (F : FnD K "is_pile" s_is_pile f fd) (g : mg "is_pile" = some (.ref f)) {P_is_pile P_ring_by P_is_heap : PV} (l : ∀ ds C Q, P_is_pile ds C Q → ds.length = 1) (v : ∀ ds C Q3, P_is_pile ds C Q3 → C.length = 0 → T_is_pile P_ring_by P_is_heap (enF 0 Q3) (start3 N_is_pile ds) C) (C_ring_by : Cal P w K mg base 3 "ring_by" s_ring_by ["many", "rules"] 0 P_ring_by) (C_is_heap : Cal P w K mg base 4 "is_heap" s_is_heap ["thing"] 0 P_is_heap) (m_len : mg "len" = none) : Cal P w K mg base 5 "is_pile" s_is_pile ["thing"] 0 P_is_pile := by
  obtain ⟨f_ring_by, fd_ring_by, G_ring_by, g_ring_by, kp_ring_by, b_ring_by, F_ring_by⟩ := C_ring_by
  obtain ⟨f_is_heap, fd_is_heap, G_is_heap, g_is_heap, kp_is_heap, b_is_heap, F_is_heap⟩ := C_is_heap
  have nd : (N_is_pile).Nodup := sc_is_pile.nd
  exact ⟨f, fd, ok3 (T := T_is_pile P_ring_by P_is_heap) F sc_is_pile l (fun cdv A outer s H E hr => (vss_one (vs_ret (ve_and (ve_call (G_is_heap.mono (by decide)) hr g_is_heap kp_is_heap b_is_heap (va_cons (ve_var 0) va_nil)) (ve_one (ve_cmp op_isN sr_isN (ve_call (G_ring_by.mono (by decide)) hr g_ring_by kp_ring_by b_ring_by (va_cons (ve_callB (call_lenAA rfl) sc_lenA m_len (va_cons (ve_ix (ix_tupA rfl) sr_ixT (ve_var 0) ve_int) va_nil)) (va_cons (ve_ix (ix_tupA rfl) sr_ixT (ve_var 0) ve_int) va_nil))) ve_non (nomark _))))))) v, g, F.kp, FunD.bindsN F fun _ _ _ _ _ _ us hl => match us, hl with | [_], _ => rfl, F⟩
abbrev s_need_pile : Stmt := top 20
theorem sc_need_pile : FnScope N_need_pile ["pile"] (defScope s_need_pile) := ⟨rfl, rfl, rfl, by decide +kernel, rfl, by decide +kernel, by decide +kernel⟩
theorem d_need_pile {f : Addr} {fd : FuncData} (F : FnD K "need_pile" s_need_pile f fd) (g : mg "need_pile" = some (.ref f)) {P_need_pile P_is_pile : PV} (l : ∀ ds C Q, P_need_pile ds C Q → ds.length = 1) (v : ∀ ds C Q3, P_need_pile ds C Q3 → C.length = 0 → T_need_pile P_is_pile (enF 0 Q3) (start3 N_need_pile ds) C) (C_is_pile : Cal P w K mg base 5 "is_pile" s_is_pile ["thing"] 0 P_is_pile) : Cal P w K mg base 6 "need_pile" s_need_pile ["pile"] 0 P_need_pile := by
  obtain ⟨f_is_pile, fd_is_pile, G_is_pile, g_is_pile, kp_is_pile, b_is_pile, F_is_pile⟩ := C_is_pile
  have nd : (N_need_pile).Nodup := sc_need_pile.nd
  exact ⟨f, fd, ok3 (T := T_need_pile P_is_pile) F sc_need_pile l (fun cdv A outer s H E hr => (vss_one (vs_if (vt_not (vt_val (ve_call (G_is_pile.mono (by decide)) hr g_is_pile kp_is_pile b_is_pile (va_cons (ve_var 0) va_nil)))) (vss_one vs_never) vss_nil))) v, g, F.kp, FunD.bindsN F fun _ _ _ _ _ _ us hl => match us, hl with | [_], _ => rfl, F⟩
abbrev s_in_order : Stmt := top 23
theorem sc_in_order : FnScope N_in_order ["pile"] (defScope s_in_order) := ⟨rfl, rfl, rfl, by decide +kernel, rfl, by decide +kernel, by decide +kernel⟩
theorem d_in_order {f : Addr} {fd : FuncData} (F : FnD K "in_order" s_in_order f fd) (g : mg "in_order" = some (.ref f)) {P_in_order P_ordered : PV} (l : ∀ ds C Q, P_in_order ds C Q → ds.length = 1) (v : ∀ ds C Q3, P_in_order ds C Q3 → C.length = 0 → T_in_order P_ordered (enF 0 Q3) (start3 N_in_order ds) C) (C_ordered : Cal P w K mg base 2 "ordered" s_ordered ["many", "rules"] 0 P_ordered) (m_len : mg "len" = none) : Cal P w K mg base 3 "in_order" s_in_order ["pile"] 0 P_in_order := by
  obtain ⟨f_ordered, fd_ordered, G_ordered, g_ordered, kp_ordered, b_ordered, F_ordered⟩ := C_ordered
  have nd : (N_in_order).Nodup := sc_in_order.nd
  exact ⟨f, fd, ok3 (T := T_in_order P_ordered) F sc_in_order l (fun cdv A outer s H E hr => (vss_one (vs_ret (ve_call (G_ordered.mono (by decide)) hr g_ordered kp_ordered b_ordered (va_cons (ve_callB (call_lenAA rfl) sc_lenA m_len (va_cons (ve_ix (ix_tupA rfl) sr_ixT (ve_var 0) ve_int) va_nil)) (va_cons (ve_ix (ix_tupA rfl) sr_ixT (ve_var 0) ve_int) va_nil)))))) v, g, F.kp, FunD.bindsN F fun _ _ _ _ _ _ us hl => match us, hl with | [_], _ => rfl, F⟩
abbrev s_base_of : Stmt := top 21
theorem sc_base_of : FnScope N_base_of ["pile", "paper"] (defScope s_base_of) := ⟨rfl, rfl, rfl, by decide +kernel, rfl, by decide +kernel, by decide +kernel⟩
theorem d_base_of {f : Addr} {fd : FuncData} (F : FnD K "base_of" s_base_of f fd) (g : mg "base_of" = some (.ref f)) {P_base_of : PV} (l : ∀ ds C Q, P_base_of ds C Q → ds.length = 2) (v : ∀ ds C Q3, P_base_of ds C Q3 → C.length = 0 → T_base_of (enF 0 Q3) (start3 N_base_of ds) C) (m_int : mg "int" = none) : Cal P w K mg base 1 "base_of" s_base_of ["pile", "paper"] 0 P_base_of := by
  have nd : (N_base_of).Nodup := sc_base_of.nd
  exact ⟨f, fd, ok3 (T := T_base_of) F sc_base_of l (fun cdv A outer s H E hr => (vss_one (vs_ret (ve_callTy call_int1 sc_int m_int (va_cons (ve_cmp (op_neA rfl hr.units) sr_ne (ve_ix ix_str sr_ixS (ve_ix (ix_tupA rfl) sr_ixT (ve_var 0) ve_int) (ve_var 1)) (ve_ix (ix_tupA rfl) sr_ixT (ve_var 0) ve_int) (nomark _)) va_nil))))) v, g, F.kp, FunD.bindsN F fun _ _ _ _ _ _ us hl => match us, hl with | [_, _], _ => rfl, F⟩
abbrev s_change : Stmt := top 22
theorem sc_change : FnScope N_change ["pile", "paper", "other"] (defScope s_change) := ⟨rfl, rfl, rfl, by decide +kernel, rfl, by decide +kernel, by decide +kernel⟩
theorem d_change {f : Addr} {fd : FuncData} (F : FnD K "change" s_change f fd) (g : mg "change" = some (.ref f)) {P_change : PV} (l : ∀ ds C Q, P_change ds C Q → ds.length = 3) (v : ∀ ds C Q3, P_change ds C Q3 → C.length = 0 → T_change (enF 0 Q3) (start3 N_change ds) C) (m_int : mg "int" = none) : Cal P w K mg base 1 "change" s_change ["pile", "paper", "other"] 0 P_change := by
  have nd : (N_change).Nodup := sc_change.nd
  exact ⟨f, fd, ok3 (T := T_change) F sc_change l (fun cdv A outer s H E hr => (vss_one (vs_ret (ve_callTy call_int1 sc_int m_int (va_cons (ve_cmp (op_neA rfl hr.units) sr_ne (ve_ix ix_str sr_ixS (ve_ix (ix_tupA rfl) sr_ixT (ve_var 0) ve_int) (ve_var 1)) (ve_ix ix_str sr_ixS (ve_ix (ix_tupA rfl) sr_ixT (ve_var 0) ve_int) (ve_var 2)) (nomark _)) va_nil))))) v, g, F.kp, FunD.bindsN F fun _ _ _ _ _ _ us hl => match us, hl with | [_, _, _], _ => rfl, F⟩
abbrev s_earliest_of : Stmt := top 25
theorem sc_earliest_of : FnScope N_earliest_of ["pile"] (defScope s_earliest_of) := ⟨rfl, rfl, rfl, by decide +kernel, rfl, by decide +kernel, by decide +kernel⟩
theorem d_earliest_of {f : Addr} {fd : FuncData} (F : FnD K "earliest_of" s_earliest_of f fd) (g : mg "earliest_of" = some (.ref f)) {P_earliest_of P_base_of P_in_order P_change : PV} (l : ∀ ds C Q, P_earliest_of ds C Q → ds.length = 1) (v : ∀ ds C Q3, P_earliest_of ds C Q3 → C.length = 0 → T_earliest_of P_base_of P_in_order P_change (enF 0 Q3) (start3 N_earliest_of ds) C) (C_base_of : Cal P w K mg base 1 "base_of" s_base_of ["pile", "paper"] 0 P_base_of) (C_in_order : Cal P w K mg base 3 "in_order" s_in_order ["pile"] 0 P_in_order) (C_change : Cal P w K mg base 1 "change" s_change ["pile", "paper", "other"] 0 P_change) (m_len : mg "len" = none) (m_range : mg "range" = none) (m_max : mg "max" = none) : Cal P w K mg base 4 "earliest_of" s_earliest_of ["pile"] 0 P_earliest_of := by
  obtain ⟨f_base_of, fd_base_of, G_base_of, g_base_of, kp_base_of, b_base_of, F_base_of⟩ := C_base_of
  obtain ⟨f_in_order, fd_in_order, G_in_order, g_in_order, kp_in_order, b_in_order, F_in_order⟩ := C_in_order
  obtain ⟨f_change, fd_change, G_change, g_change, kp_change, b_change, F_change⟩ := C_change
  have nd : (N_earliest_of).Nodup := sc_earliest_of.nd
  exact ⟨f, fd, ok3 (T := T_earliest_of P_base_of P_in_order P_change) F sc_earliest_of l (fun cdv A outer s H E hr => (vss_cons (vs_setLc 1 true (own := [("paper", 2)]) rfl nd (vi_range1 m_range (va_cons (ve_callB (call_lenAA rfl) sc_lenA m_len (va_cons (ve_ix (ix_tupA rfl) sr_ixT (ve_var 0) ve_int) va_nil)) va_nil)) (blkOk_by (by kernel_rfl)) (own_name (by decide)) (fun _ _ _ _ _ => (vg_name 2 nd)) (fun _ _ _ _ _ => vts_nil) (fun _ _ _ _ _ => (ve_call (G_base_of.mono (by decide)) hr g_base_of kp_base_of b_base_of (va_cons (ve_var 0) (va_cons (ve_var 2) va_nil)))))
  (vss_cons (vs_for PassesOwn.never rfl (vi_list rfl (ve_call (G_in_order.mono (by decide)) hr g_in_order kp_in_order b_in_order (va_cons (ve_var 0) va_nil))) (vg_name 2 nd) (vss_one (vs_for PassesOwn.never rfl (vi_list rfl (ve_ix (ix_tupA rfl) sr_ixT (ve_var 0) ve_int)) (vg_tup rfl rfl (vgs_cons (vg_name 3 nd) (vgs_cons (vg_name 4 nd) vgs_nil))) (vss_one (vs_if (vt_cmp (op_eqA rfl hr.units) sr_eq (ve_var 3) (ve_var 2) (nomark _)) (vss_one (vs_asg (ve_callB (call_max2 rfl) sc_max2 m_max (va_cons (ve_ix (ix_listA rfl) sr_ixL (ve_var 1) (ve_var 4)) (va_cons (ve_op op_add sr_add (ve_ix (ix_listA rfl) sr_ixL (ve_var 1) (ve_var 3)) (ve_call (G_change.mono (by decide)) hr g_change kp_change b_change (va_cons (ve_var 0) (va_cons (ve_var 3) (va_cons (ve_var 4) va_nil))))) va_nil))) (vg_subL (ve_var 1) (ve_var 4)))) vss_nil)))))
  (vss_one (vs_ret (ve_var 1)))))) v, g, F.kp, FunD.bindsN F fun _ _ _ _ _ _ us hl => match us, hl with | [_], _ => rfl, F⟩
abbrev s_need_most : Stmt := top 29
theorem sc_need_most : FnScope N_need_most ["pile", "most"] (defScope s_need_most) := ⟨rfl, rfl, rfl, by decide +kernel, rfl, by decide +kernel, by decide +kernel⟩
theorem d_need_most {f : Addr} {fd : FuncData} (F : FnD K "need_most" s_need_most f fd) (g : mg "need_most" = some (.ref f)) {P_need_most P_is_between P_earliest_of : PV} (l : ∀ ds C Q, P_need_most ds C Q → ds.length = 2) (v : ∀ ds C Q3, P_need_most ds C Q3 → C.length = 0 → T_need_most P_is_between P_earliest_of (enF 0 Q3) (start3 N_need_most ds) C) (C_is_between : Cal P w K mg base 1 "is_between" s_is_between ["thing", "least", "most"] 0 P_is_between) (C_earliest_of : Cal P w K mg base 4 "earliest_of" s_earliest_of ["pile"] 0 P_earliest_of) (m_max : mg "max" = none) (c_FARTHEST : ∃ t, mg "FARTHEST" = some (.int 1000000000000000000000000000000 t)) : Cal P w K mg base 5 "need_most" s_need_most ["pile", "most"] 0 P_need_most := by
  obtain ⟨f_is_between, fd_is_between, G_is_between, g_is_between, kp_is_between, b_is_between, F_is_between⟩ := C_is_between
  obtain ⟨f_earliest_of, fd_earliest_of, G_earliest_of, g_earliest_of, kp_earliest_of, b_earliest_of, F_earliest_of⟩ := C_earliest_of
  have nd : (N_need_most).Nodup := sc_need_most.nd
  exact ⟨f, fd, ok3 (T := T_need_most P_is_between P_earliest_of) F sc_need_most l (fun cdv A outer s H E hr => (vss_cons (vs_if (vt_not (vt_val (ve_call (G_is_between.mono (by decide)) hr g_is_between kp_is_between b_is_between (va_cons (ve_var 1) (va_cons ve_int (va_cons (ve_gint c_FARTHEST) va_nil)))))) (vss_one vs_never) vss_nil)
  (vss_cons (vs_set 2 nd (ve_callB (call_maxL rfl rfl) sc_maxL m_max (va_cons (ve_call (G_earliest_of.mono (by decide)) hr g_earliest_of kp_earliest_of b_earliest_of (va_cons (ve_var 0) va_nil)) va_nil)))
  (vss_one (vs_if (vt_cmp op_lt sr_lt (ve_var 1) (ve_var 2) (nomark _)) (vss_one vs_never) vss_nil))))) v, g, F.kp, FunD.bindsN F fun _ _ _ _ _ _ us hl => match us, hl with | [_, _], _ => rfl, F⟩
abbrev s_to_come : Stmt := top 26
theorem sc_to_come : FnScope N_to_come ["pile"] (defScope s_to_come) := ⟨rfl, rfl, rfl, by decide +kernel, rfl, by decide +kernel, by decide +kernel⟩
theorem d_to_come {f : Addr} {fd : FuncData} (F : FnD K "to_come" s_to_come f fd) (g : mg "to_come" = some (.ref f)) {P_to_come P_in_order P_change : PV} (l : ∀ ds C Q, P_to_come ds C Q → ds.length = 1) (v : ∀ ds C Q3, P_to_come ds C Q3 → C.length = 0 → T_to_come P_in_order P_change (enF 0 Q3) (start3 N_to_come ds) C) (C_in_order : Cal P w K mg base 3 "in_order" s_in_order ["pile"] 0 P_in_order) (C_change : Cal P w K mg base 1 "change" s_change ["pile", "paper", "other"] 0 P_change) (m_len : mg "len" = none) (m_max : mg "max" = none) : Cal P w K mg base 4 "to_come" s_to_come ["pile"] 0 P_to_come := by
  obtain ⟨f_in_order, fd_in_order, G_in_order, g_in_order, kp_in_order, b_in_order, F_in_order⟩ := C_in_order
  obtain ⟨f_change, fd_change, G_change, g_change, kp_change, b_change, F_change⟩ := C_change
  have nd : (N_to_come).Nodup := sc_to_come.nd
  exact ⟨f, fd, ok3 (T := T_to_come P_in_order P_change) F sc_to_come l (fun cdv A outer s H E hr => (vss_cons (vs_set 1 nd (VF.cell (vf_op op_repR sf_rep (VF.frz (vf_lst (va_cons ve_int va_nil))) (ve_callB (call_lenAA rfl) sc_lenA m_len (va_cons (ve_ix (ix_tupA rfl) sr_ixT (ve_var 0) ve_int) va_nil)))))
  (vss_cons (vs_for PassesOwn.never rfl (vi_list rfl (VF.frz (vf_rev rfl (ve_call (G_in_order.mono (by decide)) hr g_in_order kp_in_order b_in_order (va_cons (ve_var 0) va_nil))))) (vg_name 2 nd) (vss_one (vs_for PassesOwn.never rfl (vi_list rfl (ve_ix (ix_tupA rfl) sr_ixT (ve_var 0) ve_int)) (vg_tup rfl rfl (vgs_cons (vg_name 3 nd) (vgs_cons (vg_name 4 nd) vgs_nil))) (vss_one (vs_if (vt_cmp (op_eqA rfl hr.units) sr_eq (ve_var 3) (ve_var 2) (nomark _)) (vss_one (vs_asg (ve_callB (call_max2 rfl) sc_max2 m_max (va_cons (ve_ix (ix_listA rfl) sr_ixL (ve_var 1) (ve_var 3)) (va_cons (ve_op op_add sr_add (ve_ix (ix_listA rfl) sr_ixL (ve_var 1) (ve_var 4)) (ve_call (G_change.mono (by decide)) hr g_change kp_change b_change (va_cons (ve_var 0) (va_cons (ve_var 3) (va_cons (ve_var 4) va_nil))))) va_nil))) (vg_subL (ve_var 1) (ve_var 3)))) vss_nil)))))
  (vss_one (vs_ret (ve_var 1)))))) v, g, F.kp, FunD.bindsN F fun _ _ _ _ _ _ us hl => match us, hl with | [_], _ => rfl, F⟩
abbrev s_latest_of : Stmt := top 30
theorem sc_latest_of : FnScope N_latest_of ["pile", "most"] (defScope s_latest_of) := ⟨rfl, rfl, rfl, by decide +kernel, rfl, by decide +kernel, by decide +kernel⟩
theorem d_latest_of {f : Addr} {fd : FuncData} (F : FnD K "latest_of" s_latest_of f fd) (g : mg "latest_of" = some (.ref f)) {P_latest_of P_to_come P_earliest_of : PV} (l : ∀ ds C Q, P_latest_of ds C Q → ds.length = 2) (v : ∀ ds C Q3, P_latest_of ds C Q3 → C.length = 0 → T_latest_of P_to_come P_earliest_of (enF 0 Q3) (start3 N_latest_of ds) C) (C_to_come : Cal P w K mg base 4 "to_come" s_to_come ["pile"] 0 P_to_come) (C_earliest_of : Cal P w K mg base 4 "earliest_of" s_earliest_of ["pile"] 0 P_earliest_of) (m_zip : mg "zip" = none) : Cal P w K mg base 5 "latest_of" s_latest_of ["pile", "most"] 0 P_latest_of := by
  obtain ⟨f_to_come, fd_to_come, G_to_come, g_to_come, kp_to_come, b_to_come, F_to_come⟩ := C_to_come
  obtain ⟨f_earliest_of, fd_earliest_of, G_earliest_of, g_earliest_of, kp_earliest_of, b_earliest_of, F_earliest_of⟩ := C_earliest_of
  have nd : (N_latest_of).Nodup := sc_latest_of.nd
  exact ⟨f, fd, ok3 (T := T_latest_of P_to_come P_earliest_of) F sc_latest_of l (fun cdv A outer s H E hr => (vss_cons (vs_set 2 nd (VF.cell (vf_lst va_nil)))
  (vss_cons (vs_for PassesOwn.never rfl (vi_zip rfl m_zip (va_cons (ve_call (G_earliest_of.mono (by decide)) hr g_earliest_of kp_earliest_of b_earliest_of (va_cons (ve_var 0) va_nil)) (va_cons (ve_call (G_to_come.mono (by decide)) hr g_to_come kp_to_come b_to_come (va_cons (ve_var 0) va_nil)) va_nil))) (vg_tup rfl rfl (vgs_cons (vg_name 3 nd) (vgs_cons (vg_name 4 nd) vgs_nil))) (vss_one (vs_expr (ve_ml rfl PySem.F.plainAttrs_list PySem.F.slot_list_append PySem.F.type_list_append mt_append sm_append (ve_var 2) (va_cons (ve_op op_sub sr_sub (ve_op op_sub sr_sub (ve_var 1) (ve_var 4)) (ve_op op_mod sr_mod (ve_op op_sub sr_sub (ve_op op_sub sr_sub (ve_var 1) (ve_var 4)) (ve_var 3)) ve_int)) va_nil)))))
  (vss_one (vs_ret (ve_var 2)))))) v, g, F.kp, FunD.bindsN F fun _ _ _ _ _ _ us hl => match us, hl with | [_, _], _ => rfl, F⟩
abbrev s_latest : Stmt := top 31
theorem sc_latest : FnScope N_latest ["pile", "most"] (defScope s_latest) := ⟨rfl, rfl, rfl, by decide +kernel, rfl, by decide +kernel, by decide +kernel⟩
theorem d_latest {f : Addr} {fd : FuncData} (F : FnD K "latest" s_latest f fd) (g : mg "latest" = some (.ref f)) {P_latest P_need_pile P_need_most P_latest_of : PV} (l : ∀ ds C Q, P_latest ds C Q → ds.length = 2) (v : ∀ ds C Q3, P_latest ds C Q3 → C.length = 0 → T_latest P_need_pile P_need_most P_latest_of (enF 0 Q3) (start3 N_latest ds) C) (C_need_pile : Cal P w K mg base 6 "need_pile" s_need_pile ["pile"] 0 P_need_pile) (C_need_most : Cal P w K mg base 5 "need_most" s_need_most ["pile", "most"] 0 P_need_most) (C_latest_of : Cal P w K mg base 5 "latest_of" s_latest_of ["pile", "most"] 0 P_latest_of) : Cal P w K mg base 7 "latest" s_latest ["pile", "most"] 0 P_latest := by
  obtain ⟨f_need_pile, fd_need_pile, G_need_pile, g_need_pile, kp_need_pile, b_need_pile, F_need_pile⟩ := C_need_pile
  obtain ⟨f_need_most, fd_need_most, G_need_most, g_need_most, kp_need_most, b_need_most, F_need_most⟩ := C_need_most
  obtain ⟨f_latest_of, fd_latest_of, G_latest_of, g_latest_of, kp_latest_of, b_latest_of, F_latest_of⟩ := C_latest_of
  have nd : (N_latest).Nodup := sc_latest.nd
  exact ⟨f, fd, ok3 (T := T_latest P_need_pile P_need_most P_latest_of) F sc_latest l (fun cdv A outer s H E hr => (vss_cons (vs_expr (ve_call (G_need_pile.mono (by decide)) hr g_need_pile kp_need_pile b_need_pile (va_cons (ve_var 0) va_nil)))
  (vss_cons (vs_expr (ve_call (G_need_most.mono (by decide)) hr g_need_most kp_need_most b_need_most (va_cons (ve_var 0) (va_cons (ve_var 1) va_nil))))
  (vss_one (vs_ret (ve_call (G_latest_of.mono (by decide)) hr g_latest_of kp_latest_of b_latest_of (va_cons (ve_var 0) (va_cons (ve_var 1) va_nil)))))))) v, g, F.kp, FunD.bindsN F fun _ _ _ _ _ _ us hl => match us, hl with | [_, _], _ => rfl, F⟩
abbrev s_keeps_rules : Stmt := top 35
theorem sc_keeps_rules : FnScope N_keeps_rules ["rules", "plan"] (defScope s_keeps_rules) := ⟨rfl, rfl, rfl, by decide +kernel, rfl, by decide +kernel, by decide +kernel⟩
theorem d_keeps_rules {f : Addr} {fd : FuncData} (F : FnD K "keeps_rules" s_keeps_rules f fd) (g : mg "keeps_rules" = some (.ref f)) {P_keeps_rules : PV} (l : ∀ ds C Q, P_keeps_rules ds C Q → ds.length = 2) (v : ∀ ds C Q3, P_keeps_rules ds C Q3 → C.length = 0 → T_keeps_rules (enF 0 Q3) (start3 N_keeps_rules ds) C) (m_all : mg "all" = none) : Cal P w K mg base 1 "keeps_rules" s_keeps_rules ["rules", "plan"] 0 P_keeps_rules := by
  have nd : (N_keeps_rules).Nodup := sc_keeps_rules.nd
  exact ⟨f, fd, ok3 (T := T_keeps_rules) F sc_keeps_rules l (fun cdv A outer s H E hr => (vss_one (vs_ret (ve_callB (call_all rfl rfl) sc_all m_all (va_cons (VF.frz (vf_lc (own := [("paper", 2), ("other", 3)]) rfl nd (vi_list rfl (ve_var 0)) (blkOk_by (by kernel_rfl)) (own_tup (own_cons (own_name (by decide)) (own_cons (own_name (by decide)) own_nil mono_name) mono_name)) (fun _ _ _ _ _ => (vg_tup rfl rfl (vgs_cons (vg_name 2 nd) (vgs_cons (vg_name 3 nd) vgs_nil)))) (fun _ _ _ _ _ => vts_nil) (fun _ _ _ _ _ => (ve_cmp op_le sr_le (ve_ix (ix_listA rfl) sr_ixL (ve_var 1) (ve_var 2)) (ve_ix (ix_listA rfl) sr_ixL (ve_var 1) (ve_var 3)) (nomark _))))) va_nil))))) v, g, F.kp, FunD.bindsN F fun _ _ _ _ _ _ us hl => match us, hl with | [_, _], _ => rfl, F⟩
abbrev s_is_block : Stmt := top 34
theorem sc_is_block : FnScope N_is_block ["thing", "most"] (defScope s_is_block) := ⟨rfl, rfl, rfl, by decide +kernel, rfl, by decide +kernel, by decide +kernel⟩
theorem d_is_block {f : Addr} {fd : FuncData} (F : FnD K "is_block" s_is_block f fd) (g : mg "is_block" = some (.ref f)) {P_is_block : PV} (l : ∀ ds C Q, P_is_block ds C Q → ds.length = 2) (v : ∀ ds C Q3, P_is_block ds C Q3 → C.length = 0 → T_is_block (enF 0 Q3) (start3 N_is_block ds) C) (m_isinstance : mg "isinstance" = none) (m_bool : mg "bool" = none) (m_int : mg "int" = none) : Cal P w K mg base 1 "is_block" s_is_block ["thing", "most"] 0 P_is_block := by
  have nd : (N_is_block).Nodup := sc_is_block.nd
  exact ⟨f, fd, ok3 (T := T_is_block) F sc_is_block l (fun cdv A outer s H E hr => (vss_cons (vs_if (VW.vt (vw_or (vt_not (vt_val (ve_isi .int rfl m_isinstance m_int (ve_var 0)))) (vw_or (vt_val (ve_isi .bool rfl m_isinstance m_bool (ve_var 0))) (vw_or1 (vt_cmp op_lt sr_lt (ve_var 0) ve_int (nomark _)))))) (vss_one (vs_ret ve_bl)) vss_nil)
  (vss_one (vs_ret (ve_or (ve_cmp op_isN sr_isN (ve_var 1) ve_non (nomark _)) (ve_one (ve_cmp op_le sr_le (ve_var 0) (ve_var 1) (nomark _)))))))) v, g, F.kp, FunD.bindsN F fun _ _ _ _ _ _ us hl => match us, hl with | [_, _], _ => rfl, F⟩
abbrev s_is_plan_of : Stmt := top 36
theorem sc_is_plan_of : FnScope N_is_plan_of ["pile", "thing", "most"] (defScope s_is_plan_of) := ⟨rfl, rfl, rfl, by decide +kernel, rfl, by decide +kernel, by decide +kernel⟩
theorem d_is_plan_of {f : Addr} {fd : FuncData} (F : FnD K "is_plan_of" s_is_plan_of f fd) (g : mg "is_plan_of" = some (.ref f)) {P_is_plan_of P_is_block P_base_of P_keeps_rules : PV} (l : ∀ ds C Q, P_is_plan_of ds C Q → ds.length = 3) (v : ∀ ds C Q3, P_is_plan_of ds C Q3 → C.length = 0 → T_is_plan_of P_is_block P_base_of P_keeps_rules (enF 0 Q3) (start3 N_is_plan_of ds) C) (C_is_block : Cal P w K mg base 1 "is_block" s_is_block ["thing", "most"] 0 P_is_block) (C_base_of : Cal P w K mg base 1 "base_of" s_base_of ["pile", "paper"] 0 P_base_of) (C_keeps_rules : Cal P w K mg base 1 "keeps_rules" s_keeps_rules ["rules", "plan"] 0 P_keeps_rules) (m_all : mg "all" = none) (m_len : mg "len" = none) (m_isinstance : mg "isinstance" = none) (m_list : mg "list" = none) (m_enumerate : mg "enumerate" = none) (c_STEP : ∃ t, mg "STEP" = some (.int 2 t)) : Cal P w K mg base 2 "is_plan_of" s_is_plan_of ["pile", "thing", "most"] 0 P_is_plan_of := by
  obtain ⟨f_is_block, fd_is_block, G_is_block, g_is_block, kp_is_block, b_is_block, F_is_block⟩ := C_is_block
  obtain ⟨f_base_of, fd_base_of, G_base_of, g_base_of, kp_base_of, b_base_of, F_base_of⟩ := C_base_of
  obtain ⟨f_keeps_rules, fd_keeps_rules, G_keeps_rules, g_keeps_rules, kp_keeps_rules, b_keeps_rules, F_keeps_rules⟩ := C_keeps_rules
  have nd : (N_is_plan_of).Nodup := sc_is_plan_of.nd
  exact ⟨f, fd, ok3 (T := T_is_plan_of P_is_block P_base_of P_keeps_rules) F sc_is_plan_of l (fun cdv A outer s H E hr => (vss_cons (vs_if (VW.vt (vw_or (vt_not (vt_val (ve_isi .list rfl m_isinstance m_list (ve_var 1)))) (vw_or (vt_cmp (op_neA rfl hr.units) sr_ne (ve_callB (call_lenAA rfl) sc_lenA m_len (va_cons (ve_var 1) va_nil)) (ve_callB (call_lenAA rfl) sc_lenA m_len (va_cons (ve_ix (ix_tupA rfl) sr_ixT (ve_var 0) ve_int) va_nil)) (nomark _)) (vw_or1 (vt_not (vt_val (ve_callB (call_all rfl rfl) sc_all m_all (va_cons (VF.frz (vf_lc (own := [("one", 3)]) rfl nd (vi_list rfl (ve_var 1)) (blkOk_by (by kernel_rfl)) (own_name (by decide)) (fun _ _ _ _ _ => (vg_name 3 nd)) (fun _ _ _ _ _ => vts_nil) (fun _ _ _ _ _ => (ve_call (G_is_block.mono (by decide)) hr g_is_block kp_is_block b_is_block (va_cons (ve_var 3) (va_cons (ve_var 2) va_nil)))))) va_nil)))))))) (vss_one (vs_ret ve_bl)) vss_nil)
  (vss_cons (vs_if (vt_not (vt_val (ve_callB (call_all rfl rfl) sc_all m_all (va_cons (VF.frz (vf_lc (own := [("paper", 4), ("block", 5)]) rfl nd (vi_enum rfl m_enumerate (va_cons (ve_var 1) va_nil)) (blkOk_by (by kernel_rfl)) (own_tup (own_cons (own_name (by decide)) (own_cons (own_name (by decide)) own_nil mono_name) mono_name)) (fun _ _ _ _ _ => (vg_tup rfl rfl (vgs_cons (vg_name 4 nd) (vgs_cons (vg_name 5 nd) vgs_nil)))) (fun _ _ _ _ _ => vts_nil) (fun _ _ _ _ _ => (ve_cmp (op_eqA rfl hr.units) sr_eq (ve_op op_mod sr_mod (ve_var 5) (ve_gint c_STEP)) (ve_call (G_base_of.mono (by decide)) hr g_base_of kp_base_of b_base_of (va_cons (ve_var 0) (va_cons (ve_var 4) va_nil))) (nomark _))))) va_nil)))) (vss_one (vs_ret ve_bl)) vss_nil)
  (vss_one (vs_ret (ve_call (G_keeps_rules.mono (by decide)) hr g_keeps_rules kp_keeps_rules b_keeps_rules (va_cons (ve_ix (ix_tupA rfl) sr_ixT (ve_var 0) ve_int) (va_cons (ve_var 1) va_nil)))))))) v, g, F.kp, FunD.bindsN F fun _ _ _ _ _ _ us hl => match us, hl with | [_, _, _], _ => rfl, F⟩
abbrev s_need_plan : Stmt := top 37
theorem sc_need_plan : FnScope N_need_plan ["pile", "thing", "most"] (defScope s_need_plan) := ⟨rfl, rfl, rfl, by decide +kernel, rfl, by decide +kernel, by decide +kernel⟩
theorem d_need_plan {f : Addr} {fd : FuncData} (F : FnD K "need_plan" s_need_plan f fd) (g : mg "need_plan" = some (.ref f)) {P_need_plan P_is_plan_of : PV} (l : ∀ ds C Q, P_need_plan ds C Q → ds.length = 3) (v : ∀ ds C Q3, P_need_plan ds C Q3 → C.length = 0 → T_need_plan P_is_plan_of (enF 0 Q3) (start3 N_need_plan ds) C) (C_is_plan_of : Cal P w K mg base 2 "is_plan_of" s_is_plan_of ["pile", "thing", "most"] 0 P_is_plan_of) : Cal P w K mg base 3 "need_plan" s_need_plan ["pile", "thing", "most"] 0 P_need_plan := by
  obtain ⟨f_is_plan_of, fd_is_plan_of, G_is_plan_of, g_is_plan_of, kp_is_plan_of, b_is_plan_of, F_is_plan_of⟩ := C_is_plan_of
  have nd : (N_need_plan).Nodup := sc_need_plan.nd
  exact ⟨f, fd, ok3 (T := T_need_plan P_is_plan_of) F sc_need_plan l (fun cdv A outer s H E hr => (vss_one (vs_if (vt_not (vt_val (ve_call (G_is_plan_of.mono (by decide)) hr g_is_plan_of kp_is_plan_of b_is_plan_of (va_cons (ve_var 0) (va_cons (ve_var 1) (va_cons (ve_var 2) va_nil)))))) (vss_one vs_never) vss_nil))) v, g, F.kp, FunD.bindsN F fun _ _ _ _ _ _ us hl => match us, hl with | [_, _, _], _ => rfl, F⟩
abbrev s_can_move : Stmt := top 38
theorem sc_can_move : FnScope N_can_move ["pile", "most", "plan", "paper", "by"] (defScope s_can_move) := ⟨rfl, rfl, rfl, by decide +kernel, rfl, by decide +kernel, by decide +kernel⟩
theorem d_can_move {f : Addr} {fd : FuncData} (F : FnD K "can_move" s_can_move f fd) (g : mg "can_move" = some (.ref f)) {P_can_move : PV} (l : ∀ ds C Q, P_can_move ds C Q → ds.length = 5) (v : ∀ ds C Q3, P_can_move ds C Q3 → C.length = 0 → T_can_move (enF 0 Q3) (start3 N_can_move ds) C) : Cal P w K mg base 1 "can_move" s_can_move ["pile", "most", "plan", "paper", "by"] 0 P_can_move := by
  have nd : (N_can_move).Nodup := sc_can_move.nd
  exact ⟨f, fd, ok3 (T := T_can_move) F sc_can_move l (fun cdv A outer s H E hr => (vss_cons (vs_set 5 nd (ve_op op_add sr_add (ve_ix (ix_listA rfl) sr_ixL (ve_var 2) (ve_var 3)) (ve_var 4)))
  (vss_cons (vs_if (vt_not (vt_chain op_le sr_le op_le sr_le ve_int (ve_var 5) (ve_var 1))) (vss_one (vs_ret ve_bl)) vss_nil)
  (vss_cons (vs_for PassesOwn.never rfl (vi_list rfl (ve_ix (ix_tupA rfl) sr_ixT (ve_var 0) ve_int)) (vg_tup rfl rfl (vgs_cons (vg_name 6 nd) (vgs_cons (vg_name 7 nd) vgs_nil))) (vss_one (vs_if (VW.vt (vw_or (VW.vt (vw_and (vt_cmp (op_eqA rfl hr.units) sr_eq (ve_var 6) (ve_var 3) (nomark _)) (vw_and1 (vt_cmp op_lt sr_lt (ve_ix (ix_listA rfl) sr_ixL (ve_var 2) (ve_var 7)) (ve_var 5) (nomark _))))) (vw_or1 (VW.vt (vw_and (vt_cmp (op_eqA rfl hr.units) sr_eq (ve_var 7) (ve_var 3) (nomark _)) (vw_and1 (vt_cmp op_gt sr_gt (ve_ix (ix_listA rfl) sr_ixL (ve_var 2) (ve_var 6)) (ve_var 5) (nomark _)))))))) (vss_one (vs_ret ve_bl)) vss_nil)))
  (vss_one (vs_ret ve_bl)))))) v, g, F.kp, FunD.bindsN F fun _ _ _ _ _ _ us hl => match us, hl with | [_, _, _, _, _], _ => rfl, F⟩
abbrev s_moves : Stmt := top 39
theorem sc_moves : FnScope N_moves ["pile", "most", "plan"] (defScope s_moves) := ⟨rfl, rfl, rfl, by decide +kernel, rfl, by decide +kernel, by decide +kernel⟩
theorem d_moves {f : Addr} {fd : FuncData} (F : FnD K "moves" s_moves f fd) (g : mg "moves" = some (.ref f)) {P_moves P_latest P_need_plan P_can_move : PV} (l : ∀ ds C Q, P_moves ds C Q → ds.length = 3) (v : ∀ ds C Q3, P_moves ds C Q3 → C.length = 0 → T_moves P_latest P_need_plan P_can_move (enF 0 Q3) (start3 N_moves ds) C) (C_latest : Cal P w K mg base 7 "latest" s_latest ["pile", "most"] 0 P_latest) (C_need_plan : Cal P w K mg base 3 "need_plan" s_need_plan ["pile", "thing", "most"] 0 P_need_plan) (C_can_move : Cal P w K mg base 1 "can_move" s_can_move ["pile", "most", "plan", "paper", "by"] 0 P_can_move) (m_len : mg "len" = none) (m_range : mg "range" = none) (c_STEP : ∃ t, mg "STEP" = some (.int 2 t)) : Cal P w K mg base 8 "moves" s_moves ["pile", "most", "plan"] 0 P_moves := by
  obtain ⟨f_latest, fd_latest, G_latest, g_latest, kp_latest, b_latest, F_latest⟩ := C_latest
  obtain ⟨f_need_plan, fd_need_plan, G_need_plan, g_need_plan, kp_need_plan, b_need_plan, F_need_plan⟩ := C_need_plan
  obtain ⟨f_can_move, fd_can_move, G_can_move, g_can_move, kp_can_move, b_can_move, F_can_move⟩ := C_can_move
  have nd : (N_moves).Nodup := sc_moves.nd
  exact ⟨f, fd, ok3 (T := T_moves P_latest P_need_plan P_can_move) F sc_moves l (fun cdv A outer s H E hr => (vss_cons (vs_expr (ve_call (G_latest.mono (by decide)) hr g_latest kp_latest b_latest (va_cons (ve_var 0) (va_cons (ve_var 1) va_nil))))
  (vss_cons (vs_expr (ve_call (G_need_plan.mono (by decide)) hr g_need_plan kp_need_plan b_need_plan (va_cons (ve_var 0) (va_cons (ve_var 2) (va_cons (ve_var 1) va_nil)))))
  (vss_cons (vs_setLc2 3 false (own := [("paper", 4), ("by", 5)]) (vs1 := [5]) rfl nd (vi_range1 m_range (va_cons (ve_callB (call_lenAA rfl) sc_lenA m_len (va_cons (ve_var 2) va_nil)) va_nil)) (blkOk_by (by kernel_rfl)) (by decide) (own_name (by decide)) (own_name (by decide)) (fun _ _ _ _ _ => (vg_name 4 nd)) (fun _ _ _ _ _ => vts_nil) (fun _ _ _ _ _ => (vi_tup rfl (ve_tup (va_cons (ve_un un_neg su_neg (ve_gint c_STEP)) (va_cons (ve_gint c_STEP) va_nil))))) (fun _ _ _ _ _ => (vg_name 5 nd)) (fun _ _ _ _ _ => vts_nil) (fun _ _ _ _ _ => (ve_tup (va_cons (ve_var 4) (va_cons (ve_var 5) va_nil)))))
  (vss_one (vs_ret (VF.frz (vf_lc (own := [("paper", 4), ("by", 5)]) rfl nd (vi_list rfl (ve_var 3)) (blkOk_by (by kernel_rfl)) (own_tup (own_cons (own_name (by decide)) (own_cons (own_name (by decide)) own_nil mono_name) mono_name)) (fun _ _ _ _ _ => (vg_tup rfl rfl (vgs_cons (vg_name 4 nd) (vgs_cons (vg_name 5 nd) vgs_nil)))) (fun _ _ _ _ _ => (vts_one (vt_val (ve_call (G_can_move.mono (by decide)) hr g_can_move kp_can_move b_can_move (va_cons (ve_var 0) (va_cons (ve_var 1) (va_cons (ve_var 2) (va_cons (ve_var 4) (va_cons (ve_var 5) va_nil))))))))) (fun _ _ _ _ _ => (ve_tup (va_cons (ve_var 4) (va_cons (ve_var 5) va_nil)))))))))))) v, g, F.kp, FunD.bindsN F fun _ _ _ _ _ _ us hl => match us, hl with | [_, _, _], _ => rfl, F⟩
abbrev s_Lw_same : Stmt := top 56
theorem sc_Lw_same : FnScope N_Lw_same ["_law_found", "_law_due"] (defScope s_Lw_same) := ⟨rfl, rfl, rfl, by decide +kernel, rfl, by decide +kernel, by decide +kernel⟩
theorem nv_Lw_same {lo : Nat} {f : Addr} {fd : FuncData} (F : FnD K "_law_same" s_Lw_same f fd) (g : mg "_law_same" = some (.ref f)) : Cal P w K mg base lo "_law_same" s_Lw_same ["_law_found", "_law_due"] 0 P_never := cal_never F g (FunD.bindsN F fun _ _ _ _ _ _ us hl => match us, hl with | [_, _], _ => rfl)
theorem d_Lw_same {f : Addr} {fd : FuncData} (F : FnD K "_law_same" s_Lw_same f fd) (g : mg "_law_same" = some (.ref f)) {P__hi P_Lw_same : PV} {lo : Nat} (hlo : 0 ≤ lo) (l : ∀ ds C Q, P__hi ds C Q → ds.length = 2) (v : ∀ ds C Q3, P__hi ds C Q3 → C.length = 0 → T_Lw_same P_Lw_same (enF 0 Q3) (start3 N_Lw_same ds) C) (C_Lw_same : Cal P w K mg base lo "_law_same" s_Lw_same ["_law_found", "_law_due"] 0 P_Lw_same) (m_isinstance : mg "isinstance" = none) (m_list : mg "list" = none) (m_tuple : mg "tuple" = none) (m_len : mg "len" = none) (m_range : mg "range" = none) (m_all : mg "all" = none) (m_int : mg "int" = none) (m_bool : mg "bool" = none) : Cal P w K mg base (lo + 1) "_law_same" s_Lw_same ["_law_found", "_law_due"] 0 P__hi := by
  obtain ⟨f_Lw_same, fd_Lw_same, G_Lw_same, g_Lw_same, kp_Lw_same, b_Lw_same, F_Lw_same⟩ := C_Lw_same
  have nd : (N_Lw_same).Nodup := sc_Lw_same.nd
  exact ⟨f, fd, ok3 (T := T_Lw_same P_Lw_same) F sc_Lw_same l (fun cdv A outer s H E hr => (vss_cons (vs_if (vt_val (ve_isi2 .list .tuple rfl m_isinstance m_list m_tuple (ve_var 1))) (vss_cons (vs_if (VW.vt (vw_or (vt_not (vt_val (ve_isi2 .list .tuple rfl m_isinstance m_list m_tuple (ve_var 0)))) (vw_or1 (vt_cmp (op_neA rfl hr.units) sr_ne (ve_isi .list rfl m_isinstance m_list (ve_var 0)) (ve_isi .list rfl m_isinstance m_list (ve_var 1)) (nomark _))))) (vss_one (vs_ret ve_bl)) vss_nil)
  (vss_one (vs_ret (ve_and (ve_cmp (op_eqA rfl hr.units) sr_eq (ve_callB (call_lenAA rfl) sc_lenA m_len (va_cons (ve_var 0) va_nil)) (ve_callB (call_lenAA rfl) sc_lenA m_len (va_cons (ve_var 1) va_nil)) (nomark _)) (ve_one (ve_callB (call_all rfl rfl) sc_all m_all (va_cons (VF.frz (vf_lc (own := [("_law_k", 2)]) rfl nd (vi_range1 m_range (va_cons (ve_callB (call_lenAA rfl) sc_lenA m_len (va_cons (ve_var 1) va_nil)) va_nil)) (blkOk_by (by kernel_rfl)) (own_name (by decide)) (fun _ _ _ _ _ => (vg_name 2 nd)) (fun _ _ _ _ _ => vts_nil) (fun _ _ _ _ _ => (ve_call (G_Lw_same.mono (Nat.le_refl _)) hr g_Lw_same kp_Lw_same b_Lw_same (va_cons (ve_ix (ix_seqA rfl) sr_ixA (ve_var 0) (ve_var 2)) (va_cons (ve_ix (ix_seqA rfl) sr_ixA (ve_var 1) (ve_var 2)) va_nil)))))) va_nil))))))) vss_nil)
  (vss_cons (vs_if (vt_val (ve_isi .int rfl m_isinstance m_int (ve_var 1))) (vss_one (vs_ret (ve_and (ve_isi .int rfl m_isinstance m_int (ve_var 0)) (ve_and (ve_cmp (op_eqA rfl hr.units) sr_eq (ve_isi .bool rfl m_isinstance m_bool (ve_var 0)) (ve_isi .bool rfl m_isinstance m_bool (ve_var 1)) (nomark _)) (ve_one (ve_cmp (op_eqA rfl hr.units) sr_eq (ve_var 0) (ve_var 1) (nomark _))))))) vss_nil)
  (vss_one (vs_ret (ve_cmp (op_eqA rfl hr.units) sr_eq (ve_var 0) (ve_var 1) (nomark _))))))) v, g, F.kp, FunD.bindsN F fun _ _ _ _ _ _ us hl => match us, hl with | [_, _], _ => rfl, F⟩
abbrev s_Lw_moved : Stmt := top 54
theorem sc_Lw_moved : FnScope N_Lw_moved ["_law_blocks", "_law_move"] (defScope s_Lw_moved) := ⟨rfl, rfl, rfl, by decide +kernel, rfl, by decide +kernel, by decide +kernel⟩
theorem d_Lw_moved {f : Addr} {fd : FuncData} (F : FnD K "_law_moved" s_Lw_moved f fd) (g : mg "_law_moved" = some (.ref f)) {P_Lw_moved : PV} (l : ∀ ds C Q, P_Lw_moved ds C Q → ds.length = 2) (v : ∀ ds C Q3, P_Lw_moved ds C Q3 → C.length = 0 → T_Lw_moved (enF 0 Q3) (start3 N_Lw_moved ds) C) (m_enumerate : mg "enumerate" = none) (m_int : mg "int" = none) : Cal P w K mg base 1 "_law_moved" s_Lw_moved ["_law_blocks", "_law_move"] 0 P_Lw_moved := by
  have nd : (N_Lw_moved).Nodup := sc_Lw_moved.nd
  exact ⟨f, fd, ok3 (T := T_Lw_moved) F sc_Lw_moved l (fun cdv A outer s H E hr => (vss_one (vs_ret (VF.frz (vf_lc (own := [("_law_paper", 2), ("_law_block", 3)]) rfl nd (vi_enum rfl m_enumerate (va_cons (ve_var 0) va_nil)) (blkOk_by (by kernel_rfl)) (own_tup (own_cons (own_name (by decide)) (own_cons (own_name (by decide)) own_nil mono_name) mono_name)) (fun _ _ _ _ _ => (vg_tup rfl rfl (vgs_cons (vg_name 2 nd) (vgs_cons (vg_name 3 nd) vgs_nil)))) (fun _ _ _ _ _ => vts_nil) (fun _ _ _ _ _ => (ve_op op_add sr_add (ve_var 3) (ve_op op_mul sr_mul (ve_ix (ix_tupA rfl) sr_ixT (ve_var 1) ve_int) (ve_callTy call_int1 sc_int m_int (va_cons (ve_cmp (op_eqA rfl hr.units) sr_eq (ve_var 2) (ve_ix (ix_tupA rfl) sr_ixT (ve_var 1) ve_int) (nomark _)) va_nil)))))))))) v, g, F.kp, FunD.bindsN F fun _ _ _ _ _ _ us hl => match us, hl with | [_, _], _ => rfl, F⟩
abbrev s_Lw_good : Stmt := top 51
theorem sc_Lw_good : FnScope N_Lw_good ["_law_heap", "_law_blocks"] (defScope s_Lw_good) := ⟨rfl, rfl, rfl, by decide +kernel, rfl, by decide +kernel, by decide +kernel⟩
theorem d_Lw_good {f : Addr} {fd : FuncData} (F : FnD K "_law_good" s_Lw_good f fd) (g : mg "_law_good" = some (.ref f)) {P_Lw_good P_Lw_base : PV} (l : ∀ ds C Q, P_Lw_good ds C Q → ds.length = 2) (v : ∀ ds C Q3, P_Lw_good ds C Q3 → C.length = 0 → T_Lw_good P_Lw_base (enF 0 Q3) (start3 N_Lw_good ds) C) (C_Lw_base : Cal P w K mg base 1 "_law_base" s_Lw_base ["_law_heap", "_law_paper"] 0 P_Lw_base) (m_len : mg "len" = none) (m_range : mg "range" = none) : Cal P w K mg base 2 "_law_good" s_Lw_good ["_law_heap", "_law_blocks"] 0 P_Lw_good := by
  obtain ⟨f_Lw_base, fd_Lw_base, G_Lw_base, g_Lw_base, kp_Lw_base, b_Lw_base, F_Lw_base⟩ := C_Lw_base
  have nd : (N_Lw_good).Nodup := sc_Lw_good.nd
  exact ⟨f, fd, ok3 (T := T_Lw_good P_Lw_base) F sc_Lw_good l (fun cdv A outer s H E hr => (vss_cons (vs_if (vt_cmp (op_neA rfl hr.units) sr_ne (VF.frz (vf_lc (own := [("_law_paper", 2)]) rfl nd (vi_range1 m_range (va_cons (ve_callB (call_lenAA rfl) sc_lenA m_len (va_cons (ve_var 1) va_nil)) va_nil)) (blkOk_by (by kernel_rfl)) (own_name (by decide)) (fun _ _ _ _ _ => (vg_name 2 nd)) (fun _ _ _ _ _ => (vts_one (VW.vt (vw_or (vt_cmp op_lt sr_lt (ve_ix (ix_listA rfl) sr_ixL (ve_var 1) (ve_var 2)) ve_int (nomark _)) (vw_or1 (vt_cmp (op_neA rfl hr.units) sr_ne (ve_op op_mod sr_mod (ve_ix (ix_listA rfl) sr_ixL (ve_var 1) (ve_var 2)) ve_int) (ve_call (G_Lw_base.mono (by decide)) hr g_Lw_base kp_Lw_base b_Lw_base (va_cons (ve_var 0) (va_cons (ve_var 2) va_nil))) (nomark _))))))) (fun _ _ _ _ _ => ve_int))) (VF.frz (vf_lst va_nil)) (nomark _)) (vss_one (vs_ret ve_bl)) vss_nil)
  (vss_one (vs_ret (ve_cmp (op_eqA rfl hr.units) sr_eq (VF.frz (vf_lc (own := [("_law_one", 3), ("_law_two", 4)]) rfl nd (vi_list rfl (ve_ix (ix_tupA rfl) sr_ixT (ve_var 0) ve_int)) (blkOk_by (by kernel_rfl)) (own_tup (own_cons (own_name (by decide)) (own_cons (own_name (by decide)) own_nil mono_name) mono_name)) (fun _ _ _ _ _ => (vg_tup rfl rfl (vgs_cons (vg_name 3 nd) (vgs_cons (vg_name 4 nd) vgs_nil)))) (fun _ _ _ _ _ => (vts_one (vt_cmp op_gt sr_gt (ve_ix (ix_listA rfl) sr_ixL (ve_var 1) (ve_var 3)) (ve_ix (ix_listA rfl) sr_ixL (ve_var 1) (ve_var 4)) (nomark _)))) (fun _ _ _ _ _ => ve_int))) (VF.frz (vf_lst va_nil)) (nomark _)))))) v, g, F.kp, FunD.bindsN F fun _ _ _ _ _ _ us hl => match us, hl with | [_, _], _ => rfl, F⟩
abbrev s_Lw_can : Stmt := top 55
theorem sc_Lw_can : FnScope N_Lw_can ["_law_heap", "_law_blocks", "_law_top", "_law_move"] (defScope s_Lw_can) := ⟨rfl, rfl, rfl, by decide +kernel, rfl, by decide +kernel, by decide +kernel⟩
theorem d_Lw_can {f : Addr} {fd : FuncData} (F : FnD K "_law_can" s_Lw_can f fd) (g : mg "_law_can" = some (.ref f)) {P_Lw_can P_Lw_moved P_Lw_good : PV} (l : ∀ ds C Q, P_Lw_can ds C Q → ds.length = 4) (v : ∀ ds C Q3, P_Lw_can ds C Q3 → C.length = 0 → T_Lw_can P_Lw_moved P_Lw_good (enF 0 Q3) (start3 N_Lw_can ds) C) (C_Lw_moved : Cal P w K mg base 1 "_law_moved" s_Lw_moved ["_law_blocks", "_law_move"] 0 P_Lw_moved) (C_Lw_good : Cal P w K mg base 2 "_law_good" s_Lw_good ["_law_heap", "_law_blocks"] 0 P_Lw_good) (m_max : mg "max" = none) : Cal P w K mg base 3 "_law_can" s_Lw_can ["_law_heap", "_law_blocks", "_law_top", "_law_move"] 0 P_Lw_can := by
  obtain ⟨f_Lw_moved, fd_Lw_moved, G_Lw_moved, g_Lw_moved, kp_Lw_moved, b_Lw_moved, F_Lw_moved⟩ := C_Lw_moved
  obtain ⟨f_Lw_good, fd_Lw_good, G_Lw_good, g_Lw_good, kp_Lw_good, b_Lw_good, F_Lw_good⟩ := C_Lw_good
  have nd : (N_Lw_can).Nodup := sc_Lw_can.nd
  exact ⟨f, fd, ok3 (T := T_Lw_can P_Lw_moved P_Lw_good) F sc_Lw_can l (fun cdv A outer s H E hr => (vss_cons (vs_set 4 nd (ve_call (G_Lw_moved.mono (by decide)) hr g_Lw_moved kp_Lw_moved b_Lw_moved (va_cons (ve_var 1) (va_cons (ve_var 3) va_nil))))
  (vss_one (vs_ret (ve_and (ve_call (G_Lw_good.mono (by decide)) hr g_Lw_good kp_Lw_good b_Lw_good (va_cons (ve_var 0) (va_cons (ve_var 4) va_nil))) (ve_one (ve_cmp op_le sr_le (ve_callB (call_maxL rfl rfl) sc_maxL m_max (va_cons (ve_var 4) va_nil)) (ve_var 2) (nomark _)))))))) v, g, F.kp, FunD.bindsN F fun _ _ _ _ _ _ us hl => match us, hl with | [_, _, _, _], _ => rfl, F⟩
abbrev s_Lw_right : Stmt := top 58
theorem sc_Lw_right : FnScope N_Lw_right ["_law_script", "_law_bag_here"] (defScope s_Lw_right) := ⟨rfl, rfl, rfl, by decide +kernel, rfl, by decide +kernel, by decide +kernel⟩
theorem d_Lw_right {f : Addr} {fd : FuncData} (F : FnD K "_law_right" s_Lw_right f fd) (g : mg "_law_right" = some (.ref f)) {P_Lw_right P_Lw_some_pile P_Lw_most P_Lw_plan P_Lw_can P_moves P_Lw_same : PV} (l : ∀ ds C Q, P_Lw_right ds C Q → ds.length = 2) (v : ∀ ds C Q3, P_Lw_right ds C Q3 → C.length = 1 → T_Lw_right P_Lw_some_pile P_Lw_most P_Lw_plan P_Lw_can P_moves P_Lw_same (enF 1 Q3) (start3 N_Lw_right ds) C) (C_Lw_some_pile : Cal P w K mg base 3 "_law_some_pile" s_Lw_some_pile ["_law_script", "_law_bag_here", "_law_top"] 1 P_Lw_some_pile) (C_Lw_most : Cal P w K mg base 4 "_law_most" s_Lw_most ["_law_bag_here", "_law_heap"] 1 P_Lw_most) (C_Lw_plan : Cal P w K mg base 4 "_law_plan" s_Lw_plan ["_law_bag_here", "_law_heap", "_law_top"] 1 P_Lw_plan) (C_Lw_can : Cal P w K mg base 3 "_law_can" s_Lw_can ["_law_heap", "_law_blocks", "_law_top", "_law_move"] 0 P_Lw_can) (C_moves : Cal P w K mg base 8 "moves" s_moves ["pile", "most", "plan"] 0 P_moves) (C_Lw_same : Cal P w K mg base 3 "_law_same" s_Lw_same ["_law_found", "_law_due"] 0 P_Lw_same) (m_repr : mg "repr" = none) (m_len : mg "len" = none) (m_range : mg "range" = none) : Cal P w K mg base 9 "_law_right" s_Lw_right ["_law_script", "_law_bag_here"] 1 P_Lw_right := by
  obtain ⟨f_Lw_some_pile, fd_Lw_some_pile, G_Lw_some_pile, g_Lw_some_pile, kp_Lw_some_pile, b_Lw_some_pile, F_Lw_some_pile⟩ := C_Lw_some_pile
  obtain ⟨f_Lw_most, fd_Lw_most, G_Lw_most, g_Lw_most, kp_Lw_most, b_Lw_most, F_Lw_most⟩ := C_Lw_most
  obtain ⟨f_Lw_plan, fd_Lw_plan, G_Lw_plan, g_Lw_plan, kp_Lw_plan, b_Lw_plan, F_Lw_plan⟩ := C_Lw_plan
  obtain ⟨f_Lw_can, fd_Lw_can, G_Lw_can, g_Lw_can, kp_Lw_can, b_Lw_can, F_Lw_can⟩ := C_Lw_can
  obtain ⟨f_moves, fd_moves, G_moves, g_moves, kp_moves, b_moves, F_moves⟩ := C_moves
  obtain ⟨f_Lw_same, fd_Lw_same, G_Lw_same, g_Lw_same, kp_Lw_same, b_Lw_same, F_Lw_same⟩ := C_Lw_same
  have kq_moves_210 : KwP K fd_moves ["pile", "most", "plan"] ["plan", "most", "pile"] [2, 1, 0] := kwp_of F_moves fun kV doc pm an cdv ct ws h => by
    match ws, h with
    | [], h => simp at h
    | [_], h => simp at h
    | [_, _], h => simp at h
    | _ :: _ :: _ :: _, _ => rfl
  have nd : (N_Lw_right).Nodup := sc_Lw_right.nd
  exact ⟨f, fd, ok3 (T := T_Lw_right P_Lw_some_pile P_Lw_most P_Lw_plan P_Lw_can P_moves P_Lw_same) F sc_Lw_right l (fun cdv A outer s H E hr => (vss_cons (vs_set 2 nd (ve_callK (kf := kf2) (G_Lw_some_pile.mono (by decide)) hr g_Lw_some_pile kp_Lw_some_pile b_Lw_some_pile (va_cons (ve_var 0) (va_cons (ve_var 1) (va_cons ve_int va_nil)))))
  (vss_cons (vs_set 3 nd (ve_callK (kf := kf1) (G_Lw_most.mono (by decide)) hr g_Lw_most kp_Lw_most b_Lw_most (va_cons (ve_var 1) (va_cons (ve_var 2) va_nil))))
  (vss_cons (vs_set 4 nd (ve_callK (kf := kf1) (G_Lw_plan.mono (by decide)) hr g_Lw_plan kp_Lw_plan b_Lw_plan (va_cons (ve_var 1) (va_cons (ve_var 2) (va_cons (ve_var 3) va_nil)))))
  (vss_cons (vs_set 5 nd (ve_callB (call_reprA rfl hr.gd (u65 hr)) sc_repr m_repr (va_cons (VF.frz (vf_lst (va_cons (ve_var 2) (va_cons (ve_var 4) va_nil)))) va_nil)))
  (vss_cons (vs_set 6 nd (VF.cell (vf_lst va_nil)))
  (vss_cons (vs_for PassesOwn.never rfl (vi_range1 m_range (va_cons (ve_callB (call_lenAA rfl) sc_lenA m_len (va_cons (ve_var 4) va_nil)) va_nil)) (vg_name 7 nd) (vss_one (vs_expr (ve_ml rfl PySem.F.plainAttrs_list PySem.F.slot_list_extend PySem.F.type_list_extend mt_extendR sm_extend (ve_var 6) (va_cons (VF.frz (vf_lc (own := [("_law_by", 8)]) rfl nd (vi_list rfl (VF.frz (vf_lst (va_cons (ve_un un_neg su_neg ve_int) (va_cons ve_int va_nil))))) (blkOk_by (by kernel_rfl)) (own_name (by decide)) (fun _ _ _ _ _ => (vg_name 8 nd)) (fun _ _ _ _ _ => (vts_one (vt_val (ve_call (G_Lw_can.mono (by decide)) hr g_Lw_can kp_Lw_can b_Lw_can (va_cons (ve_var 2) (va_cons (ve_var 4) (va_cons (ve_var 3) (va_cons (ve_tup (va_cons (ve_var 7) (va_cons (ve_var 8) va_nil))) va_nil)))))))) (fun _ _ _ _ _ => (ve_tup (va_cons (ve_var 7) (va_cons (ve_var 8) va_nil)))))) va_nil)))))
  (vss_cons (vs_set 9 nd (VF.cell (vf_call (G_moves.mono (by decide)) hr g_moves kp_moves b_moves (va_cons (ve_var 2) (va_cons (ve_var 3) (va_cons (ve_var 4) va_nil))))))
  (vss_cons (vs_if (vt_not (vt_val (ve_call (G_Lw_same.mono (by decide)) hr g_Lw_same kp_Lw_same b_Lw_same (va_cons (ve_var 9) (va_cons (ve_var 6) va_nil))))) (vss_one (vs_ret ve_bl)) vss_nil)
  (vss_cons (vs_expr (ve_ml rfl PySem.F.plainAttrs_list PySem.F.slot_list_append PySem.F.type_list_append mt_append sm_append (ve_var 9) (va_cons (ve_tup (va_cons ve_int (va_cons ve_int va_nil))) va_nil)))
  (vss_one (vs_ret (ve_and (ve_call (G_Lw_same.mono (by decide)) hr g_Lw_same kp_Lw_same b_Lw_same (va_cons (ve_callKwP (G_moves.mono (by decide)) hr g_moves kp_moves kq_moves_210 (vk_cons (ve_var 4) (vk_cons (ve_var 3) (vk_cons (ve_var 2) vk_nil))) (by decide) (by decide)) (va_cons (ve_var 6) va_nil))) (ve_one (ve_cmp (op_eqA rfl hr.units) sr_eq (ve_callB (call_reprA rfl hr.gd (u65 hr)) sc_repr m_repr (va_cons (VF.frz (vf_lst (va_cons (ve_var 2) (va_cons (ve_var 4) va_nil)))) va_nil)) (ve_var 5) (nomark _)))))))))))))))) v, g, F.kp, FunD.bindsN F fun _ _ _ _ _ _ us hl => match us, hl with | [_, _], _ => rfl, F⟩
abbrev s_Lw_bag : Stmt := top 41
theorem sc_Lw_bag : FnScope N_Lw_bag ["_law_cell", "_law_bout"] (defScope s_Lw_bag) := ⟨rfl, rfl, rfl, by decide +kernel, rfl, by decide +kernel, by decide +kernel⟩
theorem d_Lw_bag {f : Addr} {fd : FuncData} (F : FnD K "_law_bag" s_Lw_bag f fd) (g : mg "_law_bag" = some (.ref f)) {P_Lw_bag : PV} (l : ∀ ds C Q, P_Lw_bag ds C Q → ds.length = 2) (v : ∀ ds C Q3, P_Lw_bag ds C Q3 → C.length = 0 → T_Lw_bag (enF 0 Q3) (start3 N_Lw_bag ds) C) (m_max : mg "max" = none) : Cal P w K mg base 1 "_law_bag" s_Lw_bag ["_law_cell", "_law_bout"] 0 P_Lw_bag := by
  have nd : (N_Lw_bag).Nodup := sc_Lw_bag.nd
  exact ⟨f, fd, ok3 (T := T_Lw_bag) F sc_Lw_bag l (fun cdv A outer s H E hr => (vss_cons (vs_set 2 nd (ve_callB (call_max2 rfl) sc_max2 m_max (va_cons (ve_var 0) (va_cons (ve_op op_sub sr_sub ve_int (ve_var 0)) va_nil))))
  (vss_one (vs_ret (VF.frz (vf_lst (va_cons (ve_callB (call_max2 rfl) sc_max2 m_max (va_cons ve_int (va_cons (ve_op op_sub sr_sub (ve_var 2) (ve_op op_pow sr_pow ve_int ve_int)) va_nil))) (va_cons (ve_op op_mod sr_mod (ve_op op_add sr_add (ve_op op_mul sr_mul (ve_var 0) ve_int) (ve_op op_mul sr_mul (ve_op op_pow sr_pow ve_int ve_int) (ve_op op_add sr_add (ve_var 1) ve_int))) (ve_op op_add sr_add (ve_op op_pow sr_pow ve_int ve_int) ve_int)) (va_cons ve_int va_nil))))))))) v, g, F.kp, FunD.bindsN F fun _ _ _ _ _ _ us hl => match us, hl with | [_, _], _ => rfl, F⟩
abbrev s_law : Stmt := top 59
theorem sc_law : FnScope N_law ["_law_script"] (defScope s_law) := ⟨rfl, rfl, rfl, by decide +kernel, rfl, by decide +kernel, by decide +kernel⟩
theorem d_law {f : Addr} {fd : FuncData} (F : FnD K "law" s_law f fd) (g : mg "law" = some (.ref f)) {P_law P_Lw_cells P_Lw_right P_Lw_bag : PV} (l : ∀ ds C Q, P_law ds C Q → ds.length = 1) (v : ∀ ds C Q3, P_law ds C Q3 → C.length = 0 → T_law P_Lw_cells P_Lw_right P_Lw_bag (enF 0 Q3) (start3 N_law ds) C) (C_Lw_cells : Cal P w K mg base 1 "_law_cells" s_Lw_cells ["_law_script"] 0 P_Lw_cells) (C_Lw_right : Cal P w K mg base 9 "_law_right" s_Lw_right ["_law_script", "_law_bag_here"] 1 P_Lw_right) (C_Lw_bag : Cal P w K mg base 1 "_law_bag" s_Lw_bag ["_law_cell", "_law_bout"] 0 P_Lw_bag) (m_enumerate : mg "enumerate" = none) : FnOkG P w K mg base CX0 10 f fd ["_law_script"] (Sp3 K 0 P_law) := by
  obtain ⟨f_Lw_cells, fd_Lw_cells, G_Lw_cells, g_Lw_cells, kp_Lw_cells, b_Lw_cells, F_Lw_cells⟩ := C_Lw_cells
  obtain ⟨f_Lw_right, fd_Lw_right, G_Lw_right, g_Lw_right, kp_Lw_right, b_Lw_right, F_Lw_right⟩ := C_Lw_right
  obtain ⟨f_Lw_bag, fd_Lw_bag, G_Lw_bag, g_Lw_bag, kp_Lw_bag, b_Lw_bag, F_Lw_bag⟩ := C_Lw_bag
  have nd : (N_law).Nodup := sc_law.nd
  exact ok3 (T := T_law P_Lw_cells P_Lw_right P_Lw_bag) F sc_law l (fun cdv A outer s H E hr => (vss_cons (vs_for PassesOwn.never rfl (vi_enum rfl m_enumerate (va_cons (ve_call (G_Lw_cells.mono (by decide)) hr g_Lw_cells kp_Lw_cells b_Lw_cells (va_cons (ve_var 0) va_nil)) va_nil)) (vg_tup rfl rfl (vgs_cons (vg_name 1 nd) (vgs_cons (vg_name 2 nd) vgs_nil))) (vss_one (vs_if (vt_not (vt_val (ve_callK (kf := kf2) (G_Lw_right.mono (by decide)) hr g_Lw_right kp_Lw_right b_Lw_right (va_cons (ve_var 0) (va_cons (VF.cell (vf_call (G_Lw_bag.mono (by decide)) hr g_Lw_bag kp_Lw_bag b_Lw_bag (va_cons (ve_var 2) (va_cons (ve_var 1) va_nil)))) va_nil))))) (vss_one (vs_ret ve_bl)) vss_nil)))
  (vss_one (vs_ret ve_bl)))) v
end
theorem l_Lw_cells : ∀ ds C Q, P_Lw_cells ds C Q → ds.length = 1 := by intro ds C Q h; repeat (first | (have e := h.1; subst e; rfl) | (obtain ⟨_, h⟩ := h))
theorem l_Lw_draw : ∀ ds C Q, P_Lw_draw ds C Q → ds.length = 2 := by intro ds C Q h; repeat (first | (have e := h.1; subst e; rfl) | (obtain ⟨_, h⟩ := h))
theorem l_Lw_pile : ∀ ds C Q, P_Lw_pile ds C Q → ds.length = 3 := by intro ds C Q h; repeat (first | (have e := h.1; subst e; rfl) | (obtain ⟨_, h⟩ := h))
theorem l_Lw_some_pile : ∀ ds C Q, P_Lw_some_pile ds C Q → ds.length = 3 := by intro ds C Q h; repeat (first | (have e := h.1; subst e; rfl) | (obtain ⟨_, h⟩ := h))
theorem l_Lw_base : ∀ ds C Q, P_Lw_base ds C Q → ds.length = 2 := by intro ds C Q h; repeat (first | (have e := h.1; subst e; rfl) | (obtain ⟨_, h⟩ := h))
theorem l_Lw_change : ∀ ds C Q, P_Lw_change ds C Q → ds.length = 2 := by intro ds C Q h; repeat (first | (have e := h.1; subst e; rfl) | (obtain ⟨_, h⟩ := h))
theorem l_Lw_early : ∀ ds C Q, P_Lw_early ds C Q → ds.length = 1 := by intro ds C Q h; repeat (first | (have e := h.1; subst e; rfl) | (obtain ⟨_, h⟩ := h))
theorem l_Lw_fewest : ∀ ds C Q, P_Lw_fewest ds C Q → ds.length = 1 := by intro ds C Q h; repeat (first | (have e := h.1; subst e; rfl) | (obtain ⟨_, h⟩ := h))
theorem l_Lw_most : ∀ ds C Q, P_Lw_most ds C Q → ds.length = 2 := by intro ds C Q h; repeat (first | (have e := h.1; subst e; rfl) | (obtain ⟨_, h⟩ := h))
theorem l_Lw_late : ∀ ds C Q, P_Lw_late ds C Q → ds.length = 2 := by intro ds C Q h; repeat (first | (have e := h.1; subst e; rfl) | (obtain ⟨_, h⟩ := h))
theorem l_Lw_led : ∀ ds C Q, P_Lw_led ds C Q → ds.length = 3 := by intro ds C Q h; repeat (first | (have e := h.1; subst e; rfl) | (obtain ⟨_, h⟩ := h))
theorem l_Lw_plan : ∀ ds C Q, P_Lw_plan ds C Q → ds.length = 3 := by intro ds C Q h; repeat (first | (have e := h.1; subst e; rfl) | (obtain ⟨_, h⟩ := h))
theorem l_is_stamp : ∀ ds C Q, P_is_stamp ds C Q → ds.length = 1 := by intro ds C Q h; repeat (first | (have e := h.1; subst e; rfl) | (obtain ⟨_, h⟩ := h))
theorem l_are_stamps : ∀ ds C Q, P_are_stamps ds C Q → ds.length = 1 := by intro ds C Q h; repeat (first | (have e := h.1; subst e; rfl) | (obtain ⟨_, h⟩ := h))
theorem l_is_between : ∀ ds C Q, P_is_between ds C Q → ds.length = 3 := by intro ds C Q h; repeat (first | (have e := h.1; subst e; rfl) | (obtain ⟨_, h⟩ := h))
theorem l_is_rule : ∀ ds C Q, P_is_rule ds C Q → ds.length = 2 := by intro ds C Q h; repeat (first | (have e := h.1; subst e; rfl) | (obtain ⟨_, h⟩ := h))
theorem l_are_rules : ∀ ds C Q, P_are_rules ds C Q → ds.length = 2 := by intro ds C Q h; repeat (first | (have e := h.1; subst e; rfl) | (obtain ⟨_, h⟩ := h))
theorem l_is_heap : ∀ ds C Q, P_is_heap ds C Q → ds.length = 1 := by intro ds C Q h; repeat (first | (have e := h.1; subst e; rfl) | (obtain ⟨_, h⟩ := h))
theorem l_straight_behind : ∀ ds C Q, P_straight_behind ds C Q → ds.length = 2 := by intro ds C Q h; repeat (first | (have e := h.1; subst e; rfl) | (obtain ⟨_, h⟩ := h))
theorem l_ordered : ∀ ds C Q, P_ordered ds C Q → ds.length = 2 := by intro ds C Q h; repeat (first | (have e := h.1; subst e; rfl) | (obtain ⟨_, h⟩ := h))
theorem l_ring_none : ∀ ds C Q, P_ring_none ds C Q → ds.length = 2 := by intro ds C Q h; repeat (first | (have e := h.1; subst e; rfl) | (obtain ⟨_, h⟩ := h))
theorem l_is_pile : ∀ ds C Q, P_is_pile ds C Q → ds.length = 1 := by intro ds C Q h; repeat (first | (have e := h.1; subst e; rfl) | (obtain ⟨_, h⟩ := h))
theorem l_need_pile : ∀ ds C Q, P_need_pile ds C Q → ds.length = 1 := by intro ds C Q h; repeat (first | (have e := h.1; subst e; rfl) | (obtain ⟨_, h⟩ := h))
theorem l_in_order : ∀ ds C Q, P_in_order ds C Q → ds.length = 1 := by intro ds C Q h; repeat (first | (have e := h.1; subst e; rfl) | (obtain ⟨_, h⟩ := h))
theorem l_base_of : ∀ ds C Q, P_base_of ds C Q → ds.length = 2 := by intro ds C Q h; repeat (first | (have e := h.1; subst e; rfl) | (obtain ⟨_, h⟩ := h))
theorem l_change : ∀ ds C Q, P_change ds C Q → ds.length = 3 := by intro ds C Q h; repeat (first | (have e := h.1; subst e; rfl) | (obtain ⟨_, h⟩ := h))
theorem l_earliest_of : ∀ ds C Q, P_earliest_of ds C Q → ds.length = 1 := by intro ds C Q h; repeat (first | (have e := h.1; subst e; rfl) | (obtain ⟨_, h⟩ := h))
theorem l_need_most : ∀ ds C Q, P_need_most ds C Q → ds.length = 2 := by intro ds C Q h; repeat (first | (have e := h.1; subst e; rfl) | (obtain ⟨_, h⟩ := h))
theorem l_to_come : ∀ ds C Q, P_to_come ds C Q → ds.length = 1 := by intro ds C Q h; repeat (first | (have e := h.1; subst e; rfl) | (obtain ⟨_, h⟩ := h))
theorem l_latest_of : ∀ ds C Q, P_latest_of ds C Q → ds.length = 2 := by intro ds C Q h; repeat (first | (have e := h.1; subst e; rfl) | (obtain ⟨_, h⟩ := h))
theorem l_latest : ∀ ds C Q, P_latest ds C Q → ds.length = 2 := by intro ds C Q h; repeat (first | (have e := h.1; subst e; rfl) | (obtain ⟨_, h⟩ := h))
theorem l_keeps_rules : ∀ ds C Q, P_keeps_rules ds C Q → ds.length = 2 := by intro ds C Q h; repeat (first | (have e := h.1; subst e; rfl) | (obtain ⟨_, h⟩ := h))
theorem l_is_block : ∀ ds C Q, P_is_block ds C Q → ds.length = 2 := by intro ds C Q h; repeat (first | (have e := h.1; subst e; rfl) | (obtain ⟨_, h⟩ := h))
theorem l_is_plan_of : ∀ ds C Q, P_is_plan_of ds C Q → ds.length = 3 := by intro ds C Q h; repeat (first | (have e := h.1; subst e; rfl) | (obtain ⟨_, h⟩ := h))
theorem l_need_plan : ∀ ds C Q, P_need_plan ds C Q → ds.length = 3 := by intro ds C Q h; repeat (first | (have e := h.1; subst e; rfl) | (obtain ⟨_, h⟩ := h))
theorem l_can_move : ∀ ds C Q, P_can_move ds C Q → ds.length = 5 := by intro ds C Q h; repeat (first | (have e := h.1; subst e; rfl) | (obtain ⟨_, h⟩ := h))
theorem l_moves : ∀ ds C Q, P_moves ds C Q → ds.length = 3 := by intro ds C Q h; repeat (first | (have e := h.1; subst e; rfl) | (obtain ⟨_, h⟩ := h))
theorem l_sm_lo : ∀ ds C Q, P_sm_lo ds C Q → ds.length = 2 := by intro ds C Q h; repeat (first | (have e := h.1; subst e; rfl) | (obtain ⟨_, h⟩ := h))
theorem l_sm_mid : ∀ ds C Q, P_sm_mid ds C Q → ds.length = 2 := by intro ds C Q h; repeat (first | (have e := h.1; subst e; rfl) | (obtain ⟨_, h⟩ := h))
theorem l_sm_hi : ∀ ds C Q, P_sm_hi ds C Q → ds.length = 2 := by intro ds C Q h; repeat (first | (have e := h.1; subst e; rfl) | (obtain ⟨_, h⟩ := h))
theorem l_Lw_moved : ∀ ds C Q, P_Lw_moved ds C Q → ds.length = 2 := by intro ds C Q h; repeat (first | (have e := h.1; subst e; rfl) | (obtain ⟨_, h⟩ := h))
theorem l_Lw_good : ∀ ds C Q, P_Lw_good ds C Q → ds.length = 2 := by intro ds C Q h; repeat (first | (have e := h.1; subst e; rfl) | (obtain ⟨_, h⟩ := h))
theorem l_Lw_can : ∀ ds C Q, P_Lw_can ds C Q → ds.length = 4 := by intro ds C Q h; repeat (first | (have e := h.1; subst e; rfl) | (obtain ⟨_, h⟩ := h))
theorem l_Lw_right : ∀ ds C Q, P_Lw_right ds C Q → ds.length = 2 := by intro ds C Q h; repeat (first | (have e := h.1; subst e; rfl) | (obtain ⟨_, h⟩ := h))
theorem l_Lw_bag : ∀ ds C Q, P_Lw_bag ds C Q → ds.length = 2 := by intro ds C Q h; repeat (first | (have e := h.1; subst e; rfl) | (obtain ⟨_, h⟩ := h))
theorem l_law : ∀ ds C Q, P_law ds C Q → ds.length = 1 := by intro ds C Q h; repeat (first | (have e := h.1; subst e; rfl) | (obtain ⟨_, h⟩ := h))
theorem promise : ∀ ns : List Int, ns.length ≤ 63 → P_law [.lst true (ns.map .int)] [] fun d _ => d = .bl true := fun ns h => ⟨ns, rfl, rfl, h, rfl⟩
abbrev sd0 : Stmt := (inClass (top 5) 0)
def dd0 : He.DefD := ⟨("TooFew", some "__init__"), "__init__", "TooFew.__init__", defArgs sd0, defBody sd0, defScope sd0, [], []⟩
abbrev sd1 : Stmt := (top 10)
def dd1 : He.DefD := ⟨("is_between", none), "is_between", "is_between", defArgs sd1, defBody sd1, defScope sd1, [], []⟩
abbrev sd2 : Stmt := (top 11)
def dd2 : He.DefD := ⟨("is_stamp", none), "is_stamp", "is_stamp", defArgs sd2, defBody sd2, defScope sd2, [], []⟩
abbrev sd3 : Stmt := (top 12)
def dd3 : He.DefD := ⟨("are_stamps", none), "are_stamps", "are_stamps", defArgs sd3, defBody sd3, defScope sd3, [], []⟩
abbrev sd4 : Stmt := (top 13)
def dd4 : He.DefD := ⟨("is_rule", none), "is_rule", "is_rule", defArgs sd4, defBody sd4, defScope sd4, [], []⟩
abbrev sd5 : Stmt := (top 14)
def dd5 : He.DefD := ⟨("are_rules", none), "are_rules", "are_rules", defArgs sd5, defBody sd5, defScope sd5, [], []⟩
abbrev sd6 : Stmt := (top 15)
def dd6 : He.DefD := ⟨("is_heap", none), "is_heap", "is_heap", defArgs sd6, defBody sd6, defScope sd6, [], []⟩
abbrev sd7 : Stmt := (top 16)
def dd7 : He.DefD := ⟨("straight_behind", none), "straight_behind", "straight_behind", defArgs sd7, defBody sd7, defScope sd7, [], []⟩
abbrev sd8 : Stmt := (top 17)
def dd8 : He.DefD := ⟨("ordered", none), "ordered", "ordered", defArgs sd8, defBody sd8, defScope sd8, [], []⟩
abbrev sd9 : Stmt := (top 18)
def dd9 : He.DefD := ⟨("ring_by", none), "ring_by", "ring_by", defArgs sd9, defBody sd9, defScope sd9, [], []⟩
abbrev sd10 : Stmt := (top 19)
def dd10 : He.DefD := ⟨("is_pile", none), "is_pile", "is_pile", defArgs sd10, defBody sd10, defScope sd10, [], []⟩
abbrev sd11 : Stmt := (top 20)
def dd11 : He.DefD := ⟨("need_pile", none), "need_pile", "need_pile", defArgs sd11, defBody sd11, defScope sd11, [], []⟩
abbrev sd12 : Stmt := (top 21)
def dd12 : He.DefD := ⟨("base_of", none), "base_of", "base_of", defArgs sd12, defBody sd12, defScope sd12, [], []⟩
abbrev sd13 : Stmt := (top 22)
def dd13 : He.DefD := ⟨("change", none), "change", "change", defArgs sd13, defBody sd13, defScope sd13, [], []⟩
abbrev sd14 : Stmt := (top 23)
def dd14 : He.DefD := ⟨("in_order", none), "in_order", "in_order", defArgs sd14, defBody sd14, defScope sd14, [], []⟩
abbrev sd15 : Stmt := (top 25)
def dd15 : He.DefD := ⟨("earliest_of", none), "earliest_of", "earliest_of", defArgs sd15, defBody sd15, defScope sd15, [], []⟩
abbrev sd16 : Stmt := (top 26)
def dd16 : He.DefD := ⟨("to_come", none), "to_come", "to_come", defArgs sd16, defBody sd16, defScope sd16, [], []⟩
abbrev sd17 : Stmt := (top 29)
def dd17 : He.DefD := ⟨("need_most", none), "need_most", "need_most", defArgs sd17, defBody sd17, defScope sd17, [], []⟩
abbrev sd18 : Stmt := (top 30)
def dd18 : He.DefD := ⟨("latest_of", none), "latest_of", "latest_of", defArgs sd18, defBody sd18, defScope sd18, [], []⟩
abbrev sd19 : Stmt := (top 31)
def dd19 : He.DefD := ⟨("latest", none), "latest", "latest", defArgs sd19, defBody sd19, defScope sd19, [], []⟩
abbrev sd20 : Stmt := (top 34)
def dd20 : He.DefD := ⟨("is_block", none), "is_block", "is_block", defArgs sd20, defBody sd20, defScope sd20, [], []⟩
abbrev sd21 : Stmt := (top 35)
def dd21 : He.DefD := ⟨("keeps_rules", none), "keeps_rules", "keeps_rules", defArgs sd21, defBody sd21, defScope sd21, [], []⟩
abbrev sd22 : Stmt := (top 36)
def dd22 : He.DefD := ⟨("is_plan_of", none), "is_plan_of", "is_plan_of", defArgs sd22, defBody sd22, defScope sd22, [], []⟩
abbrev sd23 : Stmt := (top 37)
def dd23 : He.DefD := ⟨("need_plan", none), "need_plan", "need_plan", defArgs sd23, defBody sd23, defScope sd23, [], []⟩
abbrev sd24 : Stmt := (top 38)
def dd24 : He.DefD := ⟨("can_move", none), "can_move", "can_move", defArgs sd24, defBody sd24, defScope sd24, [], []⟩
abbrev sd25 : Stmt := (top 39)
def dd25 : He.DefD := ⟨("moves", none), "moves", "moves", defArgs sd25, defBody sd25, defScope sd25, [], []⟩
abbrev sd26 : Stmt := (top 41)
def dd26 : He.DefD := ⟨("_law_bag", none), "_law_bag", "_law_bag", defArgs sd26, defBody sd26, defScope sd26, [], []⟩
abbrev sd27 : Stmt := (top 42)
def dd27 : He.DefD := ⟨("_law_draw", none), "_law_draw", "_law_draw", defArgs sd27, defBody sd27, defScope sd27, [], []⟩
abbrev sd28 : Stmt := (top 43)
def dd28 : He.DefD := ⟨("_law_pile", none), "_law_pile", "_law_pile", defArgs sd28, defBody sd28, defScope sd28, [], []⟩
abbrev sd29 : Stmt := (top 44)
def dd29 : He.DefD := ⟨("_law_some_pile", none), "_law_some_pile", "_law_some_pile", defArgs sd29, defBody sd29, defScope sd29, [], []⟩
abbrev sd30 : Stmt := (top 45)
def dd30 : He.DefD := ⟨("_law_base", none), "_law_base", "_law_base", defArgs sd30, defBody sd30, defScope sd30, [], []⟩
abbrev sd31 : Stmt := (top 46)
def dd31 : He.DefD := ⟨("_law_change", none), "_law_change", "_law_change", defArgs sd31, defBody sd31, defScope sd31, [], []⟩
abbrev sd32 : Stmt := (top 47)
def dd32 : He.DefD := ⟨("_law_early", none), "_law_early", "_law_early", defArgs sd32, defBody sd32, defScope sd32, [], []⟩
abbrev sd33 : Stmt := (top 48)
def dd33 : He.DefD := ⟨("_law_late", none), "_law_late", "_law_late", defArgs sd33, defBody sd33, defScope sd33, [], []⟩
abbrev sd34 : Stmt := (top 49)
def dd34 : He.DefD := ⟨("_law_fewest", none), "_law_fewest", "_law_fewest", defArgs sd34, defBody sd34, defScope sd34, [], []⟩
abbrev sd35 : Stmt := (top 50)
def dd35 : He.DefD := ⟨("_law_most", none), "_law_most", "_law_most", defArgs sd35, defBody sd35, defScope sd35, [], []⟩
abbrev sd36 : Stmt := (top 51)
def dd36 : He.DefD := ⟨("_law_good", none), "_law_good", "_law_good", defArgs sd36, defBody sd36, defScope sd36, [], []⟩
abbrev sd37 : Stmt := (top 52)
def dd37 : He.DefD := ⟨("_law_led", none), "_law_led", "_law_led", defArgs sd37, defBody sd37, defScope sd37, [], []⟩
abbrev sd38 : Stmt := (top 53)
def dd38 : He.DefD := ⟨("_law_plan", none), "_law_plan", "_law_plan", defArgs sd38, defBody sd38, defScope sd38, [], []⟩
abbrev sd39 : Stmt := (top 54)
def dd39 : He.DefD := ⟨("_law_moved", none), "_law_moved", "_law_moved", defArgs sd39, defBody sd39, defScope sd39, [], []⟩
abbrev sd40 : Stmt := (top 55)
def dd40 : He.DefD := ⟨("_law_can", none), "_law_can", "_law_can", defArgs sd40, defBody sd40, defScope sd40, [], []⟩
abbrev sd41 : Stmt := (top 56)
def dd41 : He.DefD := ⟨("_law_same", none), "_law_same", "_law_same", defArgs sd41, defBody sd41, defScope sd41, [], []⟩
abbrev sd42 : Stmt := (top 57)
def dd42 : He.DefD := ⟨("_law_cells", none), "_law_cells", "_law_cells", defArgs sd42, defBody sd42, defScope sd42, [], []⟩
abbrev sd43 : Stmt := (top 58)
def dd43 : He.DefD := ⟨("_law_right", none), "_law_right", "_law_right", defArgs sd43, defBody sd43, defScope sd43, [], []⟩
abbrev sd44 : Stmt := (top 59)
def dd44 : He.DefD := ⟨("law", none), "law", "law", defArgs sd44, defBody sd44, defScope sd44, [], []⟩
def fn_0 : List He.DefD := [dd0, dd1, dd2, dd3, dd4, dd5, dd6, dd7, dd8, dd9, dd10, dd11, dd12, dd13, dd14, dd15, dd16, dd17, dd18, dd19, dd20, dd21, dd22, dd23, dd24, dd25, dd26, dd27, dd28, dd29]
def fn_1 : List He.DefD := [dd30, dd31, dd32, dd33, dd34, dd35, dd36, dd37, dd38, dd39, dd40, dd41, dd42, dd43, dd44]
def fn : List He.DefD := fn_0 ++ fn_1
def fa_0 : List He.Fa := [.glo "_law_cells", .glo "_law_draw", .glo "_law_pile", .glo "_law_some_pile", .glo "_law_base", .glo "_law_change", .glo "_law_early", .glo "_law_fewest", .glo "_law_most", .glo "_law_late", .glo "_law_led", .glo "_law_plan", .glo "is_stamp", .glo "are_stamps", .glo "is_between", .glo "is_rule", .glo "are_rules", .glo "is_heap", .glo "straight_behind", .glo "ordered", .glo "ring_by", .glo "is_pile", .glo "need_pile", .glo "in_order", .glo "base_of", .glo "change", .glo "earliest_of", .glo "need_most", .glo "to_come", .glo "latest_of"]
def fa_1 : List He.Fa := [.glo "latest", .glo "keeps_rules", .glo "is_block", .glo "is_plan_of", .glo "need_plan", .glo "can_move", .glo "moves", .glo "_law_same", .glo "_law_moved", .glo "_law_good", .glo "_law_can", .glo "_law_right", .glo "_law_bag", .glo "law", .free "len", .free "range", .free "list", .free "max", .free "min", .free "sorted", .free "int", .free "enumerate", .free "zip", .free "isinstance", .free "str", .free "all", .free "bool", .free "tuple", .free "repr", .str "STAMPS" "RB"]
def fa_2 : List He.Fa := [.int "MOST_PAPERS" 24, .int "MOST_RULES" 60, .int "FARTHEST" 1000000000000000000000000000000, .int "STEP" 2]
def fa : List He.Fa := fa_0 ++ fa_1 ++ fa_2
def loose_0 : List Str := ["StampError", "NoPile", "NoNumber", "NoPlan", "TooFew", "STAMPS", "MOST_PAPERS", "MOST_RULES", "is_between", "is_stamp", "are_stamps", "is_rule", "are_rules", "is_heap", "straight_behind", "ordered", "ring_by", "is_pile", "need_pile", "base_of", "change", "in_order", "earliest_of", "to_come", "FARTHEST", "need_most", "latest_of", "latest", "STEP", "is_block"]
def loose_1 : List Str := ["keeps_rules", "is_plan_of", "need_plan", "can_move", "moves", "_law_bag", "_law_draw", "_law_pile", "_law_some_pile", "_law_base", "_law_change", "_law_early", "_law_late", "_law_fewest", "_law_most", "_law_good", "_law_led", "_law_plan", "_law_moved", "_law_can", "_law_same", "_law_cells", "_law_right"]
def loose : List Str := loose_0 ++ loose_1
abbrev R : PySem.W.OpenRow := PySem.W.OpenLaw.row PySem.Challenge.rw_twostamps_k39_moves_told
abbrev hk : PySem.W.Hook := hookL 6 fa fn
def ob (s : PySem.W.SharedT) : He.AlD := obsL 6 fa fn (HandSHeadRun.getT s)
theorem ob_eq (s : PySem.W.SharedT) : ob s = hk.obs s.abs := obsL_eq (HandSHeadRun.getT_eq s)
theorem run (w : World) : HandSHeadRun.RunEq R (PySem.W.view R.prog [59]) hk ob 8000 loose w := by
  intro os
  kernel_rfl
theorem facts {P : Program} {w : World} {K : PySem.W.Frag} {h : Heap} {mg : Str → Option Value} {f : Addr} (X : K.In h) (G : h.Ns mainGlobals mg) (hfa : mg ("law" : Str) = some (.ref f)) (c : He.SaysD fa fn K) :
    ∃ fd : FuncData, (∀ (s : Shared) (v : Value), BindsTo s fd ⟨[v], []⟩ [("_law_script", v)]) ∧ ∀ base : Heap, K.In base → base.Ns mainGlobals mg → FnOkG P w K mg base CX0 10 f fd ["_law_script"] (Sp3 K 0 P_law) := by
  obtain ⟨fd_Lw_cells, F_Lw_cells⟩ := c.def_ 42 (d := dd42) rfl
  have g_Lw_cells := He.glo_ok X G (c.fact 0 (f := .glo "_law_cells") rfl)
  obtain ⟨fd_Lw_draw, F_Lw_draw⟩ := c.def_ 27 (d := dd27) rfl
  have g_Lw_draw := He.glo_ok X G (c.fact 1 (f := .glo "_law_draw") rfl)
  obtain ⟨fd_Lw_pile, F_Lw_pile⟩ := c.def_ 28 (d := dd28) rfl
  have g_Lw_pile := He.glo_ok X G (c.fact 2 (f := .glo "_law_pile") rfl)
  obtain ⟨fd_Lw_some_pile, F_Lw_some_pile⟩ := c.def_ 29 (d := dd29) rfl
  have g_Lw_some_pile := He.glo_ok X G (c.fact 3 (f := .glo "_law_some_pile") rfl)
  obtain ⟨fd_Lw_base, F_Lw_base⟩ := c.def_ 30 (d := dd30) rfl
  have g_Lw_base := He.glo_ok X G (c.fact 4 (f := .glo "_law_base") rfl)
  obtain ⟨fd_Lw_change, F_Lw_change⟩ := c.def_ 31 (d := dd31) rfl
  have g_Lw_change := He.glo_ok X G (c.fact 5 (f := .glo "_law_change") rfl)
  obtain ⟨fd_Lw_early, F_Lw_early⟩ := c.def_ 32 (d := dd32) rfl
  have g_Lw_early := He.glo_ok X G (c.fact 6 (f := .glo "_law_early") rfl)
  obtain ⟨fd_Lw_fewest, F_Lw_fewest⟩ := c.def_ 34 (d := dd34) rfl
  have g_Lw_fewest := He.glo_ok X G (c.fact 7 (f := .glo "_law_fewest") rfl)
  obtain ⟨fd_Lw_most, F_Lw_most⟩ := c.def_ 35 (d := dd35) rfl
  have g_Lw_most := He.glo_ok X G (c.fact 8 (f := .glo "_law_most") rfl)
  obtain ⟨fd_Lw_late, F_Lw_late⟩ := c.def_ 33 (d := dd33) rfl
  have g_Lw_late := He.glo_ok X G (c.fact 9 (f := .glo "_law_late") rfl)
  obtain ⟨fd_Lw_led, F_Lw_led⟩ := c.def_ 37 (d := dd37) rfl
  have g_Lw_led := He.glo_ok X G (c.fact 10 (f := .glo "_law_led") rfl)
  obtain ⟨fd_Lw_plan, F_Lw_plan⟩ := c.def_ 38 (d := dd38) rfl
  have g_Lw_plan := He.glo_ok X G (c.fact 11 (f := .glo "_law_plan") rfl)
  obtain ⟨fd_is_stamp, F_is_stamp⟩ := c.def_ 2 (d := dd2) rfl
  have g_is_stamp := He.glo_ok X G (c.fact 12 (f := .glo "is_stamp") rfl)
  obtain ⟨fd_are_stamps, F_are_stamps⟩ := c.def_ 3 (d := dd3) rfl
  have g_are_stamps := He.glo_ok X G (c.fact 13 (f := .glo "are_stamps") rfl)
  obtain ⟨fd_is_between, F_is_between⟩ := c.def_ 1 (d := dd1) rfl
  have g_is_between := He.glo_ok X G (c.fact 14 (f := .glo "is_between") rfl)
  obtain ⟨fd_is_rule, F_is_rule⟩ := c.def_ 4 (d := dd4) rfl
  have g_is_rule := He.glo_ok X G (c.fact 15 (f := .glo "is_rule") rfl)
  obtain ⟨fd_are_rules, F_are_rules⟩ := c.def_ 5 (d := dd5) rfl
  have g_are_rules := He.glo_ok X G (c.fact 16 (f := .glo "are_rules") rfl)
  obtain ⟨fd_is_heap, F_is_heap⟩ := c.def_ 6 (d := dd6) rfl
  have g_is_heap := He.glo_ok X G (c.fact 17 (f := .glo "is_heap") rfl)
  obtain ⟨fd_straight_behind, F_straight_behind⟩ := c.def_ 7 (d := dd7) rfl
  have g_straight_behind := He.glo_ok X G (c.fact 18 (f := .glo "straight_behind") rfl)
  obtain ⟨fd_ordered, F_ordered⟩ := c.def_ 8 (d := dd8) rfl
  have g_ordered := He.glo_ok X G (c.fact 19 (f := .glo "ordered") rfl)
  obtain ⟨fd_ring_by, F_ring_by⟩ := c.def_ 9 (d := dd9) rfl
  have g_ring_by := He.glo_ok X G (c.fact 20 (f := .glo "ring_by") rfl)
  obtain ⟨fd_is_pile, F_is_pile⟩ := c.def_ 10 (d := dd10) rfl
  have g_is_pile := He.glo_ok X G (c.fact 21 (f := .glo "is_pile") rfl)
  obtain ⟨fd_need_pile, F_need_pile⟩ := c.def_ 11 (d := dd11) rfl
  have g_need_pile := He.glo_ok X G (c.fact 22 (f := .glo "need_pile") rfl)
  obtain ⟨fd_in_order, F_in_order⟩ := c.def_ 14 (d := dd14) rfl
  have g_in_order := He.glo_ok X G (c.fact 23 (f := .glo "in_order") rfl)
  obtain ⟨fd_base_of, F_base_of⟩ := c.def_ 12 (d := dd12) rfl
  have g_base_of := He.glo_ok X G (c.fact 24 (f := .glo "base_of") rfl)
  obtain ⟨fd_change, F_change⟩ := c.def_ 13 (d := dd13) rfl
  have g_change := He.glo_ok X G (c.fact 25 (f := .glo "change") rfl)
  obtain ⟨fd_earliest_of, F_earliest_of⟩ := c.def_ 15 (d := dd15) rfl
  have g_earliest_of := He.glo_ok X G (c.fact 26 (f := .glo "earliest_of") rfl)
  obtain ⟨fd_need_most, F_need_most⟩ := c.def_ 17 (d := dd17) rfl
  have g_need_most := He.glo_ok X G (c.fact 27 (f := .glo "need_most") rfl)
  obtain ⟨fd_to_come, F_to_come⟩ := c.def_ 16 (d := dd16) rfl
  have g_to_come := He.glo_ok X G (c.fact 28 (f := .glo "to_come") rfl)
  obtain ⟨fd_latest_of, F_latest_of⟩ := c.def_ 18 (d := dd18) rfl
  have g_latest_of := He.glo_ok X G (c.fact 29 (f := .glo "latest_of") rfl)
  obtain ⟨fd_latest, F_latest⟩ := c.def_ 19 (d := dd19) rfl
  have g_latest := He.glo_ok X G (c.fact 30 (f := .glo "latest") rfl)
  obtain ⟨fd_keeps_rules, F_keeps_rules⟩ := c.def_ 21 (d := dd21) rfl
  have g_keeps_rules := He.glo_ok X G (c.fact 31 (f := .glo "keeps_rules") rfl)
  obtain ⟨fd_is_block, F_is_block⟩ := c.def_ 20 (d := dd20) rfl
  have g_is_block := He.glo_ok X G (c.fact 32 (f := .glo "is_block") rfl)
  obtain ⟨fd_is_plan_of, F_is_plan_of⟩ := c.def_ 22 (d := dd22) rfl
  have g_is_plan_of := He.glo_ok X G (c.fact 33 (f := .glo "is_plan_of") rfl)
  obtain ⟨fd_need_plan, F_need_plan⟩ := c.def_ 23 (d := dd23) rfl
  have g_need_plan := He.glo_ok X G (c.fact 34 (f := .glo "need_plan") rfl)
  obtain ⟨fd_can_move, F_can_move⟩ := c.def_ 24 (d := dd24) rfl
  have g_can_move := He.glo_ok X G (c.fact 35 (f := .glo "can_move") rfl)
  obtain ⟨fd_moves, F_moves⟩ := c.def_ 25 (d := dd25) rfl
  have g_moves := He.glo_ok X G (c.fact 36 (f := .glo "moves") rfl)
  obtain ⟨fd_Lw_same, F_Lw_same⟩ := c.def_ 41 (d := dd41) rfl
  have g_Lw_same := He.glo_ok X G (c.fact 37 (f := .glo "_law_same") rfl)
  obtain ⟨fd_Lw_moved, F_Lw_moved⟩ := c.def_ 39 (d := dd39) rfl
  have g_Lw_moved := He.glo_ok X G (c.fact 38 (f := .glo "_law_moved") rfl)
  obtain ⟨fd_Lw_good, F_Lw_good⟩ := c.def_ 36 (d := dd36) rfl
  have g_Lw_good := He.glo_ok X G (c.fact 39 (f := .glo "_law_good") rfl)
  obtain ⟨fd_Lw_can, F_Lw_can⟩ := c.def_ 40 (d := dd40) rfl
  have g_Lw_can := He.glo_ok X G (c.fact 40 (f := .glo "_law_can") rfl)
  obtain ⟨fd_Lw_right, F_Lw_right⟩ := c.def_ 43 (d := dd43) rfl
  have g_Lw_right := He.glo_ok X G (c.fact 41 (f := .glo "_law_right") rfl)
  obtain ⟨fd_Lw_bag, F_Lw_bag⟩ := c.def_ 26 (d := dd26) rfl
  have g_Lw_bag := He.glo_ok X G (c.fact 42 (f := .glo "_law_bag") rfl)
  obtain ⟨fd_law, F_law⟩ := c.def_ 44 (d := dd44) rfl
  have g_law := He.glo_ok X G (c.fact 43 (f := .glo "law") rfl)
  have m_len := He.free_ok X G (c.fact 44 (f := .free "len") rfl)
  have m_range := He.free_ok X G (c.fact 45 (f := .free "range") rfl)
  have m_list := He.free_ok X G (c.fact 46 (f := .free "list") rfl)
  have m_max := He.free_ok X G (c.fact 47 (f := .free "max") rfl)
  have m_min := He.free_ok X G (c.fact 48 (f := .free "min") rfl)
  have m_sorted := He.free_ok X G (c.fact 49 (f := .free "sorted") rfl)
  have m_int := He.free_ok X G (c.fact 50 (f := .free "int") rfl)
  have m_enumerate := He.free_ok X G (c.fact 51 (f := .free "enumerate") rfl)
  have m_zip := He.free_ok X G (c.fact 52 (f := .free "zip") rfl)
  have m_isinstance := He.free_ok X G (c.fact 53 (f := .free "isinstance") rfl)
  have m_str := He.free_ok X G (c.fact 54 (f := .free "str") rfl)
  have m_all := He.free_ok X G (c.fact 55 (f := .free "all") rfl)
  have m_bool := He.free_ok X G (c.fact 56 (f := .free "bool") rfl)
  have m_tuple := He.free_ok X G (c.fact 57 (f := .free "tuple") rfl)
  have m_repr := He.free_ok X G (c.fact 58 (f := .free "repr") rfl)
  have c_STAMPS := He.str_ok X G (c.fact 59 (f := .str "STAMPS" "RB") rfl)
  have c_MOST_PAPERS := He.int_ok X G (c.fact 60 (f := .int "MOST_PAPERS" 24) rfl)
  have c_MOST_RULES := He.int_ok X G (c.fact 61 (f := .int "MOST_RULES" 60) rfl)
  have c_FARTHEST := He.int_ok X G (c.fact 62 (f := .int "FARTHEST" 1000000000000000000000000000000) rfl)
  have c_STEP := He.int_ok X G (c.fact 63 (f := .int "STEP" 2) rfl)
  have e_law := hfa.symm.trans g_law
  cases e_law
  have bl := FunD.bindsA (ps := ["_law_script"]) F_law fun _ _ _ _ _ _ us hl => match us, hl with | [_], _ => rfl
  refine ⟨fd_law, fun s v => bl s [v] rfl, fun base _ _ => ?_⟩
  have C_Lw_cells := d_Lw_cells (P := P) (w := w) (base := base) (mg := mg) F_Lw_cells g_Lw_cells l_Lw_cells v_Lw_cells  m_len
  have C_Lw_draw := d_Lw_draw (P := P) (w := w) (base := base) (mg := mg) F_Lw_draw g_Lw_draw l_Lw_draw v_Lw_draw  
  have C_Lw_pile := d_Lw_pile (P := P) (w := w) (base := base) (mg := mg) F_Lw_pile g_Lw_pile l_Lw_pile v_Lw_pile C_Lw_draw m_range m_list m_len m_max m_min m_sorted
  have C_Lw_some_pile := d_Lw_some_pile (P := P) (w := w) (base := base) (mg := mg) F_Lw_some_pile g_Lw_some_pile l_Lw_some_pile v_Lw_some_pile C_Lw_draw C_Lw_pile m_range m_min
  have C_Lw_base := d_Lw_base (P := P) (w := w) (base := base) (mg := mg) F_Lw_base g_Lw_base l_Lw_base v_Lw_base  m_int
  have C_Lw_change := d_Lw_change (P := P) (w := w) (base := base) (mg := mg) F_Lw_change g_Lw_change l_Lw_change v_Lw_change  m_int
  have C_Lw_early := d_Lw_early (P := P) (w := w) (base := base) (mg := mg) F_Lw_early g_Lw_early l_Lw_early v_Lw_early C_Lw_base C_Lw_change m_len m_range m_max
  have C_Lw_fewest := d_Lw_fewest (P := P) (w := w) (base := base) (mg := mg) F_Lw_fewest g_Lw_fewest l_Lw_fewest v_Lw_fewest C_Lw_early m_max
  have C_Lw_most := d_Lw_most (P := P) (w := w) (base := base) (mg := mg) F_Lw_most g_Lw_most l_Lw_most v_Lw_most C_Lw_fewest C_Lw_draw 
  have C_Lw_late := d_Lw_late (P := P) (w := w) (base := base) (mg := mg) F_Lw_late g_Lw_late l_Lw_late v_Lw_late C_Lw_base C_Lw_change m_len m_range m_min
  have C_Lw_led := d_Lw_led (P := P) (w := w) (base := base) (mg := mg) F_Lw_led g_Lw_led l_Lw_led v_Lw_led C_Lw_base C_Lw_change C_Lw_late m_enumerate m_max m_len m_range m_zip m_min
  have C_Lw_plan := d_Lw_plan (P := P) (w := w) (base := base) (mg := mg) F_Lw_plan g_Lw_plan l_Lw_plan v_Lw_plan C_Lw_draw C_Lw_early C_Lw_late C_Lw_led m_zip
  have C_is_stamp := d_is_stamp (P := P) (w := w) (base := base) (mg := mg) F_is_stamp g_is_stamp l_is_stamp v_is_stamp  m_len m_isinstance m_str c_STAMPS
  have C_are_stamps := d_are_stamps (P := P) (w := w) (base := base) (mg := mg) F_are_stamps g_are_stamps l_are_stamps v_are_stamps  m_all m_len m_isinstance m_str c_STAMPS c_MOST_PAPERS
  have C_is_between := d_is_between (P := P) (w := w) (base := base) (mg := mg) F_is_between g_is_between l_is_between v_is_between  m_isinstance m_bool m_int
  have C_is_rule := d_is_rule (P := P) (w := w) (base := base) (mg := mg) F_is_rule g_is_rule l_is_rule v_is_rule C_is_between m_all m_len m_isinstance m_tuple
  have C_are_rules := d_are_rules (P := P) (w := w) (base := base) (mg := mg) F_are_rules g_are_rules l_are_rules v_are_rules C_is_rule m_all m_len m_isinstance m_list m_zip c_MOST_RULES
  have C_is_heap := d_is_heap (P := P) (w := w) (base := base) (mg := mg) F_is_heap g_is_heap l_is_heap v_is_heap C_are_rules C_are_stamps C_is_stamp m_len m_isinstance m_tuple
  have C_straight_behind := d_straight_behind (P := P) (w := w) (base := base) (mg := mg) F_straight_behind g_straight_behind l_straight_behind v_straight_behind  m_range
  have C_ordered := d_ordered (P := P) (w := w) (base := base) (mg := mg) F_ordered g_ordered l_ordered v_ordered C_straight_behind m_range m_min
  have C_ring_by := d_ring_by (P := P) (w := w) (base := base) (mg := mg) F_ring_by g_ring_by l_ring_none v_ring_none C_ordered m_range m_min
  have C_is_pile := d_is_pile (P := P) (w := w) (base := base) (mg := mg) F_is_pile g_is_pile l_is_pile v_is_pile C_ring_by C_is_heap m_len
  have C_need_pile := d_need_pile (P := P) (w := w) (base := base) (mg := mg) F_need_pile g_need_pile l_need_pile v_need_pile C_is_pile 
  have C_in_order := d_in_order (P := P) (w := w) (base := base) (mg := mg) F_in_order g_in_order l_in_order v_in_order C_ordered m_len
  have C_base_of := d_base_of (P := P) (w := w) (base := base) (mg := mg) F_base_of g_base_of l_base_of v_base_of  m_int
  have C_change := d_change (P := P) (w := w) (base := base) (mg := mg) F_change g_change l_change v_change  m_int
  have C_earliest_of := d_earliest_of (P := P) (w := w) (base := base) (mg := mg) F_earliest_of g_earliest_of l_earliest_of v_earliest_of C_base_of C_in_order C_change m_len m_range m_max
  have C_need_most := d_need_most (P := P) (w := w) (base := base) (mg := mg) F_need_most g_need_most l_need_most v_need_most C_is_between C_earliest_of m_max c_FARTHEST
  have C_to_come := d_to_come (P := P) (w := w) (base := base) (mg := mg) F_to_come g_to_come l_to_come v_to_come C_in_order C_change m_len m_max
  have C_latest_of := d_latest_of (P := P) (w := w) (base := base) (mg := mg) F_latest_of g_latest_of l_latest_of v_latest_of C_to_come C_earliest_of m_zip
  have C_latest := d_latest (P := P) (w := w) (base := base) (mg := mg) F_latest g_latest l_latest v_latest C_need_pile C_need_most C_latest_of 
  have C_keeps_rules := d_keeps_rules (P := P) (w := w) (base := base) (mg := mg) F_keeps_rules g_keeps_rules l_keeps_rules v_keeps_rules  m_all
  have C_is_block := d_is_block (P := P) (w := w) (base := base) (mg := mg) F_is_block g_is_block l_is_block v_is_block  m_isinstance m_bool m_int
  have C_is_plan_of := d_is_plan_of (P := P) (w := w) (base := base) (mg := mg) F_is_plan_of g_is_plan_of l_is_plan_of v_is_plan_of C_is_block C_base_of C_keeps_rules m_all m_len m_isinstance m_list m_enumerate c_STEP
  have C_need_plan := d_need_plan (P := P) (w := w) (base := base) (mg := mg) F_need_plan g_need_plan l_need_plan v_need_plan C_is_plan_of 
  have C_can_move := d_can_move (P := P) (w := w) (base := base) (mg := mg) F_can_move g_can_move l_can_move v_can_move  
  have C_moves := d_moves (P := P) (w := w) (base := base) (mg := mg) F_moves g_moves l_moves v_moves C_latest C_need_plan C_can_move m_len m_range c_STEP
  have C0_Lw_same := nv_Lw_same (P := P) (w := w) (base := base) (lo := 0) F_Lw_same g_Lw_same
  have C1_Lw_same := d_Lw_same (P := P) (w := w) (base := base) F_Lw_same g_Lw_same (lo := 0) (by decide) l_sm_lo v_sm_lo C0_Lw_same m_isinstance m_list m_tuple m_len m_range m_all m_int m_bool
  have C2_Lw_same := d_Lw_same (P := P) (w := w) (base := base) F_Lw_same g_Lw_same (lo := 1) (by decide) l_sm_mid v_sm_mid C1_Lw_same m_isinstance m_list m_tuple m_len m_range m_all m_int m_bool
  have C_Lw_same := d_Lw_same (P := P) (w := w) (base := base) F_Lw_same g_Lw_same (lo := 2) (by decide) l_sm_hi v_sm_hi C2_Lw_same m_isinstance m_list m_tuple m_len m_range m_all m_int m_bool
  have C_Lw_moved := d_Lw_moved (P := P) (w := w) (base := base) (mg := mg) F_Lw_moved g_Lw_moved l_Lw_moved v_Lw_moved  m_enumerate m_int
  have C_Lw_good := d_Lw_good (P := P) (w := w) (base := base) (mg := mg) F_Lw_good g_Lw_good l_Lw_good v_Lw_good C_Lw_base m_len m_range
  have C_Lw_can := d_Lw_can (P := P) (w := w) (base := base) (mg := mg) F_Lw_can g_Lw_can l_Lw_can v_Lw_can C_Lw_moved C_Lw_good m_max
  have C_Lw_right := d_Lw_right (P := P) (w := w) (base := base) (mg := mg) F_Lw_right g_Lw_right l_Lw_right v_Lw_right C_Lw_some_pile C_Lw_most C_Lw_plan C_Lw_can C_moves C_Lw_same m_repr m_len m_range
  have C_Lw_bag := d_Lw_bag (P := P) (w := w) (base := base) (mg := mg) F_Lw_bag g_Lw_bag l_Lw_bag v_Lw_bag  m_max
  exact d_law (P := P) (w := w) (base := base) F_law g_law l_law v_law C_Lw_cells C_Lw_right C_Lw_bag m_enumerate
end K39
end PN
end L3
open PySem PySem.W PySem.Calls PyProof.Rows
theorem PySem.Challenge.cw_twostamps_k39_moves_told_holds : PySem.Challenge.rw_twostamps_k39_moves_told.Holds := by
  w_on; o_law
  refine HandSHeadRun.head_any (r := OpenLaw.row PySem.Challenge.rw_twostamps_k39_moves_told) (q := view (OpenLaw.row PySem.Challenge.rw_twostamps_k39_moves_told).prog [59]) (H := L3.PN.K39.hk) (ob := L3.PN.K39.ob) (M := 8000) (loose := L3.PN.K39.loose) (d := HandSHeadRun.topDef (OpenLaw.row PySem.Challenge.rw_twostamps_k39_moves_told).prog 59) (kwd := []) L3.PN.K39.ob_eq
    (by kernel_rfl) (fun s => by kernel_rfl) L3.PN.K39.run (by kernel_rfl) (by kernel_rfl) (by kernel_rfl) (by rfl) (by first | assumption | decide +kernel) (by decide +kernel) ⟨rfl, rfl, rfl, rfl, rfl, by decide +kernel⟩ ?hw ?hc
  case hw => w_witness2
  case hc =>
    refine L3.walk_ofG (l := PySem.Challenge.rw_twostamps_k39_moves_told) (n := 63) (k := 10) (x := "_law_script") rfl (by decide) (by kernel_rfl) ⟨rfl, by decide, by decide⟩ ?F L3.PN.K39.promise
    intro w mg fa h Y G hmg0
    obtain ⟨K, KX, c, hL⟩ := Y
    have hmg : mg ("law" : PySem.Str) = some (.ref fa) := by
      have e : (HandSHeadRun.topDef (OpenLaw.row PySem.Challenge.rw_twostamps_k39_moves_told).prog 59).name = ("law" : PySem.Str) := by kernel_rfl
      rw [← e]
      exact hmg0
    obtain ⟨fd, hb, hF⟩ := L3.PN.K39.facts (P := (PySem.Challenge.rw_twostamps_k39_moves_told).prog) (w := w) KX G hmg c
    exact ⟨K, fd, KX, hL, hb, hF⟩

