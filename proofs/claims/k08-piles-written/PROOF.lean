import PyProof.Rows.All
import Wide.All
import OpenK.AllK
import Wide.FinOn
import HandS.ForMost
import HandS.More
import HandS.Defaults
import HandS.HeadHook1
import HandS.Deep
import HandS.SortInts
import HandS.SortRule
import HandS.IsInst
import HandS.Wide
import HandS.Style
import KE.IntTextLaws
import HandS.SetFor
import HandS.Replace
import HandS.Conv
import HandS.Zip
import HandS.RaiseMore
import HandS.Small
import KE.KDictZip
import KE.KDictList
import KE.DataMinMax
import HandS.TupLen
import KE.KDictSum
import HandS.Comp
import HandS.TryOnly
import HandS.DictComp
import HandS.WordsDict
import HandS.Exc
import HandS.ExcOwn
import HandS.Head0
import HandS.Head1
import HandS.Head2
import HandS.HeadEnd
import HandS.HeadHook2
import HandS.HeadHook4
import HandS.ExcInit
import HandS.ExcField
import HandS.Iter
import HandS.ExcIs
import HandS.TupSets
import HandS.Strs
import KE.SortData
import HandS.TupLe
import KE.GoesMore
import HandS.WideBits
import HandS.StrMore
import PyProof.ListStr
import KE.GoesZip
import HandS.Dict
import HandS.DictEq
import KE.KEqDict
import HandS.ListItems
import HandS.Finally
import HandS.FStr
import HandS.TryMany
import KE.KIntText
import PySem.Challenge.RW_twostamps_k08_piles_written
set_option Elab.async false
set_option linter.all false
set_option maxRecDepth 100000
set_option maxHeartbeats 0
set_option autoImplicit false
namespace L3
open PySem PySem.Spec PyProof.Rows L2
inductive D where
  | bad | non | bl (b : Bool) | int (i : Int) | str (s : Str)
  | lst (o : Bool) (xs : List D) | tup (xs : List D)
  | dk (o : Bool) (ks : List Key) (xs : List D) | dt (o : Bool) (ks : List (List Key)) (xs : List D)
  | obj (nm : Str) (ns : List Str) (xs : List D)
  | exc (nm : Str) (ns : List Str) (xs : List D)
  | ptr (k : Nat)
  deriving Inhabited
inductive Cell where
  | lst (xs : List D) | dk (ks : List Key) (xs : List D) | dt (ks : List (List Key)) (xs : List D)
  | ins (C : Str) (ns : List Str) (xs : List D) | dead
  deriving Inhabited
abbrev Slots := List (Option D)
abbrev Store := List Cell
abbrev Ads := List (Option Addr)
abbrev Av := Addr → Prop
def LstA (av : Av) (H : Hp) (a : Addr) (vs : List V) : Prop := Rd H a (.lst vs) ∧ ¬ av a
def TupA (av : Av) (H : Hp) (a : Addr) (vs : List V) : Prop := H a = some (.tup vs) ∧ ¬ av a
theorem LstA.sq {K : PySem.W.Frag} {av : Av} {H : Hp} {a : Addr} {vs : List V} (h : LstA av H a vs) : SqL K H a vs := .inl h.1
theorem TupA.sq {K : PySem.W.Frag} {av : Av} {H : Hp} {a : Addr} {vs : List V} (h : TupA av H a vs) : SqT K H a vs := .inl (.inl h.1)
def ExT (cls : Value) (d : Option Addr) (a : Addr) : HO := .ext fun h => ∃ (oe : Obj) (vs : Array Value), h.get? a = some oe ∧ oe.cls = cls ∧ oe.dict = d ∧ oe.data = .fields vs
def ExD (av : Av) (H : Hp) (d : Option Addr) (fs : List (Str × V)) : Prop := (d = none ∧ fs = []) ∨ ∃ dd, d = some dd ∧ H dd = some (.xd fs) ∧ ¬ av dd
mutual
inductive Den (K : PySem.W.Frag) (H0 : Hp) (av : Av) (ad : Ads) (H : Hp) : V → D → Prop
  | bad {v : V} : Den K H0 av ad H v .bad
  | non : Den K H0 av ad H .non .non
  | bl {b : Bool} : Den K H0 av ad H (.bl b) (.bl b)
  | int {i : Int} : Den K H0 av ad H (.int i) (.int i)
  | str {s : Str} : Den K H0 av ad H (.str s) (.str s)
  | lst {a : Addr} {vs : List V} {o : Bool} {ds : List D} : LstA av H a vs → (o = false → H0 a = none ∧ H a = some (.lst vs)) → DenAll K H0 av ad H vs ds → Den K H0 av ad H (.ref a) (.lst o ds)
  | tup {a : Addr} {vs : List V} {ds : List D} : TupA av H a vs → DenAll K H0 av ad H vs ds → Den K H0 av ad H (.ref a) (.tup ds)
  | dk {a : Addr} {kvs : List (Key × V)} {o : Bool} {ks : List Key} {ds : List D} : Rd H a (.dK kvs) → ¬ av a → (o = false → H0 a = none) → kvs.map (·.1) = ks → DenAll K H0 av ad H (kvs.map (·.2)) ds → Den K H0 av ad H (.ref a) (.dk o ks ds)
  | dt {a : Addr} {kvs : List (List Key × V)} {o : Bool} {ks : List (List Key)} {ds : List D} : Rd H a (.dT kvs) → ¬ av a → (o = false → H0 a = none) → kvs.map (·.1) = ks → DenAll K H0 av ad H (kvs.map (·.2)) ds → Den K H0 av ad H (.ref a) (.dt o ks ds)
  | obj {a dx : Addr} {nm : Str} {fs : List (Str × V)} {ns : List Str} {ds : List D} : H a = some (.ins (He.ga K nm) dx fs) → ¬ av a → fs.map (·.1) = ns → DenAll K H0 av ad H (fs.map (·.2)) ds → Den K H0 av ad H (.ref a) (.obj nm ns ds)
  | exc {a : Addr} {d : Option Addr} {nm : Str} {fs : List (Str × V)} {ns : List Str} {ds : List D} : H a = some (ExT (.ref (He.ga K nm)) d a) → ¬ av a → ExD av H d fs → fs.map (·.1) = ns → DenAll K H0 av ad H (fs.map (·.2)) ds → Den K H0 av ad H (.ref a) (.exc nm ns ds)
  | ptr {a : Addr} {k : Nat} : ad[k]? = some (some a) → Den K H0 av ad H (.ref a) (.ptr k)
inductive DenAll (K : PySem.W.Frag) (H0 : Hp) (av : Av) (ad : Ads) (H : Hp) : List V → List D → Prop
  | nil : DenAll K H0 av ad H [] []
  | cons {v : V} {vs : List V} {d : D} {ds : List D} : Den K H0 av ad H v d → DenAll K H0 av ad H vs ds → DenAll K H0 av ad H (v :: vs) (d :: ds)
end
def Fz (av : Av) (H : Hp) (av' : Av) (H' : Hp) : Prop := ∀ a o, H a = some o → ¬ av a → H' a = some o ∧ ¬ av' a
theorem Fz.refl {av : Av} {H : Hp} : Fz av H av H := fun _ _ h n => ⟨h, n⟩
theorem Fz.trans {av av1 av2 : Av} {H H1 H2 : Hp} (x : Fz av H av1 H1) (y : Fz av1 H1 av2 H2) : Fz av H av2 H2 := fun a o h n => y a o (x a o h n).1 (x a o h n).2
theorem Fz.same {av : Av} {H H' : Hp} (x : ∀ a o, H a = some o → H' a = some o) : Fz av H av H' := fun a o h n => ⟨x a o h, n⟩
theorem Fz.rd {av av' : Av} {H H' : Hp} {a : Addr} {u : HO} (x : Fz av H av' H') (h : Rd H a u) (n : ¬ av a) : Rd H' a u ∧ ¬ av' a := by
  rcases h with h | ⟨o, h⟩
  · exact ⟨.inl (x _ _ h n).1, (x _ _ h n).2⟩
  · exact ⟨.inr ⟨o, (x _ _ h n).1⟩, (x _ _ h n).2⟩
theorem Fz.exd {av av' : Av} {H H' : Hp} {d : Option Addr} {fs : List (Str × V)} (x : Fz av H av' H') (h : ExD av H d fs) : ExD av' H' d fs := by
  rcases h with h | ⟨dd, e, h, n⟩
  · exact .inl h
  · exact .inr ⟨dd, e, (x _ _ h n).1, (x _ _ h n).2⟩
theorem Fz.lst {av av' : Av} {H H' : Hp} {a : Addr} {vs : List V} (x : Fz av H av' H') (h : LstA av H a vs) : LstA av' H' a vs := x.rd h.1 h.2
theorem Fz.tup {av av' : Av} {H H' : Hp} {a : Addr} {vs : List V} (x : Fz av H av' H') (h : TupA av H a vs) : TupA av' H' a vs := x _ _ h.1 h.2
def Pre (ad ad' : Ads) : Prop := ∀ (k : Nat) (a : Addr), ad[k]? = some (some a) → ad'[k]? = some (some a)
theorem Pre.refl {ad : Ads} : Pre ad ad := fun _ _ h => h
theorem Pre.trans {ad ad1 ad2 : Ads} (x : Pre ad ad1) (y : Pre ad1 ad2) : Pre ad ad2 := fun k a h => y k a (x k a h)
section
variable {K : PySem.W.Frag} {H0 : Hp} {av av' : Av} {ad ad' : Ads} {H H' : Hp}
mutual
theorem Den.mono (f : Fz av H av' H') (p : Pre ad ad') : ∀ {v : V} {d : D}, Den K H0 av ad H v d → Den K H0 av' ad' H' v d
  | _, _, .bad => .bad
  | _, _, .non => .non
  | _, _, .bl => .bl
  | _, _, .int => .int
  | _, _, .str => .str
  | _, _, .lst r o x => .lst (f.lst r) (fun z => ⟨(o z).1, (f _ _ (o z).2 r.2).1⟩) (DenAll.mono f p x)
  | _, _, .tup r x => .tup (f.tup r) (DenAll.mono f p x)
  | _, _, .dk r n o k x => .dk (f.rd r n).1 (f.rd r n).2 o k (DenAll.mono f p x)
  | _, _, .dt r n o k x => .dt (f.rd r n).1 (f.rd r n).2 o k (DenAll.mono f p x)
  | _, _, .obj r n k x => .obj (f _ _ r n).1 (f _ _ r n).2 k (DenAll.mono f p x)
  | _, _, .exc r n q k x => .exc (f _ _ r n).1 (f _ _ r n).2 (f.exd q) k (DenAll.mono f p x)
  | _, _, .ptr h => .ptr (p _ _ h)
theorem DenAll.mono (f : Fz av H av' H') (p : Pre ad ad') : ∀ {vs : List V} {ds : List D}, DenAll K H0 av ad H vs ds → DenAll K H0 av' ad' H' vs ds
  | _, _, .nil => .nil
  | _, _, .cons a b => .cons (Den.mono f p a) (DenAll.mono f p b)
end
theorem DenAll.length : ∀ {vs : List V} {ds : List D}, DenAll K H0 av ad H vs ds → vs.length = ds.length
  | _, _, .nil => rfl
  | _, _, .cons _ t => congrArg (· + 1) t.length
theorem DenAll.get : ∀ {vs : List V} {ds : List D} {i : Nat} {d : D}, DenAll K H0 av ad H vs ds → ds[i]? = some d → ∃ v, vs[i]? = some v ∧ Den K H0 av ad H v d
  | _, _, _, _, .nil, e => by simp at e
  | _, _, 0, _, .cons r _, e => by simp at e; subst e; exact ⟨_, rfl, r⟩
  | _, _, i + 1, d, .cons _ t, e => by
    obtain ⟨u, h1, h2⟩ := DenAll.get (i := i) (d := d) t (by simpa using e)
    exact ⟨u, by simpa using h1, h2⟩
theorem DenAll.get' : ∀ {vs : List V} {ds : List D} {i : Nat} {v : V}, DenAll K H0 av ad H vs ds → vs[i]? = some v → ∃ d, ds[i]? = some d ∧ Den K H0 av ad H v d
  | _, _, _, _, .nil, e => by simp at e
  | _, _, 0, _, .cons r _, e => by simp at e; subst e; exact ⟨_, rfl, r⟩
  | _, _, i + 1, d, .cons _ t, e => by
    obtain ⟨u, h1, h2⟩ := DenAll.get' (i := i) t (by simpa using e)
    exact ⟨u, by simpa using h1, h2⟩
theorem DenAll.append : ∀ {vs us : List V} {ds es : List D}, DenAll K H0 av ad H vs ds → DenAll K H0 av ad H us es → DenAll K H0 av ad H (vs ++ us) (ds ++ es)
  | _, _, _, _, .nil, s => s
  | _, _, _, _, .cons r t, s => .cons r (t.append s)
theorem DenAll.set {v : V} {d : D} (r : Den K H0 av ad H v d) : ∀ {vs : List V} {ds : List D} (i : Nat), DenAll K H0 av ad H vs ds → DenAll K H0 av ad H (vs.set i v) (ds.set i d)
  | _, _, _, .nil => .nil
  | _, _, 0, .cons _ t => .cons r t
  | _, _, i + 1, .cons q t => .cons q (DenAll.set r i t)
theorem DenAll.take : ∀ {vs : List V} {ds : List D} (n : Nat), DenAll K H0 av ad H vs ds → DenAll K H0 av ad H (vs.take n) (ds.take n)
  | _, _, 0, _ => .nil
  | _, _, _ + 1, .nil => .nil
  | _, _, n + 1, .cons r t => .cons r (t.take n)
theorem DenAll.drop : ∀ {vs : List V} {ds : List D} (n : Nat), DenAll K H0 av ad H vs ds → DenAll K H0 av ad H (vs.drop n) (ds.drop n)
  | _, _, 0, r => r
  | _, _, _ + 1, .nil => .nil
  | _, _, n + 1, .cons _ t => t.drop n
theorem DenAll.reverse {vs : List V} {ds : List D} (x : DenAll K H0 av ad H vs ds) : DenAll K H0 av ad H vs.reverse ds.reverse := by
  induction vs generalizing ds with
  | nil => cases x; exact .nil
  | cons v vs ih =>
    cases x with
    | cons a b => rw [List.reverse_cons, List.reverse_cons]; exact (ih b).append (.cons a .nil)
theorem DenAll.erase : ∀ {vs : List V} {ds : List D} (n : Nat), DenAll K H0 av ad H vs ds → DenAll K H0 av ad H (vs.eraseIdx n) (ds.eraseIdx n)
  | _, _, _, .nil => .nil
  | _, _, 0, .cons _ t => t
  | _, _, n + 1, .cons r t => .cons r (t.erase n)
theorem DenAll.flat {α : Type} {f : α → List V} {g : α → List D} : ∀ l : List α, (∀ x ∈ l, DenAll K H0 av ad H (f x) (g x)) → DenAll K H0 av ad H (l.flatMap f) (l.flatMap g)
  | [], _ => .nil
  | x :: l, h => by
    rw [List.flatMap_cons, List.flatMap_cons]
    exact (h x (List.mem_cons_self ..)).append (DenAll.flat l fun y hy => h y (List.mem_cons_of_mem _ hy))
end
def CellOk (K : PySem.W.Frag) (H0 : Hp) (av : Av) (ad : Ads) (H : Hp) (a : Addr) : Cell → Prop
  | .lst xs => ∃ vs, H a = some (.lst vs) ∧ DenAll K H0 av ad H vs xs
  | .dk ks xs => ∃ kvs : List (Key × V), H a = some (.dK kvs) ∧ kvs.map (·.1) = ks ∧ DenAll K H0 av ad H (kvs.map (·.2)) xs
  | .dt ks xs => ∃ kvs : List (List Key × V), H a = some (.dT kvs) ∧ kvs.map (·.1) = ks ∧ DenAll K H0 av ad H (kvs.map (·.2)) xs
  | .ins C ns xs => ∃ dx, ∃ fs : List (Str × V), H a = some (.ins (He.ga K C) dx fs) ∧ fs.map (·.1) = ns ∧ DenAll K H0 av ad H (fs.map (·.2)) xs
  | .dead => False
theorem CellOk.there {K : PySem.W.Frag} {H0 : Hp} {av : Av} {ad : Ads} {H : Hp} {a : Addr} {c : Cell} (x : CellOk K H0 av ad H a c) : H a ≠ none := by
  intro e
  cases c with
  | lst _ => obtain ⟨_, h, _⟩ := x; rw [h] at e; cases e
  | dk _ _ => obtain ⟨_, h, _⟩ := x; rw [h] at e; cases e
  | dt _ _ => obtain ⟨_, h, _⟩ := x; rw [h] at e; cases e
  | ins _ _ _ => obtain ⟨_, _, h, _⟩ := x; rw [h] at e; cases e
  | dead => exact x
theorem CellOk.mono {K : PySem.W.Frag} {H0 : Hp} {av av' : Av} {ad ad' : Ads} {H H' : Hp} {a : Addr} {c : Cell} (f : Fz av H av' H') (p : Pre ad ad') (h : H' a = H a) (x : CellOk K H0 av ad H a c) : CellOk K H0 av' ad' H' a c := by
  cases c with
  | lst _ => obtain ⟨vs, e, r⟩ := x; exact ⟨vs, h.trans e, r.mono f p⟩
  | dk _ _ => obtain ⟨vs, e, k, r⟩ := x; exact ⟨vs, h.trans e, k, r.mono f p⟩
  | dt _ _ => obtain ⟨vs, e, k, r⟩ := x; exact ⟨vs, h.trans e, k, r.mono f p⟩
  | ins _ _ _ => obtain ⟨dx, vs, e, k, r⟩ := x; exact ⟨dx, vs, h.trans e, k, r.mono f p⟩
  | dead => exact x
structure Rep (K : PySem.W.Frag) (H0 : Hp) (A0 : List Addr) (av : Av) (ad : Ads) (Γ : Slots) (C : Store) (σ : L2.St) (H : Hp) : Prop where
  sub : ∀ a, some a ∈ ad → av a
  dom : ∀ a, av a → H a ≠ none
  avt : ∀ a xs, av a → H a = some (.tup xs) → False
  nd : ∀ (i j : Nat) (a : Addr), ad[i]? = some (some a) → ad[j]? = some (some a) → i = j
  len : ad.length = C.length
  pre : ∀ (i : Nat) (a : Addr), A0[i]? = some a → ad[i]? = some (some a)
  loc : ∀ (i : Nat) (a : Addr), ad[i]? = some (some a) → A0.length ≤ i → H0 a = none
  keep : ∀ a o, H0 a = some o → a ∉ A0 → H a = some o
  there : ∀ a, H a = none → H0 a = none
  gone : ∀ (i : Nat), ad[i]? = some none → C[i]? = some .dead
  cells : ∀ (i : Nat) (a : Addr) (c : Cell), ad[i]? = some (some a) → C[i]? = some c → CellOk K H0 av ad H a c
  slen : σ.length = Γ.length
  slot : ∀ (i : Nat) d, Γ[i]? = some (some d) → ∃ v, σ[i]? = some (some v) ∧ Den K H0 av ad H v d
section
variable {K : PySem.W.Frag} {H0 : Hp} {A0 : List Addr} {av av' : Av} {ad ad' : Ads} {Γ : Slots} {C : Store} {σ : L2.St} {H H' : Hp}
theorem mem_ads {ad : Ads} {k : Nat} {a : Addr} (h : ad[k]? = some (some a)) : some a ∈ ad := List.mem_of_getElem? h
theorem Rep.av_of (R : Rep K H0 A0 av ad Γ C σ H) {k : Nat} {a : Addr} (h : ad[k]? = some (some a)) : av a := R.sub a (mem_ads h)
theorem Rep.same (R : Rep K H0 A0 av ad Γ C σ H) (s : ∀ a o, H a = some o → H' a = some o) : Rep K H0 A0 av ad Γ C σ H' where
  sub := R.sub
  dom := fun a h e => by
    cases q : H a with
    | none => exact R.dom a h q
    | some o => rw [s a o q] at e; cases e
  avt := fun a xs h r => by
    cases q : H a with
    | none => exact R.dom a h q
    | some o =>
      have q' := s a o q
      rw [r] at q'; cases q'; exact R.avt a xs h q
  nd := R.nd
  len := R.len
  pre := R.pre
  loc := R.loc
  keep := fun a o h n => s a o (R.keep a o h n)
  there := fun a e => R.there a (by
    cases q : H a with
    | none => rfl
    | some o => rw [s a o q] at e; cases e)
  gone := R.gone
  cells := fun i a c h1 h2 => by
    refine (R.cells i a c h1 h2).mono (Fz.same s) Pre.refl ?_
    cases q : H a with
    | none => exact absurd q (R.dom a (R.av_of h1))
    | some o => exact s a o q
  slen := R.slen
  slot := fun i d h => by
    obtain ⟨v, h1, h2⟩ := R.slot i d h
    exact ⟨v, h1, h2.mono (Fz.same s) Pre.refl⟩
theorem same_upd {H : Hp} {p : Addr} {o : HO} (n : H p = none) : ∀ a u, H a = some u → upd H p o a = some u := fun a u h => by
  rw [upd_ne (ne_of_none h n)]
  exact h
theorem Rep.new (R : Rep K H0 A0 av ad Γ C σ H) {p : Addr} {o : HO} (n : H p = none) : Rep K H0 A0 av ad Γ C σ (upd H p o) := R.same (same_upd n)
theorem Rep.nav (R : Rep K H0 A0 av ad Γ C σ H) {p : Addr} (n : H p = none) : ¬ av p := fun h => R.dom p h n
theorem Rep.ban (R : Rep K H0 A0 av ad Γ C σ H) {p : Addr} {o : HO} (n : H p = none) (no : ∀ xs, o ≠ .tup xs) : Rep K H0 A0 (fun a => av a ∨ a = p) ad Γ C σ (upd H p o) := by
  have f : Fz av H (fun a => av a ∨ a = p) (upd H p o) := fun a u h na => ⟨same_upd n a u h, fun z => z.elim na fun e => ne_of_none h n e⟩
  have R' : Rep K H0 A0 av ad Γ C σ (upd H p o) := R.new n
  exact { R' with
    sub := fun a h => .inl (R.sub a h)
    dom := fun a h => h.elim (R'.dom a) fun e => by rw [e, upd_same]; exact fun z => by cases z
    avt := fun a xs h r => by
      rcases h with h | h
      · exact R'.avt a xs h r
      · subst h
        rw [upd_same] at r; exact no xs (Option.some.inj r)
    cells := fun i a c h1 h2 => (R.cells i a c h1 h2).mono f Pre.refl (upd_ne fun e => R.dom a (R.av_of h1) (by rw [e]; exact n))
    slot := fun i d h => by
      obtain ⟨v, h1, h2⟩ := R.slot i d h
      exact ⟨v, h1, h2.mono f Pre.refl⟩ }
theorem Rep.unban (R : Rep K H0 A0 av ad Γ C σ H) (h : ∀ a, av' a → av a) (s : ∀ a, some a ∈ ad → av' a) : Rep K H0 A0 av' ad Γ C σ H := by
  have f : Fz av H av' H := fun a u h1 na => ⟨h1, fun z => na (h a z)⟩
  exact { R with
    sub := s
    dom := fun a z => R.dom a (h a z)
    avt := fun a xs z => R.avt a xs (h a z)
    cells := fun i a c h1 h2 => (R.cells i a c h1 h2).mono f Pre.refl rfl
    slot := fun i d h1 => by
      obtain ⟨v, h2, h3⟩ := R.slot i d h1
      exact ⟨v, h2, h3.mono f Pre.refl⟩ }
theorem Rep.store (R : Rep K H0 A0 av ad Γ C σ H) {v : V} {d : D} (i : Nat) (x : Den K H0 av ad H v d) : Rep K H0 A0 av ad (Γ.set i (some d)) C (σ.set i (some v)) H :=
  { R with
    slen := by simpa using R.slen
    slot := fun j e h => by
      by_cases hj : i = j
      · subst hj
        have hlt : i < Γ.length := by
          have := (List.getElem?_eq_some_iff.mp h).1
          simpa using this
        rw [List.getElem?_set_self hlt] at h
        cases h
        exact ⟨v, by rw [List.getElem?_set_self (by rw [R.slen]; exact hlt)], x⟩
      · rw [List.getElem?_set_ne hj] at h
        obtain ⟨u, h1, h2⟩ := R.slot j e h
        exact ⟨u, by rw [List.getElem?_set_ne hj]; exact h1, h2⟩ }
theorem Rep.slots (R : Rep K H0 A0 av ad Γ C σ H) {Γ' : Slots} {σ' : L2.St} (hl : σ'.length = Γ'.length) (h : ∀ (i : Nat) d, Γ'[i]? = some (some d) → ∃ v, σ'[i]? = some (some v) ∧ Den K H0 av ad H v d) : Rep K H0 A0 av ad Γ' C σ' H :=
  { R with slen := hl, slot := h }
theorem Rep.push {p : Addr} (R : Rep K H0 A0 (fun a => av a ∨ a = p) ad Γ C σ H) {c : Cell} (n0 : H0 p = none) (np : some p ∉ ad) (sub : ∀ a, some a ∈ ad → av a)
    (ok : CellOk K H0 (fun a => av a ∨ a = p) ad H p c) : Rep K H0 A0 (fun a => av a ∨ a = p) (ad ++ [some p]) Γ (C ++ [c]) σ H := by
  have pr : Pre ad (ad ++ [some p]) := fun k a h => by
    have hlt : k < ad.length := (List.getElem?_eq_some_iff.mp h).1
    rw [List.getElem?_append_left hlt]; exact h
  have back : ∀ k a, (ad ++ [some p])[k]? = some (some a) → ad[k]? = some (some a) ∨ (k = ad.length ∧ a = p) := fun k a h => by
    by_cases hk : k < ad.length
    · rw [List.getElem?_append_left hk] at h; exact .inl h
    · rw [List.getElem?_append_right (Nat.le_of_not_lt hk)] at h
      have : k - ad.length = 0 := by
        have := (List.getElem?_eq_some_iff.mp h).1
        simp at this
        omega
      rw [this] at h
      simp at h
      exact .inr ⟨by omega, h.symm⟩
  have f : Fz (fun a => av a ∨ a = p) H (fun a => av a ∨ a = p) H := Fz.refl
  exact { R with
    sub := fun a h => by
      rcases List.mem_append.mp h with h | h
      · exact .inl (sub a h)
      · simp at h; exact .inr h
    nd := fun i j a h1 h2 => by
      rcases back i a h1 with g1 | ⟨g1, e1⟩ <;> rcases back j a h2 with g2 | ⟨g2, e2⟩
      · exact R.nd i j a g1 g2
      · rw [e2] at g1; exact (np (mem_ads g1)).elim
      · rw [e1] at g2; exact (np (mem_ads g2)).elim
      · omega
    len := by simp [R.len]
    pre := fun i a h => pr i a (R.pre i a h)
    loc := fun i a h hi => by
      rcases back i a h with h | ⟨_, e⟩
      · exact R.loc i a h hi
      · rw [e]; exact n0
    gone := fun i h => by
      by_cases hk : i < ad.length
      · rw [List.getElem?_append_left hk] at h
        rw [List.getElem?_append_left (by rw [← R.len]; exact hk)]
        exact R.gone i h
      · rw [List.getElem?_append_right (Nat.le_of_not_lt hk)] at h
        cases q : i - ad.length with
        | zero => rw [q] at h; simp at h
        | succ n => rw [q] at h; simp at h
    cells := fun i a c' h1 h2 => by
      rcases back i a h1 with h | ⟨e1, e2⟩
      · have hlt : i < C.length := by rw [← R.len]; exact (List.getElem?_eq_some_iff.mp h).1
        rw [List.getElem?_append_left hlt] at h2
        exact (R.cells i a c' h h2).mono f pr rfl
      · subst e2
        rw [e1, R.len, List.getElem?_append_right (Nat.le_refl _)] at h2
        simp at h2
        subst h2
        exact ok.mono f pr rfl
    slot := fun i d h => by
      obtain ⟨v, h1, h2⟩ := R.slot i d h
      exact ⟨v, h1, h2.mono f pr⟩ }
theorem Rep.write (R : Rep K H0 A0 av ad Γ C σ H) {k : Nat} {a : Addr} {o : HO} {c : Cell} (ha : ad[k]? = some (some a)) (hc : k < C.length)
    (no : ∀ xs, o ≠ .tup xs) (ok : ∀ (f : Fz av H av (upd H a o)), CellOk K H0 av ad (upd H a o) a c) : Rep K H0 A0 av ad Γ (C.set k c) σ (upd H a o) := by
  have f : Fz av H av (upd H a o) := fun b u h n => ⟨by
    rw [upd_ne (fun e => n (by rw [e]; exact R.av_of ha))]
    exact h, n⟩
  exact { R with
    dom := fun b h e => by
      by_cases q : b = a
      · subst q; rw [upd_same] at e; cases e
      · rw [upd_ne q] at e; exact R.dom b h e
    avt := fun b xs h r => by
      by_cases q : b = a
      · subst q
        rw [upd_same] at r; exact no xs (Option.some.inj r)
      · rw [upd_ne q] at r; exact R.avt b xs h r
    len := by simpa using R.len
    keep := fun b u h n => by
      have q : b ≠ a := fun e => by
        subst e
        by_cases hk : k < A0.length
        · have e2 := R.pre k _ (List.getElem?_eq_getElem hk)
          rw [ha] at e2
          cases e2
          exact n (List.getElem_mem ..)
        · rw [R.loc k _ ha (Nat.le_of_not_lt hk)] at h; cases h
      rw [upd_ne q]; exact R.keep b u h n
    there := fun b e => by
      by_cases q : b = a
      · subst q; rw [upd_same] at e; cases e
      · rw [upd_ne q] at e; exact R.there b e
    gone := fun i h => by
      have q : k ≠ i := fun e => by subst e; rw [ha] at h; cases h
      rw [List.getElem?_set_ne q]
      exact R.gone i h
    cells := fun i b c' h1 h2 => by
      by_cases hi : i = k
      · subst hi
        rw [ha] at h1; cases h1
        rw [List.getElem?_set_self hc] at h2; cases h2
        exact ok f
      · have q : b ≠ a := fun e => hi (R.nd i k a (by rw [← e]; exact h1) ha)
        rw [List.getElem?_set_ne (Ne.symm hi)] at h2
        exact (R.cells i b c' h1 h2).mono f Pre.refl (upd_ne q)
    slot := fun i d h => by
      obtain ⟨v, h1, h2⟩ := R.slot i d h
      exact ⟨v, h1, h2.mono f Pre.refl⟩ }
end
structure Le (av : Av) (ad : Ads) (H : Hp) (av' : Av) (ad' : Ads) (H' : Hp) : Prop where
  fz : Fz av H av' H'
  pre : Pre ad ad'
  there : ∀ a, H' a = none → H a = none
  avm : ∀ a, av a → av' a
  adn : ∀ a, some a ∈ ad' → some a ∈ ad ∨ H a = none
  kp : ∀ a o, H a = some o → some a ∉ ad → H' a = some o
theorem Le.refl {av : Av} {ad : Ads} {H : Hp} : Le av ad H av ad H := ⟨Fz.refl, Pre.refl, fun _ h => h, fun _ h => h, fun _ h => .inl h, fun _ _ h _ => h⟩
theorem Le.trans {av av1 av2 : Av} {ad ad1 ad2 : Ads} {H H1 H2 : Hp} (x : Le av ad H av1 ad1 H1) (y : Le av1 ad1 H1 av2 ad2 H2) : Le av ad H av2 ad2 H2 :=
  ⟨x.fz.trans y.fz, x.pre.trans y.pre, fun a h => x.there a (y.there a h), fun a h => y.avm a (x.avm a h), fun a h => (y.adn a h).elim (x.adn a) fun z => .inr (x.there a z), fun a o h n => y.kp a o (x.kp a o h n) fun z => (x.adn a z).elim n fun e => by rw [h] at e; cases e⟩
theorem Le.same {av : Av} {ad : Ads} {H H' : Hp} (s : ∀ a o, H a = some o → H' a = some o) : Le av ad H av ad H' := ⟨Fz.same s, Pre.refl, (fun a e => by
  cases q : H a with
  | none => rfl
  | some o => (rw [s a o q] at e; cases e)), fun _ h => h, fun _ h => .inl h, fun a o h _ => s a o h⟩
theorem Le.new {av : Av} {ad : Ads} {H : Hp} {p : Addr} {o : HO} (n : H p = none) : Le av ad H av ad (upd H p o) := Le.same (same_upd n)
theorem Den.le {K : PySem.W.Frag} {H0 : Hp} {av av' : Av} {ad ad' : Ads} {H H' : Hp} {v : V} {d : D} (x : Den K H0 av ad H v d) (l : Le av ad H av' ad' H') : Den K H0 av' ad' H' v d := x.mono l.fz l.pre
theorem DenAll.le {K : PySem.W.Frag} {H0 : Hp} {av av' : Av} {ad ad' : Ads} {H H' : Hp} {v : List V} {d : List D} (x : DenAll K H0 av ad H v d) (l : Le av ad H av' ad' H') : DenAll K H0 av' ad' H' v d := x.mono l.fz l.pre
end L3
namespace L3
open PySem PySem.Spec PyProof.Rows L2
abbrev EV := Slots → Store → (D → Store → Prop) → Prop
abbrev BV := Slots → Store → (Bool → Store → Prop) → Prop
abbrev AV := Slots → Store → (List D → Store → Prop) → Prop
abbrev FV := Slots → Store → (Cell → Store → Prop) → Prop
section
variable (K : PySem.W.Frag)
def SimE (t : TE) (E : EV) : Prop := ∀ (H0 : Hp) (A0 : List Addr) (av : Av) (ad : Ads) (Γ : Slots) (C : Store) (σ : L2.St) (H : Hp) (Q3 : D → Store → Prop) (Q : VK), Rep K H0 A0 av ad Γ C σ H → E Γ C Q3 →
  (∀ (v : V) (H' : Hp) (av' : Av) (ad' : Ads) (d : D) (C' : Store), Rep K H0 A0 av' ad' Γ C' σ H' → Le av ad H av' ad' H' → Den K H0 av' ad' H' v d → Q3 d C' → Q v H') → t σ H Q
def SimT (t : TT) (E : BV) : Prop := ∀ (H0 : Hp) (A0 : List Addr) (av : Av) (ad : Ads) (Γ : Slots) (C : Store) (σ : L2.St) (H : Hp) (Q3 : Bool → Store → Prop) (Q : Bool → Hp → Prop), Rep K H0 A0 av ad Γ C σ H → E Γ C Q3 →
  (∀ (b : Bool) (H' : Hp) (av' : Av) (ad' : Ads) (C' : Store), Rep K H0 A0 av' ad' Γ C' σ H' → Le av ad H av' ad' H' → Q3 b C' → Q b H') → t σ H Q
def SimA (t : TA) (E : AV) : Prop := ∀ (H0 : Hp) (A0 : List Addr) (av : Av) (ad : Ads) (Γ : Slots) (C : Store) (σ : L2.St) (H : Hp) (Q3 : List D → Store → Prop) (Q : List V → Hp → Prop), Rep K H0 A0 av ad Γ C σ H → E Γ C Q3 →
  (∀ (vs : List V) (H' : Hp) (av' : Av) (ad' : Ads) (ds : List D) (C' : Store), Rep K H0 A0 av' ad' Γ C' σ H' → Le av ad H av' ad' H' → DenAll K H0 av' ad' H' vs ds → Q3 ds C' → Q vs H') → t σ H Q
def SimF (t : TE) (E : FV) : Prop := ∀ (H0 : Hp) (A0 : List Addr) (av : Av) (ad : Ads) (Γ : Slots) (C : Store) (σ : L2.St) (H : Hp) (Q3 : Cell → Store → Prop) (Q : VK), Rep K H0 A0 av ad Γ C σ H → E Γ C Q3 →
  (∀ (a : Addr) (H' : Hp) (av' : Av) (ad' : Ads) (c : Cell) (C' : Store), Rep K H0 A0 (fun b => av' b ∨ b = a) ad' Γ C' σ H' → (∀ b, some b ∈ ad' → av' b) → ¬ av' a → H a = none → Le av ad H (fun b => av' b ∨ b = a) ad' H' →
    CellOk K H0 (fun b => av' b ∨ b = a) ad' H' a c → Q3 c C' → Q (.ref a) H') → t σ H Q
structure VE (X : Cx) (e : Expr) (t : TE) (E : EV) : Prop where
  pe : PE X e t
  sim : SimE K t E
structure VF (X : Cx) (e : Expr) (t : TE) (E : FV) : Prop where
  pe : PE X e t
  sim : SimF K t E
structure VT (X : Cx) (e : Expr) (t : TT) (E : BV) : Prop where
  pt : PT X e t
  sim : SimT K t E
structure VW (X : Cx) (e : Expr) (t : TT) (E : BV) : Prop where
  pw : PW X e t
  sim : SimT K t E
structure VA (X : Cx) (es : List Expr) (t : TA) (E : AV) : Prop where
  pa : PA X es t
  sim : SimA K t E
end
def Cell.frz : Cell → D
  | .lst xs => .lst false xs
  | .dk ks xs => .dk false ks xs
  | .dt ks xs => .dt false ks xs
  | _ => .bad
def eFrz (F : FV) : EV := fun Γ C Q => F Γ C fun c C' => Q c.frz C'
def eCell (F : FV) : EV := fun Γ C Q => F Γ C fun c C' => Q (.ptr C'.length) (C' ++ [c])
section
variable {K : PySem.W.Frag} {X : Cx} {e a b : Expr} {es : List Expr} {t ta tb te : TE} {tt tu : TT} {E Ea Eb : EV} {F : FV} {B B' : BV} {pos : Pos}
theorem CellOk.frz {H0 : Hp} {av : Av} {ad : Ads} {H : Hp} {p : Addr} {c : Cell} (n0 : H0 p = none) (nav : ¬ av p) (x : CellOk K H0 av ad H p c) : Den K H0 av ad H (.ref p) c.frz := by
  cases c with
  | lst xs => obtain ⟨vs, e, r⟩ := x; exact .lst ⟨.inl e, nav⟩ (fun _ => ⟨n0, e⟩) r
  | dk ks xs => obtain ⟨vs, e, k, r⟩ := x; exact .dk (.inl e) nav (fun _ => n0) k r
  | dt ks xs => obtain ⟨vs, e, k, r⟩ := x; exact .dt (.inl e) nav (fun _ => n0) k r
  | ins _ _ _ => exact .bad
  | dead => exact .bad
theorem Fz.less {av av' : Av} {H : Hp} (h : ∀ a, av' a → av a) : Fz av H av' H := fun a u h1 na => ⟨h1, fun z => na (h a z)⟩
theorem VF.frz (h : VF K X e t F) : VE K X e t (eFrz F) := by
  refine ⟨h.pe, fun H0 A0 av ad Γ C σ H Q3 Q R hE q => ?_⟩
  refine h.sim H0 A0 av ad Γ C σ H _ Q R hE fun p H' av' ad' c C' R' sub np hn l ok q3 => ?_
  have R2 : Rep K H0 A0 av' ad' Γ C' σ H' := R'.unban (fun _ z => .inl z) sub
  have f2 : Fz (fun b => av' b ∨ b = p) H' av' H' := Fz.less fun _ z => .inl z
  refine q _ _ av' ad' _ C' R2 ⟨l.fz.trans f2, l.pre, l.there, fun b h => (l.avm b h).elim (fun z => z) (fun e => by subst e; exact absurd hn (R.dom _ h)), l.adn, l.kp⟩ ?_ q3
  exact (ok.mono f2 Pre.refl rfl).frz (R.there p hn) np
theorem VF.cell (h : VF K X e t F) : VE K X e t (eCell F) := by
  refine ⟨h.pe, fun H0 A0 av ad Γ C σ H Q3 Q R hE q => ?_⟩
  refine h.sim H0 A0 av ad Γ C σ H _ Q R hE fun p H' av' ad' c C' R' sub np hn l ok q3 => ?_
  have R2 := R'.push (R.there p hn) (fun z => np (sub p z)) sub ok
  have pr : Pre ad' (ad' ++ [some p]) := fun k a h => by
    have hlt : k < ad'.length := (List.getElem?_eq_some_iff.mp h).1
    rw [List.getElem?_append_left hlt]; exact h
  refine q _ _ _ _ _ _ R2 ⟨l.fz, l.pre.trans pr, l.there, l.avm, fun b h => (List.mem_append.mp h).elim (l.adn b) (fun z => by simp at z; subst z; exact .inr hn), l.kp⟩ (.ptr ?_) q3
  rw [← R'.len, List.getElem?_append_right (Nat.le_refl _), Nat.sub_self]
  rfl
def eVar (i : Nat) : EV := fun Γ C Q => ∃ d, Γ[i]? = some (some d) ∧ Q d C
def eC (d : D) : EV := fun _ C Q => Q d C
theorem sim_var {i : Nat} : SimE K (tVar i) (eVar i) := fun H0 A0 av ad Γ C σ H Q3 Q R ⟨d, e, q3⟩ q => by
  obtain ⟨v, h1, h2⟩ := R.slot i d e
  exact ⟨v, h1, q v H av ad d C R Le.refl h2 q3⟩
theorem ve_var (i : Nat) {x : Str} {pos : Pos} (hN : X.N[i]? = some x := by rfl) (hv : Vis X.env.scope x := by first | exact Or.inl rfl | exact Or.inr (Or.inl rfl) | exact Or.inr (Or.inr rfl)) (hd : (x == ("__debug__" : Str)) = false := by decide)
    (hcd : (x == ("__classdict__" : Str)) = false := by decide) : VE K X (.Name x pos) (tVar i) (eVar i) := ⟨pe_var hN hv hd hcd, sim_var⟩
theorem sim_c {v : V} {d : D} (h : ∀ H0 av ad H, Den K H0 av ad H v d) : SimE K (tC v) (eC d) := fun H0 A0 av ad Γ C σ H Q3 Q R q3 q => q v H av ad d C R Le.refl (h H0 av ad H) q3
theorem ve_int {i : Int} {j pos} : VE K X (.Constant (.int i) j pos) (tC (.int i)) (eC (.int i)) := ⟨pe_int, sim_c fun _ _ _ _ => .int⟩
theorem ve_bl {b : Bool} {j pos} : VE K X (.Constant (.bool b) j pos) (tC (.bl b)) (eC (.bl b)) := ⟨pe_bl, sim_c fun _ _ _ _ => .bl⟩
theorem ve_non {j pos} : VE K X (.Constant .none j pos) (tC .non) (eC .non) := ⟨pe_non, sim_c fun _ _ _ _ => .non⟩
theorem ve_str {x : Str} {j pos} : VE K X (.Constant (.str x) j pos) (tC (.str x)) (eC (.str x)) := ⟨pe_str, sim_c fun _ _ _ _ => .str⟩
theorem ve_gint {x : Str} {i : Int} {pos : Pos} (hm : ∃ t, X.mg x = some (.int i t)) (hg : Gl X x := by rfl) (hd : (x == ("__debug__" : Str)) = false := by decide) : VE K X (.Name x pos) (tC (.int i)) (eC (.int i)) := by
  obtain ⟨t, e⟩ := hm
  exact ⟨pe_glob hg e ⟨t, rfl⟩ hd, sim_c fun _ _ _ _ => .int⟩
theorem ve_gstr {x z : Str} {pos : Pos} (hm : ∃ t, X.mg x = some (.str z t)) (hg : Gl X x := by rfl) (hd : (x == ("__debug__" : Str)) = false := by decide) : VE K X (.Name x pos) (tC (.str z)) (eC (.str z)) := by
  obtain ⟨t, e⟩ := hm
  exact ⟨pe_glob hg e ⟨t, rfl⟩ hd, sim_c fun _ _ _ _ => .str⟩
abbrev O2 := Store → D → D → (D → Prop) → Prop
abbrev O1 := Store → D → (D → Prop) → Prop
abbrev ON := Store → List D → (D → Prop) → Prop
abbrev N2 := Store → D → D → (Cell → Prop) → Prop
abbrev NN := Store → List D → (Cell → Prop) → Prop
def eBin (f : O2) (Ea Eb : EV) : EV := fun Γ C Q => Ea Γ C fun x C1 => Eb Γ C1 fun y C2 => f C2 x y fun z => Q z C2
def fBin (f : N2) (Ea Eb : EV) : FV := fun Γ C Q => Ea Γ C fun x C1 => Eb Γ C1 fun y C2 => f C2 x y fun z => Q z C2
def eUn (f : O1) (Ea : EV) : EV := fun Γ C Q => Ea Γ C fun x C1 => f C1 x fun z => Q z C1
def SimR (K : PySem.W.Frag) (r : R2) (f : O2) : Prop := ∀ (H0 : Hp) (A0 : List Addr) (av : Av) (ad : Ads) (Γ : Slots) (C : Store) (σ : L2.St) (H : Hp) (x y : V) (dx dy : D) (Q3 : D → Prop) (Q : VK), Rep K H0 A0 av ad Γ C σ H →
  Den K H0 av ad H x dx → Den K H0 av ad H y dy → f C dx dy Q3 → (∀ v H' d, (∀ a o, H a = some o → H' a = some o) → Den K H0 av ad H' v d → Q3 d → Q v H') → r x y H Q
def SimU (K : PySem.W.Frag) (r : V → Hp → VK → Prop) (f : O1) : Prop := ∀ (H0 : Hp) (A0 : List Addr) (av : Av) (ad : Ads) (Γ : Slots) (C : Store) (σ : L2.St) (H : Hp) (x : V) (dx : D) (Q3 : D → Prop) (Q : VK), Rep K H0 A0 av ad Γ C σ H →
  Den K H0 av ad H x dx → f C dx Q3 → (∀ v H' d, (∀ a o, H a = some o → H' a = some o) → Den K H0 av ad H' v d → Q3 d → Q v H') → r x H Q
def SimC (K : PySem.W.Frag) (r : List V → Hp → VK → Prop) (f : ON) : Prop := ∀ (H0 : Hp) (A0 : List Addr) (av : Av) (ad : Ads) (Γ : Slots) (C : Store) (σ : L2.St) (H : Hp) (xs : List V) (ds : List D) (Q3 : D → Prop) (Q : VK), Rep K H0 A0 av ad Γ C σ H →
  DenAll K H0 av ad H xs ds → f C ds Q3 → (∀ v H' d, (∀ a o, H a = some o → H' a = some o) → Den K H0 av ad H' v d → Q3 d → Q v H') → r xs H Q
def NoTup (o : HO) : Prop := ∀ xs, o ≠ .tup xs
def Holds (K : PySem.W.Frag) (H0 : Hp) (av : Av) (ad : Ads) (H : Hp) : HO → Cell → Prop
  | .lst vs, .lst xs => DenAll K H0 av ad H vs xs
  | .dK kvs, .dk ks xs => kvs.map (·.1) = ks ∧ DenAll K H0 av ad H (kvs.map (·.2)) xs
  | .dT kvs, .dt ks xs => kvs.map (·.1) = ks ∧ DenAll K H0 av ad H (kvs.map (·.2)) xs
  | _, _ => False
theorem Holds.cell {K : PySem.W.Frag} {H0 : Hp} {av av' : Av} {ad ad' : Ads} {H H' : Hp} {o : HO} {c : Cell} {a : Addr} (f : Fz av H av' H') (p : Pre ad ad') (e : H' a = some o) (x : Holds K H0 av ad H o c) : CellOk K H0 av' ad' H' a c := by
  cases o <;> cases c <;> first
    | exact x.elim
    | exact ⟨_, e, x.mono f p⟩
    | exact ⟨_, e, x.1, x.2.mono f p⟩
def SimRF (K : PySem.W.Frag) (r : R2) (f : N2) : Prop := ∀ (H0 : Hp) (A0 : List Addr) (av : Av) (ad : Ads) (Γ : Slots) (C : Store) (σ : L2.St) (H : Hp) (x y : V) (dx dy : D) (Q3 : Cell → Prop) (Q : VK), Rep K H0 A0 av ad Γ C σ H →
  Den K H0 av ad H x dx → Den K H0 av ad H y dy → f C dx dy Q3 → (∀ H1 p o c, (∀ a o, H a = some o → H1 a = some o) → H1 p = none → NoTup o → Holds K H0 av ad H1 o c → Q3 c → Q (.ref p) (upd H1 p o)) → r x y H Q
def SimCF (K : PySem.W.Frag) (r : List V → Hp → VK → Prop) (f : NN) : Prop := ∀ (H0 : Hp) (A0 : List Addr) (av : Av) (ad : Ads) (Γ : Slots) (C : Store) (σ : L2.St) (H : Hp) (xs : List V) (ds : List D) (Q3 : Cell → Prop) (Q : VK), Rep K H0 A0 av ad Γ C σ H →
  DenAll K H0 av ad H xs ds → f C ds Q3 → (∀ H1 p o c, (∀ a o, H a = some o → H1 a = some o) → H1 p = none → NoTup o → Holds K H0 av ad H1 o c → Q3 c → Q (.ref p) (upd H1 p o)) → r xs H Q
theorem noTup_lst {xs : List V} : NoTup (.lst xs) := fun _ z => nomatch z
theorem noTup_dt {xs : List (List Key × V)} : NoTup (.dT xs) := fun _ z => nomatch z
theorem fin_new {H0 : Hp} {A0 : List Addr} {av av1 : Av} {ad ad1 : Ads} {Γ : Slots} {C' : Store} {σ : L2.St} {H H1 H2 : Hp} {p : Addr} {o : HO} {c : Cell} {Q3 : Cell → Store → Prop} {Q : VK}
    (R : Rep K H0 A0 av1 ad1 Γ C' σ H1) (l : Le av ad H av1 ad1 H1) (s : ∀ a o, H1 a = some o → H2 a = some o) (n : H2 p = none) (nt : NoTup o) (ok : Holds K H0 av1 ad1 H2 o c) (q3 : Q3 c C')
    (q : ∀ (a : Addr) (H' : Hp) (av' : Av) (ad' : Ads) (c : Cell) (C' : Store), Rep K H0 A0 (fun b => av' b ∨ b = a) ad' Γ C' σ H' → (∀ b, some b ∈ ad' → av' b) → ¬ av' a → H a = none → Le av ad H (fun b => av' b ∨ b = a) ad' H' →
      CellOk K H0 (fun b => av' b ∨ b = a) ad' H' a c → Q3 c C' → Q (.ref a) H') : Q (.ref p) (upd H2 p o) := by
  have R2 := R.same s
  have f : Fz av1 H2 (fun b => av1 b ∨ b = p) (upd H2 p o) := fun a u h na => ⟨same_upd n a u h, fun z => z.elim na fun e => ne_of_none h n e⟩
  have s2 : Le av1 ad1 H1 av1 ad1 H2 := Le.same s
  have l2 : Le av ad H (fun b => av1 b ∨ b = p) ad1 (upd H2 p o) := (l.trans s2).trans ⟨f, Pre.refl, (fun a e => by
    by_cases h : a = p
    · subst h; exact n
    · rw [upd_ne h] at e; exact e), fun _ h => .inl h, fun _ h => .inl h, fun a u h _ => same_upd n a u h⟩
  exact q p _ av1 ad1 c C' (R2.ban n nt) R2.sub (R2.nav n) ((l.trans s2).there p n) l2 (ok.cell f Pre.refl upd_same) q3
theorem sim_bin {r : R2} {f : O2} (hr : SimR K r f) (ha : SimE K ta Ea) (hb : SimE K tb Eb) : SimE K (tOp r ta tb) (eBin f Ea Eb) := fun H0 A0 av ad Γ C σ H Q3 Q R h q =>
  ha H0 A0 av ad Γ C σ H _ _ R h fun x H1 av1 ad1 dx C1 R1 l1 d1 h1 =>
    hb H0 A0 av1 ad1 Γ C1 σ H1 _ _ R1 h1 fun y H2 av2 ad2 dy C2 R2 l2 d2 h2 =>
      hr H0 A0 av2 ad2 Γ C2 σ H2 x y dx dy _ Q R2 (d1.le l2) d2 h2 fun v H3 d s d3 h3 => q v H3 av2 ad2 d C2 (R2.same s) ((l1.trans l2).trans (Le.same s)) d3 h3
theorem sim_binF {r : R2} {f : N2} (hr : SimRF K r f) (ha : SimE K ta Ea) (hb : SimE K tb Eb) : SimF K (tOp r ta tb) (fBin f Ea Eb) := fun H0 A0 av ad Γ C σ H Q3 Q R h q =>
  ha H0 A0 av ad Γ C σ H _ _ R h fun x H1 av1 ad1 dx C1 R1 l1 d1 h1 =>
    hb H0 A0 av1 ad1 Γ C1 σ H1 _ _ R1 h1 fun y H2 av2 ad2 dy C2 R2 l2 d2 h2 =>
      hr H0 A0 av2 ad2 Γ C2 σ H2 x y dx dy _ Q R2 (d1.le l2) d2 h2 fun H3 p o c s n nt ok h3 => fin_new R2 (l1.trans l2) s n nt ok h3 q
theorem sim_un {r : V → Hp → VK → Prop} {f : O1} (hr : SimU K r f) (ha : SimE K ta Ea) : SimE K (tUn r ta) (eUn f Ea) := fun H0 A0 av ad Γ C σ H Q3 Q R h q =>
  ha H0 A0 av ad Γ C σ H _ _ R h fun x H1 av1 ad1 dx C1 R1 l1 d1 h1 =>
      hr H0 A0 av1 ad1 Γ C1 σ H1 x dx _ Q R1 d1 h1 fun v H3 d s d3 h3 => q v H3 av1 ad1 d C1 (R1.same s) (l1.trans (Le.same s)) d3 h3
end
end L3
namespace L3
open PySem PySem.Spec PyProof.Rows L2
mutual
def pyW (g : Nat → Option PyData) : D → Option PyData
  | .non => some .none
  | .bl b => some (.bool b)
  | .int i => some (.int i)
  | .str s => some (.str s)
  | .lst _ xs => (pyWs g xs).map .list
  | .tup xs => (pyWs g xs).map .tuple
  | .ptr k => g k
  | _ => none
def pyWs (g : Nat → Option PyData) : List D → Option (List PyData)
  | [] => some []
  | x :: xs => (pyW g x).bind fun p => (pyWs g xs).map (p :: ·)
end
def pyG (C : Store) : Nat → Nat → Option PyData
  | 0, _ => none
  | n + 1, k => match C[k]? with
    | some (.lst xs) => (pyWs (pyG C n) xs).map .list
    | _ => none
def pyD (C : Store) (d : D) : Option PyData := pyW (pyG C 2) d
section
variable {K : PySem.W.Frag} {H0 : Hp} {A0 : List Addr} {av : Av} {ad : Ads} {Γ : Slots} {C : Store} {σ : L2.St} {H : Hp}
mutual
theorem dp_of {g : Nat → Option PyData} (hg : ∀ k a p, ad[k]? = some (some a) → g k = some p → Dp K H (.ref a) p) : ∀ {d : D} {v : V} {p : PyData}, Den K H0 av ad H v d → pyW g d = some p → Dp K H v p
  | .non, _, _, .non, e => by simp only [pyW] at e; cases e; exact .non
  | .bl _, _, _, .bl, e => by simp only [pyW] at e; cases e; exact .bl _
  | .int _, _, _, .int, e => by simp only [pyW] at e; cases e; exact .int _
  | .str _, _, _, .str, e => by simp only [pyW] at e; cases e; exact .str _
  | .lst _ xs, _, _, .lst r _ x, e => by
    simp only [pyW] at e
    cases q : pyWs g xs with
    | none => rw [q] at e; cases e
    | some ps => rw [q] at e; cases e; exact .lst r.sq (dps_of hg x q)
  | .tup xs, _, _, .tup r x, e => by
    simp only [pyW] at e
    cases q : pyWs g xs with
    | none => rw [q] at e; cases e
    | some ps => rw [q] at e; cases e; exact .tup r.sq (dps_of hg x q)
  | .ptr k, _, _, .ptr h, e => by simp only [pyW] at e; exact hg k _ _ h e
  | .bad, _, _, _, e => by simp [pyW] at e
  | .dk _ _ _, _, _, _, e => by simp [pyW] at e
  | .dt _ _ _, _, _, _, e => by simp [pyW] at e
  | .obj _ _ _, _, _, _, e => by simp [pyW] at e
  | .exc _ _ _, _, _, _, e => by simp [pyW] at e
theorem dps_of {g : Nat → Option PyData} (hg : ∀ k a p, ad[k]? = some (some a) → g k = some p → Dp K H (.ref a) p) : ∀ {ds : List D} {vs : List V} {ps : List PyData}, DenAll K H0 av ad H vs ds → pyWs g ds = some ps → DpAll K H vs ps
  | [], _, _, .nil, e => by simp only [pyWs] at e; cases e; exact .nil
  | d :: ds, _, _, .cons a b, e => by
    simp only [pyWs] at e
    cases q : pyW g d with
    | none => rw [q] at e; cases e
    | some p =>
      rw [q] at e
      cases q2 : pyWs g ds with
      | none => rw [q2] at e; cases e
      | some ps => rw [q2] at e; cases e; exact .cons (dp_of hg a q) (dps_of hg b q2)
end
theorem dp_g (R : Rep K H0 A0 av ad Γ C σ H) : ∀ (n k : Nat) (a : Addr) (p : PyData), ad[k]? = some (some a) → pyG C n k = some p → Dp K H (.ref a) p
  | 0, _, _, _, _, e => by cases e
  | n + 1, k, a, p, h, e => by
    simp only [pyG] at e
    cases q : C[k]? with
    | none => rw [q] at e; cases e
    | some c =>
      rw [q] at e
      cases c with
      | lst xs =>
        simp only at e
        obtain ⟨vs, e1, r⟩ := R.cells k a _ h q
        cases q2 : pyWs (pyG C n) xs with
        | none => rw [q2] at e; cases e
        | some ps =>
          rw [q2] at e; cases e
          exact .lst (SqL.of e1) (dps_of (dp_g R n) r q2)
      | dk _ _ => cases e
      | dt _ _ => cases e
      | ins _ _ _ => cases e
      | dead => cases e
theorem Rep.dp (R : Rep K H0 A0 av ad Γ C σ H) {v : V} {d : D} {p : PyData} (x : Den K H0 av ad H v d) (e : pyD C d = some p) : Dp K H v p := dp_of (dp_g R 2) x e
def lstOf (C : Store) : D → Option (List D)
  | .lst _ xs => some xs
  | .ptr k => match C[k]? with
    | some (.lst xs) => some xs
    | _ => none
  | _ => none
def seqOf (C : Store) : D → Option (List D)
  | .tup xs => some xs
  | d => lstOf C d
theorem Rep.lst (R : Rep K H0 A0 av ad Γ C σ H) {v : V} {d : D} {xs : List D} (x : Den K H0 av ad H v d) (e : lstOf C d = some xs) : ∃ a vs, v = .ref a ∧ Rd H a (.lst vs) ∧ DenAll K H0 av ad H vs xs := by
  cases x with
  | lst l ho r => simp only [lstOf] at e; cases e; exact ⟨_, _, rfl, l.1, r⟩
  | bad => cases e
  | non => cases e
  | bl => cases e
  | int => cases e
  | str => cases e
  | tup _ _ => cases e
  | dk _ _ _ _ _ => cases e
  | dt _ _ _ _ _ => cases e
  | obj _ _ _ _ => cases e
  | exc _ _ _ _ _ => cases e
  | @ptr a k h =>
    simp only [lstOf] at e
    cases q : C[k]? with
    | none => rw [q] at e; cases e
    | some c =>
      rw [q] at e
      cases c with
      | lst ys =>
        cases e
        obtain ⟨vs, e1, r⟩ := R.cells k a _ h q
        exact ⟨a, vs, rfl, .inl e1, r⟩
      | dk _ _ => cases e
      | dt _ _ => cases e
      | ins _ _ _ => cases e
      | dead => cases e
theorem Rep.tup (R : Rep K H0 A0 av ad Γ C σ H) {v : V} {xs : List D} (x : Den K H0 av ad H v (.tup xs)) : ∃ a vs, v = .ref a ∧ SqT K H a vs ∧ DenAll K H0 av ad H vs xs := by
  cases x with
  | tup l r => exact ⟨_, _, rfl, l.sq, r⟩
theorem Rep.seq (R : Rep K H0 A0 av ad Γ C σ H) {v : V} {d : D} {xs : List D} (x : Den K H0 av ad H v d) (e : seqOf C d = some xs) : ∃ a vs, v = .ref a ∧ (SqL K H a vs ∨ SqT K H a vs) ∧ DenAll K H0 av ad H vs xs := by
  by_cases h : ∃ ys, d = .tup ys
  · obtain ⟨ys, rfl⟩ := h
    simp only [seqOf] at e; cases e
    obtain ⟨a, vs, h1, h2, h3⟩ := R.tup x
    exact ⟨a, vs, h1, .inr h2, h3⟩
  · have e2 : lstOf C d = some xs := by
      cases d <;> first
        | exact e
        | exact absurd ⟨_, rfl⟩ h
    obtain ⟨a, vs, h1, h2, h3⟩ := R.lst x e2
    exact ⟨a, vs, h1, .inl (.inl h2), h3⟩
theorem den_int {v : V} {i : Int} (x : Den K H0 av ad H v (.int i)) : v = .int i := by cases x; rfl
theorem den_bl {v : V} {b : Bool} (x : Den K H0 av ad H v (.bl b)) : v = .bl b := by cases x; rfl
theorem den_str {v : V} {s : Str} (x : Den K H0 av ad H v (.str s)) : v = .str s := by cases x; rfl
theorem den_non {v : V} (x : Den K H0 av ad H v .non) : v = .non := by cases x; rfl
theorem den_ints : ∀ {vs : List V} {is : List Int}, DenAll K H0 av ad H vs (is.map .int) → vs = is.map V.int
  | _, [], x => by cases x; rfl
  | _, i :: is, x => by
    cases x with
    | cons a b => rw [den_int a, den_ints b]; rfl
theorem den_bls : ∀ {vs : List V} {is : List Bool}, DenAll K H0 av ad H vs (is.map .bl) → vs = is.map V.bl
  | _, [], x => by cases x; rfl
  | _, i :: is, x => by
    cases x with
    | cons a b => rw [den_bl a, den_bls b]; rfl
theorem den_strs : ∀ {vs : List V} {is : List Str}, DenAll K H0 av ad H vs (is.map .str) → vs = is.map V.str
  | _, [], x => by cases x; rfl
  | _, i :: is, x => by
    cases x with
    | cons a b => rw [den_str a, den_strs b]; rfl
theorem ints_den : ∀ {is : List Int}, DenAll K H0 av ad H (is.map V.int) (is.map .int)
  | [] => .nil
  | i :: is => .cons .int (ints_den (is := is))
theorem strs_den : ∀ {is : List Str}, DenAll K H0 av ad H (is.map V.str) (is.map .str)
  | [] => .nil
  | i :: is => .cons .str (strs_den (is := is))
end
def oI (g : Int → Int → D) : O2 := fun _ x y Q => ∃ i j, x = .int i ∧ y = .int j ∧ Q (g i j)
def oIc (c : Int → Int → Prop) (g : Int → Int → D) : O2 := fun _ x y Q => ∃ i j, x = .int i ∧ y = .int j ∧ c i j ∧ Q (g i j)
section
variable {K : PySem.W.Frag} {X : Cx} {e a b : Expr} {es : List Expr} {t ta tb te : TE} {tt tu : TT} {E Ea Eb : EV} {F : FV} {B B' : BV} {pos : Pos}
theorem sr_I {g : Int → Int → V} {g3 : Int → Int → D} (h : ∀ i j H0 av ad H, Den K H0 av ad H (g i j) (g3 i j)) : SimR K (rI0 g) (oI g3) := by
  intro H0 A0 av ad Γ C σ H x y dx dy Q3 Q R d1 d2 h3 q
  obtain ⟨i, j, rfl, rfl, q3⟩ := h3
  exact ⟨i, j, den_int d1, den_int d2, q _ H _ (fun _ _ h => h) (h i j H0 av ad H) q3⟩
theorem sr_Ic {c : Int → Int → Prop} {g : Int → Int → V} {g3 : Int → Int → D} (h : ∀ i j H0 av ad H, Den K H0 av ad H (g i j) (g3 i j)) : SimR K (rI c g) (oIc c g3) := by
  intro H0 A0 av ad Γ C σ H x y dx dy Q3 Q R d1 d2 h3 q
  obtain ⟨i, j, rfl, rfl, hc, q3⟩ := h3
  exact ⟨i, j, den_int d1, den_int d2, hc, q _ H _ (fun _ _ h => h) (h i j H0 av ad H) q3⟩
theorem ve_op {op : Operator} {r : R2} {f : O2} (ho : OpR X (binaryOp op) r) (hs : SimR K r f) (ha : VE K X a ta Ea) (hb : VE K X b tb Eb) : VE K X (.BinOp a op b pos) (tOp r ta tb) (eBin f Ea Eb) :=
  ⟨pe_op ho ha.pe hb.pe, sim_bin hs ha.sim hb.sim⟩
theorem vf_op {op : Operator} {r : R2} {f : N2} (ho : OpR X (binaryOp op) r) (hs : SimRF K r f) (ha : VE K X a ta Ea) (hb : VE K X b tb Eb) : VF K X (.BinOp a op b pos) (tOp r ta tb) (fBin f Ea Eb) :=
  ⟨pe_op ho ha.pe hb.pe, sim_binF hs ha.sim hb.sim⟩
theorem ve_cmp {op : CmpOp} {r : R2} {f : O2} (ho : OpR X (compareOp op) r) (hs : SimR K r f) (ha : VE K X a ta Ea) (hb : VE K X b tb Eb) (hm : behindInMarks op b = false) : VE K X (.Compare a [op] [b] pos) (tOp r ta tb) (eBin f Ea Eb) :=
  ⟨pe_cmpR ho ha.pe hb.pe hm, sim_bin hs ha.sim hb.sim⟩
abbrev oAdd : O2 := oI fun i j => .int (i + j)
abbrev oSub : O2 := oI fun i j => .int (i - j)
abbrev oMod : O2 := oIc (fun _ j => 0 < j) fun i j => .int (i % j)
abbrev oLt : O2 := oI fun i j => .bl (decide (i < j))
abbrev oLe : O2 := oI fun i j => .bl (decide (i ≤ j))
abbrev oGt : O2 := oI fun i j => .bl (decide (j < i))
theorem sr_add : SimR K (rI0 fun i j => .int (i + j)) oAdd := sr_I fun _ _ _ _ _ _ => .int
theorem sr_sub : SimR K (rI0 fun i j => .int (i - j)) oSub := sr_I fun _ _ _ _ _ _ => .int
theorem sr_mod : SimR K (rI (fun _ j => 0 < j) fun i j => .int (i % j)) oMod := sr_Ic fun _ _ _ _ _ _ => .int
theorem sr_lt : SimR K (rI0 fun i j => .bl (decide (i < j))) oLt := sr_I fun _ _ _ _ _ _ => .bl
theorem sr_le : SimR K (rI0 fun i j => .bl (decide (i ≤ j))) oLe := sr_I fun _ _ _ _ _ _ => .bl
theorem sr_gt : SimR K (rI0 fun i j => .bl (decide (j < i))) oGt := sr_I fun _ _ _ _ _ _ => .bl
def oNeg : O1 := fun _ x Q => ∃ i, x = .int i ∧ Q (.int (-i))
theorem ve_un {op : UnaryOp} {r : V → Hp → VK → Prop} {f : O1} (ho : UnR X (unaryOp op) r) (hs : SimU K r f) (ha : VE K X a ta Ea) : VE K X (.UnaryOp op a pos) (tUn r ta) (eUn f Ea) := ⟨pe_un ho ha.pe, sim_un hs ha.sim⟩
theorem su_neg : SimU K (rU fun i => .int (-i)) oNeg := fun H0 A0 av ad Γ C σ H x dx Q3 Q R d1 ⟨i, e, q3⟩ q => by
  subst e
  exact ⟨i, den_int d1, q _ H _ (fun _ _ h => h) .int q3⟩
def oEq (neg : Bool) : O2 := fun C x y Q => match x, y with
  | .int i, .int j => Q (.bl (neg != decide (i = j)))
  | .str s, .str t => Q (.bl (neg != decide (s = t)))
  | .bl i, .bl j => Q (.bl (neg != decide (i = j)))
  | _, _ => ∃ p r, pyD C x = some p ∧ pyD C y = some r ∧ SeqAt.shaped p = true ∧ SeqAt.shaped r = true ∧ Q (.bl (neg != PyData.eqv p r))
theorem eqN {b : Bool} : (false != b) = b := by cases b <;> rfl
theorem eqP {b : Bool} : (true != b) = !b := by cases b <;> rfl
theorem dec_i {i j : Int} : decide (V.int i = V.int j) = decide (i = j) := by simp
theorem dec_s {i j : Str} : decide (V.str i = V.str j) = decide (i = j) := by simp
theorem dec_b {i j : Bool} : decide (V.bl i = V.bl j) = decide (i = j) := by simp
theorem sr_eq : SimR K (fun x y H Q => rEq x y H Q ∨ rEqD K x y H Q) (oEq false) := by
  intro H0 A0 av ad Γ C σ H x y dx dy Q3 Q R d1 d2 h3 q
  unfold oEq at h3
  split at h3
  · refine .inl ?_
    rw [den_int d1, den_int d2]
    rw [eqN] at h3
    exact ⟨rfl, q _ H _ (fun _ _ h => h) .bl (by rw [dec_i]; exact h3)⟩
  · refine .inl ?_
    rw [den_str d1, den_str d2]
    rw [eqN] at h3
    exact ⟨rfl, q _ H _ (fun _ _ h => h) .bl (by rw [dec_s]; exact h3)⟩
  · refine .inl ?_
    rw [den_bl d1, den_bl d2]
    rw [eqN] at h3
    exact ⟨rfl, q _ H _ (fun _ _ h => h) .bl (by rw [dec_b]; exact h3)⟩
  · obtain ⟨p, r, e1, e2, s1, s2, q3⟩ := h3
    rw [eqN] at q3
    exact .inr ⟨p, r, R.dp d1 e1, R.dp d2 e2, s1, s2, q _ H _ (fun _ _ h => h) .bl q3⟩
theorem sr_ne : SimR K (fun x y H Q => rNe x y H Q ∨ rNeD K x y H Q) (oEq true) := by
  intro H0 A0 av ad Γ C σ H x y dx dy Q3 Q R d1 d2 h3 q
  unfold oEq at h3
  split at h3
  · refine .inl ?_
    rw [den_int d1, den_int d2]
    rw [eqP] at h3
    exact ⟨rfl, q _ H _ (fun _ _ h => h) .bl (by rw [dec_i]; exact h3)⟩
  · refine .inl ?_
    rw [den_str d1, den_str d2]
    rw [eqP] at h3
    exact ⟨rfl, q _ H _ (fun _ _ h => h) .bl (by rw [dec_s]; exact h3)⟩
  · refine .inl ?_
    rw [den_bl d1, den_bl d2]
    rw [eqP] at h3
    exact ⟨rfl, q _ H _ (fun _ _ h => h) .bl (by rw [dec_b]; exact h3)⟩
  · obtain ⟨p, r, e1, e2, s1, s2, q3⟩ := h3
    rw [eqP] at q3
    exact .inr ⟨p, r, R.dp d1 e1, R.dp d2 e2, s1, s2, q _ H _ (fun _ _ h => h) .bl q3⟩
theorem op_eqA (hK : X.K = K) (hu : X.A.units + 64 < cLine) : OpR X (compareOp .Eq) (fun x y H Q => rEq x y H Q ∨ rEqD K x y H Q) := by
  subst hK
  exact op_eq.or (op_eqD hu)
theorem op_neA (hK : X.K = K) (hu : X.A.units + 64 < cLine) : OpR X (compareOp .NotEq) (fun x y H Q => rNe x y H Q ∨ rNeD K x y H Q) := by
  subst hK
  exact op_ne.or (op_neD hu)
def isNon : D → Option Bool
  | .non => some true
  | .bad => none
  | _ => some false
def oIsN (neg : Bool) : O2 := fun _ x y Q => y = .non ∧ ∃ b, isNon x = some b ∧ Q (.bl (neg != b))
theorem isNon_of {H0 : Hp} {av : Av} {ad : Ads} {H : Hp} {v : V} {d : D} {b : Bool} (x : Den K H0 av ad H v d) (e : isNon d = some b) : decide (v = .non) = b := by
  cases x <;> simp only [isNon] at e <;> cases e <;> simp
theorem sr_isN : SimR K (fun x y H Q => y = .non ∧ Q (.bl (decide (x = .non))) H) (oIsN false) := by
  intro H0 A0 av ad Γ C σ H x y dx dy Q3 Q R d1 d2 ⟨e, b, hb, q3⟩ q
  subst e
  rw [eqN] at q3
  exact ⟨den_non d2, q _ H _ (fun _ _ h => h) .bl (by rw [isNon_of d1 hb]; exact q3)⟩
end
end L3
namespace L3
open PySem PySem.Spec PyProof.Rows L2
section
variable {K : PySem.W.Frag} {X : Cx} {e a b c o : Expr} {es rest : List Expr} {t ta tb tc te : TE} {tt tu tA : TT} {E Ea Eb Ec : EV} {F : FV} {B B' : BV} {tl : TA} {L : AV} {pos p : Pos} {x : Str}
def CPowW (i j : Int) : Prop := 0 ≤ j ∧ (Builtin.Int.intBits i : Int) * j ≤ 2 ^ 27
theorem op_powW : OpR X (binaryOp .Pow) (rI CPowW fun i j => .int (i ^ j.toNat)) := opI fun _ _ _ _ _ _ _ hc q => pow_int hc.1 hc.2 q
theorem cpow_of {i j : Int} {n : Nat} (h0 : 0 ≤ j) (hi : i.natAbs < 2 ^ n) (h : (n : Int) * j ≤ 2 ^ 27 - 10 * j) : CPowW i j := by
  refine ⟨h0, ?_⟩
  have hb : Builtin.Int.intBits i ≤ n + 1 := by
    unfold Builtin.Int.intBits
    split
    · omega
    · rename_i hz
      have : i.natAbs.log2 < n := by
        rw [Nat.log2_lt (by
          intro z
          exact hz (by simp at z ⊢; omega))]
        exact hi
      omega
  have : (Builtin.Int.intBits i : Int) * j ≤ ((n : Int) + 1) * j := Int.mul_le_mul_of_nonneg_right (by omega) h0
  have e : ((n : Int) + 1) * j = n * j + j := by rw [Int.add_mul, Int.one_mul]
  omega
abbrev oMulW : O2 := oIc CMulW fun i j => .int (i * j)
abbrev oDivW : O2 := oIc CDivW fun i j => .int (i / j)
abbrev oPowW : O2 := oIc CPowW fun i j => .int (i ^ j.toNat)
theorem sr_mulW : SimR K (rI CMulW fun i j => .int (i * j)) oMulW := sr_Ic fun _ _ _ _ _ _ => .int
theorem sr_divW : SimR K (rI CDivW fun i j => .int (i / j)) oDivW := sr_Ic fun _ _ _ _ _ _ => .int
theorem sr_powW : SimR K (rI CPowW fun i j => .int (i ^ j.toNat)) oPowW := sr_Ic fun _ _ _ _ _ _ => .int
def oCatS : O2 := fun _ x y Q => ∃ i j, x = .str i ∧ y = .str j ∧ i.length + j.length ≤ sizeLine ∧ Q (.str (i ++ j))
theorem sr_catS : SimR K (fun x y H Q => ∃ i j, x = .str i ∧ y = .str j ∧ i.length + j.length ≤ sizeLine ∧ Q (.str (i ++ j)) H) oCatS := by
  intro H0 A0 av ad Γ C σ H x y dx dy Q3 Q R d1 d2 h3 q
  obtain ⟨i, j, rfl, rfl, hc, q3⟩ := h3
  exact ⟨i, j, den_str d1, den_str d2, hc, q _ H _ (fun _ _ h => h) .str q3⟩
def oIn (neg : Bool) : O2 := fun C x y Q => match x, y with
  | .str i, .str j => Q (.bl (neg != !(Builtin.Str.occurrences j i 0 j.length 1).isEmpty))
  | _, _ => ∃ q rs, pyD C x = some q ∧ pyD C y = some (.list rs) ∧ SeqAt.shaped q = true ∧ SeqAt.shaped (.list rs) = true ∧ Q (.bl (neg != rs.any fun z => PyData.eqv z q))
def rInStr : R2 := fun x y H Q => ∃ i j, x = .str i ∧ y = .str j ∧ Q (.bl (!(Builtin.Str.occurrences j i 0 j.length 1).isEmpty)) H
def rNiStr : R2 := fun x y H Q => ∃ i j, x = .str i ∧ y = .str j ∧ Q (.bl (!(!(Builtin.Str.occurrences j i 0 j.length 1).isEmpty))) H
theorem sr_in : SimR K (fun x y H Q => rInStr x y H Q ∨ rInD K x y H Q) (oIn false) := by
  intro H0 A0 av ad Γ C σ H x y dx dy Q3 Q R d1 d2 h3 q
  unfold oIn at h3
  split at h3
  · rw [eqN] at h3
    exact .inl ⟨_, _, den_str d1, den_str d2, q _ H _ (fun _ _ h => h) .bl h3⟩
  · obtain ⟨p, r, e1, e2, s1, s2, q3⟩ := h3
    rw [eqN] at q3
    exact .inr ⟨p, r, R.dp d1 e1, R.dp d2 e2, s1, s2, q _ H _ (fun _ _ h => h) .bl q3⟩
theorem sr_notIn : SimR K (fun x y H Q => rNiStr x y H Q ∨ rNotInD K x y H Q) (oIn true) := by
  intro H0 A0 av ad Γ C σ H x y dx dy Q3 Q R d1 d2 h3 q
  unfold oIn at h3
  split at h3
  · rw [eqP] at h3
    exact .inl ⟨_, _, den_str d1, den_str d2, q _ H _ (fun _ _ h => h) .bl h3⟩
  · obtain ⟨p, r, e1, e2, s1, s2, q3⟩ := h3
    rw [eqP] at q3
    exact .inr ⟨p, r, R.dp d1 e1, R.dp d2 e2, s1, s2, q _ H _ (fun _ _ h => h) .bl q3⟩
theorem op_inA (hK : X.K = K) (hu : X.A.units + 65 < cLine) : OpR X (compareOp .In) (fun x y H Q => rInStr x y H Q ∨ rInD K x y H Q) := by
  subst hK
  exact OpR.or (r := rInStr) op_in_str (op_inD hu)
theorem op_notInA (hK : X.K = K) (hu : X.A.units + 65 < cLine) : OpR X (compareOp .NotIn) (fun x y H Q => rNiStr x y H Q ∨ rNotInD K x y H Q) := by
  subst hK
  exact OpR.or (r := rNiStr) op_notIn_str (op_notInD hu)
def oLtT : O2 := fun _ x y Q => ∃ ns ms : List Int, x = .tup (ns.map .int) ∧ y = .tup (ms.map .int) ∧ Q (.bl (HT.lexLt ns ms))
theorem sr_ltT : SimR K (rLtT K) oLtT := by
  intro H0 A0 av ad Γ C σ H x y dx dy Q3 Q R d1 d2 h3 q
  obtain ⟨ns, ms, rfl, rfl, q3⟩ := h3
  obtain ⟨a, vs, rfl, h1, r1⟩ := R.tup d1
  obtain ⟨b, us, rfl, h2, r2⟩ := R.tup d2
  rw [den_ints r1] at h1
  rw [den_ints r2] at h2
  exact ⟨a, b, ns, ms, rfl, rfl, h1, h2, q _ H _ (fun _ _ h => h) .bl q3⟩
theorem op_ltTA (hK : X.K = K) (hu : X.A.units < cLine) : OpR X (compareOp .Lt) (rLtT K) := by
  subst hK
  exact op_ltT hu
def bB (E : EV) : BV := fun Γ C Q => E Γ C fun d C' => ∃ k, d = .bl k ∧ Q k C'
def bAnd (A B : BV) : BV := fun Γ C Q => A Γ C fun k C' => if k = true then B Γ C' Q else Q false C'
def bOr (A B : BV) : BV := fun Γ C Q => A Γ C fun k C' => if k = true then Q true C' else B Γ C' Q
def bNot (A : BV) : BV := fun Γ C Q => A Γ C fun k C' => Q (!k) C'
def eAnd (A B : EV) : EV := fun Γ C Q => A Γ C fun d C' => ∃ k, d = .bl k ∧ if k = true then B Γ C' Q else Q (.bl false) C'
def eNot (A : EV) : EV := fun Γ C Q => A Γ C fun d C' => ∃ k, d = .bl k ∧ Q (.bl (!k)) C'
def eIf (T : BV) (A B : EV) : EV := fun Γ C Q => T Γ C fun k C' => if k = true then A Γ C' Q else B Γ C' Q
theorem sim_b (h : SimE K t E) : SimT K (tB t) (bB E) := fun H0 A0 av ad Γ C σ H Q3 Q R h3 q =>
  h H0 A0 av ad Γ C σ H _ _ R h3 fun v H' av' ad' d C' R' l d1 ⟨k, e, q3⟩ => ⟨k, den_bl (e ▸ d1), q k H' av' ad' C' R' l q3⟩
theorem vt_val (h : VE K X e t E) (he : ∀ whole, isTrue e X.env whole = (do let v ← whole; standAt e.pos; holding [v] (truthy v)) := by intro _; rfl) : VT K X e (tB t) (bB E) := ⟨pt_val h.pe he, sim_b h.sim⟩
theorem vt_cmp {op : CmpOp} {r : R2} {f : O2} (ho : OpR X (compareOp op) r) (hs : SimR K r f) (ha : VE K X a ta Ea) (hb : VE K X b tb Eb) (hm : behindInMarks op b = false) : VT K X (.Compare a [op] [b] pos) (tTest (tOp r ta tb)) (bB (eBin f Ea Eb)) :=
  ⟨pt_cmpR ho ha.pe hb.pe hm, sim_b (sim_bin hs ha.sim hb.sim)⟩
theorem sim_and (h : SimT K tt B) (h' : SimT K tu B') : SimT K (tAnd tt tu) (bAnd B B') := fun H0 A0 av ad Γ C σ H Q3 Q R h3 q =>
  h H0 A0 av ad Γ C σ H _ _ R h3 fun k H' av' ad' C' R' l q3 => by
    cases k with
    | true => exact h' H0 A0 av' ad' Γ C' σ H' _ _ R' q3 fun k H2 av2 ad2 C2 R2 l2 q4 => q k H2 av2 ad2 C2 R2 (l.trans l2) q4
    | false => exact q false H' av' ad' C' R' l q3
theorem sim_or (h : SimT K tt B) (h' : SimT K tu B') : SimT K (tOr tt tu) (bOr B B') := fun H0 A0 av ad Γ C σ H Q3 Q R h3 q =>
  h H0 A0 av ad Γ C σ H _ _ R h3 fun k H' av' ad' C' R' l q3 => by
    cases k with
    | false => exact h' H0 A0 av' ad' Γ C' σ H' _ _ R' q3 fun k H2 av2 ad2 C2 R2 l2 q4 => q k H2 av2 ad2 C2 R2 (l.trans l2) q4
    | true => exact q true H' av' ad' C' R' l q3
theorem vw_and1 (h : VT K X a tt B) : VW K X (.BoolOp .And [a] pos) tt B := ⟨pw_and1 h.pt, h.sim⟩
theorem vw_or1 (h : VT K X a tt B) : VW K X (.BoolOp .Or [a] pos) tt B := ⟨pw_or1 h.pt, h.sim⟩
theorem vw_and (h : VT K X a tt B) (h' : VW K X (.BoolOp .And (b :: rest) pos) tu B') : VW K X (.BoolOp .And (a :: b :: rest) pos) (tAnd tt tu) (bAnd B B') := ⟨pw_and h.pt h'.pw, sim_and h.sim h'.sim⟩
theorem vw_or (h : VT K X a tt B) (h' : VW K X (.BoolOp .Or (b :: rest) pos) tu B') : VW K X (.BoolOp .Or (a :: b :: rest) pos) (tOr tt tu) (bOr B B') := ⟨pw_or h.pt h'.pw, sim_or h.sim h'.sim⟩
theorem VW.vt (h : VW K X a tt B) : VT K X a tt B := ⟨h.pw.pt, h.sim⟩
theorem vt_not (h : VT K X a tt B) : VT K X (.UnaryOp .Not a pos) (tNot tt) (bNot B) := ⟨pt_not h.pt, fun H0 A0 av ad Γ C σ H Q3 Q R h3 q =>
  h.sim H0 A0 av ad Γ C σ H _ _ R h3 fun k H' av' ad' C' R' l q3 => q (!k) H' av' ad' C' R' l q3⟩
theorem ve_one {op} (h : VE K X a t E) : VE K X (.BoolOp op [a] pos) t E := ⟨pe_one h.pe, h.sim⟩
theorem ve_and (h : VE K X a ta Ea) (h' : VE K X (.BoolOp .And (b :: rest) pos) tb Eb) : VE K X (.BoolOp .And (a :: b :: rest) pos) (tAndV ta tb) (eAnd Ea Eb) := ⟨pe_and h.pe h'.pe, fun H0 A0 av ad Γ C σ H Q3 Q R h3 q =>
  h.sim H0 A0 av ad Γ C σ H _ _ R h3 fun v H' av' ad' d C' R' l d1 ⟨k, e, q3⟩ => ⟨k, den_bl (e ▸ d1), by
    cases k with
    | true => exact h'.sim H0 A0 av' ad' Γ C' σ H' _ _ R' q3 fun v2 H2 av2 ad2 d2 C2 R2 l2 dd q4 => q v2 H2 av2 ad2 d2 C2 R2 (l.trans l2) dd q4
    | false => exact q _ H' av' ad' _ C' R' l .bl q3⟩⟩
theorem ve_not (h : VE K X a ta Ea) : VE K X (.UnaryOp .Not a pos) (tNotV ta) (eNot Ea) := ⟨pe_not h.pe, fun H0 A0 av ad Γ C σ H Q3 Q R h3 q =>
  h.sim H0 A0 av ad Γ C σ H _ _ R h3 fun v H' av' ad' d C' R' l d1 ⟨k, e, q3⟩ => ⟨k, den_bl (e ▸ d1), q _ H' av' ad' _ C' R' l .bl q3⟩⟩
theorem ve_ifExp (hc : VT K X c tA B) (ha : VE K X a ta Ea) (hb : VE K X b tb Eb) : VE K X (.IfExp c a b pos) (tIf tA ta tb) (eIf B Ea Eb) := ⟨pe_ifExp hc.pt ha.pe hb.pe, fun H0 A0 av ad Γ C σ H Q3 Q R h3 q =>
  hc.sim H0 A0 av ad Γ C σ H _ _ R h3 fun k H' av' ad' C' R' l q3 => by
    cases k with
    | true => exact ha.sim H0 A0 av' ad' Γ C' σ H' _ _ R' q3 fun v2 H2 av2 ad2 d2 C2 R2 l2 dd q4 => q v2 H2 av2 ad2 d2 C2 R2 (l.trans l2) dd q4
    | false => exact hb.sim H0 A0 av' ad' Γ C' σ H' _ _ R' q3 fun v2 H2 av2 ad2 d2 C2 R2 l2 dd q4 => q v2 H2 av2 ad2 d2 C2 R2 (l.trans l2) dd q4⟩
def eChain (f f' : O2) (Ea Eb Ec : EV) : EV := fun Γ C Q => Ea Γ C fun x C1 => Eb Γ C1 fun y C2 => f C2 x y fun z => ∃ k, z = .bl k ∧ if k = true then Ec Γ C2 fun w C3 => f' C3 y w fun u => Q u C3 else Q (.bl false) C2
theorem sim_chain {r r' : R2} {f f' : O2} (hr : SimR K r f) (hr' : SimR K r' f') (ha : SimE K ta Ea) (hb : SimE K tb Eb) (hc : SimE K tc Ec) : SimE K (tChain r r' ta tb tc) (eChain f f' Ea Eb Ec) := fun H0 A0 av ad Γ C σ H Q3 Q R h q =>
  ha H0 A0 av ad Γ C σ H _ _ R h fun x H1 av1 ad1 dx C1 R1 l1 d1 h1 =>
    hb H0 A0 av1 ad1 Γ C1 σ H1 _ _ R1 h1 fun y H2 av2 ad2 dy C2 R2 l2 d2 h2 =>
      hr H0 A0 av2 ad2 Γ C2 σ H2 x y dx dy _ _ R2 (d1.le l2) d2 h2 fun v H3 d s d3 ⟨k, e, h3⟩ => ⟨k, den_bl (e ▸ d3), by
        have l3 : Le av ad H av2 ad2 H3 := (l1.trans l2).trans (Le.same s)
        cases k with
        | false => exact q _ H3 av2 ad2 _ C2 (R2.same s) l3 .bl h3
        | true =>
          exact hc H0 A0 av2 ad2 Γ C2 σ H3 _ _ (R2.same s) h3 fun w H4 av4 ad4 dw C4 R4 l4 d4 h4 =>
            hr' H0 A0 av4 ad4 Γ C4 σ H4 y w dy dw _ Q R4 ((d2.le (Le.same s)).le l4) d4 h4 fun u H5 du s5 d5 h5 => q u H5 av4 ad4 du C4 (R4.same s5) ((l3.trans l4).trans (Le.same s5)) d5 h5⟩
theorem ve_chain {op op' : CmpOp} {r r' : R2} {f f' : O2} (ho : OpR X (compareOp op) r) (hs : SimR K r f) (ho' : OpR X (compareOp op') r') (hs' : SimR K r' f') (ha : VE K X a ta Ea) (hb : VE K X b tb Eb) (hc : VE K X c tc Ec)
    (hm : lastMarks [op, op'] [b, c] = false := by with_unfolding_all rfl) : VE K X (.Compare a [op, op'] [b, c] pos) (tChain r r' ta tb tc) (eChain f f' Ea Eb Ec) := ⟨pe_chain ho ho' ha.pe hb.pe hc.pe hm, sim_chain hs hs' ha.sim hb.sim hc.sim⟩
def aNil : AV := fun _ C Q => Q [] C
def aCons (E : EV) (L : AV) : AV := fun Γ C Q => E Γ C fun d C1 => L Γ C1 fun ds C2 => Q (d :: ds) C2
theorem va_nil : VA K X [] tNil aNil := ⟨pa_nil, fun H0 A0 av ad Γ C σ H Q3 Q R h q => q [] H av ad [] C R Le.refl .nil h⟩
theorem va_cons (h : VE K X e te E) (hr : VA K X es tl L) (hs : starEach (e :: es) X.env = (false, eval e X.env) :: starEach es X.env := by rfl) : VA K X (e :: es) (tCons te tl) (aCons E L) := ⟨pa_cons h.pe hr.pa hs, fun H0 A0 av ad Γ C σ H Q3 Q R h3 q =>
  h.sim H0 A0 av ad Γ C σ H _ _ R h3 fun v H1 av1 ad1 d C1 R1 l1 d1 h4 =>
    hr.sim H0 A0 av1 ad1 Γ C1 σ H1 _ _ R1 h4 fun vs H2 av2 ad2 ds C2 R2 l2 d2 h5 => q (v :: vs) H2 av2 ad2 (d :: ds) C2 R2 (l1.trans l2) (.cons (d1.le l2) d2) h5⟩
def eTup (L : AV) : EV := fun Γ C Q => L Γ C fun ds C1 => ds.length ≤ sizeLine ∧ Q (.tup ds) C1
def fLst (L : AV) : FV := fun Γ C Q => L Γ C fun ds C1 => ds.length ≤ sizeLine ∧ Q (.lst ds) C1
theorem ve_tup {x1} (h : VA K X es tl L) : VE K X (.Tuple es x1 pos) (tTup tl) (eTup L) := ⟨pe_tup h.pa, fun H0 A0 av ad Γ C σ H Q3 Q R h3 q =>
  h.sim H0 A0 av ad Γ C σ H _ _ R h3 fun vs H1 av1 ad1 ds C1 R1 l1 d1 ⟨hl, q3⟩ => ⟨by rw [d1.length]; exact hl, fun p np => q _ _ av1 ad1 _ C1 (R1.new np) (l1.trans (Le.new np)) (.tup ⟨upd_same, R1.nav np⟩ (d1.le (Le.new np))) q3⟩⟩
theorem vf_lst (h : VA K X es tl L) : VF K X (.List es pos) (tLst tl) (fLst L) := ⟨pe_lst h.pa, fun H0 A0 av ad Γ C σ H Q3 Q R h3 q =>
  h.sim H0 A0 av ad Γ C σ H _ _ R h3 fun vs H1 av1 ad1 ds C1 R1 l1 d1 ⟨hl, q3⟩ => ⟨by rw [d1.length]; exact hl, fun p np => fin_new R1 l1 (fun _ _ h => h) np noTup_lst (c := .lst ds) d1 q3 q⟩⟩
def oIxL : O2 := fun C x y Q => ∃ xs i d, lstOf C x = some xs ∧ y = .int i ∧ atI xs i = some d ∧ Q d
def oIxT : O2 := fun C x y Q => ∃ xs i d, x = .tup xs ∧ y = .int i ∧ atI xs i = some d ∧ Q d
def oIxS : O2 := fun C x y Q => ∃ z i k, x = .str z ∧ y = .int i ∧ z.length ≤ sizeLine ∧ atI z.cps.toList i = some k ∧ Q (.str ⟨#[k]⟩)
theorem den_at {H0 : Hp} {av : Av} {ad : Ads} {H : Hp} {vs : List V} {ds : List D} {i : Int} {d : D} (x : DenAll K H0 av ad H vs ds) (e : atI ds i = some d) : ∃ v, atI vs i = some v ∧ Den K H0 av ad H v d := by
  unfold atI at e ⊢
  rw [x.length]
  cases q : ixN ds.length i with
  | none => rw [q] at e; cases e
  | some j => rw [q] at e; exact x.get e
theorem sr_ixL : SimR K (rIxL K) oIxL := by
  intro H0 A0 av ad Γ C σ H x y dx dy Q3 Q R d1 d2 ⟨xs, i, d, e1, e2, e3, q3⟩ q
  subst e2
  obtain ⟨p, vs, rfl, h1, r1⟩ := R.lst d1 e1
  obtain ⟨v, h2, r2⟩ := den_at r1 e3
  exact ⟨p, vs, i, v, rfl, den_int d2, .inl h1, h2, q v H d (fun _ _ h => h) r2 q3⟩
theorem sr_ixT : SimR K (rIxT K) oIxT := by
  intro H0 A0 av ad Γ C σ H x y dx dy Q3 Q R d1 d2 ⟨xs, i, d, e1, e2, e3, q3⟩ q
  subst e1 e2
  obtain ⟨p, vs, rfl, h1, r1⟩ := R.tup d1
  obtain ⟨v, h2, r2⟩ := den_at r1 e3
  exact ⟨p, vs, i, v, rfl, den_int d2, h1, h2, q v H d (fun _ _ h => h) r2 q3⟩
theorem sr_ixS : SimR K rIxS oIxS := by
  intro H0 A0 av ad Γ C σ H x y dx dy Q3 Q R d1 d2 ⟨z, i, k, e1, e2, e3, e4, q3⟩ q
  subst e1 e2
  exact ⟨z, i, k, den_str d1, den_int d2, e3, e4, q _ H _ (fun _ _ h => h) .str q3⟩
theorem ve_ix {r : R2} {f : O2} (hr : IxR X r) (hs : SimR K r f) (ha : VE K X a ta Ea) (hb : VE K X b tb Eb) (hp : PlainIx b := by exact fun _ _ => rfl) : VE K X (.Subscript a b pos) (tOp r ta tb) (eBin f Ea Eb) := ⟨pe_ix hr ha.pe hb.pe hp, sim_bin hs ha.sim hb.sim⟩
theorem ix_listA (hK : X.K = K) : IxR X (rIxL K) := by subst hK; exact ix_list
theorem ix_tupA (hK : X.K = K) : IxR X (rIxT K) := by subst hK; exact ix_tup
end
end L3
namespace L3
open PySem PySem.Spec PyProof.Rows L2
section
variable {K : PySem.W.Frag} {X : Cx} {e a b c o : Expr} {es rest : List Expr} {t ta tb tc te to : TE} {tt tu tA : TT} {E Ea Eb Ec Eo : EV} {F : FV} {B B' : BV} {tl : TA} {L : AV} {pos p apos : Pos} {x : Str} {id T : String}
def eCB (f : ON) (L : AV) : EV := fun Γ C Q => L Γ C fun ds C1 => f C1 ds fun z => Q z C1
def fCB (f : NN) (L : AV) : FV := fun Γ C Q => L Γ C fun ds C1 => f C1 ds fun z => Q z C1
theorem sim_cb {r : List V → Hp → VK → Prop} {f : ON} (hr : SimC K r f) (ha : SimA K tl L) : SimE K (tCB r tl) (eCB f L) := fun H0 A0 av ad Γ C σ H Q3 Q R h q =>
  ha H0 A0 av ad Γ C σ H _ _ R h fun vs H1 av1 ad1 ds C1 R1 l1 d1 h1 =>
      hr H0 A0 av1 ad1 Γ C1 σ H1 vs ds _ Q R1 d1 h1 fun v H3 d s d3 h3 => q v H3 av1 ad1 d C1 (R1.same s) (l1.trans (Le.same s)) d3 h3
theorem sim_cbF {r : List V → Hp → VK → Prop} {f : NN} (hr : SimCF K r f) (ha : SimA K tl L) : SimF K (tCB r tl) (fCB f L) := fun H0 A0 av ad Γ C σ H Q3 Q R h q =>
  ha H0 A0 av ad Γ C σ H _ _ R h fun vs H1 av1 ad1 ds C1 R1 l1 d1 h1 =>
      hr H0 A0 av1 ad1 Γ C1 σ H1 vs ds _ Q R1 d1 h1 fun H3 p o c s n nt ok h3 => fin_new R1 l1 s n nt ok h3 q
theorem ve_callB {r : List V → Hp → VK → Prop} {f : ON} (hc : CallR X (.builtin id) r) (hs : SimC K r f) (hm : X.mg x = none) (ha : VA K X (e :: es) tl L) (hg : Gl X x := by rfl) (hv : bootBuiltins x = some (.builtin id) := by decide +kernel) (hn : x ≠ "__name__" := by decide) (hdb : (x == ("__debug__" : Str)) = false := by decide)
    (he : starEach (e :: es) X.env = (false, eval e X.env) :: starEach es X.env := by rfl) (hpl : (backTo pos (starEach es X.env)).any (·.1) = false := by rfl) : VE K X (.Call (.Name x p) (e :: es) [] pos) (tCB r tl) (eCB f L) :=
  ⟨pe_callB hc hg hm hv ha.pa hn hdb he hpl, sim_cb hs ha.sim⟩
theorem ve_callTy {r : List V → Hp → VK → Prop} {f : ON} (hc : CallR X (.type T) r) (hs : SimC K r f) (hm : X.mg x = none) (ha : VA K X (e :: es) tl L) (hg : Gl X x := by rfl) (hv : bootBuiltins x = some (.type T) := by decide +kernel) (hn : x ≠ "__name__" := by decide) (hdb : (x == ("__debug__" : Str)) = false := by decide)
    (he : starEach (e :: es) X.env = (false, eval e X.env) :: starEach es X.env := by rfl) (hpl : (backTo pos (starEach es X.env)).any (·.1) = false := by rfl) : VE K X (.Call (.Name x p) (e :: es) [] pos) (tCB r tl) (eCB f L) :=
  ⟨pe_callTy hc hg hm hv ha.pa hn hdb he hpl, sim_cb hs ha.sim⟩
theorem vf_callB {r : List V → Hp → VK → Prop} {f : NN} (hc : CallR X (.builtin id) r) (hs : SimCF K r f) (hm : X.mg x = none) (ha : VA K X (e :: es) tl L) (hg : Gl X x := by rfl) (hv : bootBuiltins x = some (.builtin id) := by decide +kernel) (hn : x ≠ "__name__" := by decide) (hdb : (x == ("__debug__" : Str)) = false := by decide)
    (he : starEach (e :: es) X.env = (false, eval e X.env) :: starEach es X.env := by rfl) (hpl : (backTo pos (starEach es X.env)).any (·.1) = false := by rfl) : VF K X (.Call (.Name x p) (e :: es) [] pos) (tCB r tl) (fCB f L) :=
  ⟨pe_callB hc hg hm hv ha.pa hn hdb he hpl, sim_cbF hs ha.sim⟩
theorem vf_callTy {r : List V → Hp → VK → Prop} {f : NN} (hc : CallR X (.type T) r) (hs : SimCF K r f) (hm : X.mg x = none) (ha : VA K X (e :: es) tl L) (hg : Gl X x := by rfl) (hv : bootBuiltins x = some (.type T) := by decide +kernel) (hn : x ≠ "__name__" := by decide) (hdb : (x == ("__debug__" : Str)) = false := by decide)
    (he : starEach (e :: es) X.env = (false, eval e X.env) :: starEach es X.env := by rfl) (hpl : (backTo pos (starEach es X.env)).any (·.1) = false := by rfl) : VF K X (.Call (.Name x p) (e :: es) [] pos) (tCB r tl) (fCB f L) :=
  ⟨pe_callTy hc hg hm hv ha.pa hn hdb he hpl, sim_cbF hs ha.sim⟩
theorem den1 {H0 : Hp} {av : Av} {ad : Ads} {H : Hp} {vs : List V} {d : D} (x : DenAll K H0 av ad H vs [d]) : ∃ v, vs = [v] ∧ Den K H0 av ad H v d := by
  cases x with
  | cons a b => cases b; exact ⟨_, rfl, a⟩
theorem den2 {H0 : Hp} {av : Av} {ad : Ads} {H : Hp} {vs : List V} {d d' : D} (x : DenAll K H0 av ad H vs [d, d']) : ∃ v v', vs = [v, v'] ∧ Den K H0 av ad H v d ∧ Den K H0 av ad H v' d' := by
  cases x with
  | cons a b => obtain ⟨v, rfl, r⟩ := den1 b; exact ⟨_, v, rfl, a, r⟩
def oLen : ON := fun C ds Q => ∃ d xs, ds = [d] ∧ seqOf C d = some xs ∧ Q (.int xs.length)
theorem sc_len : SimC K (fun xs H Q => ∃ p ys, xs = [.ref p] ∧ (SqL K H p ys ∨ SqT K H p ys) ∧ Q (.int ys.length) H) oLen := by
  intro H0 A0 av ad Γ C σ H vs ds Q3 Q R d1 ⟨d, xs, e1, e2, q3⟩ q
  subst e1
  obtain ⟨v, rfl, r⟩ := den1 d1
  obtain ⟨p, us, rfl, h1, r1⟩ := R.seq r e2
  exact ⟨p, us, rfl, h1, q _ H _ (fun _ _ h => h) .int (by rw [r1.length]; exact q3)⟩
def oLenS : ON := fun _ ds Q => ∃ z, ds = [.str z] ∧ z.length ≤ sizeLine ∧ Q (.int z.length)
theorem sc_lenS : SimC K (fun xs H Q => ∃ z, xs = [.str z] ∧ z.length ≤ sizeLine ∧ Q (.int z.length) H) oLenS := by
  intro H0 A0 av ad Γ C σ H vs ds Q3 Q R d1 ⟨z, e1, e2, q3⟩ q
  subst e1
  obtain ⟨v, rfl, r⟩ := den1 d1
  exact ⟨z, by rw [den_str r], e2, q _ H _ (fun _ _ h => h) .int q3⟩
def oLenA : ON := fun C ds Q => match ds with
  | [.str z] => z.length ≤ sizeLine ∧ Q (.int z.length)
  | _ => oLen C ds Q
def rLenSq (K : PySem.W.Frag) : List V → Hp → VK → Prop := fun xs H Q => ∃ p ys, xs = [.ref p] ∧ (SqL K H p ys ∨ SqT K H p ys) ∧ Q (.int ys.length) H
def rLenSt : List V → Hp → VK → Prop := fun xs H Q => ∃ z, xs = [.str z] ∧ z.length ≤ sizeLine ∧ Q (.int z.length) H
theorem sc_lenA : SimC K (fun xs H Q => rLenSq K xs H Q ∨ rLenSt xs H Q) oLenA := by
  intro H0 A0 av ad Γ C σ H vs ds Q3 Q R d1 h q
  unfold oLenA at h
  split at h
  · exact .inr (sc_lenS H0 A0 av ad Γ C σ H vs _ Q3 Q R d1 ⟨_, rfl, h.1, h.2⟩ q)
  · exact .inl (sc_len H0 A0 av ad Γ C σ H vs ds Q3 Q R d1 h q)
theorem call_lenAA (hK : X.K = K) : CallR X (.builtin "len") (fun xs H Q => rLenSq K xs H Q ∨ rLenSt xs H Q) := by
  subst hK
  exact CallR.or (r := rLenSq X.K) (r' := rLenSt) call_len_seq call_len_str
def oMax2 : ON := fun _ ds Q => ∃ i j, ds = [.int i, .int j] ∧ Q (.int (max i j))
def oMin2 : ON := fun _ ds Q => ∃ i j, ds = [.int i, .int j] ∧ Q (.int (min i j))
theorem sc_max2 : SimC K (fun xs H Q => ∃ i j, xs = [.int i, .int j] ∧ Q (.int (if j > i then j else i)) H) oMax2 := by
  intro H0 A0 av ad Γ C σ H vs ds Q3 Q R d1 ⟨i, j, e1, q3⟩ q
  subst e1
  obtain ⟨v, u, rfl, r1, r2⟩ := den2 d1
  refine ⟨i, j, by rw [den_int r1, den_int r2], ?_⟩
  have e : (if j > i then j else i) = max i j := by split <;> omega
  rw [e]
  exact q _ H _ (fun _ _ h => h) .int q3
theorem sc_min2 : SimC K (fun xs H Q => ∃ i j, xs = [.int i, .int j] ∧ Q (.int (if j < i then j else i)) H) oMin2 := by
  intro H0 A0 av ad Γ C σ H vs ds Q3 Q R d1 ⟨i, j, e1, q3⟩ q
  subst e1
  obtain ⟨v, u, rfl, r1, r2⟩ := den2 d1
  refine ⟨i, j, by rw [den_int r1, den_int r2], ?_⟩
  have e : (if j < i then j else i) = min i j := by split <;> omega
  rw [e]
  exact q _ H _ (fun _ _ h => h) .int q3
def oInt : ON := fun _ ds Q => match ds with
  | [.int i] => Q (.int i)
  | [.bl k] => Q (.int (if k then 1 else 0))
  | _ => False
theorem sc_int : SimC K (fun xs H Q => (∃ i, xs = [.int i] ∧ Q (.int i) H) ∨ ∃ k, xs = [.bl k] ∧ Q (.int (if k then 1 else 0)) H) oInt := by
  intro H0 A0 av ad Γ C σ H vs ds Q3 Q R d1 h q
  unfold oInt at h
  split at h
  · obtain ⟨v, rfl, r⟩ := den1 d1
    exact .inl ⟨_, by rw [den_int r], q _ H _ (fun _ _ h => h) .int h⟩
  · obtain ⟨v, rfl, r⟩ := den1 d1
    exact .inr ⟨_, by rw [den_bl r], q _ H _ (fun _ _ h => h) .int h⟩
  · exact h.elim
def oStrI : ON := fun _ ds Q => ∃ i, ds = [.int i] ∧ i.natAbs.log2 < 1920 ∧ Q (.str (toString i))
theorem sc_strI : SimC K (fun xs H Q => ∃ i, xs = [.int i] ∧ i.natAbs.log2 < 1920 ∧ Q (.str (toString i)) H) oStrI := by
  intro H0 A0 av ad Γ C σ H vs ds Q3 Q R d1 ⟨z, e1, e2, q3⟩ q
  subst e1
  obtain ⟨v, rfl, r⟩ := den1 d1
  exact ⟨z, by rw [den_int r], e2, q _ H _ (fun _ _ h => h) .str q3⟩
def oIntS : ON := fun _ ds Q => ∃ a n, ds = [.str a] ∧ PySem.intText? a = some n ∧ a.length ≤ 640 ∧ Q (.int n)
theorem sc_intS : SimC K (fun xs H Q => ∃ a n, xs = [.str a] ∧ PySem.intText? a = some n ∧ a.length ≤ 640 ∧ Q (.int n) H) oIntS := by
  intro H0 A0 av ad Γ C σ H vs ds Q3 Q R d1 ⟨z, n, e1, e2, e3, q3⟩ q
  subst e1
  obtain ⟨v, rfl, r⟩ := den1 d1
  exact ⟨z, n, by rw [den_str r], e2, e3, q _ H _ (fun _ _ h => h) .int q3⟩
def oMinL : ON := fun C ds Q => ∃ (d : D) (ns : List Int), ds = [d] ∧ lstOf C d = some (ns.map .int) ∧ 0 < ns.length ∧ ∀ m, m ∈ ns → (∀ y, y ∈ ns → m ≤ y) → Q (.int m)
theorem sc_minL : SimC K (rMin K) oMinL := by
  intro H0 A0 av ad Γ C σ H vs ds Q3 Q R d1 ⟨d, ns, e1, e2, h0, q3⟩ q
  subst e1
  obtain ⟨v, rfl, r⟩ := den1 d1
  obtain ⟨p, us, rfl, h1, r1⟩ := R.lst r e2
  rw [den_ints r1] at h1
  exact ⟨p, ns, rfl, .inl h1, h0, fun m a b => q _ H _ (fun _ _ h => h) .int (q3 m a b)⟩
theorem call_minL (hK : X.K = K) (hc : X.calm = true) : CallR X (.builtin "min") (rMin K) := by subst hK; exact cr_min hc
def oAll : ON := fun C ds Q => ∃ (d : D) (bs : List Bool), ds = [d] ∧ lstOf C d = some (bs.map .bl) ∧ Q (.bl (bs.all fun b => b))
theorem sc_all : SimC K (rAll K) oAll := by
  intro H0 A0 av ad Γ C σ H vs ds Q3 Q R d1 ⟨d, ns, e1, e2, q3⟩ q
  subst e1
  obtain ⟨v, rfl, r⟩ := den1 d1
  obtain ⟨p, us, rfl, h1, r1⟩ := R.lst r e2
  rw [den_bls r1] at h1
  exact ⟨p, ns, rfl, .inl h1, q _ H _ (fun _ _ h => h) .bl q3⟩
theorem call_all (hK : X.K = K) (hc : X.calm = true) : CallR X (.builtin "all") (rAll K) := by subst hK; exact cr_all hc
def oNone : Slots → Store → (Option Int → Store → Prop) → Prop := fun _ C Q => Q none C
def oSome (E : EV) : Slots → Store → (Option Int → Store → Prop) → Prop := fun Γ C Q => E Γ C fun d C1 => ∃ i, d = .int i ∧ Q (some i) C1
abbrev OV := Slots → Store → (Option Int → Store → Prop) → Prop
def SimO (K : PySem.W.Frag) (t : TO) (E : OV) : Prop := ∀ (H0 : Hp) (A0 : List Addr) (av : Av) (ad : Ads) (Γ : Slots) (C : Store) (σ : L2.St) (H : Hp) (Q3 : Option Int → Store → Prop) (Q : Option Int → Hp → Prop), Rep K H0 A0 av ad Γ C σ H → E Γ C Q3 →
  (∀ (b : Option Int) (H' : Hp) (av' : Av) (ad' : Ads) (C' : Store), Rep K H0 A0 av' ad' Γ C' σ H' → Le av ad H av' ad' H' → Q3 b C' → Q b H') → t σ H Q
structure VO (K : PySem.W.Frag) (X : Cx) (e : Option Expr) (t : TO) (E : OV) : Prop where
  po : PO X e t
  sim : SimO K t E
theorem vo_none : VO K X none tNoPart oNone := ⟨po_none, fun H0 A0 av ad Γ C σ H Q3 Q R h q => q none H av ad C R Le.refl h⟩
theorem vo_some (h : VE K X e te E) : VO K X (some e) (tPart te) (oSome E) := ⟨po_some h.pe, fun H0 A0 av ad Γ C σ H Q3 Q R h3 q =>
  h.sim H0 A0 av ad Γ C σ H _ _ R h3 fun v H' av' ad' d C' R' l d1 ⟨i, e, q3⟩ => ⟨i, den_int (e ▸ d1), q (some i) H' av' ad' C' R' l q3⟩⟩
def cutD (xs : List D) (lo hi : Option Int) : List D := (xs.drop (HT.sIx xs.length 0 lo)).take (HT.sIx xs.length xs.length hi - HT.sIx xs.length 0 lo)
theorem den_cut {H0 : Hp} {av : Av} {ad : Ads} {H : Hp} {vs : List V} {ds : List D} (x : DenAll K H0 av ad H vs ds) (lo hi : Option Int) : DenAll K H0 av ad H (cutV vs lo hi) (cutD ds lo hi) := by
  unfold cutV cutD
  rw [x.length]
  exact (x.drop _).take _
def fSlL (Ea : EV) (Lo Hi : OV) : FV := fun Γ C Q => Ea Γ C fun x C1 => Lo Γ C1 fun l C2 => Hi Γ C2 fun u C3 => ∃ xs, lstOf C3 x = some xs ∧ Q (.lst (cutD xs l u)) C3
theorem vf_slL {lo hi : Option Expr} {p2 : Pos} {tlo thi : TO} {Lo Hi : OV} (hK : X.K = K) (h : VE K X a ta Ea) (hl : VO K X lo tlo Lo) (hh : VO K X hi thi Hi) : VF K X (.Subscript a (.Slice lo hi none p2) pos) (tSl (rSlL K) ta tlo thi) (fSlL Ea Lo Hi) := by
  subst hK
  refine ⟨pe_slice sl_list h.pe hl.po hh.po, fun H0 A0 av ad Γ C σ H Q3 Q R h3 q => ?_⟩
  refine h.sim H0 A0 av ad Γ C σ H _ _ R h3 fun v H1 av1 ad1 d C1 R1 l1 d1 h4 => ?_
  refine hl.sim H0 A0 av1 ad1 Γ C1 σ H1 _ _ R1 h4 fun l H2 av2 ad2 C2 R2 l2 h5 => ?_
  refine hh.sim H0 A0 av2 ad2 Γ C2 σ H2 _ _ R2 h5 fun u H3 av3 ad3 C3 R3 l3 ⟨xs, e, q3⟩ => ?_
  obtain ⟨a, vs, rfl, hs, rs⟩ := R3.lst ((d1.le l2).le l3) e
  exact ⟨a, vs, rfl, .inl hs, fun p np => fin_new R3 ((l1.trans l2).trans l3) (fun _ _ h => h) np noTup_lst (c := .lst _) (den_cut rs l u) q3 q⟩
end
end L3
namespace L3
open PySem PySem.Spec PyProof.Rows L2
structure XD where
  nm : Str
  fs : List (Str × D) := []
def DenX (K : PySem.W.Frag) (H0 : Hp) (av : Av) (ad : Ads) (H : Hp) (cls : Value) (d : Option Addr) (x : XD) : Prop :=
  cls = .ref (He.ga K x.nm) ∧ ((x.fs = [] ∧ d = none) ∨ ∃ (dd : Addr) (vs : List (Str × V)), d = some dd ∧ H0 dd = none ∧ H dd = some (.xd vs) ∧ ¬ av dd ∧ vs.map (·.1) = x.fs.map (·.1) ∧ DenAll K H0 av ad H (vs.map (·.2)) (x.fs.map (·.2)))
structure En where
  nx : Slots → Store → Prop
  rt : D → Store → Prop
  bk : Slots → Store → Prop := fun _ _ => False
  ct : Slots → Store → Prop := fun _ _ => False
  ex : XD → Slots → Store → Prop := fun _ _ _ => False
  W : Value → Option Addr → L2.St → Hp → Prop := fun _ _ _ _ => False
abbrev SV := En → Slots → Store → Prop
abbrev GV := D → Slots → Store → (Slots → Store → Prop) → Prop
abbrev GVs := List D → Slots → Store → (Slots → Store → Prop) → Prop
structure Lift (K : PySem.W.Frag) (H0 : Hp) (A0 : List Addr) (av : Av) (ad : Ads) (H : Hp) (D3 : En) (De : L2.Ends) : Prop where
  nx : ∀ (av' : Av) (ad' : Ads) (Γ' : Slots) (C' : Store) (σ' : L2.St) (H' : Hp), Rep K H0 A0 av' ad' Γ' C' σ' H' → Le av ad H av' ad' H' → D3.nx Γ' C' → De.nx σ' H'
  rt : ∀ (av' : Av) (ad' : Ads) (Γ' : Slots) (C' : Store) (σ' : L2.St) (H' : Hp) (v : V) (d : D), Rep K H0 A0 av' ad' Γ' C' σ' H' → Le av ad H av' ad' H' → Den K H0 av' ad' H' v d → D3.rt d C' → De.rt v H'
  bk : ∀ (av' : Av) (ad' : Ads) (Γ' : Slots) (C' : Store) (σ' : L2.St) (H' : Hp), Rep K H0 A0 av' ad' Γ' C' σ' H' → Le av ad H av' ad' H' → D3.bk Γ' C' → De.bk σ' H'
  ct : ∀ (av' : Av) (ad' : Ads) (Γ' : Slots) (C' : Store) (σ' : L2.St) (H' : Hp), Rep K H0 A0 av' ad' Γ' C' σ' H' → Le av ad H av' ad' H' → D3.ct Γ' C' → De.ct σ' H'
  ex : ∀ (av' : Av) (ad' : Ads) (Γ' : Slots) (C' : Store) (σ' : L2.St) (H' : Hp) (cls : Value) (d : Option Addr) (x : XD), Rep K H0 A0 av' ad' Γ' C' σ' H' → Le av ad H av' ad' H' → DenX K H0 av' ad' H' cls d x → D3.ex x Γ' C' → D3.W cls d σ' H'
theorem Lift.later {K : PySem.W.Frag} {H0 : Hp} {A0 : List Addr} {av av1 : Av} {ad ad1 : Ads} {H H1 : Hp} {D3 : En} {D : L2.Ends} (l : Lift K H0 A0 av ad H D3 D) (f : Le av ad H av1 ad1 H1) : Lift K H0 A0 av1 ad1 H1 D3 D :=
  ⟨fun _ _ _ _ _ _ R g q => l.nx _ _ _ _ _ _ R (f.trans g) q, fun _ _ _ _ _ _ _ _ R g x q => l.rt _ _ _ _ _ _ _ _ R (f.trans g) x q, fun _ _ _ _ _ _ R g q => l.bk _ _ _ _ _ _ R (f.trans g) q, fun _ _ _ _ _ _ R g q => l.ct _ _ _ _ _ _ R (f.trans g) q, fun _ _ _ _ _ _ _ _ _ R g x q => l.ex _ _ _ _ _ _ _ _ _ R (f.trans g) x q⟩
section
variable (K : PySem.W.Frag)
def SimS (t : TS) (T : SV) : Prop := ∀ (H0 : Hp) (A0 : List Addr) (av : Av) (ad : Ads) (Γ : Slots) (C : Store) (σ : L2.St) (H : Hp) (D3 : En) (D : L2.Ends), Rep K H0 A0 av ad Γ C σ H → T D3 Γ C → Lift K H0 A0 av ad H D3 D → t D σ H
def SimG (g : TG) (G : GV) : Prop := ∀ (H0 : Hp) (A0 : List Addr) (av : Av) (ad : Ads) (Γ : Slots) (C : Store) (σ : L2.St) (H : Hp) (v : V) (d : D) (Q3 : Slots → Store → Prop) (Q : L2.St → Hp → Prop), Rep K H0 A0 av ad Γ C σ H → Den K H0 av ad H v d → G d Γ C Q3 →
  (∀ (av' : Av) (ad' : Ads) (Γ' : Slots) (C' : Store) (σ' : L2.St) (H' : Hp), Rep K H0 A0 av' ad' Γ' C' σ' H' → Le av ad H av' ad' H' → Q3 Γ' C' → Q σ' H') → g v σ H Q
def SimGs (g : TGs) (G : GVs) : Prop := ∀ (H0 : Hp) (A0 : List Addr) (av : Av) (ad : Ads) (Γ : Slots) (C : Store) (σ : L2.St) (H : Hp) (v : List V) (d : List D) (Q3 : Slots → Store → Prop) (Q : L2.St → Hp → Prop), Rep K H0 A0 av ad Γ C σ H → DenAll K H0 av ad H v d → G d Γ C Q3 →
  (∀ (av' : Av) (ad' : Ads) (Γ' : Slots) (C' : Store) (σ' : L2.St) (H' : Hp), Rep K H0 A0 av' ad' Γ' C' σ' H' → Le av ad H av' ad' H' → Q3 Γ' C' → Q σ' H') → g v σ H Q
structure VS (X : Cx) (st : Stmt) (t : TS) (T : SV) : Prop where
  ps : PS X st t
  sim : SimS K t T
structure VSs (X : Cx) (st : List Stmt) (t : TS) (T : SV) : Prop where
  ps : PSs X st t
  sim : SimS K t T
structure VG (X : Cx) (tg : Expr) (g : TG) (G : GV) : Prop where
  pg : PG X tg g
  sim : SimG K g G
structure VGs (X : Cx) (tg : List Expr) (g : TGs) (G : GVs) : Prop where
  pg : PGs X tg g
  sim : SimGs K g G
end
section
variable {K : PySem.W.Frag} {X : Cx} {e a b c o tg : Expr} {es rest : List Expr} {st : Stmt} {sts body orelse : List Stmt} {t ta tb tc te to : TE} {tt tu tA : TT} {ts us : TS} {T U : SV} {g : TG} {G : GV} {gs : TGs} {Gs : GVs} {E Ea Eb Ec Eo : EV} {F : FV} {B B' : BV} {tl : TA} {L : AV} {pos p apos : Pos} {x : Str} {id Ty : String}
def sNext : SV := fun D Γ C => D.nx Γ C
def sSeq (T U : SV) : SV := fun D Γ C => T { D with nx := U D } Γ C
theorem vss_nil : VSs K X [] tNext sNext := ⟨pss_nil, fun H0 A0 av ad Γ C σ H D3 D R h l => l.nx av ad Γ C σ H R Le.refl h⟩
theorem vss_cons (h : VS K X st ts T) (h' : VSs K X sts us U) : VSs K X (st :: sts) (tSeq ts us) (sSeq T U) := ⟨pss_cons h.ps h'.ps, fun H0 A0 av ad Γ C σ H D3 D R q l =>
  h.sim H0 A0 av ad Γ C σ H { D3 with nx := U D3 } { D with nx := us D } R q ⟨fun av' ad' Γ' C' σ' H' R' f q' => h'.sim H0 A0 av' ad' Γ' C' σ' H' D3 D R' q' (l.later f), l.rt, l.bk, l.ct, l.ex⟩⟩
theorem vss_one (h : VS K X st ts T) : VSs K X [st] ts T := ⟨pss_one h.ps, h.sim⟩
def sNever : SV := fun _ _ _ => False
theorem vs_never : VS K X st tNever sNever := ⟨ps_never, fun _ _ _ _ _ _ _ _ _ _ _ h _ => h.elim⟩
def sDrop (E : EV) : SV := fun D Γ C => E Γ C fun _ C' => D.nx Γ C'
theorem vs_expr (h : VE K X e te E) (hs : swapsWith e none pos.line X.env = pure false := by rfl) : VS K X (.Expr e pos) (tDrop te) (sDrop E) := ⟨ps_expr h.pe hs, fun H0 A0 av ad Γ C σ H D3 D R q l =>
  h.sim H0 A0 av ad Γ C σ H _ _ R q fun v H' av' ad' d C' R' l' _ q' => l.nx av' ad' Γ C' σ H' R' l' q'⟩
def sRet (E : EV) : SV := fun D Γ C => E Γ C D.rt
theorem vs_ret (h : VE K X e te E) : VS K X (.Return (some e) pos) (tRet te) (sRet E) := ⟨ps_ret h.pe, fun H0 A0 av ad Γ C σ H D3 D R q l =>
  h.sim H0 A0 av ad Γ C σ H _ _ R q fun v H' av' ad' d C' R' l' dv q' => l.rt av' ad' Γ C' σ H' v d R' l' dv q'⟩
def sIf (B : BV) (T U : SV) : SV := fun D Γ C => B Γ C fun k C' => if k = true then T D Γ C' else U D Γ C'
theorem vs_if (hc : VT K X c tA B) (h : VSs K X body ts T) (h' : VSs K X orelse us U) : VS K X (.If c body orelse pos) (tIfS tA ts us) (sIf B T U) := ⟨ps_if hc.pt h.ps h'.ps, fun H0 A0 av ad Γ C σ H D3 D R q l =>
  hc.sim H0 A0 av ad Γ C σ H _ _ R q fun k H' av' ad' C' R' l' q' => by
    cases k with
    | true => exact h.sim H0 A0 av' ad' Γ C' σ H' D3 D R' q' (l.later l')
    | false => exact h'.sim H0 A0 av' ad' Γ C' σ H' D3 D R' q' (l.later l')⟩
def gvName (i : Nat) : GV := fun d Γ C Q => Q (Γ.set i (some d)) C
theorem vg_name (i : Nat) {x : Str} {pos : Pos} (hN : X.N.Nodup) (hi : X.N[i]? = some x := by rfl) (hx : Loc X.env.scope x := by first | exact Or.inl rfl | exact Or.inr rfl) (hf : X.fn x = true ∨ X.env.scope.names.lookup x = some .local := by first | exact .inl rfl | exact .inr rfl) : VG K X (.Name x pos) (gName i) (gvName i) :=
  ⟨pg_name hN hi hx hf, fun H0 A0 av ad Γ C σ H v d Q3 Q R dv h q => q av ad _ C _ H (R.store i dv) Le.refl h⟩
def gvNil : GVs := fun ds Γ C Q => ds = [] ∧ Q Γ C
def gvCons (G : GV) (Gs : GVs) : GVs := fun ds Γ C Q => ∃ d r, ds = d :: r ∧ G d Γ C fun Γ' C' => Gs r Γ' C' Q
theorem vgs_nil : VGs K X [] gNil gvNil := ⟨pgs_nil, fun H0 A0 av ad Γ C σ H v d Q3 Q R dv ⟨e, h⟩ q => by
  subst e
  cases dv
  exact ⟨rfl, q av ad Γ C σ H R Le.refl h⟩⟩
theorem vgs_cons (h : VG K X e g G) (h' : VGs K X es gs Gs) (hs : (assignEach (e :: es) X.env).map (·.2) = assign e X.env :: (assignEach es X.env).map (·.2) := by rfl) : VGs K X (e :: es) (gCons g gs) (gvCons G Gs) := ⟨pgs_cons h.pg h'.pg hs, fun H0 A0 av ad Γ C σ H v d Q3 Q R dv ⟨d1, r, e1, h3⟩ q => by
  subst e1
  cases dv with
  | cons r1 r2 =>
    refine ⟨_, _, rfl, h.sim H0 A0 av ad Γ C σ H _ d1 _ _ R r1 h3 fun av' ad' Γ' C' σ' H' R' l q3 => ?_⟩
    exact h'.sim H0 A0 av' ad' Γ' C' σ' H' _ r _ _ R' (r2.le l) q3 fun av2 ad2 Γ2 C2 σ2 H2 R2 l2 q4 => q av2 ad2 Γ2 C2 σ2 H2 R2 (l.trans l2) q4⟩
def gvTup (n : Nat) (Gs : GVs) : GV := fun d Γ C Q => ∃ ds, d = .tup ds ∧ ds.length = n ∧ Gs ds Γ C Q
theorem vg_tup {k n : Nat} (hK : X.K = K) (hc : X.calm = true) (h : VGs K X es gs Gs) (hn : (assignEach es X.env).length = n := by rfl) (hst : (assignEach es X.env).findIdx? (·.1) = none := by rfl) : VG K X (.Tuple es k pos) (gTup K n gs) (gvTup n Gs) := by
  subst hK
  refine ⟨pg_tup hc h.pg hn hst, fun H0 A0 av ad Γ C σ H v d Q3 Q R dv ⟨ds, e, hl, h3⟩ q => ?_⟩
  subst e
  obtain ⟨p, vs, rfl, hs, r⟩ := R.tup dv
  exact ⟨p, vs, rfl, hs, r.length.trans hl, h.sim H0 A0 av ad Γ C σ H vs ds Q3 Q R r h3 q⟩
def gvSubL (Eo Ei : EV) : GV := fun d Γ C Q => Eo Γ C fun x C1 => Ei Γ C1 fun y C2 => ∃ (k : Nat) (xs : List D) (i : Int) (j : Nat), x = .ptr k ∧ y = .int i ∧ C2[k]? = some (.lst xs) ∧ ixN xs.length i = some j ∧ Q Γ (C2.set k (.lst (xs.set j d)))
theorem Rep.lstCell {H0 : Hp} {A0 : List Addr} {av : Av} {ad : Ads} {Γ : Slots} {C : Store} {σ : L2.St} {H : Hp} (R : Rep K H0 A0 av ad Γ C σ H) {k : Nat} {v : V} {xs : List D} (x : Den K H0 av ad H v (.ptr k)) (hc : C[k]? = some (.lst xs)) :
    ∃ a vs, v = .ref a ∧ ad[k]? = some (some a) ∧ H a = some (.lst vs) ∧ DenAll K H0 av ad H vs xs := by
  cases x with
  | ptr h =>
    obtain ⟨vs, e, r⟩ := R.cells k _ _ h hc
    exact ⟨_, vs, rfl, h, e, r⟩
theorem Rep.lstWrite {H0 : Hp} {A0 : List Addr} {av : Av} {ad : Ads} {Γ : Slots} {C : Store} {σ : L2.St} {H : Hp} (R : Rep K H0 A0 av ad Γ C σ H) {k : Nat} {a : Addr} {c : Cell} {ys : List D} {us : List V} (ha : ad[k]? = some (some a)) (hc : C[k]? = some c) (r : DenAll K H0 av ad H us ys) :
    Rep K H0 A0 av ad Γ (C.set k (.lst ys)) σ (upd H a (.lst us)) ∧ Le av ad H av ad (upd H a (.lst us)) := by
  have hlt : k < C.length := (List.getElem?_eq_some_iff.mp hc).1
  have f : Fz av H av (upd H a (.lst us)) := fun b u h n => ⟨by rw [upd_ne (fun e => n (by rw [e]; exact R.av_of ha))]; exact h, n⟩
  refine ⟨R.write ha hlt (fun _ z => nomatch z) fun f => ⟨us, upd_same, r.mono f Pre.refl⟩, f, Pre.refl, fun b e => ?_, fun _ h => h, fun _ h => .inl h, fun b u h n => by rw [upd_ne (fun e => n (by rw [e]; exact mem_ads ha))]; exact h⟩
  by_cases q : b = a
  · subst q; rw [upd_same] at e; cases e
  · rw [upd_ne q] at e; exact e
theorem vg_subL (ho : VE K X o to Eo) (hi : VE K X a ta Ea) (ha : ∀ v, assign (.Subscript o a pos) X.env v = (do
      let ov ← holding [v] (eval o X.env)
      let iv ← holding [v, ov] (eval a X.env)
      standAt pos
      holding [v, ov, iv] (setItem ov iv v)
      release [v, ov, iv] []) := by intro _; rfl) : VG K X (.Subscript o a pos) (gSub to ta rSetL) (gvSubL Eo Ea) := by
  refine ⟨pg_sub ho.pe hi.pe set_list ha, fun H0 A0 av ad Γ C σ H v d Q3 Q R dv h q => ?_⟩
  refine ho.sim H0 A0 av ad Γ C σ H _ _ R h fun vo H1 av1 ad1 d1 C1 R1 l1 e1 h1 => ?_
  refine hi.sim H0 A0 av1 ad1 Γ C1 σ H1 _ _ R1 h1 fun vi H2 av2 ad2 d2 C2 R2 l2 e2 ⟨k, xs, i, j, e3, e4, e5, e6, h2⟩ => ?_
  subst e3 e4
  obtain ⟨p, vs, rfl, hp, hl, r⟩ := R2.lstCell (e1.le l2) e5
  obtain ⟨R3, l3⟩ := R2.lstWrite hp e5 (r.set ((dv.le l1).le l2) j)
  exact ⟨p, vs, i, j, rfl, den_int e2, hl, by rw [r.length]; exact e6, q av2 ad2 Γ _ σ _ R3 ((l1.trans l2).trans l3) h2⟩
def sAsg (E : EV) (G : GV) : SV := fun D Γ C => E Γ C fun d C1 => G d Γ C1 D.nx
theorem sim_asg (h : SimE K te E) (h' : SimG K g G) : SimS K (tAsg te g) (sAsg E G) := fun H0 A0 av ad Γ C σ H D3 D R q l =>
  h H0 A0 av ad Γ C σ H _ _ R q fun v H' av' ad' d C' R' l' dv q' =>
    h' H0 A0 av' ad' Γ C' σ H' v d _ _ R' dv q' fun av2 ad2 Γ2 C2 σ2 H2 R2 l2 q2 => l.nx av2 ad2 Γ2 C2 σ2 H2 R2 (l'.trans l2) q2
theorem vs_asg (h : VE K X e te E) (hg : VG K X tg g G) (hs : swapsWithSole [tg] e pos.line X.env = pure false := by rfl) (hw : swappedStores [tg] e X.env = pure none := by rfl)
    (h1 : (assignEach [tg] X.env).map (·.2) = [assign tg X.env] := by rfl) : VS K X (.Assign [tg] e pos) (tAsg te g) (sAsg E G) := ⟨ps_asg h.pe hg.pg hs hw h1, sim_asg h.sim hg.sim⟩
theorem vs_set (i : Nat) {pos' : Pos} (hN : X.N.Nodup) (h : VE K X e te E) (hi : X.N[i]? = some x := by rfl) (hx : Loc X.env.scope x := by first | exact Or.inl rfl | exact Or.inr rfl) (hs : swapsWith e (some (.Name x pos')) pos.line X.env = pure false := by rfl) (hf : X.fn x = true ∨ X.env.scope.names.lookup x = some .local := by first | exact .inl rfl | exact .inr rfl) :
    VS K X (.Assign [.Name x pos'] e pos) (tAsg te (gName i)) (sAsg E (gvName i)) := ⟨ps_set hN hi hx h.pe hs hf, sim_asg h.sim fun H0 A0 av ad Γ C σ H v d Q3 Q R dv h q => q av ad _ C _ H (R.store i dv) Le.refl h⟩
def sPar (i j : Nat) (L : AV) : SV := fun D Γ C => L Γ C fun ds C1 => ∃ d d', ds = [d, d'] ∧ D.nx ((Γ.set i (some d)).set j (some d')) C1
theorem sr_ipI {f : Int → Int → Int} : SimR K (ipI f) (oI fun i j => .int (f i j)) := by
  intro H0 A0 av ad Γ C σ H x y dx dy Q3 Q R d1 d2 ⟨i, j, e1, e2, q3⟩ q
  subst e1 e2
  exact ⟨i, j, den_int d1, den_int d2, q _ H _ (fun _ _ h => h) .int q3⟩
def sWhile (B : BV) (T : SV) : SV := fun D Γ C => ∃ W : Nat → Slots → Store → Prop, (∃ m, W m Γ C) ∧ ∀ m Γ C, W m Γ C → B Γ C fun k C1 => if k = true then T { D with nx := fun Γ' C' => ∃ m', m' < m ∧ W m' Γ' C', ct := fun Γ' C' => ∃ m', m' < m ∧ W m' Γ' C', bk := D.nx } Γ C1 else D.nx Γ C1
theorem vs_while (hp : PassesOwn (model X.prog X.w) X.A X.env X.xe) (hc : VT K X c tA B) (h : VSs K X body ts T) : VS K X (.While c body [] pos) (tWhile tA ts) (sWhile B T) := ⟨ps_while hp hc.pt h.ps, fun H0 A0 av ad Γ C σ H D3 D R ⟨W, ⟨m0, w0⟩, turn⟩ l => by
  refine ⟨fun m σ' H' => ∃ av' ad' Γ' C', Rep K H0 A0 av' ad' Γ' C' σ' H' ∧ Le av ad H av' ad' H' ∧ W m Γ' C', ⟨m0, av, ad, Γ, C, R, Le.refl, w0⟩, ?_⟩
  rintro m σ1 H1 ⟨av1, ad1, Γ1, C1, R1, f1, w1⟩
  refine hc.sim H0 A0 av1 ad1 Γ1 C1 σ1 H1 _ _ R1 (turn m Γ1 C1 w1) fun k H2 av2 ad2 C2 R2 l2 q2 => ?_
  cases k with
  | false => exact l.nx av2 ad2 Γ1 C2 σ1 H2 R2 (f1.trans l2) q2
  | true =>
    rw [if_pos rfl]
    refine ⟨fun σ' H' => ∃ av' ad' Γ' C', Rep K H0 A0 av' ad' Γ' C' σ' H' ∧ Le av ad H av' ad' H' ∧ ∃ m', m' < m ∧ W m' Γ' C', fun σ' H' ⟨av', ad', Γ', C', R', f', m', hm, w'⟩ => ⟨m', hm, av', ad', Γ', C', R', f', w'⟩, ?_⟩
    have f2 := f1.trans l2
    exact h.sim H0 A0 av2 ad2 Γ1 C2 σ1 H2 _ _ R2 q2 ⟨fun av' ad' Γ' C' σ' H' R' f' q' => ⟨av', ad', Γ', C', R', f2.trans f', q'⟩, fun _ _ _ _ _ _ _ _ R' f' x q' => l.rt _ _ _ _ _ _ _ _ R' (f2.trans f') x q',
      fun av' ad' Γ' C' σ' H' R' f' q' => l.nx av' ad' Γ' C' σ' H' R' (f2.trans f') q', fun av' ad' Γ' C' σ' H' R' f' q' => ⟨av', ad', Γ', C', R', f2.trans f', q'⟩, fun _ _ _ _ _ _ _ _ _ R' f' x q' => l.ex _ _ _ _ _ _ _ _ _ R' (f2.trans f') x q'⟩⟩
end
end L3
namespace L3
open PySem PySem.Spec PyProof.Rows L2
mutual
def noptr : D → Bool
  | .lst _ xs => noptrs xs
  | .tup xs => noptrs xs
  | .dk _ _ xs => noptrs xs
  | .dt _ _ xs => noptrs xs
  | .obj _ _ xs => noptrs xs
  | .exc _ _ xs => noptrs xs
  | .ptr _ => false
  | _ => true
def noptrs : List D → Bool
  | [] => true
  | x :: xs => noptr x && noptrs xs
end
section
variable {K : PySem.W.Frag} {H0 : Hp} {av av' : Av} {ad ad' : Ads} {H H' : Hp}
mutual
theorem Den.np (f : Fz av H av' H') : ∀ {v : V} {d : D}, Den K H0 av ad H v d → noptr d = true → Den K H0 av' ad' H' v d
  | _, _, .bad, _ => .bad
  | _, _, .non, _ => .non
  | _, _, .bl, _ => .bl
  | _, _, .int, _ => .int
  | _, _, .str, _ => .str
  | _, _, .lst r o x, h => .lst (f.lst r) (fun z => ⟨(o z).1, (f _ _ (o z).2 r.2).1⟩) (DenAll.np f x (by simpa [noptr] using h))
  | _, _, .tup r x, h => .tup (f.tup r) (DenAll.np f x (by simpa [noptr] using h))
  | _, _, .dk r n o k x, h => .dk (f.rd r n).1 (f.rd r n).2 o k (DenAll.np f x (by simpa [noptr] using h))
  | _, _, .dt r n o k x, h => .dt (f.rd r n).1 (f.rd r n).2 o k (DenAll.np f x (by simpa [noptr] using h))
  | _, _, .obj r n k x, h => .obj (f _ _ r n).1 (f _ _ r n).2 k (DenAll.np f x (by simpa [noptr] using h))
  | _, _, .exc r n q k x, h => .exc (f _ _ r n).1 (f _ _ r n).2 (f.exd q) k (DenAll.np f x (by simpa [noptr] using h))
  | _, _, .ptr _, h => by simp [noptr] at h
theorem DenAll.np (f : Fz av H av' H') : ∀ {vs : List V} {ds : List D}, DenAll K H0 av ad H vs ds → noptrs ds = true → DenAll K H0 av' ad' H' vs ds
  | _, _, .nil, _ => .nil
  | _, _, .cons a b, h => by
    simp only [noptrs, Bool.and_eq_true] at h
    exact .cons (Den.np f a h.1) (DenAll.np f b h.2)
end
end
theorem noptrs_map {α : Type} {f : α → D} (l : List α) (h : ∀ x ∈ l, noptr (f x) = true) : noptrs (l.map f) = true := by
  induction l with
  | nil => rfl
  | cons x l ih => rw [List.map_cons]; simp only [noptrs, Bool.and_eq_true]; exact ⟨h x (List.mem_cons_self ..), ih fun y hy => h y (List.mem_cons_of_mem _ hy)⟩
def Keeps (av0 : Av) (ad0 : Ads) (C0 : Store) (H0 : Hp) (src : List Nat) (ds : List D) (av : Av) (ad : Ads) (C : Store) (H : Hp) : Prop :=
  Fz av0 H0 av H ∧ (noptrs ds = true ∨ Pre ad0 ad) ∧ ∀ k, k ∈ src → ad[k]? = ad0[k]? ∧ C[k]? = C0[k]?
def Yields (K : PySem.W.Frag) (H0 : Hp) (A0 : List Addr) (J : It) (St : Av → Ads → Store → Hp → Prop) (ds : List D) : Prop :=
  ∀ (av : Av) (ad : Ads) (Γ : Slots) (C : Store) (σ : L2.St) (H : Hp) (i : Nat), Rep K H0 A0 av ad Γ C σ H → St av ad C H →
    (i < ds.length → J.go i H ∧ ∀ x H', J.yld i H x H' → (∀ a o, H a = some o → H' a = some o) ∧ ∃ d, ds[i]? = some d ∧ Den K H0 av ad H' x d) ∧ (ds.length ≤ i → J.stop i H)
abbrev IV := Slots → Store → (List D → List Nat → Store → Prop) → Prop
def SimI (K : PySem.W.Frag) (wi : TI) (E : IV) : Prop := ∀ (H0 : Hp) (A0 : List Addr) (av : Av) (ad : Ads) (Γ : Slots) (C : Store) (σ : L2.St) (H : Hp) (Q3 : List D → List Nat → Store → Prop) (R : It → Hp → Prop), Rep K H0 A0 av ad Γ C σ H → E Γ C Q3 →
  (∀ (J : It) (H' : Hp) (av' : Av) (ad' : Ads) (C' : Store) (ds : List D) (src : List Nat), Rep K H0 A0 av' ad' Γ C' σ H' → Le av ad H av' ad' H' → Yields K H0 A0 J (Keeps av' ad' C' H' src ds) ds → Q3 ds src C' → R J H') → wi σ H R
structure VI (K : PySem.W.Frag) (X : Cx) (tg iter : Expr) (wi : TI) (E : IV) : Prop where
  pi : PI X tg iter wi
  sim : SimI K wi E
def srcOf : D → List Nat
  | .ptr k => [k]
  | _ => []
section
variable {K : PySem.W.Frag} {X : Cx} {e a b c o tg l : Expr} {es rest elts : List Expr} {st : Stmt} {sts body orelse : List Stmt} {t ta tb tc te to tle : TE} {tt tu tA : TT} {ts us : TS} {T U : SV} {g : TG} {G : GV} {E Ea Eb Ec Eo : EV} {F : FV} {B B' : BV} {tl : TA} {L : AV} {pos p apos tpos : Pos} {x : Str} {wi : TI} {I : IV} {kk : Nat}
theorem lst_later {H0 : Hp} {A0 : List Addr} {av : Av} {ad : Ads} {Γ : Slots} {C : Store} {σ : L2.St} {H : Hp} {d : D} {v : V} {xs ds : List D} {src : List Nat} (R : Rep K H0 A0 av ad Γ C σ H) (x : Den K H0 av ad H v d) (e : lstOf C d = some xs) (hsrc : ∀ k, k ∈ srcOf d → k ∈ src)
    (hds : noptrs ds = true → noptrs xs = true) :
    ∃ a, v = .ref a ∧ (∃ vs, SqL K H a vs) ∧ ∀ (av' : Av) (ad' : Ads) (Γ' : Slots) (C' : Store) (σ' : L2.St) (H' : Hp), Rep K H0 A0 av' ad' Γ' C' σ' H' → Keeps av ad C H src ds av' ad' C' H' → ∃ vs, SqL K H' a vs ∧ DenAll K H0 av' ad' H' vs xs := by
  cases x with
  | @lst a vs ob ds' r ho q =>
    simp only [lstOf] at e; cases e
    refine ⟨a, rfl, ⟨vs, r.sq⟩, fun av' ad' Γ' C' σ' H' R' k => ⟨vs, (k.1.lst r).sq, ?_⟩⟩
    rcases k.2.1 with z | z
    · exact q.np k.1 (hds z)
    · exact q.mono k.1 z
  | @ptr a k h =>
    obtain ⟨a', vs, e1, e2, e3⟩ := R.lst (.ptr h) e
    cases e1
    refine ⟨a, rfl, ⟨vs, .inl e2⟩, fun av' ad' Γ' C' σ' H' R' kp => ?_⟩
    obtain ⟨h1, h2⟩ := kp.2.2 k (hsrc k (List.mem_singleton.mpr rfl))
    have e' : lstOf C' (.ptr k) = some xs := by simp only [lstOf] at e ⊢; rw [h2]; exact e
    obtain ⟨a2, us, q1, q2, q3⟩ := R'.lst (v := .ref a) (.ptr (h1.trans h)) e'
    cases q1
    exact ⟨us, .inl q2, q3⟩
  | bad => cases e
  | non => cases e
  | bl => cases e
  | int => cases e
  | str => cases e
  | tup _ _ => cases e
  | dk _ _ _ _ _ => cases e
  | dt _ _ _ _ _ => cases e
  | obj _ _ _ _ => cases e
  | exc _ _ _ _ _ => cases e
def iLst (E : EV) : IV := fun Γ C Q => E Γ C fun d C1 => ∃ xs, lstOf C1 d = some xs ∧ Q xs (srcOf d) C1
theorem vi_list (hK : X.K = K) (h : VE K X l tle E) : VI K X tg l (iList K tle) (iLst E) := by
  subst hK
  refine ⟨pi_list h.pe, fun H0 A0 av ad Γ C σ H Q3 Rr R h3 q => ?_⟩
  refine h.sim H0 A0 av ad Γ C σ H _ _ R h3 fun v H' av' ad' d C' R' l' dv ⟨xs, e, q3⟩ => ?_
  obtain ⟨a, rfl, hs, later⟩ := lst_later (ds := xs) (src := srcOf d) R' dv e (fun _ z => z) (fun z => z)
  refine ⟨a, rfl, hs, q (Itl X.K a) H' av' ad' C' xs (srcOf d) R' l' (fun av1 ad1 Γ1 C1 σ1 H1 i R1 k => ?_) q3⟩
  obtain ⟨vs, s1, r1⟩ := later av1 ad1 Γ1 C1 σ1 H1 R1 k
  refine ⟨fun hi => ⟨⟨vs, vs[i]'(by rw [r1.length]; exact hi), s1, by simp⟩, fun y H2 ⟨e1, e2⟩ => ?_⟩, fun hi => ⟨vs, s1, by rw [r1.length]; exact hi⟩⟩
  subst e1
  obtain ⟨d', e3, r3⟩ := r1.get' (e2 vs s1)
  exact ⟨fun _ _ h => h, d', e3, r3⟩
def iTupl (E : EV) : IV := fun Γ C Q => E Γ C fun d C1 => ∃ xs, d = .tup xs ∧ Q xs [] C1
theorem vi_tup (hK : X.K = K) (h : VE K X l tle E) : VI K X tg l (iTup K tle) (iTupl E) := by
  subst hK
  refine ⟨pi_tup h.pe, fun H0 A0 av ad Γ C σ H Q3 Rr R h3 q => ?_⟩
  refine h.sim H0 A0 av ad Γ C σ H _ _ R h3 fun v H' av' ad' d C' R' l' dv ⟨xs, e, q3⟩ => ?_
  subst e
  cases dv with
  | @tup a vs _ r rs =>
  refine ⟨a, rfl, ⟨vs, r.sq⟩, q (Itt X.K a) H' av' ad' C' xs [] R' l' (fun av1 ad1 Γ1 C1 σ1 H1 i R1 k => ?_) q3⟩
  have s1 : SqT X.K H1 a vs := (k.1.tup r).sq
  have r1 : DenAll X.K H0 av1 ad1 H1 vs xs := by
    rcases k.2.1 with z | z
    · exact rs.np k.1 z
    · exact rs.mono k.1 z
  have inj : ∀ us, SqT X.K H1 a us → (H1 a = some (.tup vs)) → us[i]? = vs[i]? ∨ True := fun _ _ _ => .inr trivial
  refine ⟨fun hi => ⟨⟨vs, vs[i]'(by rw [r1.length]; exact hi), s1, by simp⟩, fun y H2 ⟨e1, e2⟩ => ?_⟩, fun hi => ⟨vs, s1, by rw [r1.length]; exact hi⟩⟩
  subst e1
  obtain ⟨d', e3, r3⟩ := r1.get' (e2 vs s1)
  exact ⟨fun _ _ h => h, d', e3, r3⟩
def rgI (lo : Int) (n : Nat) : List D := (List.range n).map fun i => .int (lo + (i : Nat))
theorem rgI_np {lo : Int} {n : Nat} : noptrs (rgI lo n) = true := noptrs_map _ fun _ _ => rfl
theorem yields_range {H0 : Hp} {A0 : List Addr} {lo : Int} {n : Nat} {St : Av → Ads → Store → Hp → Prop} : Yields K H0 A0 (Itr lo n) St (rgI lo n) := fun av ad Γ C σ H i R _ => by
  have hl : (rgI lo n).length = n := by simp [rgI]
  refine ⟨fun hi => ⟨by rw [hl] at hi; exact hi, fun y H2 ⟨e1, e2⟩ => ?_⟩, fun hi => by rw [hl] at hi; exact hi⟩
  subst e1 e2
  rw [hl] at hi
  exact ⟨fun _ _ h => h, .int (lo + i), by simp [rgI, hi], .int⟩
def iRange1 (L : AV) : IV := fun Γ C Q => L Γ C fun ds C1 => ∃ j : Int, ds = [.int j] ∧ -(2 ^ 62) ≤ j ∧ j < 2 ^ 62 ∧ Q (rgI 0 j.toNat) [] C1
theorem vi_range1 (hm : X.mg "range" = none) (h : VA K X [a] tl L) (hg : Gl X "range" := by rfl) (hs : starEach [a] X.env = [(false, eval a X.env)] := by rfl) : VI K X tg (.Call (.Name "range" p) [a] [] pos) (iRng1 tl) (iRange1 L) :=
  ⟨pi_range1 hg hm h.pa hs, fun H0 A0 av ad Γ C σ H Q3 Rr R h3 q =>
    h.sim H0 A0 av ad Γ C σ H _ _ R h3 fun vs H' av' ad' ds C' R' l' dv ⟨j, e, h1, h2, q3⟩ => by
      subst e
      obtain ⟨v, rfl, r⟩ := den1 dv
      exact ⟨j, by rw [den_int r], h1, h2, q _ H' av' ad' C' _ _ R' l' yields_range q3⟩⟩
def iRange2 (L : AV) : IV := fun Γ C Q => L Γ C fun ds C1 => ∃ i j : Int, ds = [.int i, .int j] ∧ (-(2 ^ 62) ≤ i ∧ i < 2 ^ 62 ∧ -(2 ^ 62) ≤ j ∧ j < 2 ^ 62) ∧ Q (rgI i (j - i).toNat) [] C1
theorem vi_range2 (hm : X.mg "range" = none) (h : VA K X [a, b] tl L) (hg : Gl X "range" := by rfl) (hs : starEach [a, b] X.env = [(false, eval a X.env), (false, eval b X.env)] := by rfl) (hs2 : starEach [b] X.env = [(false, eval b X.env)] := by rfl) :
    VI K X tg (.Call (.Name "range" p) [a, b] [] pos) (iRng2 tl) (iRange2 L) :=
  ⟨pi_range2 hg hm h.pa hs hs2, fun H0 A0 av ad Γ C σ H Q3 Rr R h3 q =>
    h.sim H0 A0 av ad Γ C σ H _ _ R h3 fun vs H' av' ad' ds C' R' l' dv ⟨i, j, e, hb, q3⟩ => by
      subst e
      obtain ⟨v, u, rfl, r, r2⟩ := den2 dv
      exact ⟨i, j, by rw [den_int r, den_int r2], hb, q _ H' av' ad' C' _ _ R' l' yields_range q3⟩⟩
def signs (s : Str) : List D := s.cps.toList.map fun c => .str ⟨#[c]⟩
def iSigns (E : EV) : IV := fun Γ C Q => E Γ C fun d C1 => ∃ s, d = .str s ∧ Q (signs s) [] C1
theorem vi_str (h : VE K X l tle E) : VI K X tg l (iStr tle) (iSigns E) := by
  refine ⟨pi_str h.pe, fun H0 A0 av ad Γ C σ H Q3 Rr R h3 q => ?_⟩
  refine h.sim H0 A0 av ad Γ C σ H _ _ R h3 fun v H' av' ad' d C' R' l' dv ⟨s, e, q3⟩ => ?_
  subst e
  refine ⟨s, den_str dv, q _ H' av' ad' C' _ _ R' l' (fun av1 ad1 Γ1 C1 σ1 H1 i R1 k => ?_) q3⟩
  have hl : (signs s).length = s.cps.size := by simp [signs]
  refine ⟨fun hi => ⟨by rw [hl] at hi; exact hi, fun y H2 ⟨e1, c, e2, e3⟩ => ?_⟩, fun hi => by rw [hl] at hi; exact hi⟩
  subst e1 e3
  refine ⟨fun _ _ h => h, .str ⟨#[c]⟩, ?_, .str⟩
  simp only [signs, List.getElem?_map, Array.getElem?_toList, e2, Option.map_some]
def enumD (i : Nat) : List D → List D
  | [] => []
  | x :: xs => .tup [.int i, x] :: enumD (i + 1) xs
theorem enumD_len : ∀ (xs : List D) (i : Nat), (enumD i xs).length = xs.length
  | [], _ => rfl
  | _ :: xs, i => congrArg (· + 1) (enumD_len xs (i + 1))
theorem enumD_get : ∀ (xs : List D) (i j : Nat) {x : D}, xs[j]? = some x → (enumD i xs)[j]? = some (.tup [.int ((i + j : Nat) : Int), x])
  | [], _, _, _, e => by simp at e
  | y :: xs, i, 0, x, e => by simp at e; subst e; rfl
  | y :: xs, i, j + 1, x, e => by
    have := enumD_get xs (i + 1) j (x := x) (by simpa using e)
    rw [show i + 1 + j = i + (j + 1) by omega] at this
    exact this
theorem enumD_np : ∀ (xs : List D) (i : Nat), noptrs (enumD i xs) = noptrs xs
  | [], _ => rfl
  | x :: xs, i => by simp only [enumD, noptrs, noptr, Bool.and_true, Bool.true_and]; rw [enumD_np xs]
def iEnumD (L : AV) : IV := fun Γ C Q => L Γ C fun ds C1 => ∃ d xs, ds = [d] ∧ lstOf C1 d = some xs ∧ Q (enumD 0 xs) (srcOf d) C1
theorem vi_enum (hK : X.K = K) (hm : X.mg "enumerate" = none) (h : VA K X [a] tl L) (hg : Gl X "enumerate" := by rfl) (hs : starEach [a] X.env = [(false, eval a X.env)] := by rfl) :
    VI K X (.Tuple elts kk tpos) (.Call (.Name "enumerate" p) [a] [] pos) (iEnum K tl) (iEnumD L) := by
  subst hK
  refine ⟨pi_enum hg hm h.pa hs, fun H0 A0 av ad Γ C σ H Q3 Rr R h3 q => ?_⟩
  refine h.sim H0 A0 av ad Γ C σ H _ _ R h3 fun vs H' av' ad' ds C' R' l' dv ⟨d, xs, e1, e, q3⟩ => ?_
  subst e1
  obtain ⟨v, rfl, r⟩ := den1 dv
  obtain ⟨a, rfl, ⟨vs, hs⟩, later⟩ := lst_later (ds := enumD 0 xs) (src := srcOf d) R' r e (fun _ z => z) (fun z => by rw [enumD_np] at z; exact z)
  refine ⟨a, vs, rfl, hs, q _ H' av' ad' C' _ (srcOf d) R' l' (fun av1 ad1 Γ1 C1 σ1 H1 i R1 k => ?_) q3⟩
  obtain ⟨us, s1, r1⟩ := later av1 ad1 Γ1 C1 σ1 H1 R1 k
  rw [enumD_len]
  refine ⟨fun hi => ⟨⟨us, us[i]'(by rw [r1.length]; exact hi), s1, by simp⟩, fun y H2 ⟨T, x, e1, e2, e3, e4⟩ => ?_⟩, fun hi => ⟨us, s1, by rw [r1.length]; exact hi⟩⟩
  subst e1 e3
  obtain ⟨d', e5, r3⟩ := r1.get' (e4 us s1)
  refine ⟨same_upd e2, _, enumD_get xs 0 i e5, .tup ⟨upd_same, R1.nav e2⟩ (.cons ?_ (.cons (r3.le (Le.new e2)) .nil))⟩
  rw [Nat.zero_add]
  exact .int
def zipD : List D → List D → List D
  | x :: xs, y :: ys => .tup [x, y] :: zipD xs ys
  | _, _ => []
theorem zipD_len : ∀ (xs ys : List D), (zipD xs ys).length = min xs.length ys.length
  | [], ys => by simp [zipD]
  | _ :: _, [] => by simp [zipD]
  | x :: xs, y :: ys => by simp only [zipD, List.length_cons, zipD_len xs ys]; omega
theorem zipD_get : ∀ (xs ys : List D) (j : Nat) {x y : D}, xs[j]? = some x → ys[j]? = some y → (zipD xs ys)[j]? = some (.tup [x, y])
  | [], _, _, _, _, e, _ => by simp at e
  | _ :: _, [], _, _, _, _, e => by simp at e
  | a :: xs, b :: ys, 0, x, y, e, e2 => by simp at e e2; subst e e2; rfl
  | a :: xs, b :: ys, j + 1, x, y, e, e2 => zipD_get xs ys j (x := x) (y := y) (by simpa using e) (by simpa using e2)
def iZipD (L : AV) : IV := fun Γ C Q => L Γ C fun ds C1 => ∃ d d' xs ys, ds = [d, d'] ∧ lstOf C1 d = some xs ∧ lstOf C1 d' = some ys ∧ (noptrs xs && noptrs ys) = true ∧ Q (zipD xs ys) (srcOf d ++ srcOf d') C1
theorem vi_zip (hK : X.K = K) (hm : X.mg "zip" = none) (h : VA K X [a, b] tl L) (hg : Gl X "zip" := by rfl) (hs : starEach [a, b] X.env = (false, eval a X.env) :: starEach [b] X.env := by rfl) (hpl : (backTo pos (starEach [b] X.env)).any (·.1) = false := by rfl) :
    VI K X (.Tuple elts kk tpos) (.Call (.Name "zip" p) [a, b] [] pos) (iZip K tl) (iZipD L) := by
  subst hK
  refine ⟨pi_zip hg hm h.pa hs hpl, fun H0 A0 av ad Γ C σ H Q3 Rr R h3 q => ?_⟩
  refine h.sim H0 A0 av ad Γ C σ H _ _ R h3 fun vs H' av' ad' ds C' R' l' dv ⟨d, d', xs, ys, e1, e, e', hnp, q3⟩ => ?_
  subst e1
  simp only [Bool.and_eq_true] at hnp
  obtain ⟨v, v', rfl, r, r'⟩ := den2 dv
  obtain ⟨a, rfl, ⟨vs, hs⟩, later⟩ := lst_later (ds := zipD xs ys) (src := srcOf d ++ srcOf d') R' r e (fun _ z => List.mem_append_left _ z) (fun _ => hnp.1)
  obtain ⟨b, rfl, ⟨us, hs2⟩, later2⟩ := lst_later (ds := zipD xs ys) (src := srcOf d ++ srcOf d') R' r' e' (fun _ z => List.mem_append_right _ z) (fun _ => hnp.2)
  refine ⟨a, b, vs, us, rfl, hs, hs2, q _ H' av' ad' C' _ _ R' l' (fun av1 ad1 Γ1 C1 σ1 H1 i R1 k => ?_) q3⟩
  obtain ⟨vs1, s1, r1⟩ := later av1 ad1 Γ1 C1 σ1 H1 R1 k
  obtain ⟨us1, s2, r2⟩ := later2 av1 ad1 Γ1 C1 σ1 H1 R1 k
  have l1 := r1.length
  have l2 := r2.length
  rw [zipD_len]
  refine ⟨fun hi => ⟨⟨vs1, us1, vs1[i]'(by omega), us1[i]'(by omega), s1, s2, by simp, by simp⟩, fun y H2 ⟨T, x, z, e1, e2, e3, e4, e5⟩ => ?_⟩, fun hi => ⟨vs1, us1, s1, s2, by omega⟩⟩
  subst e1 e3
  obtain ⟨dx, e6, rx⟩ := r1.get' (e4 vs1 s1)
  obtain ⟨dz, e7, rz⟩ := r2.get' (e5 us1 s2)
  exact ⟨same_upd e2, _, zipD_get xs ys i e6 e7, .tup ⟨upd_same, R1.nav e2⟩ (.cons (rx.le (Le.new e2)) (.cons (rz.le (Le.new e2)) .nil))⟩
def forW (G : GV) (T : SV) (D3 : En) : List D → Slots → Store → Prop
  | [], Γ, C => D3.nx Γ C
  | d :: ds, Γ, C => G d Γ C fun Γ1 C1 => T { D3 with nx := forW G T D3 ds, ct := forW G T D3 ds, bk := D3.nx } Γ1 C1
def sFor (I : IV) (G : GV) (T : SV) : SV := fun D3 Γ C => I Γ C fun ds src C1 => src = [] ∧ noptrs ds = true ∧ forW G T D3 ds Γ C1
theorem vs_for (hp : PassesOwn (model X.prog X.w) X.A X.env X.xe) (hc : X.calm = true) (hi : VI K X tg e wi I) (hg : VG K X tg g G) (hb : VSs K X body ts T)
    (hs : ∀ x, foldedSetIterable e X.env x = pure x := by intro _; rfl) : VS K X (.For tg e body [] pos) (tFor wi g ts) (sFor I G T) := ⟨ps_for hp hc hi.pi hg.pg hb.ps hs, fun H0 A0 av ad Γ C σ H D3 De R q l => by
  refine hi.sim H0 A0 av ad Γ C σ H _ _ R q fun J H1 av1 ad1 C1 ds src R1 l1 Y ⟨hsrc, hnp, w0⟩ => ?_
  subst hsrc
  refine ⟨fun i m σ' H' => m = ds.length - i ∧ i ≤ ds.length ∧ ∃ av' ad' Γ' C', Rep K H0 A0 av' ad' Γ' C' σ' H' ∧ Le av1 ad1 H1 av' ad' H' ∧ forW G T D3 (ds.drop i) Γ' C', ⟨ds.length, by simp, Nat.zero_le _, av1, ad1, Γ, C1, R1, Le.refl, w0⟩, ?_⟩
  rintro i m σ2 H2 ⟨rfl, hi, av2, ad2, Γ2, C2, R2, f2, w2⟩
  have k : Keeps av1 ad1 C1 H1 [] ds av2 ad2 C2 H2 := ⟨f2.fz, .inl hnp, fun _ z => nomatch z⟩
  obtain ⟨y1, y2⟩ := Y av2 ad2 Γ2 C2 σ2 H2 i R2 k
  by_cases hlt : i < ds.length
  · obtain ⟨hgo, hy⟩ := y1 hlt
    refine .inr ⟨hgo, fun σ' H' => i + 1 ≤ ds.length ∧ ∃ av' ad' Γ' C', Rep K H0 A0 av' ad' Γ' C' σ' H' ∧ Le av1 ad1 H1 av' ad' H' ∧ forW G T D3 (ds.drop (i + 1)) Γ' C', fun σ' H' ⟨h1, h2⟩ => ⟨ds.length - (i + 1), by omega, rfl, h1, h2⟩, fun x H3 hx => ?_⟩
    obtain ⟨s3, d, e3, r3⟩ := hy x H3 hx
    have ed : ds.drop i = d :: ds.drop (i + 1) := by
      rw [List.drop_eq_getElem_cons hlt]
      have : ds[i] = d := by
        rw [List.getElem?_eq_getElem hlt] at e3
        exact Option.some.inj e3
      rw [this]
    rw [ed] at w2
    refine hg.sim H0 A0 av2 ad2 Γ2 C2 σ2 H3 x d _ _ (R2.same s3) r3 w2 fun av4 ad4 Γ4 C4 σ4 H4 R4 l4 w4 => ?_
    have f4 : Le av1 ad1 H1 av4 ad4 H4 := (f2.trans (Le.same s3)).trans l4
    exact hb.sim H0 A0 av4 ad4 Γ4 C4 σ4 H4 _ _ R4 w4 ⟨fun av' ad' Γ' C' σ' H' R' f' q' => ⟨hlt, av', ad', Γ', C', R', f4.trans f', q'⟩,
      fun _ _ _ _ _ _ _ _ R' f' x q' => l.rt _ _ _ _ _ _ _ _ R' ((l1.trans f4).trans f') x q',
      fun av' ad' Γ' C' σ' H' R' f' q' => l.nx av' ad' Γ' C' σ' H' R' ((l1.trans f4).trans f') q', fun av' ad' Γ' C' σ' H' R' f' q' => ⟨hlt, av', ad', Γ', C', R', f4.trans f', q'⟩, fun _ _ _ _ _ _ _ _ _ R' f' x q' => l.ex _ _ _ _ _ _ _ _ _ R' ((l1.trans f4).trans f') x q'⟩
  · have e : i = ds.length := by omega
    subst e
    rw [List.drop_length] at w2
    exact .inl ⟨y2 (Nat.le_refl _), l.nx av2 ad2 Γ2 C2 σ2 H2 R2 (l1.trans f2) w2⟩⟩
def forC (G : GV) (T : SV) (D3 : En) (ok : Store → Prop) : List D → Slots → Store → Prop
  | [], Γ, C => D3.nx Γ C
  | d :: ds, Γ, C => G d Γ C fun Γ1 C1 => T { D3 with nx := fun Γ C => ok C ∧ forC G T D3 ok ds Γ C, ct := fun Γ C => ok C ∧ forC G T D3 ok ds Γ C, bk := D3.nx } Γ1 C1
def sForC (I : IV) (G : GV) (T : SV) : SV := fun D3 Γ C => I Γ C fun ds src C1 => noptrs ds = true ∧ forC G T D3 (fun C => ∀ k, k ∈ src → C[k]? = C1[k]?) ds Γ C1
theorem Le.keeps {K : PySem.W.Frag} {H0 : Hp} {A0 : List Addr} {av1 av2 : Av} {ad1 ad2 : Ads} {Γ1 Γ2 : Slots} {C1 C2 : Store} {σ1 σ2 : L2.St} {H1 H2 : Hp} {src : List Nat} {ds : List D} (R1 : Rep K H0 A0 av1 ad1 Γ1 C1 σ1 H1) (R2 : Rep K H0 A0 av2 ad2 Γ2 C2 σ2 H2) (l2 : Le av1 ad1 H1 av2 ad2 H2) (hnp : noptrs ds = true) (ok2 : ∀ k, k ∈ src → C2[k]? = C1[k]?) : Keeps av1 ad1 C1 H1 src ds av2 ad2 C2 H2 := by
  refine ⟨l2.fz, .inl hnp, fun k hk => ⟨?_, ok2 k hk⟩⟩
  cases e : ad1[k]? with
  | none =>
    have h1 := R1.len
    have h2 : C1[k]? = none := by rw [List.getElem?_eq_none_iff] at e ⊢; omega
    have h3 := ok2 k hk
    rw [h2] at h3
    rw [List.getElem?_eq_none_iff] at h3 ⊢
    have := R2.len
    omega
  | some o =>
    cases o with
    | some a => exact l2.pre k a e
    | none =>
      have h1 := R1.gone k e
      have h2 := ok2 k hk
      rw [h1] at h2
      have hlt : k < ad2.length := by rw [R2.len]; exact (List.getElem?_eq_some_iff.mp h2).1
      cases q2 : ad2[k]? with
      | none => rw [List.getElem?_eq_getElem hlt] at q2; cases q2
      | some o =>
        cases o with
        | none => rfl
        | some a => exact (R2.cells k a _ q2 h2).elim
theorem vs_forC (hp : PassesOwn (model X.prog X.w) X.A X.env X.xe) (hc : X.calm = true) (hi : VI K X tg e wi I) (hg : VG K X tg g G) (hb : VSs K X body ts T)
    (hs : ∀ x, foldedSetIterable e X.env x = pure x := by intro _; rfl) : VS K X (.For tg e body [] pos) (tFor wi g ts) (sForC I G T) := ⟨ps_for hp hc hi.pi hg.pg hb.ps hs, fun H0 A0 av ad Γ C σ H D3 De R q l => by
  refine hi.sim H0 A0 av ad Γ C σ H _ _ R q fun J H1 av1 ad1 C1 ds src R1 l1 Y ⟨hnp, w0⟩ => ?_
  let okS : Store → Prop := fun C => ∀ k, k ∈ src → C[k]? = C1[k]?
  refine ⟨fun i m σ' H' => m = ds.length - i ∧ i ≤ ds.length ∧ ∃ av' ad' Γ' C', Rep K H0 A0 av' ad' Γ' C' σ' H' ∧ Le av1 ad1 H1 av' ad' H' ∧ okS C' ∧ forC G T D3 okS (ds.drop i) Γ' C', ⟨ds.length, by simp, Nat.zero_le _, av1, ad1, Γ, C1, R1, Le.refl, fun _ _ => rfl, w0⟩, ?_⟩
  rintro i m σ2 H2 ⟨rfl, hi, av2, ad2, Γ2, C2, R2, f2, ok2, w2⟩
  have k : Keeps av1 ad1 C1 H1 src ds av2 ad2 C2 H2 := f2.keeps R1 R2 hnp ok2
  obtain ⟨y1, y2⟩ := Y av2 ad2 Γ2 C2 σ2 H2 i R2 k
  by_cases hlt : i < ds.length
  · obtain ⟨hgo, hy⟩ := y1 hlt
    refine .inr ⟨hgo, fun σ' H' => i + 1 ≤ ds.length ∧ ∃ av' ad' Γ' C', Rep K H0 A0 av' ad' Γ' C' σ' H' ∧ Le av1 ad1 H1 av' ad' H' ∧ okS C' ∧ forC G T D3 okS (ds.drop (i + 1)) Γ' C', fun σ' H' ⟨h1, h2⟩ => ⟨ds.length - (i + 1), by omega, rfl, h1, h2⟩, fun x H3 hx => ?_⟩
    obtain ⟨s3, d, e3, r3⟩ := hy x H3 hx
    have ed : ds.drop i = d :: ds.drop (i + 1) := by
      rw [List.drop_eq_getElem_cons hlt]
      have : ds[i] = d := by
        rw [List.getElem?_eq_getElem hlt] at e3
        exact Option.some.inj e3
      rw [this]
    rw [ed] at w2
    refine hg.sim H0 A0 av2 ad2 Γ2 C2 σ2 H3 x d _ _ (R2.same s3) r3 w2 fun av4 ad4 Γ4 C4 σ4 H4 R4 l4 w4 => ?_
    have f4 : Le av1 ad1 H1 av4 ad4 H4 := (f2.trans (Le.same s3)).trans l4
    exact hb.sim H0 A0 av4 ad4 Γ4 C4 σ4 H4 _ _ R4 w4 ⟨fun av' ad' Γ' C' σ' H' R' f' q' => ⟨hlt, av', ad', Γ', C', R', f4.trans f', q'.1, q'.2⟩,
      fun _ _ _ _ _ _ _ _ R' f' x q' => l.rt _ _ _ _ _ _ _ _ R' ((l1.trans f4).trans f') x q',
      fun av' ad' Γ' C' σ' H' R' f' q' => l.nx av' ad' Γ' C' σ' H' R' ((l1.trans f4).trans f') q', fun av' ad' Γ' C' σ' H' R' f' q' => ⟨hlt, av', ad', Γ', C', R', f4.trans f', q'.1, q'.2⟩, fun _ _ _ _ _ _ _ _ _ R' f' x q' => l.ex _ _ _ _ _ _ _ _ _ R' ((l1.trans f4).trans f') x q'⟩
  · have e : i = ds.length := by omega
    subst e
    rw [List.drop_length] at w2
    exact .inl ⟨y2 (Nat.le_refl _), l.nx av2 ad2 Γ2 C2 σ2 H2 R2 (l1.trans f2) w2⟩⟩
end
end L3
namespace L3
open PySem PySem.Spec PyProof.Rows L2
structure RoomG (k : Nat) (A : Around) : Prop where
  rm : Room k A
  gd : A.guards = some []
theorem RoomG.mono {j k : Nat} {A : Around} (r : RoomG k A) (h : j ≤ k) : RoomG j A := ⟨r.rm.mono h, r.gd⟩
theorem RoomG.deeper {k : Nat} {A : Around} (r : RoomG (k + 1) A) (env : Env) : RoomG k (A.deeper env) := ⟨r.rm.deeper env, r.gd⟩
theorem RoomG.units {k : Nat} {A : Around} (r : RoomG k A) : A.units + 64 < cLine := r.rm.units
theorem u65 {k : Nat} {A : Around} (r : RoomG k A) : A.units + 65 < cLine := by have := r.rm.un; omega
structure FnOkG (P : Program) (w : World) (K : PySem.W.Frag) (mg : Str → Option Value) (base : Heap) (CX : CXT) (k : Nat) (f : Addr) (fd : FuncData) (ps : List Str) (sp : Sp) : Prop where
  len : ∀ vs H Q E, sp vs H Q E → vs.length = ps.length
  run : ∀ (A : Around) (outer : List Env) (s : Shared) (H : Hp) (args : Args) (us : List Value) (vs : List V) (Q : VK) (E : XK), RoomG k A → Env0 P w K mg base A outer s H → BindsTo s fd args (ps.zip us) → Vals vs us → sp vs H Q E →
    codeAny (model P w) A (.call (.ref f) args) (CR CX outer P w H s Q E) s
theorem FnOkG.mono {P : Program} {w : World} {K : PySem.W.Frag} {mg : Str → Option Value} {base : Heap} {CX : CXT} {j k : Nat} {f : Addr} {fd : FuncData} {ps : List Str} {sp : Sp} (F : FnOkG P w K mg base CX j f fd ps sp) (h : j ≤ k) :
    FnOkG P w K mg base CX k f fd ps sp := ⟨F.len, fun A outer s H args us vs Q E hr => F.run A outer s H args us vs Q E (hr.mono h)⟩
section
variable {X : Cx} {CX : CXT} {k : Nat} {f : Addr} {fd : FuncData} {ps : List Str} {sp : Sp} {E : XK} {x : Str} {p pos : Pos} {e : Expr} {es : List Expr} {t : TA}
theorem run_g {pins : List (Addr × Obj)} {σ : L2.St} {H : Hp} {s : Shared} {Q : VK} {us : List Value} {vs : List V} (F : FnOkG X.prog X.w X.K X.mg X.base CX k f fd ps sp) (hr : RoomG k X.A) (hb : Binds X.K fd ps []) (hx : Passes CX X E)
    (I : Inv X pins σ H s) (r : Vals vs us) (h : sp vs H Q E) : wpAny (model X.prog X.w) X.A (call (.ref f) us) (EP X pins σ Q) X.xe s := by
  have hl : us.length = ps.length := by rw [← r.length]; exact F.len _ _ _ _ h
  have b := hb s us I.kIn (by rw [List.append_nil]; exact hl)
  rw [List.append_nil] at b
  refine wpAny_call (codeAny_mono (F.run X.A X.stack s H ⟨us, []⟩ us vs Q E hr I.env0 b r h) fun r s' hq => ?_)
  rcases r with e | fl
  · exact hx pins σ H s e s' I hq
  · cases fl with
    | ret u => exact I.after hq
    | _ => exact False.elim hq
theorem pe_callG (F : FnOkG X.prog X.w X.K X.mg X.base CX k f fd ps sp) (hr : RoomG k X.A) (hg : Gl X x) (hm : X.mg x = some (.ref f)) (hk : PySem.W.keepIn X.K (.ref f) = true) (hb : Binds X.K fd ps []) (hx : Passes CX X E)
    (ha : PA X (e :: es) t) (hdb : (x == ("__debug__" : Str)) = false := by decide) (he : starEach (e :: es) X.env = (false, eval e X.env) :: starEach es X.env := by rfl) (hpl : (backTo pos (starEach es X.env)).any (·.1) = false := by rfl) :
    PE X (.Call (.Name x p) (e :: es) [] pos) (tCall sp [] E t) := by
  refine ⟨fun pins s σ H Q I h => ?_⟩
  refine wpAny_Call_Name_kw (ld_glob I hg hm ?_ hdb)
  refine PySem.W.callWith_K (h₀ := X.base) I.ok.mod.kin hk (thn (ha.run pos pins s σ H _ I h) fun us s1 ⟨vs, H1, I1, r, q⟩ => ⟨I1.kIn, ?_⟩) he hpl
  have q : sp (vs ++ []) H1 Q E := q
  rw [List.append_nil] at q
  exact run_g F hr hb hx I1 r q
end
section
variable {P : Program} {w : World} {K : PySem.W.Frag} {mg : Str → Option Value} {base : Heap} {CX : CXT} {N ps : List Str} {k : Nat} {sp : Sp} {x qual : Str} {params : Arguments} {body : List Stmt} {scope : Scope} {dvs : List V} {kws : List (Str × V)} {f : Addr} {fd : FuncData}
theorem fun_okG (F : FunD K x qual params body scope dvs kws f fd) (S : FnScope N ps scope) (len : ∀ vs H Q E, sp vs H Q E → vs.length = ps.length)
    (hbody : ∀ (cdv : Value) (A : Around) (outer : List Env) (s : Shared) (H : Hp) (vs : List V) (Q : VK) (E : XK), RoomG k (A.deeper (envOfC qual scope s.heap.objs.size f cdv)) → sp vs H Q E →
      ∃ t, PSs (cxOf CX P w K mg base N qual scope f cdv A outer s H E) body t ∧ t { nx := fun _ H' => Q .non H', rt := Q } (start N vs) H) : FnOkG P w K mg base CX (k + 1) f fd ps sp := by
  obtain ⟨oc, od, dV, kV, doc, pm, an, cdv, ct, osl, rfl, lk, hcd, _, _⟩ := F.ex
  refine ⟨len, fun A outer s H args us vs Q E hr e0 hb r hsp => ?_⟩
  have hl := len _ _ _ _ hsp
  have KX : K.In s.heap := e0.mod.kin.keeps fun b o e => (e0.bs b o e).1
  have lim : s.heap.NoLimit := e0.mod.nolimit.keeps fun b o e => (e0.bs b o e).1
  have hkind : ∀ y ∈ ps.zip us, scope.names.lookup y.1 = some .local ∨ (scope.names.lookup y.1 = some .cell ∧ ((cellsFrom (s.heap.objs.size + 1) scope.names []).lookup y.1).isSome = true) := fun y hy =>
    (S.par y.1 (List.of_mem_zip hy).1).elim .inl fun q => .inr ⟨q, PySem.W.cellsFrom_some _ _ _ (.inl q)⟩
  refine codeAny_call_function hr.rm.depth (KX _ _ lk) rfl S.co S.gen rfl (PySem.W.codeRec_of KX hcd) (hb _ _ _ _ ?_)
  refine wpAny_newFunctionEnv_cells S.kind hkind fun env he s1 x => ?_
  subst he
  refine ⟨lim.keeps x.toInCall.keep, codeAny_func ?_⟩
  obtain ⟨t, ht, hq⟩ := hbody cdv A outer s H vs Q E (hr.deeper _) hsp
  have I := inv_start (CX := CX) (E := E) S hr.rm.hd e0 hl r x
  refine wpAny_mono (ht.run [] s1 (start N vs) H _ I hq) (fun fl s' hs => ?_) fun e s' hs => hs
  cases fl with
  | ret u => obtain ⟨v, σ', H', J, rv, q⟩ := hs; exact ⟨v, H', J.os, J.bare, J.base, J.hok, rv, q⟩
  | next => obtain ⟨σ', H', J, q⟩ := hs; exact ⟨V.non, H', J.os, J.bare, J.base, J.hok, rfl, q⟩
  | _ => obtain ⟨_, _, _, q⟩ := hs; exact False.elim q
end
end L3
namespace L3
open PySem PySem.Spec PyProof.Rows L2
mutual
def mapW (h : Bool → Bool) (g : Nat → D) : D → D
  | .lst o xs => .lst (h o) (mapWs h g xs)
  | .tup xs => .tup (mapWs h g xs)
  | .dk o ks xs => .dk (h o) ks (mapWs h g xs)
  | .dt o ks xs => .dt (h o) ks (mapWs h g xs)
  | .obj nm ns xs => .obj nm ns (mapWs h g xs)
  | .exc nm ns xs => .exc nm ns (mapWs h g xs)
  | .ptr k => g k
  | .bad => .bad
  | .non => .non
  | .bl b => .bl b
  | .int i => .int i
  | .str s => .str s
def mapWs (h : Bool → Bool) (g : Nat → D) : List D → List D
  | [] => []
  | x :: xs => mapW h g x :: mapWs h g xs
end
mutual
def okW (ok : Bool → Bool) : D → Bool
  | .lst o xs => ok o && okWs ok xs
  | .tup xs => okWs ok xs
  | .dk o _ xs => ok o && okWs ok xs
  | .dt o _ xs => ok o && okWs ok xs
  | .obj _ _ xs => ok true && okWs ok xs
  | .exc _ _ xs => ok true && okWs ok xs
  | _ => true
def okWs (ok : Bool → Bool) : List D → Bool
  | [] => true
  | x :: xs => okW ok x && okWs ok xs
end
mutual
theorem okW_all : ∀ d : D, okW (fun _ => true) d = true
  | .lst _ xs => by simp only [okW, Bool.true_and]; exact okWs_all xs
  | .tup xs => by simp only [okW]; exact okWs_all xs
  | .dk _ _ xs => by simp only [okW, Bool.true_and]; exact okWs_all xs
  | .dt _ _ xs => by simp only [okW, Bool.true_and]; exact okWs_all xs
  | .obj _ _ xs => by simp only [okW, Bool.true_and]; exact okWs_all xs
  | .exc _ _ xs => by simp only [okW, Bool.true_and]; exact okWs_all xs
  | .bad => rfl
  | .non => rfl
  | .bl _ => rfl
  | .int _ => rfl
  | .str _ => rfl
  | .ptr _ => rfl
theorem okWs_all : ∀ d : List D, okWs (fun _ => true) d = true
  | [] => rfl
  | x :: xs => by simp only [okWs, Bool.and_eq_true]; exact ⟨okW_all x, okWs_all xs⟩
end
def noold : D → Bool := okW fun o => !o
structure Carry (K : PySem.W.Frag) (H0 : Hp) (av : Av) (ad : Ads) (H0' : Hp) (av' : Av) (ad' : Ads) (H : Hp) (h : Bool → Bool) (ok : Bool → Bool) (g : Nat → D) : Prop where
  l : ∀ (a : Addr) (vs : List V) (o : Bool), LstA av H a vs → (o = false → H0 a = none) → ok o = true → LstA av' H a vs ∧ (h o = false → H0' a = none)
  hh : ∀ o, h o = false → o = false
  r : ∀ (a : Addr) (u : HO) (o : Bool), Rd H a u → ¬ av a → (o = false → H0 a = none) → ok o = true → ¬ av' a ∧ (h o = false → H0' a = none)
  t : ∀ (a : Addr) (vs : List V), TupA av H a vs → TupA av' H a vs
  p : ∀ (k : Nat) (a : Addr), ad[k]? = some (some a) → Den K H0' av' ad' H (.ref a) (g k)
  i : ∀ (a : Addr), H a ≠ none → ¬ av a → ok true = true → ¬ av' a
section
variable {K : PySem.W.Frag} {H0 H0' : Hp} {av av' : Av} {ad ad' : Ads} {H : Hp} {h ok : Bool → Bool} {g : Nat → D}
mutual
theorem Den.carry (c : Carry K H0 av ad H0' av' ad' H h ok g) : ∀ {v : V} {d : D}, Den K H0 av ad H v d → okW ok d = true → Den K H0' av' ad' H v (mapW h g d)
  | _, _, .bad, _ => .bad
  | _, _, .non, _ => .non
  | _, _, .bl, _ => .bl
  | _, _, .int, _ => .int
  | _, _, .str, _ => .str
  | _, _, .lst r o x, e => by
    simp only [okW, Bool.and_eq_true] at e
    have cl := c.l _ _ _ r (fun z => (o z).1) e.1
    exact .lst cl.1 (fun z => ⟨cl.2 z, (o (c.hh _ z)).2⟩) (DenAll.carry c x e.2)
  | _, _, .tup r x, e => .tup (c.t _ _ r) (DenAll.carry c x (by simpa only [okW] using e))
  | _, _, .dk r n o k x, e => by
    simp only [okW, Bool.and_eq_true] at e
    exact .dk r (c.r _ _ _ r n o e.1).1 (c.r _ _ _ r n o e.1).2 k (DenAll.carry c x e.2)
  | _, _, .dt r n o k x, e => by
    simp only [okW, Bool.and_eq_true] at e
    exact .dt r (c.r _ _ _ r n o e.1).1 (c.r _ _ _ r n o e.1).2 k (DenAll.carry c x e.2)
  | _, _, .obj r n k x, e => by
    simp only [okW, Bool.and_eq_true] at e
    exact .obj r (c.i _ (by rw [r]; exact fun z => nomatch z) n e.1) k (DenAll.carry c x e.2)
  | _, _, .exc r n q k x, e => by
    simp only [okW, Bool.and_eq_true] at e
    refine .exc r (c.i _ (by rw [r]; exact fun z => nomatch z) n e.1) ?_ k (DenAll.carry c x e.2)
    rcases q with q | ⟨dd, e1, q, nq⟩
    · exact .inl q
    · exact .inr ⟨dd, e1, q, c.i _ (by rw [q]; exact fun z => nomatch z) nq e.1⟩
  | _, _, .ptr q, _ => c.p _ _ q
theorem DenAll.carry (c : Carry K H0 av ad H0' av' ad' H h ok g) : ∀ {vs : List V} {ds : List D}, DenAll K H0 av ad H vs ds → okWs ok ds = true → DenAll K H0' av' ad' H vs (mapWs h g ds)
  | _, _, .nil, _ => .nil
  | _, _, .cons a b, e => by
    simp only [okWs, Bool.and_eq_true] at e
    exact .cons (Den.carry c a e.1) (DenAll.carry c b e.2)
end
def Cell.mapC (h : Bool → Bool) (g : Nat → D) : Cell → Cell
  | .lst xs => .lst (mapWs h g xs)
  | .dk ks xs => .dk ks (mapWs h g xs)
  | .dt ks xs => .dt ks (mapWs h g xs)
  | .ins C ns xs => .ins C ns (mapWs h g xs)
  | .dead => .dead
def Cell.okC (ok : Bool → Bool) : Cell → Bool
  | .lst xs => okWs ok xs
  | .dk _ xs => okWs ok xs
  | .dt _ xs => okWs ok xs
  | .ins _ _ xs => okWs ok xs
  | .dead => true
theorem Cell.okC_all (c : Cell) : c.okC (fun _ => true) = true := by
  cases c <;> first
    | rfl
    | exact okWs_all _
theorem CellOk.carry (c : Carry K H0 av ad H0' av' ad' H h ok g) {a : Addr} {x : Cell} (q : CellOk K H0 av ad H a x) (e : x.okC ok = true) : CellOk K H0' av' ad' H a (x.mapC h g) := by
  cases x with
  | lst xs => obtain ⟨vs, e1, r⟩ := q; exact ⟨vs, e1, r.carry c e⟩
  | dk ks xs => obtain ⟨vs, e1, k, r⟩ := q; exact ⟨vs, e1, k, r.carry c e⟩
  | dt ks xs => obtain ⟨vs, e1, k, r⟩ := q; exact ⟨vs, e1, k, r.carry c e⟩
  | ins _ ks xs => obtain ⟨dx, vs, e1, k, r⟩ := q; exact ⟨dx, vs, e1, k, r.carry c e⟩
  | dead => exact q.elim
end
def finG (n : Nat) (C : Store) : Nat → Nat → D
  | 0, k => if k < n then .ptr k else .bad
  | m + 1, k => if k < n then .ptr k else match C[k]? with
    | some (.lst xs) => .lst false (mapWs id (finG n C m) xs)
    | some (.dk ks xs) => .dk false ks (mapWs id (finG n C m) xs)
    | some (.dt ks xs) => .dt false ks (mapWs id (finG n C m) xs)
    | _ => .bad
def fin (n : Nat) (C : Store) (d : D) : D := mapW id (finG n C 3) d
def finS (n : Nat) (C : Store) : Store := (C.take n).map fun c => c.mapC id (finG n C 3)
section
variable {K : PySem.W.Frag} {H0 : Hp} {A0 : List Addr} {av : Av} {ad : Ads} {Γ : Slots} {C : Store} {σ : L2.St} {H : Hp}
theorem ads_some {A0 : List Addr} {i : Nat} {a : Addr} : (A0.map some)[i]? = some (some a) ↔ A0[i]? = some a := by
  rw [List.getElem?_map]
  cases A0[i]? <;> simp
def avF (av : Av) (ad : Ads) (n : Nat) : Av := fun a => av a ∧ ∀ k : Nat, n ≤ k → ad[k]? ≠ some (some a)
theorem carry_fin (R : Rep K H0 A0 av ad Γ C σ H) : ∀ m, Carry K H0 av ad H0 (avF av ad A0.length) (A0.map some) H id (fun _ => true) (finG A0.length C m) := by
  have base : ∀ g : Nat → D, (∀ (k : Nat) (a : Addr), ad[k]? = some (some a) → Den K H0 (avF av ad A0.length) (A0.map some) H (.ref a) (g k)) → Carry K H0 av ad H0 (avF av ad A0.length) (A0.map some) H id (fun _ => true) g := fun g hg =>
    ⟨fun a vs o r ho _ => ⟨⟨r.1, fun q => r.2 q.1⟩, ho⟩, fun _ z => z, fun a u o r n ho _ => ⟨fun q => n q.1, ho⟩, fun a vs r => ⟨r.1, fun q => r.2 q.1⟩, hg, fun a _ n _ q => n q.1⟩
  have par : ∀ (k : Nat) (a : Addr), ad[k]? = some (some a) → k < A0.length → Den K H0 (avF av ad A0.length) (A0.map some) H (.ref a) (.ptr k) := fun k a h hk => .ptr (by
    rw [ads_some]
    have e := R.pre k _ (List.getElem?_eq_getElem hk)
    rw [h] at e
    rw [List.getElem?_eq_getElem hk]
    exact (Option.some.inj e).symm ▸ rfl)
  intro m
  induction m with
  | zero =>
    refine base _ fun k a h => ?_
    simp only [finG]
    split
    · rename_i hk; exact par k a h hk
    · exact .bad
  | succ m ih =>
    refine base _ fun k a h => ?_
    simp only [finG]
    split
    · rename_i hk; exact par k a h hk
    · rename_i hk
      have hk' : A0.length ≤ k := Nat.le_of_not_lt hk
      have n0 : H0 a = none := R.loc k a h hk'
      have nav : ¬ avF av ad A0.length a := fun q => q.2 k hk' h
      have hlt : k < C.length := by rw [← R.len]; exact (List.getElem?_eq_some_iff.mp h).1
      have hc : C[k]? = some C[k] := List.getElem?_eq_getElem hlt
      have ok := R.cells k a _ h hc
      rw [hc]
      generalize C[k] = c at ok
      cases c with
      | lst xs => obtain ⟨vs, e1, r⟩ := ok; exact .lst ⟨.inl e1, nav⟩ (fun _ => ⟨n0, e1⟩) (r.carry ih (okWs_all _))
      | dk ks xs => obtain ⟨vs, e1, k, r⟩ := ok; exact .dk (.inl e1) nav (fun _ => n0) k (r.carry ih (okWs_all _))
      | dt ks xs => obtain ⟨vs, e1, k, r⟩ := ok; exact .dt (.inl e1) nav (fun _ => n0) k (r.carry ih (okWs_all _))
      | ins _ _ _ => exact .bad
      | dead => exact .bad
theorem Rep.fin (R : Rep K H0 A0 av ad Γ C σ H) : Rep K H0 A0 (avF av ad A0.length) (A0.map some) [] (finS A0.length C) [] H ∧ Fz av H (avF av ad A0.length) H := by
  have hA : A0.length ≤ ad.length := by
    by_cases h : A0.length = 0
    · omega
    · have := (List.getElem?_eq_some_iff.mp (R.pre (A0.length - 1) _ (List.getElem?_eq_getElem (by omega)))).1
      omega
  have up : ∀ (i : Nat) (a : Addr), A0[i]? = some a → ad[i]? = some (some a) ∧ i < A0.length := fun i a h => ⟨R.pre i a h, (List.getElem?_eq_some_iff.mp h).1⟩
  refine ⟨⟨fun a h => ?_, fun a h => R.dom a h.1, fun a xs h => R.avt a xs h.1, fun i j a h1 h2 => ?_, ?_, fun i a h => ads_some.mpr h, fun i a h hi => ?_, R.keep, R.there, fun i h => (by rw [List.getElem?_map] at h; cases q : A0[i]? with | none => (rw [q] at h; cases h) | some a => (rw [q] at h; cases h)), fun i a c h1 h2 => ?_, rfl, fun i d h => by simp at h⟩, Fz.less fun _ q => q.1⟩
  · obtain ⟨b, hb, e⟩ := List.mem_map.mp h
    cases e
    obtain ⟨i, hi, e⟩ := List.mem_iff_getElem.mp hb
    obtain ⟨h1, h2⟩ := up i a (by rw [List.getElem?_eq_getElem hi, e])
    exact ⟨R.av_of h1, fun k hk q => by have := R.nd i k a h1 q; omega⟩
  · exact R.nd i j a (R.pre i a (ads_some.mp h1)) (R.pre j a (ads_some.mp h2))
  · simp only [List.length_map, finS, List.length_take]
    rw [← R.len]
    omega
  · have := (up i a (ads_some.mp h)).2
    omega
  · obtain ⟨h3, h4⟩ := up i a (ads_some.mp h1)
    simp only [finS, List.getElem?_map, List.getElem?_take, h4, if_true] at h2
    cases q : C[i]? with
    | none => rw [q] at h2; cases h2
    | some c' =>
      rw [q] at h2
      cases h2
      exact (R.cells i a c' h3 q).carry (carry_fin R 3) (Cell.okC_all _)
theorem Rep.finD (R : Rep K H0 A0 av ad Γ C σ H) {v : V} {d : D} (x : Den K H0 av ad H v d) : Den K H0 (avF av ad A0.length) (A0.map some) H v (L3.fin A0.length C d) := x.carry (carry_fin R 3) (okW_all _)
end
abbrev PV := List D → Store → (D → Store → Prop) → Prop
def Sp3 (K : PySem.W.Frag) (n : Nat) (P : PV) : Sp := fun vs H Q _ => ∃ (A0 : List Addr) (av : Av) (ds : List D) (C : Store) (Q3 : D → Store → Prop), A0.length = n ∧ Rep K H A0 av (A0.map some) (ds.map some) C (vs.map some) H ∧ P ds C Q3 ∧
  ∀ (av' : Av) (v : V) (H' : Hp) (d : D) (C' : Store), Rep K H A0 av' (A0.map some) [] C' [] H' → Fz av H av' H' → (∀ a, av a → av' a) → Den K H av' (A0.map some) H' v d → Q3 d C' → Q v H'
def start3 (N : List Str) (ds : List D) : Slots := ds.map some ++ List.replicate (N.length - ds.length) none
theorem Rep.start {K : PySem.W.Frag} {H0 : Hp} {A0 : List Addr} {av : Av} {ad : Ads} {C : Store} {H : Hp} {ds : List D} {vs : List V} (N : List Str) (R : Rep K H0 A0 av ad (ds.map some) C (vs.map some) H) : Rep K H0 A0 av ad (start3 N ds) C (L2.start N vs) H := by
  have hl : vs.length = ds.length := by have := R.slen; simpa using this
  refine R.slots (by simp [start3, L2.start, hl]) fun i d h => ?_
  unfold start3 at h
  unfold L2.start
  by_cases hi : i < ds.length
  · rw [List.getElem?_append_left (by simpa using hi)] at h
    obtain ⟨v, h1, h2⟩ := R.slot i d h
    exact ⟨v, by rw [List.getElem?_append_left (by rw [List.length_map, hl]; exact hi)]; exact h1, h2⟩
  · rw [List.getElem?_append_right (by simpa using Nat.le_of_not_lt hi)] at h
    rw [List.getElem?_replicate] at h
    split at h <;> cases h
section
variable {P : Program} {w : World} {K : PySem.W.Frag} {mg : Str → Option Value} {base : Heap} {x qual : Str} {params : Arguments} {body : List Stmt} {scope : Scope} {dvs : List V} {kws : List (Str × V)} {f : Addr} {fd : FuncData}
def enF (n : Nat) (Q3 : D → Store → Prop) : En := { nx := fun _ C => Q3 .non (finS n C), rt := fun d C => Q3 (fin n C d) (finS n C) }
theorem ok3 {N ps : List Str} {k n : Nat} {Pv : PV} {t : TS} {T : SV} (F : FunD K x qual params body scope dvs kws f fd) (S : FnScope N ps scope) (len : ∀ ds C Q, Pv ds C Q → ds.length = ps.length)
    (hv : ∀ (cdv : Value) (A : Around) (outer : List Env) (s : Shared) (H : Hp) (E : XK), RoomG k (A.deeper (envOfC qual scope s.heap.objs.size f cdv)) → VSs K (cxOf CX0 P w K mg base N qual scope f cdv A outer s H E).nox body t T)
    (hT : ∀ ds C Q3, Pv ds C Q3 → C.length = n → T (enF n Q3) (start3 N ds) C) : FnOkG P w K mg base CX0 (k + 1) f fd ps (Sp3 K n Pv) := by
  refine fun_okG F S (fun vs H Q E h => ?_) (fun cdv A outer s H vs Q E hr h => ?_)
  · obtain ⟨A0, av, ds, C, Q3, _, R, hp, _⟩ := h
    have := R.slen
    simp at this
    rw [this]
    exact len _ _ _ hp
  · obtain ⟨A0, av, ds, C, Q3, hn, R, hp, q⟩ := h
    have V := hv cdv A outer s H E hr
    have hC : C.length = n := by rw [← R.len, List.length_map]; exact hn
    subst hn
    refine ⟨t, V.ps.nox, V.sim H A0 av _ _ C _ H (enF A0.length Q3) _ (R.start N) (hT ds C Q3 hp hC) ⟨fun av' ad' Γ' C' σ' H' R' f q' => ?_, fun av' ad' Γ' C' σ' H' v d R' f x q' => ?_, fun _ _ _ _ _ _ _ _ z => z, fun _ _ _ _ _ _ _ _ z => z, fun _ _ _ _ _ _ _ _ _ _ _ _ z => z⟩⟩
    · exact q _ _ H' _ _ R'.fin.1 (f.fz.trans R'.fin.2) (fun a h => ⟨f.avm a h, fun k hk z => R.dom a h (R'.loc k a z hk)⟩) .non q'
    · exact q _ _ H' _ _ R'.fin.1 (f.fz.trans R'.fin.2) (fun a h => ⟨f.avm a h, fun k hk z => R.dom a h (R'.loc k a z hk)⟩) (R'.finD x) q'
end
end L3
namespace L3
open PySem PySem.Spec PyProof.Rows L2
theorem nodup_ix' {α : Type} {l : List α} (h : l.Nodup) {i j : Nat} {x : α} (a : l[i]? = some x) (b : l[j]? = some x) : i = j := by
  obtain ⟨h1, e1⟩ := List.getElem?_eq_some_iff.mp a
  obtain ⟨h2, e2⟩ := List.getElem?_eq_some_iff.mp b
  exact (List.getElem_inj h).mp (e1.trans e2.symm)
def posOf : List Nat → Nat → Option Nat
  | [], _ => none
  | x :: xs, k => if x = k then some 0 else (posOf xs k).map (· + 1)
theorem posOf_some : ∀ {ks : List Nat} {k j : Nat}, posOf ks k = some j → ks[j]? = some k
  | [], _, _, e => by cases e
  | x :: xs, k, j, e => by
    simp only [posOf] at e
    split at e
    · rename_i h; cases e; rw [h]; rfl
    · cases q : posOf xs k with
      | none => rw [q] at e; cases e
      | some i =>
        rw [q] at e
        simp only [Option.map_some, Option.some.injEq] at e
        subst e
        have := posOf_some q
        simpa using this
theorem posOf_none : ∀ {ks : List Nat} {k : Nat}, posOf ks k = none → k ∉ ks
  | [], _, _ => by simp
  | x :: xs, k, e => by
    simp only [posOf] at e
    split at e
    · cases e
    · rename_i h
      cases q : posOf xs k with
      | none => simp only [List.mem_cons, not_or]; exact ⟨fun z => h z.symm, posOf_none q⟩
      | some i => rw [q] at e; cases e
def viewG (ks : List Nat) (C : Store) : Nat → Nat → D
  | 0, k => match posOf ks k with
    | some j => .ptr j
    | none => .bad
  | m + 1, k => match posOf ks k with
    | some j => .ptr j
    | none => match C[k]? with
      | some (.lst xs) => .lst true (mapWs (fun _ => true) (viewG ks C m) xs)
      | some (.dk qs xs) => .dk true qs (mapWs (fun _ => true) (viewG ks C m) xs)
      | some (.dt qs xs) => .dt true qs (mapWs (fun _ => true) (viewG ks C m) xs)
      | some (.ins nm ns xs) => .obj nm ns (mapWs (fun _ => true) (viewG ks C m) xs)
      | _ => .bad
def views (ks : List Nat) (C : Store) (ds : List D) : List D := mapWs (fun _ => true) (viewG ks C 2) ds
def viewC (ks : List Nat) (C : Store) : Store := ks.map fun k => (C[k]?.getD .dead).mapC (fun _ => true) (viewG ks C 2)
def backG (ks : List Nat) (j : Nat) : D := match ks[j]? with
  | some k => .ptr k
  | none => .bad
def backs (ks : List Nat) (c : Cell) : Cell := c.mapC id (backG ks)
def putS : List Nat → Store → Store → Store
  | k :: ks, c :: cs, C => putS ks cs (C.set k c)
  | _, _, C => C
theorem putS_len : ∀ (ks : List Nat) (cs C : Store), (putS ks cs C).length = C.length
  | [], _, _ => rfl
  | _ :: _, [], _ => rfl
  | k :: ks, c :: cs, C => by simp only [putS]; rw [putS_len ks cs]; simp
theorem putS_out : ∀ (ks : List Nat) (cs C : Store) {i : Nat}, i ∉ ks → (putS ks cs C)[i]? = C[i]?
  | [], _, _, _, _ => rfl
  | _ :: _, [], _, _, _ => rfl
  | k :: ks, c :: cs, C, i, h => by
    simp only [List.mem_cons, not_or] at h
    simp only [putS]
    rw [putS_out ks cs _ h.2, List.getElem?_set_ne (fun e => h.1 e.symm)]
theorem putS_in : ∀ (ks : List Nat) (cs C : Store) {j i : Nat}, ks.Nodup → ks[j]? = some i → j < cs.length → i < C.length → (putS ks cs C)[i]? = cs[j]?
  | [], _, _, _, _, _, e, _, _ => by simp at e
  | _ :: _, [], _, _, _, _, _, h, _ => by simp at h
  | k :: ks, c :: cs, C, 0, i, nd, e, _, hi => by
    simp at e; subst e
    simp only [putS]
    rw [putS_out ks cs _ (List.nodup_cons.mp nd).1, List.getElem?_set_self hi]
    rfl
  | k :: ks, c :: cs, C, j + 1, i, nd, e, hj, hi => by
    simp only [putS]
    rw [putS_in ks cs _ (j := j) (List.nodup_cons.mp nd).2 (by simpa using e) (by simpa using hj) (by simpa using hi)]
    rfl
section
variable {K : PySem.W.Frag} {H0 : Hp} {A0 : List Addr} {av : Av} {ad : Ads} {Γ : Slots} {C : Store} {σ : L2.St} {H : Hp}
theorem carry_view (R : Rep K H0 A0 av ad Γ C σ H) {ks : List Nat} {Ac : List Addr} (hA : ∀ (j k : Nat), ks[j]? = some k → ∃ a, Ac[j]? = some a ∧ ad[k]? = some (some a)) (hA2 : ∀ a, a ∈ Ac → ∃ k, k ∈ ks ∧ ad[k]? = some (some a)) :
    ∀ m, Carry K H0 av ad H (fun a => a ∈ Ac) (Ac.map some) H (fun _ => true) (fun _ => true) (viewG ks C m) := by
  have sub : ∀ a, a ∈ Ac → av a := fun a h => by obtain ⟨k, _, e⟩ := hA2 a h; exact R.av_of e
  have base : ∀ g : Nat → D, (∀ (k : Nat) (a : Addr), ad[k]? = some (some a) → Den K H (fun a => a ∈ Ac) (Ac.map some) H (.ref a) (g k)) → Carry K H0 av ad H (fun a => a ∈ Ac) (Ac.map some) H (fun _ => true) (fun _ => true) g := fun g hg =>
    ⟨fun a vs o r ho _ => ⟨⟨r.1, fun q => r.2 (sub a q)⟩, fun z => nomatch z⟩, fun _ z => (nomatch z), fun a u o r n ho _ => ⟨fun q => n (sub a q), fun z => nomatch z⟩, fun a vs r => ⟨r.1, fun q => r.2 (sub a q)⟩, hg, fun a _ n _ q => n (sub a q)⟩
  have par : ∀ (k j : Nat) (a : Addr), ad[k]? = some (some a) → posOf ks k = some j → Den K H (fun a => a ∈ Ac) (Ac.map some) H (.ref a) (.ptr j) := fun k j a h hp => .ptr (by
    rw [ads_some]
    obtain ⟨b, h1, h2⟩ := hA j k (posOf_some hp)
    rw [h] at h2
    cases h2
    exact h1)
  intro m
  induction m with
  | zero =>
    refine base _ fun k a h => ?_
    simp only [viewG]
    cases q : posOf ks k with
    | some j => exact par k j a h q
    | none => exact .bad
  | succ m ih =>
    refine base _ fun k a h => ?_
    simp only [viewG]
    cases q : posOf ks k with
    | some j => exact par k j a h q
    | none =>
      have nav : ¬ a ∈ Ac := fun z => by
        obtain ⟨k', h1, h2⟩ := hA2 a z
        exact posOf_none q (R.nd k' k a h2 h ▸ h1)
      have hlt : k < C.length := by rw [← R.len]; exact (List.getElem?_eq_some_iff.mp h).1
      have hc : C[k]? = some C[k] := List.getElem?_eq_getElem hlt
      have ok := R.cells k a _ h hc
      rw [hc]
      generalize C[k] = c at ok
      cases c with
      | lst xs => obtain ⟨vs, e1, r⟩ := ok; exact .lst ⟨.inl e1, nav⟩ (fun z => nomatch z) (r.carry ih (okWs_all _))
      | dk ks xs => obtain ⟨vs, e1, k, r⟩ := ok; exact .dk (.inl e1) nav (fun z => nomatch z) k (r.carry ih (okWs_all _))
      | dt ks xs => obtain ⟨vs, e1, k, r⟩ := ok; exact .dt (.inl e1) nav (fun z => nomatch z) k (r.carry ih (okWs_all _))
      | ins _ _ _ => obtain ⟨dx, fs, e1, k, r⟩ := ok; exact .obj e1 nav k (r.carry ih (okWs_all _))
      | dead => exact .bad
theorem addrs_of (R : Rep K H0 A0 av ad Γ C σ H) : ∀ ks : List Nat, (∀ k, k ∈ ks → ∃ c, C[k]? = some c ∧ c ≠ Cell.dead) → ∃ Ac : List Addr, Ac.length = ks.length ∧ (∀ (j k : Nat), ks[j]? = some k → ∃ a, Ac[j]? = some a ∧ ad[k]? = some (some a)) ∧ ∀ a, a ∈ Ac → ∃ k, k ∈ ks ∧ ad[k]? = some (some a)
  | [], _ => ⟨[], rfl, fun j k e => by simp at e, fun a h => by simp at h⟩
  | k :: ks, h => by
    obtain ⟨Ac, h0, h1, h2⟩ := addrs_of R ks (fun k' hk => h k' (List.mem_cons_of_mem _ hk))
    obtain ⟨c, hc, hnd⟩ := h k (List.mem_cons_self ..)
    obtain ⟨a, ha⟩ : ∃ a, ad[k]? = some (some a) := by
      have hlt : k < ad.length := by rw [R.len]; exact (List.getElem?_eq_some_iff.mp hc).1
      cases q : ad[k]? with
      | none => rw [List.getElem?_eq_getElem hlt] at q; cases q
      | some o =>
        cases o with
        | none => have := R.gone k q; rw [hc] at this; cases this; exact absurd rfl hnd
        | some a => exact ⟨a, rfl⟩
    refine ⟨a :: Ac, by simp [h0], fun j k' e => ?_, fun b hb => ?_⟩
    · cases j with
      | zero => simp at e; subst e; exact ⟨a, rfl, ha⟩
      | succ j => exact h1 j k' (by simpa using e)
    · rcases List.mem_cons.mp hb with e | hb
      · subst e; exact ⟨k, List.mem_cons_self .., ha⟩
      · obtain ⟨k', e1, e2⟩ := h2 b hb
        exact ⟨k', List.mem_cons_of_mem _ e1, e2⟩
theorem mapW_np {g : Nat → D} : (∀ d : D, noptr d = true → mapW id g d = d) ∧ ∀ ds : List D, noptrs ds = true → mapWs id g ds = ds := by
  have main : ∀ n, (∀ d : D, sizeOf d ≤ n → noptr d = true → mapW id g d = d) ∧ ∀ ds : List D, sizeOf ds ≤ n → noptrs ds = true → mapWs id g ds = ds := by
    intro n
    induction n with
    | zero =>
      refine ⟨fun d hd => ?_, fun ds hd => ?_⟩
      · cases d <;> simp at hd
      · cases ds <;> simp at hd
    | succ n ih =>
      refine ⟨fun d hd h => ?_, fun ds hd h => ?_⟩
      · cases d with
        | lst o xs => simp only [mapW, id]; rw [ih.2 xs (by simp at hd; omega) (by simpa only [noptr] using h)]
        | tup xs => simp only [mapW]; rw [ih.2 xs (by simp at hd; omega) (by simpa only [noptr] using h)]
        | dk o ks xs => simp only [mapW, id]; rw [ih.2 xs (by simp at hd; omega) (by simpa only [noptr] using h)]
        | dt o ks xs => simp only [mapW, id]; rw [ih.2 xs (by simp at hd; omega) (by simpa only [noptr] using h)]
        | obj nm ns xs => simp only [mapW]; rw [ih.2 xs (by simp at hd; omega) (by simpa only [noptr] using h)]
        | exc nm ns xs => simp only [mapW]; rw [ih.2 xs (by simp at hd; omega) (by simpa only [noptr] using h)]
        | ptr k => simp [noptr] at h
        | bad => rfl
        | non => rfl
        | bl _ => rfl
        | int _ => rfl
        | str _ => rfl
      · cases ds with
        | nil => rfl
        | cons d ds =>
          simp only [noptrs, Bool.and_eq_true] at h
          simp only [mapWs]
          rw [ih.1 d (by simp at hd; omega) h.1, ih.2 ds (by simp at hd; omega) h.2]
  exact ⟨fun d => (main (sizeOf d)).1 d (Nat.le_refl _), fun ds => (main (sizeOf ds)).2 ds (Nat.le_refl _)⟩
theorem Rep.call (R : Rep K H0 A0 av ad Γ C σ H) {ks : List Nat} {P : PV} {vs : List V} {ds : List D} {Q3 : D → Store → Prop} {Q : VK} (dv : DenAll K H0 av ad H vs ds) (hk : ks.Nodup) (hc : ∀ k, k ∈ ks → ∃ c, C[k]? = some c ∧ c ≠ Cell.dead)
    {Qc : D → Store → Prop} (hp : P (views ks C ds) (viewC ks C) Qc) (hq : ∀ d Cc, Cc.length = ks.length → Qc d Cc → noold d = true ∧ (∀ c, c ∈ Cc → c.okC (fun o => !o) = true) ∧ Q3 (mapW id (backG ks) d) (putS ks (Cc.map (backs ks)) C))
    (q : ∀ (v : V) (H' : Hp) (C' : Store) (d : D), Rep K H0 A0 av ad Γ C' σ H' → Le av ad H av ad H' → Den K H0 av ad H' v d → Den K H av ad H' v d → (ks = [] → ∀ a o, H a = some o → H' a = some o) → Q3 d C' → Q v H') (E : XK) : Sp3 K ks.length P vs H Q E := by
  obtain ⟨Ac, hl, hA, hA2⟩ := addrs_of R ks hc
  have hA' : ∀ a, a ∈ Ac → av a := fun a h => by obtain ⟨k, _, e⟩ := hA2 a h; exact R.av_of e
  have cv := carry_view R hA hA2 2
  have same : ∀ (j : Nat) (a : Addr), Ac[j]? = some a → ∃ k, ks[j]? = some k ∧ ad[k]? = some (some a) := fun j a e => by
    have hj : j < ks.length := by rw [← hl]; exact (List.getElem?_eq_some_iff.mp e).1
    obtain ⟨b, h1, h2⟩ := hA j ks[j] (List.getElem?_eq_getElem hj)
    rw [e] at h1; cases h1
    exact ⟨ks[j], List.getElem?_eq_getElem hj, h2⟩
  have R0 : Rep K H Ac (fun a => a ∈ Ac) (Ac.map some) ((views ks C ds).map some) (viewC ks C) (vs.map some) H := by
    have dl : DenAll K H (fun a => a ∈ Ac) (Ac.map some) H vs (views ks C ds) := dv.carry cv (okWs_all _)
    refine ⟨fun a h => ?_, fun a h => R.dom a (hA' a h), fun a xs h => R.avt a xs (hA' a h), fun i j a h1 h2 => ?_, by simp [viewC, hl], fun i a h => ads_some.mpr h, fun i a h hi => ?_, fun a o h _ => h, fun a h => h, fun i h => ?_, fun i a c h1 h2 => ?_, by simp [dl.length], fun i d h => ?_⟩
    · obtain ⟨b, hb, e⟩ := List.mem_map.mp h; cases e; exact hb
    · obtain ⟨k1, e1, g1⟩ := same i a (ads_some.mp h1)
      obtain ⟨k2, e2, g2⟩ := same j a (ads_some.mp h2)
      have e := R.nd k1 k2 a g1 g2
      subst e
      exact nodup_ix' hk e1 e2
    · have := (List.getElem?_eq_some_iff.mp (ads_some.mp h)).1
      omega
    · rw [List.getElem?_map] at h
      cases q : Ac[i]? with
      | none => rw [q] at h; cases h
      | some a => rw [q] at h; cases h
    · obtain ⟨k, e1, g1⟩ := same i a (ads_some.mp h1)
      simp only [viewC, List.getElem?_map, e1, Option.map_some, Option.some.injEq] at h2
      subst h2
      have hlt : k < C.length := by rw [← R.len]; exact (List.getElem?_eq_some_iff.mp g1).1
      have hck : C[k]? = some C[k] := List.getElem?_eq_getElem hlt
      rw [hck]
      exact (R.cells k a _ g1 hck).carry cv (Cell.okC_all _)
    · rw [List.getElem?_map] at h
      cases q : (views ks C ds)[i]? with
      | none => rw [q] at h; cases h
      | some d' =>
        rw [q] at h; cases h
        obtain ⟨v, h1, h2⟩ := dl.get q
        exact ⟨v, by rw [List.getElem?_map, h1]; rfl, h2⟩
  refine ⟨Ac, _, _, _, Qc, hl, R0, hp, fun av' v H' d Cc Rc f _ x hqc => ?_⟩
  obtain ⟨hno, hok, q3⟩ := hq d Cc (by have := Rc.len; simp [hl] at this; exact this.symm) hqc
  have keepH : ∀ a o, H a = some o → a ∉ Ac → H' a = some o := Rc.keep
  have thereH : ∀ a, H' a = none → H a = none := Rc.there
  have lenC : Cc.length = Ac.length := by have := Rc.len; simpa using this.symm
  have cellC : ∀ (j : Nat) (a : Addr), Ac[j]? = some a → ∃ c, Cc[j]? = some c ∧ CellOk K H av' (Ac.map some) H' a c := fun j a e => by
    have hj : j < Cc.length := by rw [lenC]; exact (List.getElem?_eq_some_iff.mp e).1
    exact ⟨Cc[j], List.getElem?_eq_getElem hj, Rc.cells j a _ (ads_some.mpr e) (List.getElem?_eq_getElem hj)⟩
  have memAc : ∀ a, a ∈ Ac → ∃ j, Ac[j]? = some a := fun a h => by
    obtain ⟨i, hi, e⟩ := List.mem_iff_getElem.mp h
    exact ⟨i, by rw [List.getElem?_eq_getElem hi, e]⟩
  have cbz : ∀ Hz : Hp, (∀ a, H a = none → Hz a = none) → Carry K H av' (Ac.map some) Hz av ad H' id (fun o => !o) (backG ks) := by
    intro Hz hz
    refine ⟨fun a vs o r ho hok => ?_, fun _ z => z, fun a u o r n ho hok => ?_, fun a vs r => ⟨r.1, fun z => ?_⟩, fun j a e => ?_, fun a _ n z => ?_⟩
    · have ho' : o = false := by cases o <;> simp at hok ⊢
      have hn := ho ho'
      exact ⟨⟨r.1, R.nav hn⟩, fun _ => hz a hn⟩
    · have ho' : o = false := by cases o <;> simp at hok ⊢
      have hn := ho ho'
      exact ⟨R.nav hn, fun _ => hz a hn⟩
    · by_cases hm : a ∈ Ac
      · exact r.2 (Rc.sub a (List.mem_map.mpr ⟨a, hm, rfl⟩))
      · cases e : H a with
        | none => exact R.dom a z e
        | some o =>
          have := keepH a o e hm
          rw [r.1] at this
          cases this
          exact R.avt a vs z e
    · obtain ⟨k, e1, g1⟩ := same j a (ads_some.mp e)
      simp only [backG, e1]
      exact .ptr g1
    · cases z
  have cb := cbz H0 R.there
  have fz : Fz av H av H' := fun a o h n => ⟨keepH a o h fun z => n (hA' a z), n⟩
  have cellsOut : ∀ (i : Nat) (a : Addr), ad[i]? = some (some a) → a ∈ Ac → i ∈ ks := fun i a h hm => by
    obtain ⟨k, h1, h2⟩ := hA2 a hm
    rw [R.nd i k a h h2]; exact h1
  refine q v H' _ _ ⟨R.sub, fun a h e => ?_, fun a xs h e => ?_, R.nd, by rw [putS_len]; exact R.len, R.pre, R.loc, fun a o h n => ?_, fun a h => R.there a (thereH a h), fun i h => ?_, fun i a c h1 h2 => ?_, R.slen, fun i d h => ?_⟩ ⟨fz, Pre.refl, thereH, fun _ h => h, fun _ h => .inl h, fun a o h n => keepH a o h fun z => n (by obtain ⟨k, _, e⟩ := hA2 a z; exact mem_ads e)⟩ (x.carry cb hno) (x.carry (cbz H fun _ z => z) hno) (fun e a o h => keepH a o h fun z => by subst e; rw [List.length_nil, List.length_eq_zero_iff] at hl; rw [hl] at z; simp at z) q3
  · exact R.dom a h (thereH a e)
  · by_cases hm : a ∈ Ac
    · obtain ⟨j, hj⟩ := memAc a hm
      obtain ⟨c, _, ok⟩ := cellC j a hj
      cases c with
      | lst _ => obtain ⟨_, e2, _⟩ := ok; rw [e] at e2; cases e2
      | dk _ _ => obtain ⟨_, e2, _⟩ := ok; rw [e] at e2; cases e2
      | dt _ _ => obtain ⟨_, e2, _⟩ := ok; rw [e] at e2; cases e2
      | ins _ _ _ => obtain ⟨_, _, e2, _⟩ := ok; rw [e] at e2; cases e2
      | dead => exact ok
    · cases e2 : H a with
      | none => exact R.dom a h e2
      | some o =>
        have := keepH a o e2 hm
        rw [e] at this
        cases this
        exact R.avt a xs h e2
  · refine keepH a o (R.keep a o h n) fun hm => ?_
    obtain ⟨k, h1, h2⟩ := hA2 a hm
    by_cases hk : k < A0.length
    · have e2 := R.pre k _ (List.getElem?_eq_getElem hk)
      rw [h2] at e2
      cases e2
      exact n (List.getElem_mem ..)
    · rw [R.loc k a h2 (Nat.le_of_not_lt hk)] at h; cases h
  · have hn : i ∉ ks := fun hm => by
      obtain ⟨c, h1, h2⟩ := hc i hm
      rw [R.gone i h] at h1
      cases h1
      exact h2 rfl
    rw [putS_out _ _ _ hn]
    exact R.gone i h
  · have hlt : i < C.length := by rw [← R.len]; exact (List.getElem?_eq_some_iff.mp h1).1
    by_cases hm : i ∈ ks
    · obtain ⟨j, hj, e⟩ := List.mem_iff_getElem.mp hm
      have ej : ks[j]? = some i := by rw [List.getElem?_eq_getElem hj, e]
      obtain ⟨b, g1, g2⟩ := hA j i ej
      rw [h1] at g2; cases g2
      obtain ⟨c', g3, ok⟩ := cellC j a g1
      rw [putS_in ks _ C hk ej (by rw [List.length_map]; exact (List.getElem?_eq_some_iff.mp g3).1) hlt, List.getElem?_map, g3] at h2
      cases h2
      exact ok.carry cb (hok c' (List.mem_of_getElem? g3))
    · rw [putS_out _ _ _ hm] at h2
      refine (R.cells i a c h1 h2).mono fz Pre.refl ?_
      cases e : H a with
      | none => exact absurd e (R.dom a (R.av_of h1))
      | some o => exact keepH a o e fun z => hm (cellsOut i a h1 z)
  · obtain ⟨u, h1, h2⟩ := R.slot i d h
    exact ⟨u, h1, h2.mono fz Pre.refl⟩
end
section
variable {K : PySem.W.Frag} {X : Cx} {CX : CXT} {k n : Nat} {f : Addr} {fd : FuncData} {ps : List Str} {P : PV} {x : Str} {p pos : Pos} {e : Expr} {es : List Expr} {tl : TA} {L : AV}
def eCallK (n : Nat) (kf : List D → List Nat) (P : PV) (L : AV) : EV := fun Γ C Q => L Γ C fun ds C1 => (kf ds).length = n ∧ (kf ds).Nodup ∧ (∀ k, k ∈ kf ds → ∃ c, C1[k]? = some c ∧ c ≠ Cell.dead) ∧
  P (views (kf ds) C1 ds) (viewC (kf ds) C1) fun d Cc => noold d = true ∧ (∀ c, c ∈ Cc → c.okC (fun o => !o) = true) ∧ Q (mapW id (backG (kf ds)) d) (putS (kf ds) (Cc.map (backs (kf ds))) C1)
def kf1 : List D → List Nat
  | .ptr k :: _ => [k]
  | _ => []
def eCall (P : PV) (L : AV) : EV := fun Γ C Q => L Γ C fun ds C1 => P (views [] C1 ds) [] fun d _ => (noold d && noptr d) = true ∧ Q d C1
theorem sim_call (hl : SimA K tl L) (E : XK) : SimE K (tCall (Sp3 K 0 P) [] E tl) (eCall P L) := fun H0 A0 av ad Γ C σ H Q3 Q R h q => by
  refine hl H0 A0 av ad Γ C σ H _ _ R h fun vs H1 av1 ad1 ds C1 R1 l1 dv h1 => ?_
  rw [List.append_nil]
  refine R1.call (ks := []) (Q3 := fun d C' => Q3 d C') dv List.nodup_nil (fun _ z => nomatch z) h1 (fun d Cc hC ⟨h2, h3⟩ => ?_) (fun v H' C' d R' l' x _ _ q3 => q v H' av1 ad1 d C' R' (l1.trans l') x q3) E
  simp only [Bool.and_eq_true] at h2
  refine ⟨h2.1, fun c hc => ?_, ?_⟩
  · rw [List.length_nil, List.length_eq_zero_iff] at hC
    rw [hC] at hc
    simp at hc
  · rw [mapW_np.1 d h2.2]
    exact h3
theorem sim_callK {kf : List D → List Nat} (hl : SimA K tl L) (E : XK) : SimE K (tCall (Sp3 K n P) [] E tl) (eCallK n kf P L) := fun H0 A0 av ad Γ C σ H Q3 Q R h q => by
  refine hl H0 A0 av ad Γ C σ H _ _ R h fun vs H1 av1 ad1 ds C1 R1 l1 dv ⟨h0, h1, h2, h3⟩ => ?_
  subst h0
  rw [List.append_nil]
  exact R1.call (ks := kf ds) (Q3 := fun d C' => Q3 d C') dv h1 h2 h3 (fun d Cc _ h4 => h4) (fun v H' C' d R' l' x _ _ q3 => q v H' av1 ad1 d C' R' (l1.trans l') x q3) E
theorem ve_call (F : FnOkG X.prog X.w X.K X.mg X.base CX0 k f fd ps (Sp3 K 0 P)) (hr : RoomG k X.A) (hm : X.mg x = some (.ref f)) (hk : PySem.W.keepIn X.K (.ref f) = true) (hb : Binds X.K fd ps []) (ha : VA K X (e :: es) tl L) (hg : Gl X x := by rfl)
    (hdb : (x == ("__debug__" : Str)) = false := by decide) (he : starEach (e :: es) X.env = (false, eval e X.env) :: starEach es X.env := by rfl) (hpl : (backTo pos (starEach es X.env)).any (·.1) = false := by rfl) :
    VE K X (.Call (.Name x p) (e :: es) [] pos) (tCall (Sp3 K 0 P) [] E0 tl) (eCall P L) := ⟨pe_callG F hr hg hm hk hb pass0 ha.pa hdb he hpl, sim_call ha.sim E0⟩
theorem ve_callK {kf : List D → List Nat} (F : FnOkG X.prog X.w X.K X.mg X.base CX0 k f fd ps (Sp3 K n P)) (hr : RoomG k X.A) (hm : X.mg x = some (.ref f)) (hk : PySem.W.keepIn X.K (.ref f) = true) (hb : Binds X.K fd ps []) (ha : VA K X (e :: es) tl L) (hg : Gl X x := by rfl)
    (hdb : (x == ("__debug__" : Str)) = false := by decide) (he : starEach (e :: es) X.env = (false, eval e X.env) :: starEach es X.env := by rfl) (hpl : (backTo pos (starEach es X.env)).any (·.1) = false := by rfl) :
    VE K X (.Call (.Name x p) (e :: es) [] pos) (tCall (Sp3 K n P) [] E0 tl) (eCallK n kf P L) := ⟨pe_callG F hr hg hm hk hb pass0 ha.pa hdb he hpl, sim_callK ha.sim E0⟩
end
mutual
def flatD : D → Bool
  | .non => true
  | .bl _ => true
  | .int _ => true
  | .str _ => true
  | .tup xs => flatDs xs
  | _ => false
def flatDs : List D → Bool
  | [] => true
  | x :: xs => flatD x && flatDs xs
end
mutual
theorem Den.ban {K : PySem.W.Frag} {H0 : Hp} {av : Av} {ad : Ads} {H : Hp} {p : Addr} {ws : List V} (hp : H p = some (.lst ws)) : ∀ {v : V} {d : D}, Den K H0 av ad H v d → flatD d = true → Den K H0 (fun b => av b ∨ b = p) ad H v d
  | _, _, .bad, e => by simp [flatD] at e
  | _, _, .non, _ => .non
  | _, _, .bl, _ => .bl
  | _, _, .int, _ => .int
  | _, _, .str, _ => .str
  | _, _, .lst _ _ _, e => by simp [flatD] at e
  | _, _, .tup r x, e => .tup ⟨r.1, fun z => z.elim r.2 fun z => by subst z; rw [r.1] at hp; cases hp⟩ (DenAll.ban hp x (by simpa only [flatD] using e))
  | _, _, .dk _ _ _ _ _, e => by simp [flatD] at e
  | _, _, .dt _ _ _ _ _, e => by simp [flatD] at e
  | _, _, .obj _ _ _ _, e => by simp [flatD] at e
  | _, _, .exc _ _ _ _ _, e => by simp [flatD] at e
  | _, _, .ptr _, e => by simp [flatD] at e
theorem DenAll.ban {K : PySem.W.Frag} {H0 : Hp} {av : Av} {ad : Ads} {H : Hp} {p : Addr} {ws : List V} (hp : H p = some (.lst ws)) : ∀ {vs : List V} {ds : List D}, DenAll K H0 av ad H vs ds → flatDs ds = true → DenAll K H0 (fun b => av b ∨ b = p) ad H vs ds
  | _, _, .nil, _ => .nil
  | _, _, .cons a b, e => by
    simp only [flatDs, Bool.and_eq_true] at e
    exact .cons (Den.ban hp a e.1) (DenAll.ban hp b e.2)
end
mutual
theorem flat_np : ∀ {d : D}, flatD d = true → noptr d = true ∧ okW (fun o => !o) d = true
  | .bad, e => by simp [flatD] at e
  | .non, _ => ⟨rfl, rfl⟩
  | .bl _, _ => ⟨rfl, rfl⟩
  | .int _, _ => ⟨rfl, rfl⟩
  | .str _, _ => ⟨rfl, rfl⟩
  | .tup xs, e => by
    have := flats_np (ds := xs) (by simpa only [flatD] using e)
    simpa only [noptr, okW] using this
  | .lst _ _, e => by simp [flatD] at e
  | .dk _ _ _, e => by simp [flatD] at e
  | .dt _ _ _, e => by simp [flatD] at e
  | .obj _ _ _, e => by simp [flatD] at e
  | .exc _ _ _, e => by simp [flatD] at e
  | .ptr _, e => by simp [flatD] at e
theorem flats_np : ∀ {ds : List D}, flatDs ds = true → noptrs ds = true ∧ okWs (fun o => !o) ds = true
  | [], _ => ⟨rfl, rfl⟩
  | x :: xs, e => by
    simp only [flatDs, Bool.and_eq_true] at e
    have h1 := flat_np (d := x) e.1
    have h2 := flats_np (ds := xs) e.2
    simp only [noptrs, okWs, Bool.and_eq_true]
    exact ⟨⟨h1.1, h2.1⟩, h1.2, h2.2⟩
end
end L3
namespace L3
open PySem PySem.Spec PyProof.Rows L2
section
variable {K : PySem.W.Frag} {H0 : Hp} {A0 : List Addr} {av : Av} {ad : Ads} {Γ : Slots} {C : Store} {σ : L2.St} {H H' : Hp}
theorem Rep.grow (R : Rep K H0 A0 av ad Γ C σ H) (s : ∀ a o, H a = some o → H' a = some o) {p : Addr} (n : H p = none) (e : H' p ≠ none) (no : ∀ xs, H' p ≠ some (.tup xs)) : Rep K H0 A0 (fun b => av b ∨ b = p) ad Γ C σ H' := by
  have f : Fz av H (fun b => av b ∨ b = p) H' := fun a u h na => ⟨s a u h, fun z => z.elim na fun e => ne_of_none h n e⟩
  have R' := R.same s
  exact { R' with
    sub := fun a h => .inl (R.sub a h)
    dom := fun a h => h.elim (R'.dom a) fun z => by rw [z]; exact e
    avt := fun a xs h r => h.elim (fun z => R'.avt a xs z r) fun z => by subst z; exact no xs r
    cells := fun i a c h1 h2 => by
      refine (R.cells i a c h1 h2).mono f Pre.refl ?_
      cases q : H a with
      | none => exact absurd q (R.dom a (R.av_of h1))
      | some o => exact s a o q
    slot := fun i d h => by
      obtain ⟨v, h1, h2⟩ := R.slot i d h
      exact ⟨v, h1, h2.mono f Pre.refl⟩ }
theorem Rep.poke (R : Rep K H0 A0 av ad Γ C σ H) {p : Addr} {o : HO} (hp : av p) (n0 : H0 p = none) (np : some p ∉ ad) (no : ∀ xs, o ≠ .tup xs) : Rep K H0 A0 av ad Γ C σ (upd H p o) ∧ Fz av H av (upd H p o) := by
  have f : Fz av H av (upd H p o) := fun a u h na => ⟨by rw [upd_ne (fun e => na (by rw [e]; exact hp))]; exact h, na⟩
  have ne : ∀ (i : Nat) (a : Addr), ad[i]? = some (some a) → a ≠ p := fun i a h e => np (by rw [← e]; exact mem_ads h)
  refine ⟨{ R with
    dom := fun a h e => by
      by_cases q : a = p
      · subst q; rw [upd_same] at e; cases e
      · rw [upd_ne q] at e; exact R.dom a h e
    avt := fun a xs h r => by
      by_cases q : a = p
      · subst q; rw [upd_same] at r; exact no xs (Option.some.inj r)
      · rw [upd_ne q] at r; exact R.avt a xs h r
    keep := fun a u h n => by
      have q : a ≠ p := fun e => by subst e; rw [n0] at h; cases h
      rw [upd_ne q]; exact R.keep a u h n
    there := fun a e => by
      by_cases q : a = p
      · subst q; rw [upd_same] at e; cases e
      · rw [upd_ne q] at e; exact R.there a e
    cells := fun i a c h1 h2 => (R.cells i a c h1 h2).mono f Pre.refl (upd_ne (ne i a h1))
    slot := fun i d h => by
      obtain ⟨v, h1, h2⟩ := R.slot i d h
      exact ⟨v, h1, h2.mono f Pre.refl⟩ }, f⟩
end
def wipe3 (Γ : Slots) : List Nat → Slots
  | [] => Γ
  | v :: vs => (wipe3 Γ vs).set v none
theorem wipe3_length (Γ : Slots) : ∀ vs : List Nat, (wipe3 Γ vs).length = Γ.length
  | [] => rfl
  | v :: vs => by unfold wipe3; rw [List.length_set, wipe3_length Γ vs]
theorem wipe3_some {Γ : Slots} {i : Nat} {d : D} : ∀ {vs : List Nat}, (wipe3 Γ vs)[i]? = some (some d) → Γ[i]? = some (some d) ∧ i ∉ vs
  | [], h => ⟨h, by simp⟩
  | v :: vs, h => by
    unfold wipe3 at h
    by_cases hi : v = i
    · subst hi
      by_cases hv : v < (wipe3 Γ vs).length
      · rw [List.getElem?_set_self hv] at h; cases h
      · rw [List.getElem?_eq_none (by simpa using hv)] at h; cases h
    · rw [List.getElem?_set_ne hi] at h
      obtain ⟨h1, h2⟩ := wipe3_some h
      exact ⟨h1, by simp only [List.mem_cons, not_or]; exact ⟨fun e => hi e.symm, h2⟩⟩
theorem wipe_other {σ : L2.St} {i : Nat} : ∀ {vs : List Nat}, i ∉ vs → (wipe σ vs)[i]? = σ[i]?
  | [], _ => rfl
  | v :: vs, h => by
    simp only [List.mem_cons, not_or] at h
    unfold wipe
    rw [List.getElem?_set_ne (fun e => h.1 e.symm)]
    exact wipe_other h.2
theorem wipe_set {σ : L2.St} {i : Nat} {x : Option V} : ∀ {vs : List Nat}, i ∈ vs → wipe (σ.set i x) vs = wipe σ vs
  | [], h => by simp at h
  | v :: vs, h => by
    unfold wipe
    by_cases hi : i = v
    · subst hi
      by_cases hm : i ∈ vs
      · rw [wipe_set hm]
      · have key : ∀ us : List Nat, wipe (σ.set i x) us = (wipe σ us).set i x ∨ wipe (σ.set i x) us = wipe σ us := by
          intro us
          induction us with
          | nil => exact .inl rfl
          | cons u us ih =>
            unfold wipe
            rcases ih with e | e
            · rw [e]
              by_cases hu : i = u
              · subst hu; right; rw [List.set_set]
              · left; rw [List.set_comm _ _ hu]
            · rw [e]; right; rfl
        rcases key vs with e | e
        · rw [e, List.set_set]
        · rw [e]
    · have hm : i ∈ vs := by simpa [hi] using h
      rw [wipe_set hm]
def GOwn (vs : List Nat) (g : TG) : Prop := ∀ (v : V) (σ σ0 : L2.St) (H : Hp) (Q : L2.St → Hp → Prop), wipe σ vs = wipe σ0 vs → g v σ H Q → g v σ H fun σ2 H2 => wipe σ2 vs = wipe σ0 vs ∧ Q σ2 H2
def GsOwn (vs : List Nat) (g : TGs) : Prop := ∀ (us : List V) (σ σ0 : L2.St) (H : Hp) (Q : L2.St → Hp → Prop), wipe σ vs = wipe σ0 vs → g us σ H Q → g us σ H fun σ2 H2 => wipe σ2 vs = wipe σ0 vs ∧ Q σ2 H2
theorem own_name {vs : List Nat} {i : Nat} (h : i ∈ vs) : GOwn vs (gName i) := fun v σ σ0 H Q e q => ⟨(wipe_set h).trans e, q⟩
theorem own_nil {vs : List Nat} : GsOwn vs gNil := fun us σ σ0 H Q e ⟨h, q⟩ => ⟨h, e, q⟩
theorem own_cons {vs : List Nat} {g : TG} {gs : TGs} (h : GOwn vs g) (h' : GsOwn vs gs) (mono : ∀ (v : V) (σ : L2.St) (H : Hp) (Q Q' : L2.St → Hp → Prop), (∀ σ H, Q σ H → Q' σ H) → g v σ H Q → g v σ H Q') : GsOwn vs (gCons g gs) := fun us σ σ0 H Q e ⟨v, r, e1, q⟩ =>
  ⟨v, r, e1, mono _ _ _ _ _ (fun σ2 H2 ⟨e2, q2⟩ => h' r σ2 σ0 H2 Q e2 q2) (h v σ σ0 H _ e q)⟩
theorem mono_name {i : Nat} (v : V) (σ : L2.St) (H : Hp) (Q Q' : L2.St → Hp → Prop) (h : ∀ σ H, Q σ H → Q' σ H) (q : gName i v σ H Q) : gName i v σ H Q' := h _ _ q
theorem own_tup {vs : List Nat} {n : Nat} {K : PySem.W.Frag} {gs : TGs} (h : GsOwn vs gs) : GOwn vs (gTup K n gs) := fun v σ σ0 H Q e ⟨a, xs, e1, e2, e3, q⟩ => ⟨a, xs, e1, e2, e3, h xs σ σ0 H Q e q⟩
structure VTs (K : PySem.W.Frag) (X : Cx) (ifs : List Expr) (t : TT) (B : BV) : Prop where
  pt : PTs X ifs t
  sim : SimT K t B
def bYes : BV := fun _ C Q => Q true C
def lcW (G : GV) (B : BV) (E : EV) (Γ : Slots) (ok : Store → Prop) (Q : Cell → Store → Prop) : List D → List D → Store → Prop
  | [], acc, C => Q (.lst acc) C
  | d :: ds, acc, C => G d Γ C fun Γ1 C1 => B Γ1 C1 fun k C2 => if k = true then E Γ1 C2 fun y C3 => acc.length < sizeLine ∧ ok C3 ∧ lcW G B E Γ ok Q ds (acc ++ [y]) C3 else ok C2 ∧ lcW G B E Γ ok Q ds acc C2
def srcOk (src : List Nat) (C0 C : Store) : Prop := ∀ k, k ∈ src → C[k]? = C0[k]?
def fLc (vs : List Nat) (I : IV) (G : GV) (B : BV) (E : EV) : FV := fun Γ C Q => I Γ C fun ds src C1 => lcW G B E (wipe3 Γ vs) (srcOk src C1) Q ds [] C1
section
variable {K : PySem.W.Frag} {X : Cx} {elt tg iter c : Expr} {ifs : List Expr} {scope : Scope} {own : List (Str × Nat)} {pos spos py : Pos} {wi : TI} {g : TG} {tt : TT} {te : TE} {I : IV} {G : GV} {B : BV} {E : EV} {F : FV} {x y : Str}
theorem vts_nil : VTs K X [] tYes bYes := ⟨pts_nil, fun H0 A0 av ad Γ C σ H Q3 Q R h q => q true H av ad C R Le.refl h⟩
theorem vts_one (h : VT K X c tt B) : VTs K X [c] tt B := ⟨pts_one h.pt, h.sim⟩
theorem wipe_idem {σ : L2.St} : ∀ vs us : List Nat, (∀ i, i ∈ us → i ∈ vs) → wipe (wipe σ vs) us = wipe σ vs
  | _, [], _ => rfl
  | vs, u :: us, h => by
    unfold wipe
    rw [wipe_idem vs us fun i hi => h i (List.mem_cons_of_mem _ hi)]
    have hu : u ∈ vs := h u (List.mem_cons_self ..)
    have key : ∀ ws : List Nat, u ∈ ws → (wipe σ ws).set u none = wipe σ ws := by
      intro ws
      induction ws with
      | nil => intro h; simp at h
      | cons w ws ih =>
        intro hm
        unfold wipe
        by_cases e : u = w
        · subst e; rw [List.set_set]
        · rw [List.set_comm _ _ (Ne.symm e), ih (by simpa [e] using hm)]
    have := key vs hu
    cases vs <;> exact this
theorem sim_lc {vs : List Nat} (hi : SimI K wi I) (hg : SimG K g G) (ho : GOwn vs g) (ht : SimT K tt B) (he : SimE K te E) : SimF K (tLc wi g tt te vs) (fLc vs I G B E) := by
  intro H0 A0 av ad Γ C σ H Q3 Q R h q
  refine hi H0 A0 av ad Γ C σ H _ _ R h fun J H1 av1 ad1 C1 ds src R1 l1 Y w0 p np => ?_
  have n0 : H0 p = none := R1.there p np
  have nad : some p ∉ ad1 := fun z => R1.nav np (R1.sub p z)
  let Iv : Nat → Hp → Prop := fun i H2 => i ≤ ds.length ∧ ∃ av2 ad2 C2 acc vs2, Rep K H0 A0 av2 ad2 Γ C2 σ H2 ∧ av2 p ∧ some p ∉ ad2 ∧ Le av1 ad1 H1 av2 ad2 H2 ∧ srcOk src C1 C2 ∧ H2 p = some (.lst vs2) ∧
      DenAll K H0 av2 ad2 H2 vs2 acc ∧ lcW G B E (wipe3 Γ vs) (srcOk src C1) Q3 (ds.drop i) acc C2
  have start : Iv 0 (upd H1 p (.lst [])) := by
    refine ⟨Nat.zero_le _, _, ad1, C1, [], [], R1.ban np (fun _ z => nomatch z), .inr rfl, nad, ⟨?_, Pre.refl, fun a e => ?_, fun _ h => .inl h, fun _ h => .inl h, fun a u h _ => same_upd np a u h⟩, fun _ _ => rfl, upd_same, .nil, w0⟩
    · exact fun a u h na => ⟨same_upd np a u h, fun z => z.elim na fun e => ne_of_none h np e⟩
    · by_cases h : a = p
      · subst h; exact np
      · rw [upd_ne h] at e; exact e
  refine ⟨fun i m H2 => m = ds.length - i ∧ Iv i H2, ⟨ds.length, by simp, start⟩, ?_⟩
  rintro i m H2 ⟨rfl, hil, av2, ad2, C2, acc, vs2, R2, pv2, np2, l2, ok2, hp2, da2, w2⟩
  have kp : Keeps av1 ad1 C1 H1 src ds av2 ad2 C2 H2 := by
    refine ⟨l2.fz, .inr l2.pre, fun k hk => ⟨?_, ok2 k hk⟩⟩
    cases e : ad1[k]? with
    | none =>
      have h1 := R1.len
      have h2 : C1[k]? = none := by rw [List.getElem?_eq_none_iff] at e ⊢; omega
      have h3 := ok2 k hk
      rw [h2] at h3
      rw [List.getElem?_eq_none_iff] at h3 ⊢
      have := R2.len
      omega
    | some o =>
      cases o with
      | some a => exact l2.pre k a e
      | none =>
        have h1 := R1.gone k e
        have h2 := ok2 k hk
        rw [h1] at h2
        have hlt : k < ad2.length := by rw [R2.len]; exact (List.getElem?_eq_some_iff.mp h2).1
        cases q2 : ad2[k]? with
        | none => rw [List.getElem?_eq_getElem hlt] at q2; cases q2
        | some o =>
          cases o with
          | none => rfl
          | some a => exact (R2.cells k a _ q2 h2).elim
  obtain ⟨y1, y2⟩ := Y av2 ad2 Γ C2 σ H2 i R2 kp
  by_cases hlt : i < ds.length
  · obtain ⟨hgo, hy⟩ := y1 hlt
    refine .inr ⟨hgo, Iv (i + 1), fun H' h' => ⟨ds.length - (i + 1), by omega, rfl, h'⟩, fun x H3 hx => ?_⟩
    obtain ⟨s3, d, e3, r3⟩ := hy x H3 hx
    have ed : ds.drop i = d :: ds.drop (i + 1) := by
      rw [List.drop_eq_getElem_cons hlt]
      have : ds[i] = d := by
        rw [List.getElem?_eq_getElem hlt] at e3
        exact Option.some.inj e3
      rw [this]
    rw [ed] at w2
    have R3 := R2.same s3
    have RW : Rep K H0 A0 av2 ad2 (wipe3 Γ vs) C2 (wipe σ vs) H3 := R3.slots (by rw [wipe_length, wipe3_length]; exact R3.slen) fun j d hj => by
      obtain ⟨h1, h2⟩ := wipe3_some hj
      obtain ⟨v, h3, h4⟩ := R3.slot j d h1
      exact ⟨v, by rw [wipe_other h2]; exact h3, h4⟩
    have n3 : H3 p = some (.lst vs2) := s3 p _ hp2
    have back : ∀ {av' : Av} {ad' : Ads} {C' : Store} {σ' : L2.St} {Γ' : Slots} {H' : Hp}, Rep K H0 A0 av' ad' Γ' C' σ' H' → Le av2 ad2 H3 av' ad' H' → Rep K H0 A0 av' ad' Γ C' σ H' := fun R' l' => R'.slots R3.slen fun j d hj => by
      obtain ⟨v, h3, h4⟩ := R3.slot j d hj
      exact ⟨v, h3, h4.le l'⟩
    refine ho x (wipe σ vs) σ H3 _ (wipe_idem vs vs fun _ h => h) ?_
    refine hg H0 A0 av2 ad2 (wipe3 Γ vs) C2 (wipe σ vs) H3 x d _ _ RW r3 w2 fun av4 ad4 Γ4 C4 σ4 H4 R4 l4 w4 => ?_
    refine ht H0 A0 av4 ad4 Γ4 C4 σ4 H4 _ _ R4 w4 fun k H5 av5 ad5 C5 R5 l5 w5 => ?_
    have l45 := l4.trans l5
    have l25 : Le av1 ad1 H1 av5 ad5 H5 := (l2.trans (Le.same s3)).trans l45
    have fresh : ∀ {av' : Av} {ad' : Ads} {H' : Hp}, Le av2 ad2 H3 av' ad' H' → some p ∉ ad' := fun l' z => (l'.adn p z).elim np2 fun e => by rw [n3] at e; cases e
    cases k with
    | false =>
      obtain ⟨w5, w6⟩ := w5
      exact ⟨hlt, av5, ad5, C5, acc, vs2, back R5 l45, l45.avm p pv2, fresh l45, l25, w5, l45.kp p _ n3 np2, (da2.le (Le.same s3)).le l45, w6⟩
    | true =>
      rw [if_pos rfl]
      refine he H0 A0 av5 ad5 Γ4 C5 σ4 H5 _ _ R5 w5 fun v H6 av6 ad6 dv C6 R6 l6 r6 ⟨hz, w6, w7⟩ => ?_
      have l46 := l45.trans l6
      have l26 : Le av1 ad1 H1 av6 ad6 H6 := l25.trans l6
      have pv6 : av6 p := l46.avm p pv2
      have np6 : some p ∉ ad6 := fresh l46
      have da6 : DenAll K H0 av6 ad6 H6 (vs2 ++ [v]) (acc ++ [dv]) := ((da2.le (Le.same s3)).le l46).append (.cons r6 .nil)
      obtain ⟨R7, f7⟩ := (back R6 l46).poke (o := .lst (vs2 ++ [v])) pv6 n0 np6 (fun _ z => nomatch z)
      have hl := da2.length
      refine ⟨vs2, l46.kp p _ n3 np2, by rw [hl]; exact hz, hlt, av6, ad6, C6, acc ++ [dv], vs2 ++ [v], R7, pv6, np6, ?_, w6, upd_same, da6.mono f7 Pre.refl, w7⟩
      refine ⟨l26.fz.trans f7, l26.pre, fun a e => ?_, l26.avm, l26.adn, fun a u h n => ?_⟩
      · by_cases h : a = p
        · subst h; exact np
        · rw [upd_ne h] at e; exact l26.there a e
      · rw [upd_ne (ne_of_none h np)]; exact l26.kp a u h n
  · have e : i = ds.length := by omega
    subst e
    rw [List.drop_length] at w2
    refine .inl ⟨y2 (Nat.le_refl _), ?_⟩
    have ea : av2 = fun b => (av2 b ∧ b ≠ p) ∨ b = p := by
      funext b
      refine propext ⟨fun h => ?_, fun h => h.elim (fun z => z.1) fun z => by rw [z]; exact pv2⟩
      by_cases e : b = p
      · exact .inr e
      · exact .inl ⟨h, e⟩
    have l3 := l1.trans l2
    rw [ea] at R2 l3 da2
    exact q p H2 (fun b => av2 b ∧ b ≠ p) ad2 (.lst acc) C2 R2 (fun b hb => ⟨(R2.sub b hb).elim (fun z => z.1) fun z => by rw [z] at hb; exact absurd hb np2, fun z => np2 (by rw [← z]; exact hb)⟩) (fun z => z.2 rfl) (l1.there p np) l3 ⟨vs2, hp2, da2⟩ w2
theorem vf_lc (hc : X.calm = true) (hN : X.N.Nodup) (hi : VI K X tg iter wi I) (ok : BlkOk X.N X.env.scope scope own) (ho : GOwn (own.map (·.2)) g)
    (hg : ∀ (s : Shared) (H : Hp) (C : Addr) (cl : List (Str × Addr)) (fp : List Addr), VG K (X.blk s H scope (compEnvC scope cl C X.env) fp) tg g G) (ht : ∀ (s : Shared) (H : Hp) (C : Addr) (cl : List (Str × Addr)) (fp : List Addr), VTs K (X.blk s H scope (compEnvC scope cl C X.env) fp) ifs tt B)
    (he : ∀ (s : Shared) (H : Hp) (C : Addr) (cl : List (Str × Addr)) (fp : List Addr), VE K (X.blk s H scope (compEnvC scope cl C X.env) fp) elt te E) (hs : ∀ x, foldedSetIterable iter X.env x = pure x := by intro _; rfl) :
    VF K X (.ListComp elt [⟨tg, iter, ifs, 0⟩] scope pos) (tLc wi g tt te (own.map (·.2))) (fLc (own.map (·.2)) I G B E) :=
  ⟨pe_lc hc hN hi.pi ok (fun s H C cl fp => (hg s H C cl fp).pg) (fun s H C cl fp => (ht s H C cl fp).pt) (fun s H C cl fp => (he s H C cl fp).pe) hs,
    sim_lc hi.sim (hg X.s_0 X.H_0 0 [] []).sim ho (ht X.s_0 X.H_0 0 [] []).sim (he X.s_0 X.H_0 0 [] []).sim⟩
theorem vs_setLc (i : Nat) (m : Bool) (hc : X.calm = true) (hN : X.N.Nodup) (hi : VI K X tg iter wi I) (ok : BlkOk X.N X.env.scope scope own) (ho : GOwn (own.map (·.2)) g)
    (hg : ∀ (s : Shared) (H : Hp) (C : Addr) (cl : List (Str × Addr)) (fp : List Addr), VG K (X.blk s H scope (compEnvC scope cl C X.env) fp) tg g G) (ht : ∀ (s : Shared) (H : Hp) (C : Addr) (cl : List (Str × Addr)) (fp : List Addr), VTs K (X.blk s H scope (compEnvC scope cl C X.env) fp) ifs tt B)
    (he : ∀ (s : Shared) (H : Hp) (C : Addr) (cl : List (Str × Addr)) (fp : List Addr), VE K (X.blk s H scope (compEnvC scope cl C X.env) fp) elt te E) (hy : X.N[i]? = some y := by rfl) (hyl : X.env.scope.names.lookup y = some .local := by rfl)
    (hsw : swapsWith (.ListComp elt [⟨tg, iter, ifs, 0⟩] scope pos) (some (.Name y py)) spos.line X.env = pure true := by exact sw_true rfl rfl rfl (by decide +kernel)) (hs : ∀ x, foldedSetIterable iter X.env x = pure x := by intro _; rfl) :
    VS K X (.Assign [.Name y py] (.ListComp elt [⟨tg, iter, ifs, 0⟩] scope pos) spos) (tAsg (tLc wi g tt te (own.map (·.2))) (gName i)) (sAsg (if m then eCell (fLc (own.map (·.2)) I G B E) else eFrz (fLc (own.map (·.2)) I G B E)) (gvName i)) := by
  have V := vf_lc (pos := pos) hc hN hi ok ho hg ht he hs
  refine ⟨ps_setLc hc hN hy hyl hsw hi.pi ok (fun s H C cl fp => (hg s H C cl fp).pg) (fun s H C cl fp => (ht s H C cl fp).pt) (fun s H C cl fp => (he s H C cl fp).pe) hs, ?_⟩
  refine sim_asg ?_ fun H0 A0 av ad Γ C σ H v d Q3 Q R dv h q => q av ad _ C _ H (R.store i dv) Le.refl h
  cases m with
  | true => exact V.cell.sim
  | false => exact V.frz.sim
end
end L3
namespace L2
open PySem PySem.Spec PyProof.Rows
section
variable {X : Cx} {pins : List (Addr × Obj)} {σ : St} {H : Hp} {s : Shared} {l : Addr} {xs : List V}
theorem Inv.lstR (I : Inv X pins σ H s) (hH : Rd H l (.lst xs)) : xs.length ≤ sizeLine ∧ ∃ (its : List Value) (n : Nat), Vals xs its ∧ xs.length = its.length ∧ s.heap.get? l = some { cls := .type "list", data := .seq its.toArray n } := by
  obtain ⟨z, its, n, r, e⟩ := hH.ok I.hok
  exact ⟨z, its, n, r, r.length, e⟩
def rCatR : R2 := fun x y H Q => ∃ l b xs zs, x = .ref l ∧ y = .ref b ∧ Rd H l (.lst xs) ∧ Rd H b (.lst zs) ∧ xs.length + zs.length ≤ sizeLine ∧ ∀ p, H p = none → Q (.ref p) (upd H p (.lst (xs ++ zs)))
theorem op_catR : OpR X (binaryOp .Add) rCatR := by
  intro pins s σ H x y v u Q I rx ry h
  obtain ⟨l, b, xs, zs, rfl, rfl, hH, hB, hz, q⟩ := h
  cases rx
  cases ry
  obtain ⟨z, its, n, r, hl, e⟩ := I.lstR hH
  obtain ⟨z2, its2, n2, r2, hl2, e2⟩ := I.lstR hB
  refine PySem.P.add_list e e2 ?_ (by rw [List.size_toArray, List.size_toArray]; omega)
  have ea : its.toArray ++ its2.toArray = (its ++ its2).toArray := by simp
  rw [ea]
  exact ⟨.ref _, _, I.lnew (t' := s.toks) (r.append r2) (by rw [List.length_append]; omega), rfl, q _ I.fresh⟩
end
end L2
namespace L3
open PySem PySem.Spec PyProof.Rows L2
section
variable {K : PySem.W.Frag} {X : Cx} {e a b c o : Expr} {es : List Expr} {t ta tb tc te to : TE} {E Ea Eb Ec Eo : EV} {F : FV} {B B' : BV} {tl : TA} {L : AV} {pos p apos cpos : Pos} {x name : Str} {id T : String}
def nCat : N2 := fun C x y Q => ∃ xs ys, lstOf C x = some xs ∧ lstOf C y = some ys ∧ xs.length + ys.length ≤ sizeLine ∧ Q (.lst (xs ++ ys))
theorem sf_cat : SimRF K rCatR nCat := by
  intro H0 A0 av ad Γ C σ H x y dx dy Q3 Q R d1 d2 ⟨xs, ys, e1, e2, hl, q3⟩ q
  obtain ⟨a, vs, rfl, h1, r1⟩ := R.lst d1 e1
  obtain ⟨b, us, rfl, h2, r2⟩ := R.lst d2 e2
  exact ⟨a, b, vs, us, rfl, rfl, h1, h2, by rw [r1.length, r2.length]; exact hl, fun p np => q H p _ (.lst _) (fun _ _ h => h) np noTup_lst (r1.append r2) q3⟩
def nRep : N2 := fun C x y Q => ∃ xs i, lstOf C x = some xs ∧ y = .int i ∧ -(2 ^ 63) ≤ i ∧ i < 2 ^ 63 ∧ xs.length * i.toNat ≤ sizeLine ∧ (match x with | .lst o _ => o = false | _ => True) ∧ Q (.lst (List.replicate i.toNat xs).flatten)
theorem den_rep {H0 : Hp} {av : Av} {ad : Ads} {H : Hp} {vs : List V} {ds : List D} (x : DenAll K H0 av ad H vs ds) : ∀ n, DenAll K H0 av ad H (List.replicate n vs).flatten (List.replicate n ds).flatten
  | 0 => .nil
  | n + 1 => by rw [List.replicate_succ, List.replicate_succ, List.flatten_cons, List.flatten_cons]; exact x.append (den_rep x n)
abbrev OM := Store → D → List D → (D → Store → Prop) → Prop
def SimM (K : PySem.W.Frag) (r : V → List V → Hp → VK → Prop) (f : OM) : Prop := ∀ (H0 : Hp) (A0 : List Addr) (av : Av) (ad : Ads) (Γ : Slots) (C : Store) (σ : L2.St) (H : Hp) (x : V) (vs : List V) (dx : D) (ds : List D) (Q3 : D → Store → Prop) (Q : VK), Rep K H0 A0 av ad Γ C σ H →
  Den K H0 av ad H x dx → DenAll K H0 av ad H vs ds → f C dx ds Q3 → (∀ (v : V) (H' : Hp) (C' : Store) (d : D), Rep K H0 A0 av ad Γ C' σ H' → Le av ad H av ad H' → Den K H0 av ad H' v d → Q3 d C' → Q v H') → r x vs H Q
def eMl (f : OM) (Eo : EV) (L : AV) : EV := fun Γ C Q => Eo Γ C fun x C1 => ∃ xs, lstOf C1 x = some xs ∧ L Γ C1 fun ds C2 => f C2 x ds Q
theorem sim_ml {r : V → List V → Hp → VK → Prop} {f : OM} (hs : SimM K r f) (ho : SimE K to Eo) (hl : SimA K tl L) : SimE K (tBM K "list" r to tl) (eMl f Eo L) := fun H0 A0 av ad Γ C σ H Q3 Q R h q =>
  ho H0 A0 av ad Γ C σ H _ _ R h fun x H1 av1 ad1 dx C1 R1 l1 d1 ⟨xs, e1, h1⟩ => by
    obtain ⟨p, vs, rfl, s1, _⟩ := R1.lst d1 e1
    refine ⟨.inl ⟨rfl, vs, .inl s1⟩, hl H0 A0 av1 ad1 Γ C1 σ H1 _ _ R1 h1 fun us H2 av2 ad2 ds C2 R2 l2 d2 h2 => ?_⟩
    exact hs H0 A0 av2 ad2 Γ C2 σ H2 _ us dx ds _ Q R2 (d1.le l2) d2 h2 fun v H3 C3 d R3 l3 d3 q3 => q v H3 av2 ad2 d C3 R3 ((l1.trans l2).trans l3) d3 q3
theorem ve_ml {r : V → List V → Hp → VK → Prop} {f : OM} (hK : X.K = K) (pa : PlainAttrs "list") (slot : Slot "list" name id) (hty : typeOf (.builtin id) = pure (.type "method_descriptor")) (hm : MtR X id r) (hs : SimM K r f) (ho : VE K X o to Eo) (ha : VA K X (e :: es) tl L)
    (hbase : attributeBase o name X.env (eval o X.env) = eval o X.env := by rfl)
    (hfew : ((backTo cpos (starEach (e :: es) X.env)).all (fun x => !x.1) && (backToKw cpos (keywordEach [] X.env)).all (fun x => x.1.isSome)
      && decide ((e :: es).length + ([] : List Keyword).length + (if ([] : List Keyword).isEmpty then 0 else 1) < 30)) = true := by rfl)
    (hline : (apos.endLine == cpos.line) = true := by rfl) (hst : starEach (e :: es) X.env = (false, eval e X.env) :: starEach es X.env := by rfl) (hplain : (backTo cpos (starEach es X.env)).any (·.1) = false := by rfl) :
    VE K X (.Call (.Attribute o name apos) (e :: es) [] cpos) (tBM K "list" r to tl) (eMl f Eo L) := by
  subst hK
  exact ⟨pe_bm pa slot hty hm ho.pe ha.pa hbase hfew hline hst hplain, sim_ml hs ho.sim ha.sim⟩
theorem ve_ml0 {r : V → List V → Hp → VK → Prop} {f : OM} (hK : X.K = K) (pa : PlainAttrs "list") (slot : Slot "list" name id) (hty : typeOf (.builtin id) = pure (.type "method_descriptor")) (hm : MtR X id r) (hs : SimM K r f) (ho : VE K X o to Eo)
    (hbase : attributeBase o name X.env (eval o X.env) = eval o X.env := by rfl) (hline : (apos.endLine == cpos.line) = true := by rfl) :
    VE K X (.Call (.Attribute o name apos) [] [] cpos) (tBM0 K "list" r to) (eMl f Eo aNil) := by
  subst hK
  refine ⟨pe_bm0 pa slot hty hm ho.pe hbase hline, fun H0 A0 av ad Γ C σ H Q3 Q R h q => ?_⟩
  exact (sim_ml (tl := tNil) hs ho.sim va_nil_sim) H0 A0 av ad Γ C σ H Q3 Q R h q
where va_nil_sim : SimA X.K tNil aNil := fun H0 A0 av ad Γ C σ H Q3 Q R h q => q [] H av ad [] C R Le.refl .nil h
def mAppend : OM := fun C x ds Q => ∃ (k : Nat) (xs : List D) (y : D), x = .ptr k ∧ ds = [y] ∧ C[k]? = some (.lst xs) ∧ xs.length < sizeLine ∧ Q .non (C.set k (.lst (xs ++ [y])))
theorem sm_append : SimM K rAppend mAppend := by
  intro H0 A0 av ad Γ C σ H x vs dx ds Q3 Q R d1 d2 ⟨k, xs, y, e1, e2, e3, hl, q3⟩ q
  subst e1 e2
  obtain ⟨v, rfl, r⟩ := den1 d2
  obtain ⟨p, us, rfl, hp, hu, ru⟩ := R.lstCell d1 e3
  obtain ⟨R2, l2⟩ := R.lstWrite hp e3 (ru.append (.cons r .nil))
  exact ⟨p, us, v, rfl, rfl, hu, by rw [ru.length]; exact hl, q _ _ _ _ R2 l2 .non q3⟩
def mPopAt : OM := fun C x ds Q => ∃ (k : Nat) (xs : List D) (i : Int) (j : Nat) (y : D), x = .ptr k ∧ ds = [.int i] ∧ C[k]? = some (.lst xs) ∧ -(2 ^ 63) ≤ i ∧ i < 2 ^ 63 ∧ seqIndex? i xs.length = some j ∧ xs[j]? = some y ∧ Q y (C.set k (.lst (xs.eraseIdx j)))
theorem sm_popAt : SimM K rPopAt mPopAt := by
  intro H0 A0 av ad Γ C σ H x vs dx ds Q3 Q R d1 d2 ⟨k, xs, i, j, y, e1, e2, e3, h1, h2, e4, e5, q3⟩ q
  subst e1 e2
  obtain ⟨v, rfl, r⟩ := den1 d2
  obtain ⟨p, us, rfl, hp, hu, ru⟩ := R.lstCell d1 e3
  obtain ⟨w, e6, rw'⟩ := ru.get e5
  obtain ⟨R2, l2⟩ := R.lstWrite hp e3 (ru.erase j)
  exact ⟨p, us, i, j, w, rfl, by rw [den_int r], hu, h1, h2, by rw [ru.length]; exact e4, e6, q _ _ _ _ R2 l2 (rw'.le l2) q3⟩
def mClear : OM := fun C x ds Q => ∃ (k : Nat) (xs : List D), x = .ptr k ∧ ds = [] ∧ C[k]? = some (.lst xs) ∧ Q .non (C.set k (.lst []))
theorem sm_clear : SimM K rClear mClear := by
  intro H0 A0 av ad Γ C σ H x vs dx ds Q3 Q R d1 d2 ⟨k, xs, e1, e2, e3, q3⟩ q
  subst e1 e2
  cases d2
  obtain ⟨p, us, rfl, hp, hu, ru⟩ := R.lstCell d1 e3
  obtain ⟨R2, l2⟩ := R.lstWrite hp e3 .nil
  exact ⟨p, us, rfl, rfl, hu, q _ _ _ _ R2 l2 .non q3⟩
def mReverse : OM := fun C x ds Q => ∃ (k : Nat) (xs : List D), x = .ptr k ∧ ds = [] ∧ C[k]? = some (.lst xs) ∧ Q .non (C.set k (.lst xs.reverse))
theorem sm_reverse : SimM K rReverse mReverse := by
  intro H0 A0 av ad Γ C σ H x vs dx ds Q3 Q R d1 d2 ⟨k, xs, e1, e2, e3, q3⟩ q
  subst e1 e2
  cases d2
  obtain ⟨p, us, rfl, hp, hu, ru⟩ := R.lstCell d1 e3
  obtain ⟨R2, l2⟩ := R.lstWrite hp e3 ru.reverse
  exact ⟨p, us, rfl, rfl, hu, q _ _ _ _ R2 l2 .non q3⟩
def oJoin : OM := fun C x ds Q => ∃ (s : Str) (y : D) (ys : List Str), x = .str s ∧ ds = [y] ∧ seqOf C y = some (ys.map .str) ∧ (ys.map (·.length)).sum + ys.length * s.length ≤ 16777216 ∧ Q (.str (Txt.join s ys)) C
def rJoin (K : PySem.W.Frag) : V → List V → Hp → VK → Prop := fun x xs H Q => ∃ a p, ∃ ys : List Str, x = .str a ∧ xs = [.ref p] ∧ (SqL K H p (ys.map V.str) ∨ SqT K H p (ys.map V.str)) ∧ (ys.map (·.length)).sum + ys.length * a.length ≤ 16777216 ∧ Q (.str (Txt.join a ys)) H
theorem sm_join : SimM K (rJoin K) oJoin := by
  intro H0 A0 av ad Γ C σ H x vs dx ds Q3 Q R d1 d2 ⟨s, y, ys, e1, e2, e3, hl, q3⟩ q
  subst e1 e2
  obtain ⟨v, rfl, r⟩ := den1 d2
  obtain ⟨p, us, rfl, hp, ru⟩ := R.seq r e3
  rw [den_strs ru] at hp
  exact ⟨s, p, ys, den_str d1, rfl, hp, hl, q _ _ _ _ R Le.refl .str q3⟩
def eM1 (f : OM) (Eo : EV) (E : EV) : EV := fun Γ C Q => Eo Γ C fun x C1 => (∃ s, x = .str s) ∧ E Γ C1 fun d C2 => f C2 x [d] Q
theorem ve_join (hK : X.K = K) (ho : VE K X o to Eo) (he : VE K X e te E) (hs : starEach [e] X.env = [(false, eval e X.env)] := by rfl) (hbase : attributeBase o "join" X.env (eval o X.env) = eval o X.env := by rfl) (hline : (apos.endLine == pos.line) = true := by rfl) :
    VE K X (.Call (.Attribute o "join" apos) [e] [] pos) (tM1 (rJoin K) to te) (eM1 oJoin Eo E) := by
  subst hK
  refine ⟨pe_join ho.pe he.pe hs hbase hline, fun H0 A0 av ad Γ C σ H Q3 Q R h q => ?_⟩
  refine ho.sim H0 A0 av ad Γ C σ H _ _ R h fun x H1 av1 ad1 dx C1 R1 l1 d1 ⟨⟨s, e1⟩, h1⟩ => ?_
  subst e1
  refine ⟨⟨s, den_str d1⟩, he.sim H0 A0 av1 ad1 Γ C1 σ H1 _ _ R1 h1 fun v H2 av2 ad2 d C2 R2 l2 d2 h2 => ?_⟩
  exact sm_join H0 A0 av2 ad2 Γ C2 σ H2 _ [v] _ [d] _ Q R2 (d1.le l2) (.cons d2 .nil) h2 fun v H3 C3 d R3 l3 d3 q3 => q v H3 av2 ad2 d C3 R3 ((l1.trans l2).trans l3) d3 q3
end
end L3
namespace L3
open PySem PySem.Spec PyProof.Rows L2
abbrev FnD (K : PySem.W.Frag) (x : Str) (st : Stmt) (f : Addr) (fd : FuncData) : Prop := FunD K x x (defArgs st) (defBody st) (defScope st) [] [] f fd
def Cal (P : Program) (w : World) (K : PySem.W.Frag) (mg : Str → Option Value) (base : Heap) (k : Nat) (x : Str) (st : Stmt) (ps : List Str) (n : Nat) (Pv : PV) : Prop :=
  ∃ (f : Addr) (fd : FuncData), FnOkG P w K mg base CX0 k f fd ps (Sp3 K n Pv) ∧ mg x = some (.ref f) ∧ PySem.W.keepIn K (.ref f) = true ∧ Binds K fd ps [] ∧ FnD K x st f fd
section
variable {K : PySem.W.Frag} {X : Cx} {e a b c o : Expr} {es : List Expr} {t ta tb tc te to : TE} {E Ea Eb Ec Eo : EV} {F : FV} {pos p tpos : Pos} {x : Str}
theorem pget_list (hK : X.K = K) : PGet X (rIxL K) := by
  subst hK
  intro pins s σ H x y v u Q I rx ry h
  obtain ⟨p, xs, i, z, rfl, rfl, hq, he, q⟩ := h
  cases rx
  obtain ⟨t, rfl⟩ := ry
  obtain ⟨its, r, pl, hz⟩ := I.list hq
  obtain ⟨j, h1, h2, h3, h4, h5⟩ := atI_get he
  obtain ⟨w, ew, rw'⟩ := r.get h2
  have hl := r.length
  have hn := line63
  have fin : EP X pins σ Q w s := ⟨z, H, I, rw', q⟩
  by_cases h0 : 0 ≤ i
  · have hj : i.toNat = j := by
      rw [seqIndex_of h0 h5] at h1
      exact Option.some.inj h1
    exact wpAny_getItem_list (x := w) pl.isList h0 (by omega) (by rw [hj]; simpa using ew) fin
  · have hj : (i + (its.toArray.size : Int)).toNat = j := by
      rw [seqIndex_neg (by omega) h4] at h1
      rw [List.size_toArray, ← hl]
      exact Option.some.inj h1
    exact wpAny_getItem_list_neg (x := w) pl.isList (by omega) (by rw [List.size_toArray] <;> omega) (by omega) (by rw [hj]; simpa using ew) fin
def sAugL (f : O2) (Eo Ei E : EV) : SV := fun D3 Γ C => Eo Γ C fun x C1 => Ei Γ C1 fun y C2 => ∃ (k : Nat) (xs : List D) (i : Int) (j : Nat) (d : D), x = .ptr k ∧ y = .int i ∧ C2[k]? = some (.lst xs) ∧ ixN xs.length i = some j ∧ xs[j]? = some d ∧
  E Γ C2 fun z C3 => f C3 d z fun u => C3[k]? = some (.lst xs) ∧ D3.nx Γ (C3.set k (.lst (xs.set j u)))
theorem vs_augL {op : Operator} {ti : TIp} {f : O2} (hK : X.K = K) (ho : VE K X o to Eo) (hi : VE K X a ta Ea) (hp : PIp X op ti) (hs : SimR K ti f) (h : VE K X e te E)
    (ha : ∀ ov iv new, augStore a ov iv new = (do holding [new, ov, iv] (setItem ov iv new); release [new, ov, iv] []; pure .next) := by intros; rfl) : VS K X (.AugAssign (.Subscript o a tpos) op e pos) (tAugS to ta te (rIxL K) ti rSetL) (sAugL f Eo Ea E) := by
  refine ⟨ps_augS ho.pe hi.pe (pget_list hK) h.pe hp set_list ha, fun H0 A0 av ad Γ C σ H D3 De R q l => ?_⟩
  refine ho.sim H0 A0 av ad Γ C σ H _ _ R q fun vo H1 av1 ad1 d1 C1 R1 l1 e1 h1 => ?_
  refine hi.sim H0 A0 av1 ad1 Γ C1 σ H1 _ _ R1 h1 fun vi H2 av2 ad2 d2 C2 R2 l2 e2 ⟨k, xs, i, j, d, e3, e4, e5, e6, e7, h2⟩ => ?_
  subst e3 e4
  obtain ⟨p, vs, rfl, hp', hl, r⟩ := R2.lstCell (e1.le l2) e5
  obtain ⟨u, hu, ru⟩ := r.get e7
  refine ⟨p, vs, i, u, rfl, den_int e2, SqL.of hl, by unfold atI; rw [r.length, e6]; exact hu, ?_⟩
  refine h.sim H0 A0 av2 ad2 Γ C2 σ H2 _ _ R2 h2 fun v3 H3 av3 ad3 d3 C3 R3 l3 r3 h3 => ?_
  refine hs H0 A0 av3 ad3 Γ C3 σ H3 u v3 d d3 _ _ R3 (ru.le l3) r3 h3 fun v4 H4 d4 s4 r4 ⟨e8, h4⟩ => ?_
  have R4 := R3.same s4
  obtain ⟨p2, vs2, ep, hp2, hl2, r2⟩ := R4.lstCell ((e1.le l2).le l3 |>.le (Le.same s4)) e8
  cases ep
  obtain ⟨R5, l5⟩ := R4.lstWrite hp2 e8 (r2.set r4 j)
  exact ⟨p, vs2, i, j, rfl, den_int e2, hl2, by rw [r2.length]; exact e6, l.nx av3 ad3 Γ _ σ _ R5 ((((l1.trans l2).trans l3).trans (Le.same s4)).trans l5) h4⟩
end
inductive Ty3 where
  | non | bool | int | str | list | tuple | dict
  deriving DecidableEq
def Ty3.name : Ty3 → String
  | .non => "NoneType" | .bool => "bool" | .int => "int" | .str => "str" | .list => "list" | .tuple => "tuple" | .dict => "dict"
def tyOf (C : Store) : D → Option Ty3
  | .bad => none
  | .non => some .non
  | .bl _ => some .bool
  | .int _ => some .int
  | .str _ => some .str
  | .lst _ _ => some .list
  | .tup _ => some .tuple
  | .dk _ _ _ => some .dict
  | .dt _ _ _ => none
  | .obj _ _ _ => none
  | .exc _ _ _ => none
  | .ptr k => match C[k]? with
    | some (.lst _) => some .list
    | some (.dk _ _) => some .dict
    | some (.dt _ _) => some .dict
    | _ => none
def isKind : Ty3 → Ty3 → Bool
  | .bool, .int => true
  | a, b => a = b
theorem isKind_ok : ∀ a b : Ty3, kitB a.name b.name = some (isKind a b) := by
  intro a b
  cases a <;> cases b <;> decide +kernel
section
variable {K : PySem.W.Frag} {H0 : Hp} {A0 : List Addr} {av : Av} {ad : Ads} {Γ : Slots} {C : Store} {σ : L2.St} {H : Hp}
theorem Rep.ty (R : Rep K H0 A0 av ad Γ C σ H) {v : V} {d : D} {t : Ty3} (x : Den K H0 av ad H v d) (e : tyOf C d = some t) : TyX K H v (.type t.name) := by
  cases x with
  | bad => cases e
  | non => cases e; exact .base .non
  | bl => cases e; exact .base (.bl _)
  | int => cases e; exact .base (.int _)
  | str => cases e; exact .base (.str _)
  | lst r o q =>
    cases e
    rcases r.1 with h | ⟨ob, h⟩
    · exact .base (.lst h)
    · exact .base (.frz h)
  | tup r q => cases e; exact .base (.tup r.1)
  | dk r n o k q =>
    cases e
    rcases r with h | ⟨ob, h⟩
    · exact .base (.dK h)
    · exact .fDict h
  | dt r n o k q => cases e
  | obj _ _ _ _ => cases e
  | exc _ _ _ _ _ => cases e
  | @ptr a k h =>
    simp only [tyOf] at e
    cases q : C[k]? with
    | none => rw [q] at e; cases e
    | some c =>
      rw [q] at e
      have ok := R.cells k a c h q
      cases c with
      | lst _ => cases e; obtain ⟨_, h1, _⟩ := ok; exact .base (.lst h1)
      | dk _ _ => cases e; obtain ⟨_, h1, _⟩ := ok; exact .base (.dK h1)
      | dt _ _ => cases e; obtain ⟨_, h1, _⟩ := ok; exact .base (.dT h1)
      | ins _ _ _ => cases e
      | dead => cases e
end
section
variable {K : PySem.W.Frag} {X : Cx} {e a b : Expr} {te : TE} {E : EV} {pos p p2 p3 p4 : Pos} {x y : Str} {kk : Nat}
def eIsi (ty : Ty3) (E : EV) : EV := fun Γ C Q => E Γ C fun d C1 => ∃ t, tyOf C1 d = some t ∧ Q (.bl (isKind t ty)) C1
theorem ve_isi (ty : Ty3) (hK : X.K = K) (hm : X.mg "isinstance" = none) (hx : X.mg x = none) (h : VE K X e te E) (hv : bootBuiltins x = some (.type ty.name) := by decide +kernel) (hg : Gl X "isinstance" := by rfl) (hgx : Gl X x := by rfl) (hn : x ≠ "__name__" := by decide) (hd : (x == ("__debug__" : Str)) = false := by decide)
    (h1 : starEach [e, .Name x p2] X.env = (false, eval e X.env) :: starEach [.Name x p2] X.env := by rfl) (h2 : starEach [.Name x p2] X.env = (false, eval (.Name x p2) X.env) :: starEach [] X.env := by rfl) (hpl : (backTo pos (starEach [.Name x p2] X.env)).any (·.1) = false := by rfl) :
    VE K X (.Call (.Name "isinstance" p) [e, .Name x p2] [] pos) (tCB (rIsi K) (tCons te (tCons (tC (.ty ty.name)) tNil))) (eIsi ty E) := by
  subst hK
  refine ⟨pe_callB call_isi hg hm (by decide +kernel) (pa_cons h.pe (pa_cons (pe_bltn hgx hx hv rfl hn hd) pa_nil h2) h1) (by decide) (by decide) h1 hpl, fun H0 A0 av ad Γ C σ H Q3 Q R h3 q => ?_⟩
  refine h.sim H0 A0 av ad Γ C σ H _ _ R h3 fun v H1 av1 ad1 d C1 R1 l1 d1 ⟨t, e1, q3⟩ => ?_
  exact ⟨v, .ty ty.name, .type t.name, .type ty.name, isKind t ty, rfl, .ty _, R1.ty d1 e1, kit_ty (isKind_ok t ty), q _ H1 av1 ad1 _ C1 R1 l1 .bl q3⟩
def eIsi2 (ty ty2 : Ty3) (E : EV) : EV := fun Γ C Q => E Γ C fun d C1 => ∃ t, tyOf C1 d = some t ∧ Q (.bl (isKind t ty || isKind t ty2)) C1
theorem ve_isi2 (ty ty2 : Ty3) (hK : X.K = K) (hm : X.mg "isinstance" = none) (hx : X.mg x = none) (hy : X.mg y = none) (h : VE K X e te E) (hv : bootBuiltins x = some (.type ty.name) := by decide +kernel) (hv2 : bootBuiltins y = some (.type ty2.name) := by decide +kernel) (hg : Gl X "isinstance" := by rfl) (hgx : Gl X x := by rfl) (hgy : Gl X y := by rfl)
    (hn : x ≠ "__name__" := by decide) (hd : (x == ("__debug__" : Str)) = false := by decide) (hny : y ≠ "__name__" := by decide) (hdy : (y == ("__debug__" : Str)) = false := by decide)
    (h1 : starEach [e, .Tuple [.Name x p2, .Name y p3] kk p4] X.env = (false, eval e X.env) :: starEach [.Tuple [.Name x p2, .Name y p3] kk p4] X.env := by rfl) (h2 : starEach [.Tuple [.Name x p2, .Name y p3] kk p4] X.env = (false, eval (.Tuple [.Name x p2, .Name y p3] kk p4) X.env) :: starEach [] X.env := by rfl)
    (h3 : starEach [.Name x p2, .Name y p3] X.env = (false, eval (.Name x p2) X.env) :: starEach [.Name y p3] X.env := by rfl) (h4 : starEach [.Name y p3] X.env = (false, eval (.Name y p3) X.env) :: starEach [] X.env := by rfl)
    (hpl : (backTo pos (starEach [.Tuple [.Name x p2, .Name y p3] kk p4] X.env)).any (·.1) = false := by rfl) :
    VE K X (.Call (.Name "isinstance" p) [e, .Tuple [.Name x p2, .Name y p3] kk p4] [] pos) (tCB (rIsiT K) (tCons te (tCons (tTup (tCons (tC (.ty ty.name)) (tCons (tC (.ty ty2.name)) tNil))) tNil))) (eIsi2 ty ty2 E) := by
  subst hK
  refine ⟨pe_callB call_isiT hg hm (by decide +kernel) (pa_cons h.pe (pa_cons (pe_tup (pa_cons (pe_bltn hgx hx hv rfl hn hd) (pa_cons (pe_bltn hgy hy hv2 rfl hny hdy) pa_nil h4) h3)) pa_nil h2) h1) (by decide) (by decide) h1 hpl, fun H0 A0 av ad Γ C σ H Q3 Q R h3 q => ?_⟩
  refine h.sim H0 A0 av ad Γ C σ H _ _ R h3 fun v H1 av1 ad1 d C1 R1 l1 d1 ⟨t, e1, q3⟩ => ?_
  refine ⟨by show 2 ≤ sizeLine; decide, fun tp np => ?_⟩
  have R2 := R1.new (o := .tup [.ty ty.name, .ty ty2.name]) np
  refine ⟨v, tp, [.ty ty.name, .ty ty2.name], .type t.name, [.type ty.name, .type ty2.name], isKind t ty || isKind t ty2, rfl, upd_same, .cons (.ty _) (.cons (.ty _) .nil), R2.ty (d1.le (Le.new np)) e1, ?_, q _ _ av1 ad1 _ C1 R2 (l1.trans (Le.new np)) .bl q3⟩
  have k1 : PySem.W.kitOne X.K (.type t.name) (.type ty.name) = some (isKind t ty) := kit_ty (isKind_ok t ty)
  have k2 : PySem.W.kitOne X.K (.type t.name) (.type ty2.name) = some (isKind t ty2) := kit_ty (isKind_ok t ty2)
  simp only [PySem.W.kitAny, k1, k2]
  cases isKind t ty <;> cases isKind t ty2 <;> rfl
end
end L3
namespace L2
open PySem PySem.Spec PyProof.Rows
section
variable {X : Cx}
def rRepr (K : PySem.W.Frag) : List V → Hp → VK → Prop := fun xs H Q => ∃ (a : Addr) (d : PyData), xs = [.ref a] ∧ Dp K H (.ref a) d ∧ d.showable = true ∧ d.hasDict = false ∧ d.depth ≤ 60 ∧ d.shown.length ≤ sizeLine ∧ Q (.str d.shown) H
theorem call_repr (hg : X.A.guards = some []) (hu : X.A.units + 65 < cLine) : CallR X (.builtin "repr") (rRepr X.K) := by
  intro pins s σ H xs us Q I r h
  obtain ⟨a, d, rfl, hd, h1, h2, h3, h4, q⟩ := h
  cases r with
  | cons rx rt =>
    cases rt
    cases rx
    obtain ⟨as, r1⟩ := Dp.reads I d _ _ hd rfl
    refine PySem.repr_of_reads' r1 h1 (PySem.PyData.noDict_hsm h2) hg (by omega) (fun b o e => e) (fun h' u tk hk => ?_) h4
    exact ⟨.str _, H, I.kept hk, ⟨_, rfl⟩, q⟩
end
end L2
namespace L3
open PySem PySem.Spec PyProof.Rows L2
def fCall (P : PV) (L : AV) : FV := fun Γ C Q => L Γ C fun ds C1 => P (views [] C1 ds) [] fun d _ => ∃ xs, d = .lst false xs ∧ flatDs xs = true ∧ Q (.lst xs) C1
section
variable {K : PySem.W.Frag} {X : Cx} {k n : Nat} {f : Addr} {fd : FuncData} {ps : List Str} {P : PV} {x : Str} {p pos : Pos} {e : Expr} {es : List Expr} {tl : TA} {L : AV}
theorem sim_fcall (hl : SimA K tl L) (E : XK) : SimF K (tCall (Sp3 K 0 P) [] E tl) (fCall P L) := fun H0 A0 av ad Γ C σ H Q3 Q R h q => by
  refine hl H0 A0 av ad Γ C σ H _ _ R h fun vs H1 av1 ad1 ds C1 R1 l1 dv h1 => ?_
  rw [List.append_nil]
  refine R1.call (ks := []) (Q3 := fun d C' => C' = C1 ∧ ∃ xs, d = .lst false xs ∧ flatDs xs = true ∧ Q3 (.lst xs) C1) dv List.nodup_nil (fun _ z => nomatch z) h1 (fun d Cc hC ⟨xs, h2, h3, h4⟩ => ?_) (fun v H' C' d R' l' x x2 s ⟨eC, xs, e2, e3, q3⟩ => ?_) E
  · subst h2
    have np := flats_np h3
    refine ⟨by simp only [noold, okW, Bool.not_false, Bool.true_and]; exact np.2, fun c hc => ?_, ?_⟩
    · rw [List.length_nil, List.length_eq_zero_iff] at hC
      rw [hC] at hc
      simp at hc
    · rw [mapW_np.1 (.lst false xs) (by simpa only [noptr] using np.1)]
      exact ⟨rfl, xs, rfl, h3, h4⟩
  · subst e2 eC
    cases x2 with
    | @lst a vs' o ds' r2 o2 y2 =>
      obtain ⟨n1, hp⟩ := o2 rfl
      cases x with
      | @lst a vs'' o ds' r o y =>
        have e : vs'' = vs' := by
          have h1 := (o rfl).2
          rw [hp] at h1
          cases h1
          rfl
        subst e
        refine q a H' av1 ad1 (.lst xs) _ (R1.grow (s rfl) n1 (by rw [hp]; simp) fun ys z => by rw [hp] at z; cases z) (fun b hb => R1.sub b hb) (fun z => R1.dom _ z n1) (l1.there a n1) (l1.trans ⟨?_, Pre.refl, l'.there, fun _ z => .inl z, fun _ z => .inl z, fun a o h _ => s rfl a o h⟩) ⟨vs'', hp, y.ban hp e3⟩ q3
        exact fun b o h n => ⟨s rfl b o h, fun z => z.elim n fun e => ne_of_none h n1 e⟩
theorem vf_call (F : FnOkG X.prog X.w X.K X.mg X.base CX0 k f fd ps (Sp3 K 0 P)) (hr : RoomG k X.A) (hm : X.mg x = some (.ref f)) (hk : PySem.W.keepIn X.K (.ref f) = true) (hb : Binds X.K fd ps []) (ha : VA K X (e :: es) tl L) (hg : Gl X x := by rfl)
    (hdb : (x == ("__debug__" : Str)) = false := by decide) (he : starEach (e :: es) X.env = (false, eval e X.env) :: starEach es X.env := by rfl) (hpl : (backTo pos (starEach es X.env)).any (·.1) = false := by rfl) :
    VF K X (.Call (.Name x p) (e :: es) [] pos) (tCall (Sp3 K 0 P) [] E0 tl) (fCall P L) := ⟨pe_callG F hr hg hm hk hb pass0 ha.pa hdb he hpl, sim_fcall ha.sim E0⟩
end
section
variable {K : PySem.W.Frag} {X : Cx} {e a b c o : Expr} {es : List Expr} {t ta tb tc te to : TE} {E Ea Eb Ec Eo : EV} {F : FV} {B B' : BV} {tl : TA} {L : AV} {pos p apos cpos : Pos} {x name : Str} {id T : String}
def oRepr : ON := fun C ds Q => ∃ (d : D) (xs : List D) (p : PyData), ds = [d] ∧ seqOf C d = some xs ∧ pyD C d = some p ∧ p.showable = true ∧ p.hasDict = false ∧ p.depth ≤ 60 ∧ p.shown.length ≤ sizeLine ∧ Q (.str p.shown)
theorem sc_repr : SimC K (rRepr K) oRepr := by
  intro H0 A0 av ad Γ C σ H vs ds Q3 Q R d1 ⟨d, xs, p, e1, e2, e3, h1, h2, h3, h4, q3⟩ q
  subst e1
  obtain ⟨v, rfl, r⟩ := den1 d1
  obtain ⟨a, us, rfl, _, _⟩ := R.seq r e2
  exact ⟨a, p, rfl, R.dp r e3, h1, h2, h3, h4, q _ H _ (fun _ _ h => h) .str q3⟩
theorem call_reprA (hK : X.K = K) (hg : X.A.guards = some []) (hu : X.A.units + 65 < cLine) : CallR X (.builtin "repr") (rRepr K) := by subst hK; exact call_repr hg hu
def fSplit (Eo E : EV) : FV := fun Γ C Q => Eo Γ C fun x C1 => ∃ a : Str, x = .str a ∧ E Γ C1 fun y C2 => ∃ b : Str, y = .str b ∧ (b.length == 0) = false ∧ a.length + 2 ≤ sizeLine ∧ Q (.lst ((Txt.split a b).map .str)) C2
theorem vf_split (ho : VE K X o to Eo) (he : VE K X e te E) (hs : starEach [e] X.env = [(false, eval e X.env)] := by rfl) (hbase : attributeBase o "split" X.env (eval o X.env) = eval o X.env := by rfl) (hline : (apos.endLine == pos.line) = true := by rfl) :
    VF K X (.Call (.Attribute o "split" apos) [e] [] pos) (tM1 (fun x xs H Q => ∃ a b, x = .str a ∧ xs = [.str b] ∧ (b.length == 0) = false ∧ a.length + 2 ≤ sizeLine ∧ rNewStrs (Txt.split a b) H Q) to te) (fSplit Eo E) := by
  refine ⟨pe_split ho.pe he.pe hs hbase hline, fun H0 A0 av ad Γ C σ H Q3 Q R h q => ?_⟩
  refine ho.sim H0 A0 av ad Γ C σ H _ _ R h fun v H1 av1 ad1 d C1 R1 l1 d1 ⟨a, e1, h1⟩ => ?_
  subst e1
  refine ⟨⟨a, den_str d1⟩, he.sim H0 A0 av1 ad1 Γ C1 σ H1 _ _ R1 h1 fun u H2 av2 ad2 d2 C2 R2 l2 d3 ⟨b, e2, hb, hz, h2⟩ => ?_⟩
  subst e2
  exact ⟨a, b, den_str d1, by rw [den_str d3], hb, hz, fun p np => fin_new R2 (l1.trans l2) (fun _ _ h => h) np noTup_lst (c := .lst _) strs_den h2 q⟩
end
end L3
namespace L3
open PySem PySem.Spec PyProof.Rows L2
section
variable {Γ : Slots} {C : Store} {Q : D → Store → Prop} {Qb : Bool → Store → Prop} {Ql : List D → Store → Prop} {Qc : Cell → Store → Prop} {Qs : Slots → Store → Prop} {Qi : List D → List Nat → Store → Prop} {Qo : Option Int → Store → Prop} {q : D → Prop} {qc : Cell → Prop} {E Ea Eb Ec : EV} {F : FV} {B B' : BV} {L : AV} {T U : SV} {De : En} {G : GV} {Gs : GVs} {I : IV} {Lo Hi : OV} {f f' : O2} {P : PV} {d x y : D} {ds : List D} {i j n : Nat} {neg b : Bool} {c : Cell}
@[simp] theorem u_eFrz : eFrz F Γ C Q = F Γ C fun c C' => Q c.frz C' := rfl
@[simp] theorem u_eCell : eCell F Γ C Q = F Γ C fun c C' => Q (.ptr C'.length) (C' ++ [c]) := rfl
@[simp] theorem u_frz {xs : List D} : (Cell.lst xs).frz = .lst false xs := rfl
@[simp] theorem u_eVar : eVar i Γ C Q = ∃ d, Γ[i]? = some (some d) ∧ Q d C := rfl
@[simp] theorem u_eC : eC d Γ C Q = Q d C := rfl
@[simp] theorem u_eBin : eBin f Ea Eb Γ C Q = Ea Γ C fun x C1 => Eb Γ C1 fun y C2 => f C2 x y fun z => Q z C2 := rfl
@[simp] theorem u_fBin {f : N2} : fBin f Ea Eb Γ C Qc = Ea Γ C fun x C1 => Eb Γ C1 fun y C2 => f C2 x y fun z => Qc z C2 := rfl
@[simp] theorem u_eUn {f : O1} : eUn f Ea Γ C Q = Ea Γ C fun x C1 => f C1 x fun z => Q z C1 := rfl
@[simp] theorem u_oI {g : Int → Int → D} {k l : Int} : oI g C (.int k) (.int l) q = q (g k l) := by simp [oI]
@[simp] theorem u_oIc {cc : Int → Int → Prop} {g : Int → Int → D} {k l : Int} : oIc cc g C (.int k) (.int l) q = (cc k l ∧ q (g k l)) := by simp [oIc]
@[simp] theorem u_oNeg {k : Int} : oNeg C (.int k) q = q (.int (-k)) := by simp [oNeg]
@[simp] theorem u_eqI {k l : Int} : oEq neg C (.int k) (.int l) q = q (.bl (neg != decide (k = l))) := rfl
@[simp] theorem u_eqS {k l : Str} : oEq neg C (.str k) (.str l) q = q (.bl (neg != decide (k = l))) := rfl
@[simp] theorem u_eqB {k l : Bool} : oEq neg C (.bl k) (.bl l) q = q (.bl (neg != decide (k = l))) := rfl
@[simp] theorem u_eqL {o o' : Bool} {xs ys : List D} : oEq neg C (.lst o xs) (.lst o' ys) q = ∃ p r, pyD C (.lst o xs) = some p ∧ pyD C (.lst o' ys) = some r ∧ SeqAt.shaped p = true ∧ SeqAt.shaped r = true ∧ q (.bl (neg != PyData.eqv p r)) := rfl
@[simp] theorem u_isN : oIsN neg C x .non q = ∃ b, isNon x = some b ∧ q (.bl (neg != b)) := by simp [oIsN]
@[simp] theorem u_isNon0 : isNon .non = some true := rfl
@[simp] theorem u_isNonI {k : Int} : isNon (.int k) = some false := rfl
@[simp] theorem u_isNonB : isNon (.bl b) = some false := rfl
@[simp] theorem u_isNonS {s : Str} : isNon (.str s) = some false := rfl
@[simp] theorem u_isNonL {o : Bool} {xs : List D} : isNon (.lst o xs) = some false := rfl
@[simp] theorem u_isNonT {xs : List D} : isNon (.tup xs) = some false := rfl
@[simp] theorem u_isNonP : isNon (.ptr i) = some false := rfl
@[simp] theorem u_bB : bB E Γ C Qb = E Γ C fun d C' => ∃ k, d = .bl k ∧ Qb k C' := rfl
@[simp] theorem u_bAnd : bAnd B B' Γ C Qb = B Γ C fun k C' => if k = true then B' Γ C' Qb else Qb false C' := rfl
@[simp] theorem u_bOr : bOr B B' Γ C Qb = B Γ C fun k C' => if k = true then Qb true C' else B' Γ C' Qb := rfl
@[simp] theorem u_bNot : bNot B Γ C Qb = B Γ C fun k C' => Qb (!k) C' := rfl
@[simp] theorem u_bYes : bYes Γ C Qb = Qb true C := rfl
@[simp] theorem u_eAnd : eAnd Ea Eb Γ C Q = Ea Γ C fun d C' => ∃ k, d = .bl k ∧ if k = true then Eb Γ C' Q else Q (.bl false) C' := rfl
@[simp] theorem u_eNot : eNot Ea Γ C Q = Ea Γ C fun d C' => ∃ k, d = .bl k ∧ Q (.bl (!k)) C' := rfl
@[simp] theorem u_eIf : eIf B Ea Eb Γ C Q = B Γ C fun k C' => if k = true then Ea Γ C' Q else Eb Γ C' Q := rfl
@[simp] theorem u_eChain : eChain f f' Ea Eb Ec Γ C Q = Ea Γ C fun x C1 => Eb Γ C1 fun y C2 => f C2 x y fun z => ∃ k, z = .bl k ∧ if k = true then Ec Γ C2 fun w C3 => f' C3 y w fun u => Q u C3 else Q (.bl false) C2 := rfl
@[simp] theorem u_aNil : aNil Γ C Ql = Ql [] C := rfl
@[simp] theorem u_aCons : aCons E L Γ C Ql = E Γ C fun d C1 => L Γ C1 fun ds C2 => Ql (d :: ds) C2 := rfl
@[simp] theorem u_eTup : eTup L Γ C Q = L Γ C fun ds C1 => ds.length ≤ sizeLine ∧ Q (.tup ds) C1 := rfl
@[simp] theorem u_fLst : fLst L Γ C Qc = L Γ C fun ds C1 => ds.length ≤ sizeLine ∧ Qc (.lst ds) C1 := rfl
@[simp] theorem u_eCB {f : ON} : eCB f L Γ C Q = L Γ C fun ds C1 => f C1 ds fun z => Q z C1 := rfl
@[simp] theorem u_fCB {f : NN} : fCB f L Γ C Qc = L Γ C fun ds C1 => f C1 ds fun z => Qc z C1 := rfl
@[simp] theorem u_oNone : oNone Γ C Qo = Qo none C := rfl
@[simp] theorem u_oSome : oSome E Γ C Qo = E Γ C fun d C1 => ∃ i, d = .int i ∧ Qo (some i) C1 := rfl
@[simp] theorem u_fSlL : fSlL Ea Lo Hi Γ C Qc = Ea Γ C fun x C1 => Lo Γ C1 fun l C2 => Hi Γ C2 fun u C3 => ∃ xs, lstOf C3 x = some xs ∧ Qc (.lst (cutD xs l u)) C3 := rfl
@[simp] theorem u_sNext : sNext De Γ C = De.nx Γ C := rfl
@[simp] theorem u_sSeq : sSeq T U De Γ C = T { De with nx := U De } Γ C := rfl
@[simp] theorem u_sNever : sNever De Γ C = False := rfl
@[simp] theorem u_sDrop : sDrop E De Γ C = E Γ C fun _ C' => De.nx Γ C' := rfl
@[simp] theorem u_sRet : sRet E De Γ C = E Γ C De.rt := rfl
@[simp] theorem u_sIf : sIf B T U De Γ C = B Γ C fun k C' => if k = true then T De Γ C' else U De Γ C' := rfl
@[simp] theorem u_gvName : gvName i d Γ C Qs = Qs (Γ.set i (some d)) C := rfl
@[simp] theorem u_gvNil : gvNil ds Γ C Qs = (ds = [] ∧ Qs Γ C) := rfl
@[simp] theorem u_gvCons : gvCons G Gs ds Γ C Qs = ∃ d r, ds = d :: r ∧ G d Γ C fun Γ' C' => Gs r Γ' C' Qs := rfl
@[simp] theorem u_gvTup : gvTup n Gs d Γ C Qs = ∃ ds, d = .tup ds ∧ ds.length = n ∧ Gs ds Γ C Qs := rfl
@[simp] theorem u_sAsg : sAsg E G De Γ C = E Γ C fun d C1 => G d Γ C1 De.nx := rfl
@[simp] theorem u_sPar {i j : Nat} : sPar i j L De Γ C = L Γ C fun ds C1 => ∃ d d', ds = [d, d'] ∧ De.nx ((Γ.set i (some d)).set j (some d')) C1 := rfl
@[simp] theorem u_eMl {g : OM} : eMl g E L Γ C Q = E Γ C fun x C1 => ∃ xs, lstOf C1 x = some xs ∧ L Γ C1 fun ds C2 => g C2 x ds Q := rfl
@[simp] theorem u_eM1 {g : OM} : eM1 g Ea Eb Γ C Q = Ea Γ C fun x C1 => (∃ s, x = .str s) ∧ Eb Γ C1 fun d C2 => g C2 x [d] Q := rfl
@[simp] theorem u_fSplit : fSplit Ea Eb Γ C Qc = Ea Γ C fun x C1 => ∃ a : Str, x = .str a ∧ Eb Γ C1 fun y C2 => ∃ b : Str, y = .str b ∧ (b.length == 0) = false ∧ a.length + 2 ≤ sizeLine ∧ Qc (.lst ((Txt.split a b).map .str)) C2 := rfl
@[simp] theorem u_eCall : eCall P L Γ C Q = L Γ C fun ds C1 => P (views [] C1 ds) [] fun d _ => (noold d && noptr d) = true ∧ Q d C1 := rfl
@[simp] theorem u_fCall : fCall P L Γ C Qc = L Γ C fun ds C1 => P (views [] C1 ds) [] fun d _ => ∃ xs, d = .lst false xs ∧ flatDs xs = true ∧ Qc (.lst xs) C1 := rfl
@[simp] theorem u_eIsi {ty : Ty3} : eIsi ty E Γ C Q = E Γ C fun d C1 => ∃ t, tyOf C1 d = some t ∧ Q (.bl (isKind t ty)) C1 := rfl
@[simp] theorem u_eIsi2 {ty ty2 : Ty3} : eIsi2 ty ty2 E Γ C Q = E Γ C fun d C1 => ∃ t, tyOf C1 d = some t ∧ Q (.bl (isKind t ty || isKind t ty2)) C1 := rfl
@[simp] theorem u_rt {nn : Nat} {Q3 : D → Store → Prop} : (enF nn Q3).rt = fun d C => Q3 (fin nn C d) (finS nn C) := rfl
@[simp] theorem u_nx {nn : Nat} {Q3 : D → Store → Prop} : (enF nn Q3).nx = fun _ C => Q3 .non (finS nn C) := rfl
end
theorem mapWs_ints {h : Bool → Bool} {g : Nat → D} : ∀ l : List Int, mapWs h g (l.map .int) = l.map .int
  | [] => rfl
  | _ :: l => by simp only [List.map_cons, mapWs, mapW, mapWs_ints l]
theorem mapWs_strs {h : Bool → Bool} {g : Nat → D} : ∀ l : List Str, mapWs h g (l.map .str) = l.map .str
  | [] => rfl
  | _ :: l => by simp only [List.map_cons, mapWs, mapW, mapWs_strs l]
theorem okWs_ints {h : Bool → Bool} : ∀ l : List Int, okWs h (l.map .int) = true
  | [] => rfl
  | _ :: l => by simp only [List.map_cons, okWs, okW, okWs_ints l, Bool.and_true]
theorem noptrs_ints : ∀ l : List Int, noptrs (l.map .int) = true
  | [] => rfl
  | _ :: l => by simp only [List.map_cons, noptrs, noptr, noptrs_ints l, Bool.and_true]
theorem lcW_run {G : GV} {B : BV} {E : EV} {Γ : Slots} {ok : Store → Prop} {Q : Cell → Store → Prop} (I : List D → List D → Store → Prop)
    (step : ∀ d ds acc C, I (d :: ds) acc C → ∀ R : List D → Store → Prop, (∀ acc' C', I ds acc' C' → R acc' C') →
      G d Γ C fun Γ1 C1 => B Γ1 C1 fun k C2 => if k = true then E Γ1 C2 fun y C3 => acc.length < sizeLine ∧ ok C3 ∧ R (acc ++ [y]) C3 else ok C2 ∧ R acc C2)
    (stop : ∀ acc C, I [] acc C → Q (.lst acc) C) : ∀ ds acc C, I ds acc C → lcW G B E Γ ok Q ds acc C
  | [], acc, C, h => stop acc C h
  | d :: ds, acc, C, h => step d ds acc C h _ fun acc' C' h' => lcW_run I step stop ds acc' C' h'
theorem forW_run {G : GV} {T : SV} {De : En} (I : List D → Slots → Store → Prop)
    (step : ∀ d ds Γ C, I (d :: ds) Γ C → ∀ R : Slots → Store → Prop, (∀ Γ' C', I ds Γ' C' → R Γ' C') → G d Γ C fun Γ1 C1 => T { De with nx := R, ct := R, bk := De.nx } Γ1 C1)
    (stop : ∀ Γ C, I [] Γ C → De.nx Γ C) : ∀ ds Γ C, I ds Γ C → forW G T De ds Γ C
  | [], Γ, C, h => stop Γ C h
  | d :: ds, Γ, C, h => step d ds Γ C h _ fun Γ' C' h' => forW_run I step stop ds Γ' C' h'
theorem lc_map {G : GV} {E : EV} {Γ : Slots} {ok : Store → Prop} {Q : Cell → Store → Prop} {C : Store} (f : D → D) (ds : List D) (hok : ok C) (hl : ds.length ≤ sizeLine)
    (h : ∀ d, d ∈ ds → ∀ R : D → Store → Prop, R (f d) C → G d Γ C fun Γ1 C1 => E Γ1 C1 R) (q : Q (.lst (ds.map f)) C) : lcW G bYes E Γ ok Q ds [] C := by
  refine lcW_run (fun r acc C' => C' = C ∧ ∃ p, ds = p ++ r ∧ acc = p.map f) (fun d r acc C' ⟨e, p, e1, e2⟩ R hR => ?_) (fun acc C' ⟨e, p, e1, e2⟩ => ?_) ds [] C ⟨rfl, [], rfl, rfl⟩
  · subst e e2
    refine h d (by rw [e1]; simp) _ ⟨?_, hok, hR _ _ ⟨rfl, p ++ [d], by rw [e1]; simp, by simp⟩⟩
    rw [e1] at hl
    simp at hl ⊢
    omega
  · subst e e2
    rw [List.append_nil] at e1
    subst e1
    exact q
theorem lc_filter {G : GV} {B : BV} {E : EV} {Γ : Slots} {ok : Store → Prop} {Q : Cell → Store → Prop} {C : Store} (t : D → Bool) (f : D → D) (ds : List D) (hok : ok C) (hl : ds.length ≤ sizeLine)
    (h : ∀ d, d ∈ ds → ∀ R : D → Store → Prop, ∀ R' : Store → Prop, (t d = true → R (f d) C) → (t d = false → R' C) → G d Γ C fun Γ1 C1 => B Γ1 C1 fun k C2 => if k = true then E Γ1 C2 R else R' C2) (q : Q (.lst ((ds.filter t).map f)) C) : lcW G B E Γ ok Q ds [] C := by
  refine lcW_run (fun r acc C' => C' = C ∧ ∃ p, ds = p ++ r ∧ acc = (p.filter t).map f) (fun d r acc C' ⟨e, p, e1, e2⟩ R hR => ?_) (fun acc C' ⟨e, p, e1, e2⟩ => ?_) ds [] C ⟨rfl, [], rfl, rfl⟩
  · subst e e2
    refine h d (by rw [e1]; simp) _ _ (fun ht => ⟨?_, hok, hR _ _ ⟨rfl, p ++ [d], by rw [e1]; simp, by simp [List.filter_append, ht]⟩⟩) (fun ht => ⟨hok, hR _ _ ⟨rfl, p ++ [d], by rw [e1]; simp, by simp [List.filter_append, ht]⟩⟩)
    have := List.length_filter_le t p
    rw [e1] at hl
    simp at hl ⊢
    omega
  · subst e e2
    rw [List.append_nil] at e1
    subst e1
    exact q
end L3
namespace L3
open PySem PySem.Spec PyProof.Rows L2
section
variable {K : PySem.W.Frag} {X : Cx} {e a b c o : Expr} {es : List Expr} {t ta tb tc te to : TE} {E Ea Eb Ec Eo : EV} {F : FV} {pos p p2 p3 p4 : Pos}
def oIxA : O2 := fun C x y Q => match x with
  | .tup xs => ∃ i d, y = .int i ∧ atI xs i = some d ∧ Q d
  | _ => oIxL C x y Q
@[simp] theorem u_ixAT {C : Store} {xs : List D} {y : D} {q : D → Prop} : oIxA C (.tup xs) y q = ∃ i d, y = .int i ∧ atI xs i = some d ∧ q d := rfl
@[simp] theorem u_ixAL {C : Store} {b : Bool} {xs : List D} {y : D} {q : D → Prop} : oIxA C (.lst b xs) y q = oIxL C (.lst b xs) y q := rfl
theorem sf_rep : SimRF K rRep nRep := by
  intro H0 A0 av ad Γ C σ H x y dx dy Q3 Q R d1 d2 ⟨xs, i, e1, e2, h1, h2, hl, ho, q3⟩ q
  subst e2
  have hx : ∃ a vs, x = .ref a ∧ H a = some (.lst vs) ∧ DenAll K H0 av ad H vs xs := by
    cases d1 with
    | lst r o y =>
      have e : _ = xs := Option.some.inj e1
      subst e
      exact ⟨_, _, rfl, (o ho).2, y⟩
    | @ptr a k h =>
      obtain ⟨v, vs, e3, e4, e5⟩ := R.lst (.ptr h) e1
      simp only [lstOf] at e1
      cases q2 : C[k]? with
      | none => rw [q2] at e1; cases e1
      | some c =>
        rw [q2] at e1
        cases c with
        | lst ys =>
          cases e1
          obtain ⟨vs, e6, r6⟩ := R.cells k a _ h q2
          exact ⟨a, vs, rfl, e6, r6⟩
        | _ => cases e1
    | _ => cases e1
  obtain ⟨a, vs, rfl, hH, r⟩ := hx
  exact ⟨a, i, vs, rfl, den_int d2, hH, h1, h2, by rw [r.length]; exact hl, fun p np => q H p _ (.lst _) (fun _ _ h => h) np noTup_lst (den_rep r _) q3⟩
theorem op_repR : OpR X (binaryOp .Mult) rRep := op_rep
def mRemove : OM := fun C x ds Q => ∃ (k : Nat) (ns : List Int) (z : Int) (j : Nat), x = .ptr k ∧ ds = [.int z] ∧ C[k]? = some (.lst (ns.map .int)) ∧ ns[j]? = some z ∧ (∀ m : Nat, m < j → ns[m]? ≠ some z) ∧ Q .non (C.set k (.lst ((ns.eraseIdx j).map .int)))
theorem sm_remove : SimM K rRemI mRemove := by
  intro H0 A0 av ad Γ C σ H x vs dx ds Q3 Q R d1 d2 ⟨k, ns, z, j, e1, e2, e3, h1, h2, q3⟩ q
  subst e1 e2
  obtain ⟨v, rfl, r⟩ := den1 d2
  obtain ⟨p, us, rfl, hp, hu, ru⟩ := R.lstCell d1 e3
  rw [den_ints ru] at hu
  obtain ⟨R2, l2⟩ := R.lstWrite hp e3 (us := (ns.eraseIdx j).map V.int) (ints_den (is := ns.eraseIdx j))
  exact ⟨p, ns, z, j, rfl, by rw [den_int r], hu, h1, h2, q _ _ _ _ R2 l2 .non q3⟩
def mCount : OM := fun C x ds Q => ∃ (ns : List Int) (z : Int), lstOf C x = some (ns.map .int) ∧ ds = [.int z] ∧ Q (.int (ns.count z : Nat)) C
theorem sm_count : SimM K (rCntI K) mCount := by
  intro H0 A0 av ad Γ C σ H x vs dx ds Q3 Q R d1 d2 ⟨ns, z, e1, e2, q3⟩ q
  subst e2
  obtain ⟨v, rfl, r⟩ := den1 d2
  obtain ⟨p, us, rfl, hp, ru⟩ := R.lst d1 e1
  rw [den_ints ru] at hp
  exact ⟨p, ns, z, rfl, by rw [den_int r], .inl hp, q _ _ _ _ R Le.refl .int q3⟩
theorem mt_countA (hK : X.K = K) : MtR X "list.count" (rCntI K) := by subst hK; exact mt_lcount
def mIndex : OM := fun C x ds Q => ∃ (ns : List Int) (z : Int) (j : Nat), lstOf C x = some (ns.map .int) ∧ ds = [.int z] ∧ ns[j]? = some z ∧ (∀ m : Nat, m < j → ns[m]? ≠ some z) ∧ Q (.int (j : Nat)) C
theorem sm_index : SimM K (rIndex K) mIndex := by
  intro H0 A0 av ad Γ C σ H x vs dx ds Q3 Q R d1 d2 ⟨ns, z, j, e1, e2, h1, h2, q3⟩ q
  subst e2
  obtain ⟨v, rfl, r⟩ := den1 d2
  obtain ⟨p, us, rfl, hp, ru⟩ := R.lst d1 e1
  rw [den_ints ru] at hp
  refine ⟨p, ns.map V.int, .int z, j, .int z, rfl, by rw [den_int r], .inl hp, rfl, ?_, by rw [List.getElem?_map, h1]; rfl, ?_, fun m z' hm e => ?_, q _ _ _ _ R Le.refl .int q3⟩
  · rw [List.all_map]
    exact List.all_eq_true.mpr fun _ _ => rfl
  · simp [eqV]
  · rw [List.getElem?_map] at e
    cases q2 : ns[m]? with
    | none => rw [q2] at e; cases e
    | some w =>
      rw [q2] at e
      cases e
      have : w ≠ z := fun h => h2 m hm (by rw [q2, h])
      simp [eqV, this]
theorem mt_indexA (hK : X.K = K) : MtR X "list.index" (rIndex K) := by subst hK; exact mt_index
def fRev (Ea : EV) : FV := fun Γ C Q => Ea Γ C fun x C1 => ∃ xs, lstOf C1 x = some xs ∧ Q (.lst xs.reverse) C1
theorem vf_rev {k : Nat} (hK : X.K = K) (h : VE K X a ta Ea) : VF K X (.Subscript a (.Slice none none (some (.UnaryOp .USub (.Constant (.int 1) k p) p2)) p3) pos) (tRevL K ta) (fRev Ea) := by
  subst hK
  refine ⟨pe_revL h.pe, fun H0 A0 av ad Γ C σ H Q3 Q R h3 q => ?_⟩
  refine h.sim H0 A0 av ad Γ C σ H _ _ R h3 fun v H1 av1 ad1 d C1 R1 l1 d1 ⟨xs, e, q3⟩ => ?_
  obtain ⟨a, vs, rfl, hs, rs⟩ := R1.lst d1 e
  exact ⟨a, vs, rfl, .inl hs, fun p np => fin_new R1 l1 (fun _ _ h => h) np noTup_lst (c := .lst _) rs.reverse q3 q⟩
@[simp] theorem u_fRev {Γ : Slots} {C : Store} {Qc : Cell → Store → Prop} : fRev Ea Γ C Qc = Ea Γ C fun x C1 => ∃ xs, lstOf C1 x = some xs ∧ Qc (.lst xs.reverse) C1 := rfl
end
section
variable {K : PySem.W.Frag} {X : Cx} {k n : Nat} {f : Addr} {fd : FuncData} {ps ks : List Str} {P : PV} {x : Str} {st : Stmt} {p pos kpos : Pos} {e : Expr} {es : List Expr} {kws : List Keyword} {te : TE} {tl tk : TA} {E : EV} {L Lk : AV} {nm : Option Str}
theorem DenAll.app {H0 : Hp} {av : Av} {ad : Ads} {H : Hp} {vs us : List V} {ds es : List D} (a : DenAll K H0 av ad H vs ds) (b : DenAll K H0 av ad H us es) : DenAll K H0 av ad H (vs ++ us) (ds ++ es) := a.append b
end
section
variable {K : PySem.W.Frag} {X : Cx} {e o : Expr} {te to : TE} {E Eo : EV} {apos pos : Pos}
end
end L3
namespace L3
open PySem PySem.Spec PyProof.Rows L2
section
variable {K : PySem.W.Frag} {X : Cx} {e : Expr} {te : TE} {E : EV} {p p2 pos pos2 : Pos}
def fListRange (E : EV) : FV := fun Γ C Q => E Γ C fun d C1 => ∃ n : Int, d = .int n ∧ 0 ≤ n ∧ n ≤ 2 ^ 24 ∧ Q (.lst (rgI 0 n.toNat)) C1
theorem den_rg {H0 : Hp} {av : Av} {ad : Ads} {H : Hp} {n : Int} : DenAll K H0 av ad H (rgV 0 n) (rgI 0 n.toNat) := by
  unfold rgV rgI
  rw [show (n - 0).toNat = n.toNat by simp]
  generalize List.range n.toNat = l
  induction l with
  | nil => exact .nil
  | cons i l ih => exact .cons .int ih
theorem vf_listRange (hc : X.calm = true) (ml : X.mg "list" = none) (mr : X.mg "range" = none) (h : VE K X e te E) (hg : Gl X "list" := by rfl) (hg2 : Gl X "range" := by rfl) (na : starEach [e] X.env = (false, eval e X.env) :: starEach [] X.env := by rfl)
    (nb : starEach [.Call (.Name "range" p2) [e] [] pos2] X.env = (false, eval (.Call (.Name "range" p2) [e] [] pos2) X.env) :: starEach [] X.env := by rfl) :
    VF K X (.Call (.Name "list" p) [.Call (.Name "range" p2) [e] [] pos2] [] pos) (tLstRg (tRg1 te)) (fListRange E) := by
  refine ⟨pe_listRg hc hg ml (prg_1 hg2 mr h.pe na) nb, fun H0 A0 av ad Γ C σ H Q3 Q R h3 q => ?_⟩
  refine h.sim H0 A0 av ad Γ C σ H _ _ R h3 fun v H1 av1 ad1 d C1 R1 l1 d1 ⟨n, e1, h0, h1, q3⟩ => ?_
  subst e1
  exact ⟨n, den_int d1, ⟨by omega, by omega, by omega, by omega, by omega⟩, fun r nr => fin_new R1 l1 (fun _ _ h => h) nr noTup_lst (c := .lst _) den_rg q3 q⟩
@[simp] theorem u_fListRange {Γ : Slots} {C : Store} {Qc : Cell → Store → Prop} : fListRange E Γ C Qc = E Γ C fun d C1 => ∃ n : Int, d = .int n ∧ 0 ≤ n ∧ n ≤ 2 ^ 24 ∧ Qc (.lst (rgI 0 n.toNat)) C1 := rfl
def pD (z : Int × Int) : D := .tup [.int z.1, .int z.2]
def kOf (H : Hp) : V → Int × Int
  | .ref t => match H t with
    | some (.tup [.int i, .int j]) => (i, j)
    | _ => (0, 0)
  | _ => (0, 0)
theorem denAll_of {H0 : Hp} {av : Av} {ad : Ads} {H : Hp} : ∀ ys : List V, (∀ v, v ∈ ys → Den K H0 av ad H v (pD (kOf H v))) → DenAll K H0 av ad H ys ((ys.map (kOf H)).map pD)
  | [], _ => .nil
  | y :: ys, h => .cons (h y (List.mem_cons_self ..)) (denAll_of ys fun v hv => h v (List.mem_cons_of_mem _ hv))
end
section
variable {K : PySem.W.Frag} {X : Cx} {elts : List Expr} {kk : Nat} {tpos p pos : Pos} {a b : Expr} {tl : TA} {L : AV}
def iZipS (L : AV) : IV := fun Γ C Q => L Γ C fun ds C1 => ∃ d d' xs ys, ds = [d, d'] ∧ ((lstOf C1 d = some xs ∧ lstOf C1 d' = some ys) ∨ (d = .tup xs ∧ d' = .tup ys)) ∧ (noptrs xs && noptrs ys) = true ∧ Q (zipD xs ys) (srcOf d ++ srcOf d') C1
theorem vi_zipS (hK : X.K = K) (hm : X.mg "zip" = none) (h : VA K X [a, b] tl L) (hg : Gl X "zip" := by rfl) (hs : starEach [a, b] X.env = (false, eval a X.env) :: starEach [b] X.env := by rfl) (hpl : (backTo pos (starEach [b] X.env)).any (·.1) = false := by rfl) :
    VI K X (.Tuple elts kk tpos) (.Call (.Name "zip" p) [a, b] [] pos) (RZ.iZipA K tl) (iZipS L) := by
  have base := vi_zip (elts := elts) (kk := kk) (tpos := tpos) (p := p) (pos := pos) hK hm h hg hs hpl
  subst hK
  refine ⟨RZ.pi_zipA hg hm h.pa hs hpl, fun H0 A0 av ad Γ C σ H Q3 Rr R h3 q => ?_⟩
  refine h.sim H0 A0 av ad Γ C σ H _ _ R h3 fun vs H' av' ad' ds C' R' l' dv ⟨d, d', xs, ys, e1, e, hnp, q3⟩ => ?_
  subst e1
  simp only [Bool.and_eq_true] at hnp
  obtain ⟨v, v', rfl, r, r'⟩ := den2 dv
  rcases e with ⟨e, e'⟩ | ⟨rfl, rfl⟩
  · obtain ⟨a, rfl, ⟨vs, hs⟩, later⟩ := lst_later (ds := zipD xs ys) (src := srcOf d ++ srcOf d') R' r e (fun _ z => List.mem_append_left _ z) (fun _ => hnp.1)
    obtain ⟨b, rfl, ⟨us, hs2⟩, later2⟩ := lst_later (ds := zipD xs ys) (src := srcOf d ++ srcOf d') R' r' e' (fun _ z => List.mem_append_right _ z) (fun _ => hnp.2)
    refine ⟨a, b, vs, us, rfl, .inl ⟨hs, hs2, q _ H' av' ad' C' _ _ R' l' (fun av1 ad1 Γ1 C1 σ1 H1 i R1 k => ?_) q3⟩⟩
    obtain ⟨vs1, s1, r1⟩ := later av1 ad1 Γ1 C1 σ1 H1 R1 k
    obtain ⟨us1, s2, r2⟩ := later2 av1 ad1 Γ1 C1 σ1 H1 R1 k
    have l1 := r1.length
    have l2 := r2.length
    rw [zipD_len]
    refine ⟨fun hi => ⟨⟨vs1, us1, vs1[i]'(by omega), us1[i]'(by omega), s1, s2, by simp, by simp⟩, fun y H2 ⟨T, x, z, e1, e2, e3, e4, e5⟩ => ?_⟩, fun hi => ⟨vs1, us1, s1, s2, by omega⟩⟩
    subst e1 e3
    obtain ⟨dx, e6, rx⟩ := r1.get' (e4 vs1 s1)
    obtain ⟨dz, e7, rz⟩ := r2.get' (e5 us1 s2)
    exact ⟨same_upd e2, _, zipD_get xs ys i e6 e7, .tup ⟨upd_same, R1.nav e2⟩ (.cons (rx.le (Le.new e2)) (.cons (rz.le (Le.new e2)) .nil))⟩
  · cases r with
    | @tup a vs _ t1 rs =>
    cases r' with
    | @tup b us _ t2 rs' =>
    refine ⟨a, b, vs, us, rfl, .inr ⟨t1.sq, t2.sq, q (RZ.ItzT X.K a b) H' av' ad' C' _ _ R' l' (fun av1 ad1 Γ1 C1 σ1 H1 i R1 k => ?_) q3⟩⟩
    have s1 : SqT X.K H1 a vs := (k.1.tup t1).sq
    have s2 : SqT X.K H1 b us := (k.1.tup t2).sq
    have r1 := rs.np (ad' := ad1) k.1 hnp.1
    have r2 := rs'.np (ad' := ad1) k.1 hnp.2
    have l1 := r1.length
    have l2 := r2.length
    rw [zipD_len]
    refine ⟨fun hi => ⟨⟨vs, us, vs[i]'(by omega), us[i]'(by omega), s1, s2, by simp, by simp⟩, fun y H2 ⟨T, x, z, e1, e2, e3, e4, e5⟩ => ?_⟩, fun hi => ⟨vs, us, s1, s2, by omega⟩⟩
    subst e1 e3
    obtain ⟨dx, e6, rx⟩ := r1.get' (e4 vs s1)
    obtain ⟨dz, e7, rz⟩ := r2.get' (e5 us s2)
    exact ⟨same_upd e2, _, zipD_get xs ys i e6 e7, .tup ⟨upd_same, R1.nav e2⟩ (.cons (rx.le (Le.new e2)) (.cons (rz.le (Le.new e2)) .nil))⟩
end
end L3
namespace L3
open PySem PySem.Spec PyProof.Rows L2
section
variable {K : PySem.W.Frag} {X : Cx} {tg a b c : Expr} {tl : TA} {L : AV} {p pos : Pos}
end
section
variable {K : PySem.W.Frag} {X : Cx} {k : Nat} {f : Addr} {fd : FuncData} {ps ks : List Str} {P : PV} {x : Str} {st : Stmt} {p pos : Pos} {kws : List Keyword} {tk : TA} {Lk : AV} {ix : List Nat}
end
end L3
namespace L2
open PySem PySem.Spec PyProof.Rows
section
variable {X : Cx}
end
end L2
namespace L3
open PySem PySem.Spec PyProof.Rows L2
def flatC : Cell → Bool
  | .lst xs => flatDs xs
  | .dead => true
  | _ => false
section
variable {K : PySem.W.Frag} {H0 : Hp} {A0 : List Addr} {av : Av} {ad : Ads} {Γ : Slots} {C C' : Store} {σ : L2.St} {H H' : Hp}
end
def eCallT (n : Nat) (kf : List D → List Nat) (P : PV) (L : AV) : EV := fun Γ C Q => L Γ C fun ds C1 => (kf ds).length = n ∧ (kf ds).Nodup ∧ (∀ k, k ∈ kf ds → ∃ c, C1[k]? = some c ∧ c ≠ Cell.dead) ∧
  P (views (kf ds) C1 ds) (viewC (kf ds) C1) fun d Cc => ∃ x y xs, d = .tup [x, y, .lst false xs] ∧ flatDs [x, y] = true ∧ flatDs xs = true ∧ (∀ c, c ∈ Cc → c.okC (fun o => !o) = true) ∧
    (∀ (i : Nat) c, (putS (kf ds) (Cc.map (backs (kf ds))) C1)[i]? = some c → flatC c = true) ∧ Q (.tup [x, y, .ptr C1.length]) (putS (kf ds) (Cc.map (backs (kf ds))) C1 ++ [.lst xs])
section
variable {K : PySem.W.Frag} {X : Cx} {k n : Nat} {f : Addr} {fd : FuncData} {ps : List Str} {P : PV} {x : Str} {p pos : Pos} {e : Expr} {es : List Expr} {tl : TA} {L : AV}
end
@[simp] theorem u_eCallT {n : Nat} {kf : List D → List Nat} {P : PV} {L : AV} {Γ : Slots} {C : Store} {Q : D → Store → Prop} : eCallT n kf P L Γ C Q = L Γ C fun ds C1 => (kf ds).length = n ∧ (kf ds).Nodup ∧ (∀ k, k ∈ kf ds → ∃ c, C1[k]? = some c ∧ c ≠ Cell.dead) ∧
  P (views (kf ds) C1 ds) (viewC (kf ds) C1) fun d Cc => ∃ x y xs, d = .tup [x, y, .lst false xs] ∧ flatDs [x, y] = true ∧ flatDs xs = true ∧ (∀ c, c ∈ Cc → c.okC (fun o => !o) = true) ∧
    (∀ (i : Nat) c, (putS (kf ds) (Cc.map (backs (kf ds))) C1)[i]? = some c → flatC c = true) ∧ Q (.tup [x, y, .ptr C1.length]) (putS (kf ds) (Cc.map (backs (kf ds))) C1 ++ [.lst xs]) := rfl
end L3
namespace L3
open PySem PySem.Spec PyProof.Rows L2
section
variable {K : PySem.W.Frag} {X : Cx} {tg a b c : Expr} {tl : TA} {L : AV} {p pos : Pos}
end
end L3
namespace L3
open PySem PySem.Spec PyProof.Rows L2
def kD : Key → D
  | .inl i => .int i
  | .inr s => .str s
def dAt (k : Key) : List Key → List D → Option D
  | q :: qs, x :: xs => if q = k then some x else dAt k qs xs
  | _, _ => none
def hasK (k : Key) (ks : List Key) : Bool := ks.any fun q => decide (q = k)
def kPut (k : Key) (ks : List Key) : List Key := if hasK k ks = true then ks else ks ++ [k]
def xPut (k : Key) (y : D) (ks : List Key) (xs : List D) : List D := if hasK k ks = true then (ks.zip xs).map (fun z => if z.1 = k then y else z.2) else xs ++ [y]
def dkOf (C : Store) : D → Option (List Key × List D)
  | .dk _ ks xs => some (ks, xs)
  | .ptr k => match C[k]? with
    | some (.dk ks xs) => some (ks, xs)
    | _ => none
  | _ => none
section
variable {K : PySem.W.Frag} {H0 : Hp} {A0 : List Addr} {av : Av} {ad : Ads} {Γ : Slots} {C : Store} {σ : L2.St} {H : Hp}
theorem den_kD {v : V} {k : Key} (x : Den K H0 av ad H v (kD k)) : v = kV k := by
  cases k with
  | inl i => exact den_int x
  | inr s => exact den_str x
theorem Rep.dk (R : Rep K H0 A0 av ad Γ C σ H) {v : V} {d : D} {ks : List Key} {xs : List D} (x : Den K H0 av ad H v d) (e : dkOf C d = some (ks, xs)) :
    ∃ a kvs, v = .ref a ∧ Rd H a (.dK kvs) ∧ kvs.map (·.1) = ks ∧ DenAll K H0 av ad H (kvs.map (·.2)) xs := by
  cases d with
  | dk o ks' xs' =>
    cases e
    cases x with
    | dk r n o k y => exact ⟨_, _, rfl, r, k, y⟩
  | ptr k =>
    cases x with
    | ptr h =>
      simp only [dkOf] at e
      split at e
      · rename_i ks' xs' hc
        cases e
        obtain ⟨kvs, e1, e2, r⟩ := R.cells _ _ _ h hc
        exact ⟨_, kvs, rfl, .inl e1, e2, r⟩
      · cases e
  | bad => cases e
  | non => cases e
  | bl _ => cases e
  | int _ => cases e
  | str _ => cases e
  | lst _ _ => cases e
  | tup _ => cases e
  | dt _ _ _ => cases e
  | obj _ _ _ => cases e
  | exc _ _ _ => cases e
end
theorem u1 {k : Nat} {A : Around} (r : RoomG k A) : A.units + 1 < cLine := by have := r.rm.un; omega
section
variable {K : PySem.W.Frag} {X : Cx} {o i e f : Expr} {td ty tk tv tx : TE} {Eo Ei Ek Ev Ef : EV} {pos apos cpos p : Pos}
end
section
variable {K : PySem.W.Frag} {X : Cx}
end
end L3
namespace L2
open PySem PySem.Spec PyProof.Rows
def ZOut (base : Nat) (xs ys : Array Value) (h : Heap) (Ts : List Addr) : Prop :=
  Ts.Nodup ∧ ∀ (j : Nat) (T : Addr), Ts[j]? = some T → base ≤ T ∧ ∃ x y, xs[j]? = some x ∧ ys[j]? = some y ∧ IsPair h T x y
section
variable {prog : Program} {w : World} {A : Around} {s : Shared} {z TI TO i1 i2 l1 l2 S : Addr} {xs ys : Array Value} {E : Value → Shared → Prop}
theorem ZOut.at {base : Nat} {h h' : Heap} {Ts : List Addr} (k : ∀ b o, base ≤ b → h.get? b = some o → h'.get? b = some o) (z : ZOut base xs ys h Ts) : ZOut base xs ys h' Ts :=
  ⟨z.1, fun j T e => let ⟨b, x, y, e1, e2, p⟩ := z.2 j T e; ⟨b, x, y, e1, e2, k _ _ b p⟩⟩
theorem ZOut.push {base : Nat} {h : Heap} {Ts : List Addr} {T : Addr} {x y : Value} (z : ZOut base xs ys h Ts) (b : base ≤ T) (n : T ∉ Ts) (e1 : xs[Ts.length]? = some x) (e2 : ys[Ts.length]? = some y) (p : IsPair h T x y) : ZOut base xs ys h (Ts ++ [T]) := by
  refine ⟨List.nodup_append.mpr ⟨z.1, List.nodup_cons.mpr ⟨by simp, List.nodup_nil⟩, fun a ha b hb e => by simp at hb; subst e; subst hb; exact n ha⟩, fun j U e => ?_⟩
  by_cases hj : j < Ts.length
  · rw [List.getElem?_append_left hj] at e
    exact z.2 j U e
  · rw [List.getElem?_append_right (Nat.le_of_not_lt hj)] at e
    have : j - Ts.length = 0 := by
      have := (List.getElem?_eq_some_iff.mp e).1
      simp at this
      omega
    rw [this] at e
    simp at e
    subst e
    have ej : j = Ts.length := by omega
    subst ej
    exact ⟨b, x, y, e1, e2, p⟩
end
section
variable {X : Cx} {pins : List (Addr × Obj)} {σ : L2.St} {H : Hp} {s : Shared} {h' : Heap}
structure LaidBy (X : Cx) (H : Hp) (s : Shared) (h' : Heap) (H2 : Hp) : Prop where
  un : Un X.fs [] H H2 s.heap h'
  ok : HOk X.prog X.w H2 h'
  keep : ∀ c o, H c = some o → H2 c = some o
theorem LaidBy.start (I : Inv X pins σ H s) (k : ∀ b u, s.heap.get? b = some u → h'.get? b = some u) : LaidBy X H s h' H := ⟨Un.kept k, I.hok.kept k, fun _ _ e => e⟩
theorem LaidBy.step {H2 : Hp} {a : Addr} {o : HO} (L : LaidBy X H s h' H2) (hs : s.heap.objs.size ≤ a) (hn : H2 a = none) (new : ObjOk X.prog X.w (upd H2 a o) h' a o) : LaidBy X H s h' (upd H2 a o) := by
  have na : ∀ {b : Addr} {u : HO}, H b = some u → b ≠ a := fun e q => by subst q; rw [L.keep _ _ e] at hn; cases hn
  refine ⟨⟨L.un.keep, L.un.slot, fun b u q n hx => ?_, L.un.there, fun b xs q => ?_, fun b u xs q => ?_, fun b ps q => ?_⟩, fun b u e => ?_, fun c u e => ?_⟩
  · rw [upd_ne (Nat.ne_of_lt (Nat.lt_of_lt_of_le (Heap.lt_size q) hs))]; exact L.un.free b u q n hx
  · rw [upd_ne (na q)]; exact L.un.tups b xs q
  · rw [upd_ne (na q)]; exact L.un.frzs b u xs q
  · rw [upd_ne (na q)]; exact L.un.tbls b ps q
  · by_cases hb : b = a
    · subst hb; rw [upd_same] at e; cases e; exact new
    · rw [upd_ne hb] at e
      exact (L.ok b u e).stay (fun c v _ q => q) (fun c q => by rw [upd_ne (ne_of_none q hn)]; exact q) fun c xs q => by rw [upd_ne (ne_of_none q hn)]; exact q
  · rw [upd_ne (na e)]; exact L.keep c u e
end
end L2
namespace L3
open PySem PySem.Spec PyProof.Rows L2
section
variable {K : PySem.W.Frag} {X : Cx} {e e2 : Expr} {tl : TA} {L : AV} {p p2 pos pos2 : Pos}
end
end L3
namespace L3
open PySem PySem.Spec PyProof.Rows L2
section
variable {X : Cx} {CX : CXT} {k : Nat} {f C : Addr} {fd : FuncData} {ps : List Str} {sp : Sp} {E : XK} {x m : Str} {p pos apos : Pos} {e o : Expr} {es : List Expr} {ta : TE} {t : TA}
end
section
variable {K : PySem.W.Frag} {H0 : Hp} {av : Av} {ad : Ads} {H : Hp}
end
section
variable {K : PySem.W.Frag} {H0 : Hp} {A0 : List Addr} {av : Av} {ad : Ads} {Γ : Slots} {C : Store} {σ : L2.St} {H : Hp}
end
section
variable {K : PySem.W.Frag} {H0 : Hp} {A0 : List Addr} {av : Av} {ad : Ads} {Γ : Slots} {C : Store} {σ : L2.St} {H : Hp}
end
section
variable {K : PySem.W.Frag} {X : Cx} {e o value : Expr} {es : List Expr} {ta tv : TE} {Eo Ev : EV} {tl : TA} {L : AV} {nm f m x : Str} {pos pos' p apos : Pos} {k : Nat} {fa : Addr} {fd : FuncData} {ps : List Str} {P : PV}
end
section
end
section
variable {nm f m : Str} {E Eo Ev : EV} {L : AV} {P : PV} {Γ : Slots} {C : Store} {Q : D → Store → Prop} {De : En}
end
def fDt0 : FV := fun _ C Q => Q (.dt [] []) C
section
variable {K : PySem.W.Frag} {X : Cx} {e f : Expr} {te tf : TE} {E F : EV} {p p2 pos pos2 : Pos}
theorem vf_dt0 : VF K X (.Dict [] [] pos) tDNewT fDt0 := ⟨pe_dnewT, fun H0 A0 av ad Γ C σ H Q3 Q R h q p np => fin_new R Le.refl (fun _ _ h => h) np noTup_dt (c := .dt [] []) ⟨rfl, .nil⟩ h q⟩
end
@[simp] theorem u_fDt0 {Γ : Slots} {C : Store} {Q : Cell → Store → Prop} : fDt0 Γ C Q = Q (.dt [] []) C := rfl
end L3
namespace L2
open PySem PySem.W PySem.Spec PyProof.Rows
end L2
namespace L3
open PySem PySem.W PySem.Spec PyProof.Rows L2
section
variable {K : PySem.W.Frag} {X : Cx}
end
def lexI : List Int → List Int → Bool
  | _, [] => false
  | [], _ :: _ => true
  | a :: as, b :: bs => if a = b then lexI as bs else decide (a < b)
theorem one_lex (a b : Int) (l m : List (Int ⊕ List Nat)) : PyProof.Rows.lexLt itemOrd (.inl a :: l) (.inl b :: m) = if a = b then PyProof.Rows.lexLt itemOrd l m else decide (a < b) := by
  by_cases h : a = b
  · rw [if_pos h, h]
    exact PyProof.Rows.lex_self (O := itemOrd) _ l m
  · rw [if_neg h, lex_atom (fun q => h (Sum.inl.inj q)) l m, ← dataLt_int a b]
    rfl
theorem lex_lists : ∀ as bs : List Int, PyProof.Rows.lexLt itemOrd (keyToksAll (as.map .int)) (keyToksAll (bs.map .int)) = lexI as bs
  | [], [] => by
    simp only [List.map_nil, keyToksAll]
    rw [one_lex, if_pos rfl]
    rfl
  | [], b :: bs => by
    simp only [List.map_nil, List.map_cons, keyToksAll]
    rw [one_lex]
    rfl
  | a :: as, [] => by
    simp only [List.map_nil, List.map_cons, keyToksAll]
    rw [one_lex]
    rfl
  | a :: as, b :: bs => by
    simp only [List.map_cons, keyToksAll, keyToks, List.cons_append, List.nil_append]
    rw [one_lex, if_pos rfl, one_lex, lex_lists as bs]
    rfl
theorem alike_asP : ∀ as bs : List Int, alikeAll (as.map PyData.int) (bs.map PyData.int) = true
  | [], bs => by cases bs <;> simp [alikeAll]
  | _ :: _, [] => by simp [alikeAll]
  | a :: as, b :: bs => by
    simp only [List.map_cons, alikeAll, alike, Bool.true_and]
    exact alike_asP as bs
end L3
namespace L3
open PySem PySem.Spec PyProof.Rows L2
def kP (z : Int × Int) : List Key := [.inl z.1, .inl z.2]
theorem kOf_ref {H : Hp} {b : Addr} {i j : Int} (h : H b = some (.tup [.int i, .int j])) : kOf H (.ref b) = (i, j) := by
  simp only [kOf, h]
theorem keys_pairs {H : Hp} : ∀ {kvs : List (List Key × V)} {bs : List Addr} {ps : List (Int × Int)}, IsKeys H kvs bs → kvs.map (·.1) = ps.map kP →
    (bs.map V.ref).map (kOf H) = ps ∧ ∀ b, b ∈ bs → ∃ z : Int × Int, H b = some (.tup [.int z.1, .int z.2])
  | _, _, ps, .nil, e => by
    have : ps = [] := by
      cases ps with
      | nil => rfl
      | cons _ _ => simp at e
    subst this
    exact ⟨rfl, fun b hb => by simp at hb⟩
  | _, _, [], .cons _ _, e => by simp at e
  | _, _, z :: ps, .cons h t, e => by
    simp only [List.map_cons, List.cons.injEq] at e
    obtain ⟨h1, h2⟩ := keys_pairs t e.2
    have hz := h
    rw [e.1] at hz
    refine ⟨?_, fun b hb => ?_⟩
    · rw [List.map_cons, List.map_cons, h1, kOf_ref hz]
    · rcases List.mem_cons.mp hb with rfl | hb
      · exact ⟨z, hz⟩
      · exact h2 b hb
end L3
namespace L2
open PySem PySem.Spec PyProof.Rows
def rSortDT : List V → Hp → VK → Prop := fun xs H Q => ∃ (a : Addr) (kvs : List (List Key × V)) (ps : List (Int × Int)), xs = [.ref a] ∧ Rd H a (.dT kvs) ∧ kvs.map (·.1) = ps.map L3.kP ∧
  ∀ (bs : List Addr) (ys : List V) (p : Addr), IsKeys H kvs bs → ys.Perm (bs.map V.ref) → SrtO.Srtd (ltP (L3.kOf H)) ys → H p = none → Q (.ref p) (upd H p (.lst ys))
theorem call_sortDT {X : Cx} (hcalm : X.calm = true) : CallR X (.builtin "sorted") rSortDT := by
  intro pins s σ H xs us Q I r hq
  obtain ⟨a, kvs, ps, rfl, hrd, hks, q⟩ := hq
  obtain ⟨u, rfl, rx⟩ := r.one
  cases rx
  obtain ⟨z, nsys, ks, pr, ob, ents, ep, hob, hex, hdat, hent, _⟩ := (show ObjOk X.prog X.w H s.heap a (.dT kvs) from hrd.ok I.hok)
  have c1 : ents.size = ks.length := size_of_entries hent
  have c2 : kvs.length = ks.length := Paired.length pr
  refine Calls.call_function_entry PyProof.Rows.kind_sorted PyProof.Rows.plain_sorted PyProof.Rows.entry_sorted (PyProof.Rows.args_sorted1 _) ?_
  unfold Builtin.«sorted»
  refine wpAny_bind (m := checkCount "sorted" 1 1 _) (wpAny_pure ?_)
  refine wpAny_bind (PySem.W.kdu_collect (A := X.A.in1) (kdl_raw nsys hex hdat) (I.ok.hd hcalm) hob (by omega) fun h1 tk acc kept its => ?_)
  obtain ⟨bs, ebs⟩ : ∃ bs, bs = ks.map fun x => x.2.1 := ⟨_, rfl⟩
  have accs : acc.toList = bs.map Value.ref := by
    have hl : acc.toList.length = ks.length := by rw [Array.length_toList, its.1]; exact c1
    refine List.ext_getElem (by rw [hl, ebs, List.length_map, List.length_map]) fun j g1 g2 => ?_
    have gj : acc[j]? = some acc.toList[j] := by rw [← Array.getElem?_toList]; exact List.getElem?_eq_getElem g1
    obtain ⟨en, hen, hv⟩ := its.2 j _ gj
    have qe := entry_at hent j
    have hj : j < ks.length := by omega
    rw [hen, List.getElem?_eq_getElem hj] at qe
    have e2 : en = entryOfKey (tupleKind (mixKind X.prog X.w)) ks[j] := Option.some.inj qe
    rw [hv, e2]
    simp [ebs]
    rfl
  have keys : IsKeys H kvs bs := by rw [ebs]; exact isKeys_of pr
  obtain ⟨km, kt⟩ := L3.keys_pairs keys hks
  have szl : acc.toList.length ≤ sizeLine := by rw [accs, List.length_map, ebs, List.length_map]; omega
  have I1 : Inv X pins σ H { s with heap := h1, toks := tk } := I.kept kept
  refine wpAny_bind (wpAny_newList ?_ szl)
  have hoL : (h1.push (seqObj "list" acc.toList.toArray 0)).get? h1.objs.size = some (seqObj "list" acc.toList.toArray 0) := Heap.get?_push_size _ rfl
  show wpAny _ _ _ _ _ { s with heap := h1.push (seqObj "list" acc.toList.toArray 0), toks := tk }
  have isp : ∀ v ∈ acc.toList, Srt.IsPair h1 v (L3.kOf H (backV v)).1 (L3.kOf H (backV v)).2 := fun v hv => by
    rw [accs] at hv
    obtain ⟨b, hb, rfl⟩ := List.mem_map.mp hv
    obtain ⟨w, hw⟩ := kt b hb
    obtain ⟨_, its2, r2, o2, ho2, hc2, n2, hd2⟩ := I1.hok _ _ hw
    obtain ⟨u1, u2, rfl, ri, rj⟩ := vals2 r2
    obtain ⟨t1, rfl⟩ := ri
    obtain ⟨t2, rfl⟩ := rj
    have ek : L3.kOf H (backV (.ref b)) = w := L3.kOf_ref hw
    rw [ek]
    exact ⟨b, o2, t1, t2, n2, rfl, ho2, hc2, hd2⟩
  refine wpAny_bind (wpAny_holding (wpAny_call_entry PyProof.Rows.slot_list_sort ⟨_, hoL, rfl⟩ PyProof.Rows.entry_list_sort
    (SrtO.list_sort_ord (s := { s with heap := h1.push (seqObj "list" acc.toList.toArray 0), toks := tk }) (SrtO.swo_lex fun v => L3.kOf H (backV v)) hoL szl
      (fun h2 => SrtO.pairs_sortableO (by omega) (fun v hv => (isp v hv).keeps fun b o e _ => Heap.get?_push_of_some _ e) fun o e c => by
        have e' : some o = some (seqObj "list" acc.toList.toArray 0) := e.symm.trans hoL
        cases e'
        exact absurd (Value.type.inj c) (by decide))
      fun out g1 g2 => ⟨_, rfl, ?_⟩) (PyProof.Rows.args_list_sort _)))
  obtain ⟨e', he'⟩ := PyProof.Rows.sortedHeap_at (vs := acc.toList) (out := out.toArray) hoL
  have refs : ∀ u ∈ out, ∃ b, u = Value.ref b := fun u hu => by
    have hm := g2.perm.mem_iff.mp hu
    rw [accs] at hm
    obtain ⟨b, _, rfl⟩ := List.mem_map.mp hm
    exact ⟨b, rfl⟩
  have perm : (out.map backV).Perm (bs.map V.ref) := by
    have h1 := g2.perm.map backV
    rw [accs, List.map_map] at h1
    exact h1
  have hlen : (out.map backV).length ≤ sizeLine := by
    rw [List.length_map, g2.len]
    exact szl
  refine wpAny_pure ⟨_, rfl, .ref h1.objs.size, upd H h1.objs.size (.lst (out.map backV)), I1.laid (t' := tk) (fun b u e => ?_) (Nat.le_refl _) ⟨hlen, out, e', vals_back refs, he'⟩, rfl,
    q bs _ _ keys perm (SrtO.srtd_map g1) (I1.hok.fresh (Nat.le_refl _))⟩
  have hb : b < h1.objs.size := Heap.lt_size e
  rw [PyProof.Rows.sortedHeap_old (Nat.ne_of_lt hb) (by rw [size_push']; exact Nat.lt_succ_of_lt hb)]
  exact Heap.get?_push_of_some _ e
section
variable {prog : Program} {w : World} {A : Around} {E : Value → Shared → Prop} {s : Shared} {l : Addr} {xs : Array (Int × Tok)}
end
section
variable {X : Cx}
end
end L2
namespace L3
open PySem PySem.Spec PyProof.Rows L2
def dtOf (C : Store) : D → Option (List (List Key) × List D)
  | .dt _ ks xs => some (ks, xs)
  | .ptr k => match C[k]? with
    | some (.dt ks xs) => some (ks, xs)
    | _ => none
  | _ => none
def hasT (k : List Key) (ks : List (List Key)) : Bool := ks.any fun q => decide (q = k)
def tPut (k : List Key) (ks : List (List Key)) : List (List Key) := if hasT k ks = true then ks else ks ++ [k]
def yPut (k : List Key) (y : D) (ks : List (List Key)) (xs : List D) : List D := if hasT k ks = true then (ks.zip xs).map (fun z => if z.1 = k then y else z.2) else xs ++ [y]
section
variable {K : PySem.W.Frag} {H0 : Hp} {A0 : List Addr} {av : Av} {ad : Ads} {Γ : Slots} {C : Store} {σ : L2.St} {H : Hp}
theorem den_kDs {H0 : Hp} {av : Av} {ad : Ads} {H : Hp} : ∀ {vs : List V} {ks : List Key}, DenAll K H0 av ad H vs (ks.map kD) → vs = ks.map kV
  | _, [], .nil => rfl
  | _, k :: ks, .cons a b => by rw [List.map_cons, den_kD a, den_kDs b]
theorem any_memT {kvs : List (List Key × V)} {k : List Key} : (kvs.any fun kv => decide (kv.1 = k)) = hasT k (kvs.map (·.1)) := by
  unfold hasT
  rw [List.any_map]
  rfl
theorem tput_keys {kvs : List (List Key × V)} {k : List Key} {v : V} : (putK kvs k v).map (·.1) = tPut k (kvs.map (·.1)) := by
  unfold putK tPut
  rw [any_memT]
  by_cases h : hasT k (kvs.map (·.1)) = true
  · rw [if_pos h, if_pos h, List.map_map]
    apply List.map_congr_left
    intro kv _
    show (if kv.1 = k then (kv.1, v) else kv).1 = kv.1
    split <;> rfl
  · rw [if_neg h, if_neg h, List.map_append]
    rfl
theorem tput_den {k : List Key} {v : V} {y : D} {kvs : List (List Key × V)} {xs : List D} (x : DenAll K H0 av ad H (kvs.map (·.2)) xs) (z : Den K H0 av ad H v y) : DenAll K H0 av ad H ((putK kvs k v).map (·.2)) (yPut k y (kvs.map (·.1)) xs) := by
  have all : ∀ {kvs : List (List Key × V)} {xs : List D}, DenAll K H0 av ad H (kvs.map (·.2)) xs → DenAll K H0 av ad H ((kvs.map fun kv => if kv.1 = k then (kv.1, v) else kv).map (·.2)) (((kvs.map (·.1)).zip xs).map fun z => if z.1 = k then y else z.2) := by
    intro kvs
    induction kvs with
    | nil => intro xs x; exact .nil
    | cons p r ih =>
      intro xs x
      rw [List.map_cons] at x
      cases x with
      | @cons _ _ d ds a b =>
        simp only [List.map_cons, List.zip_cons_cons]
        refine .cons ?_ (ih b)
        by_cases e : p.1 = k
        · rw [if_pos e, if_pos e]; exact z
        · rw [if_neg e, if_neg e]; exact a
  unfold putK yPut
  rw [any_memT]
  by_cases h : hasT k (kvs.map (·.1)) = true
  · rw [if_pos h, if_pos h]
    exact all x
  · rw [if_neg h, if_neg h, List.map_append]
    exact x.append (.cons z .nil)
theorem Rep.dt (R : Rep K H0 A0 av ad Γ C σ H) {v : V} {d : D} {ks : List (List Key)} {xs : List D} (x : Den K H0 av ad H v d) (e : dtOf C d = some (ks, xs)) :
    ∃ a kvs, v = .ref a ∧ Rd H a (.dT kvs) ∧ kvs.map (·.1) = ks ∧ DenAll K H0 av ad H (kvs.map (·.2)) xs := by
  cases d with
  | dt o ks' xs' =>
    cases e
    cases x with
    | dt r n o k y => exact ⟨_, _, rfl, r, k, y⟩
  | ptr k =>
    cases x with
    | ptr h =>
      simp only [dtOf] at e
      split at e
      · rename_i ks' xs' hc
        cases e
        obtain ⟨kvs, e1, e2, r⟩ := R.cells _ _ _ h hc
        exact ⟨_, kvs, rfl, .inl e1, e2, r⟩
      · cases e
  | bad => cases e
  | non => cases e
  | bl _ => cases e
  | int _ => cases e
  | str _ => cases e
  | lst _ _ => cases e
  | tup _ => cases e
  | dk _ _ _ => cases e
  | obj _ _ _ => cases e
  | exc _ _ _ => cases e
end
section
variable {K : PySem.W.Frag} {X : Cx} {o i e f : Expr} {td ty tk tv tx : TE} {Eo Ei Ek Ev Ef : EV} {pos apos cpos p : Pos}
def gvSubT (Eo Ei : EV) : GV := fun d Γ C Q => Eo Γ C fun x C1 => Ei Γ C1 fun y C2 => ∃ (k : Nat) (ks : List (List Key)) (xs : List D) (q : List Key), x = .ptr k ∧ y = .tup (q.map kD) ∧ C2[k]? = some (.dt ks xs) ∧ ks.length < sizeLine ∧ Q Γ (C2.set k (.dt (tPut q ks) (yPut q d ks xs)))
theorem vg_subT (hu : X.A.units + 1 < cLine) (ho : VE K X o td Eo) (hi : VE K X i ty Ei) (ha : ∀ v, assign (.Subscript o i pos) X.env v = (do
      let ov ← holding [v] (eval o X.env)
      let iv ← holding [v, ov] (eval i X.env)
      standAt pos
      holding [v, ov, iv] (setItem ov iv v)
      release [v, ov, iv] []) := by intro _; rfl) : VG K X (.Subscript o i pos) (gSub td ty rSetD) (gvSubT Eo Ei) := by
  refine ⟨pg_sub ho.pe hi.pe (set_dict hu) ha, fun H0 A0 av ad Γ C σ H v d Q3 Q R dv h q => ?_⟩
  refine ho.sim H0 A0 av ad Γ C σ H _ _ R h fun vo H1 av1 ad1 d1 C1 R1 l1 e1 h1 => ?_
  refine hi.sim H0 A0 av1 ad1 Γ C1 σ H1 _ _ R1 h1 fun vi H2 av2 ad2 d2 C2 R2 l2 e2 ⟨k, ks, xs, qk, e3, e4, e5, hl, h2⟩ => ?_
  subst e3 e4
  have e1' := e1.le l2
  cases e1' with
  | @ptr a _ hp =>
  cases e2 with
  | @tup b vs _ ht hd =>
    have ek := den_kDs hd
    subst ek
    obtain ⟨kvs, he, rfl, r⟩ := R2.cells k a _ hp e5
    have hlt : k < C2.length := (List.getElem?_eq_some_iff.mp e5).1
    have dv2 := (dv.le l1).le l2
    have fz : Fz av2 H2 av2 (upd H2 a (.dT (putK kvs qk v))) := fun b u h n => ⟨by rw [upd_ne (fun e => n (by rw [e]; exact R2.av_of hp))]; exact h, n⟩
    have R3 := R2.write (o := .dT (putK kvs qk v)) (c := .dt (tPut qk (kvs.map (·.1))) (yPut qk d (kvs.map (·.1)) xs)) hp hlt (fun _ z => nomatch z) fun f => ⟨_, upd_same, tput_keys, (tput_den r dv2).mono f Pre.refl⟩
    have l3 : Le av2 ad2 H2 av2 ad2 (upd H2 a (.dT (putK kvs qk v))) := ⟨fz, Pre.refl, fun b e => by
      by_cases q : b = a
      · subst q; rw [upd_same] at e; cases e
      · rw [upd_ne q] at e; exact e, fun _ h => h, fun _ h => .inl h, fun b u h n => by rw [upd_ne (fun e => n (by rw [e]; exact mem_ads hp))]; exact h⟩
    rw [List.length_map] at hl
    refine ⟨a, _, rfl, ?_, q av2 ad2 Γ _ σ _ R3 ((l1.trans l2).trans l3) h2⟩
    exact DPut.t he ht.1 hl
def nSortT : NN := fun C ds Q => ∃ (d : D) (ps : List (Int × Int)) (xs : List D), ds = [d] ∧ dtOf C d = some (ps.map kP, xs) ∧ ∀ qs : List (Int × Int), qs.Perm ps → qs.Pairwise (fun x y => SrtO.lexB y x = false) → Q (.lst (qs.map pD))
theorem sf_sortT : SimCF K rSortDT nSortT := by
  intro H0 A0 av ad Γ C σ H vs ds Q3 Q R d1 ⟨d, ps, xs, e1, e2, q3⟩ q
  subst e1
  obtain ⟨v, rfl, r⟩ := den1 d1
  obtain ⟨a, kvs, rfl, h1, hk, _⟩ := R.dt r e2
  refine ⟨a, kvs, ps, rfl, h1, hk, fun bs ys p keys perm srt np => ?_⟩
  obtain ⟨m1, m2⟩ := keys_pairs keys hk
  refine q H p _ (.lst ((ys.map (kOf H)).map pD)) (fun _ _ h => h) np noTup_lst (denAll_of ys fun v hv => ?_) (q3 _ ?_ (List.pairwise_map.mpr srt))
  · obtain ⟨b, hb, rfl⟩ := List.mem_map.mp (perm.mem_iff.mp hv)
    obtain ⟨z, hz⟩ := m2 b hb
    rw [kOf_ref hz]
    exact .tup ⟨hz, fun h => R.avt b _ h hz⟩ (.cons .int (.cons .int .nil))
  · rw [← m1]
    exact perm.map _
end
end L3
namespace L3
open PySem PySem.Spec PyProof.Rows L2
section
variable {K : PySem.W.Frag} {X : Cx} {elt tg iter tg1 iter1 : Expr} {ifs ifs1 : List Expr} {scope : Scope} {own : List (Str × Nat)} {pos spos py : Pos} {wi wi1 : TI} {g g1 : TG} {tt tt1 : TT} {te : TE} {I I1 : IV} {G G1 : GV} {B B1 : BV} {E : EV} {F : FV} {x y : Str}
structure Mid (K : PySem.W.Frag) (H0 : Hp) (A0 : List Addr) (av1 : Av) (ad1 : Ads) (H1 : Hp) (p : Addr) (Γ : Slots) (σ : L2.St) (av : Av) (ad : Ads) (C : Store) (acc : List D) (H : Hp) : Prop where
  rep : Rep K H0 A0 av ad Γ C σ H
  pv : av p
  np : some p ∉ ad
  le : Le av1 ad1 H1 av ad H
  lst : ∃ us, H p = some (.lst us) ∧ DenAll K H0 av ad H us acc
theorem Mid.go {H0 : Hp} {A0 : List Addr} {av1 av av' : Av} {ad1 ad ad' : Ads} {H1 H H' : Hp} {p : Addr} {Γ Γ' : Slots} {σ σ' : L2.St} {C C' : Store} {acc : List D} (m : Mid K H0 A0 av1 ad1 H1 p Γ σ av ad C acc H) (l : Le av ad H av' ad' H') (R' : Rep K H0 A0 av' ad' Γ' C' σ' H') : Mid K H0 A0 av1 ad1 H1 p Γ' σ' av' ad' C' acc H' := by
  obtain ⟨us, e, d⟩ := m.lst
  refine ⟨R', l.avm p m.pv, fun z => (l.adn p z).elim m.np fun e' => (by rw [e] at e'; cases e'), m.le.trans l, us, l.kp p _ e m.np, d.le l⟩
end
end L3
namespace RZ
open PySem PySem.Spec PyProof.Rows L2
section
variable {prog : Program} {w : World} {A : Around} {E : Value → Shared → Prop} {s : Shared}
abbrev ZipF (h : Heap) (q ti po : Addr) (v : Value) (f : Bool) : Prop := h.get? q = some { cls := .type "zip", dict := none, data := .fields #[v, .bool f, .bool false, .ref ti, .ref po], slots := #[] }
theorem free_gone {q ti po T : Addr} {f : Bool} {Q : Bool → Shared → Prop} (hq : ZipF s.heap q ti po (rawInt T) f) (gone : s.heap.get? T = none) (h : Q true s) : wpAny (model prog w) A (Builtin.SmallTypes.ownedTupleIsFree (.ref q)) Q E s := by
  have alive : ∀ {R : Option Obj → Shared → Prop}, R none s → wpAny (model prog w) A (loadIfAlive T) R E s := fun {R} r => by
    have r' : R (s.heap.get? T) s := by rw [gone]; exact r
    exact fun _ _ _ => r'
  unfold Builtin.SmallTypes.ownedTupleIsFree
  refine wpAny_bind (wpAny_field hq rfl (x := rawInt T) rfl ?_)
  show wpAny _ _ (loadIfAlive ((T : Int).toNat) >>= _) _ _ _
  rw [Int.toNat_natCast]
  refine wpAny_bind (alive ?_)
  simp only [Option.isNone_none, if_true]
  exact wpAny_pure h
theorem gone_item {q ti po T i1 i2 a b : Addr} {f : Bool} {n1 n2 : Nat} {xs ys : Array Value} {x y u v : Value} {Q : Value → Shared → Prop} (D : ZipApart q ti po i1 i2 a b)
    (hq : ZipF s.heap q ti po (rawInt T) f) (gone : s.heap.get? T = none) (pti : IsPair s.heap ti (.ref i1) (.ref i2)) (ppo : IsPair s.heap po u v)
    (w1 : s.heap.IsListIter i1 a n1) (w2 : s.heap.IsListIter i2 b n2) (la : s.heap.IsList a xs) (lb : s.heap.IsList b ys) (ex : xs[n1]? = some x) (ey : ys[n2]? = some y)
    (k : ∀ h', ZipF h' q ti po (rawInt s.heap.objs.size) false → IsPair h' po x y → h'.IsListIter i1 a (n1 + 1) → h'.IsListIter i2 b (n2 + 1) → IsPair h' s.heap.objs.size x y → h'.objs.size = s.heap.objs.size + 1 →
      (∀ c o, c ≠ q → c ≠ po → c ≠ i1 → c ≠ i2 → s.heap.get? c = some o → h'.get? c = some o) → Q (.ref s.heap.objs.size) { s with heap := h' }) :
    wpAny (model prog w) A (Builtin.«zip.__next__» ⟨[.ref q], []⟩) (fun r s' => ∃ v, r = .done (.ret v) ∧ Q v s') E s := by
  show wpAny _ _ (field (.ref q) 2 >>= _) _ _ _
  refine wpAny_bind (wpAny_field hq rfl (x := .bool false) rfl ?_)
  show wpAny _ _ (field (.ref q) 3 >>= _) _ _ _
  refine wpAny_bind (wpAny_field hq rfl (x := .ref ti) rfl (wpAny_bind (wpAny_seqItems pti rfl ?_)))
  show wpAny _ _ (Builtin.SmallTypes.ownedTupleIsFree (.ref q) >>= _) _ _ _
  refine wpAny_bind (free_gone hq gone ?_)
  simp only [if_true]
  refine wpAny_bind (wpAny_rule (wpAny_bind (wpAny_field hq rfl (x := .ref po) rfl (wpAny_bind (wpAny_setField_rec hq (by simp) fun g1 q1 s1 => ?_)))))
  replace q1 : ZipF g1 q ti po .ellipsis f := q1
  refine wpAny_bind ?_
  simp only [List.zipIdx_cons, List.zipIdx_nil, List.forIn_cons, List.forIn_nil]
  refine wpAny_bind (wpAny_bind (wpAny_onRaise ?_))
  show wpAny _ _ (Builtin.SmallTypes.nextOf (.ref i1) >>= _) _ _ _
  refine wpAny_bind (wpAny_nextOf_list_item (w1.extBut s1.extBut D.i1z) (la.extBut s1.extBut D.l1z) ex fun g2 w1' s2 => wpAny_pure ?_)
  have p2 : IsPair g2 po u v := s2.extBut _ _ D.TOi1 (s1.extBut _ _ D.TOz ppo)
  refine wpAny_bind (wpAny_seqItems p2 rfl (wpAny_bind (wpAny_updateSeq_pair p2 fun g3 p3 s3 => ?_)))
  replace p3 : IsPair g3 po x v := p3
  refine wpAny_bind (wpAny_letGo (wpAny_pure ?_))
  refine wpAny_bind (wpAny_bind (wpAny_onRaise ?_))
  show wpAny _ _ (Builtin.SmallTypes.nextOf (.ref i2) >>= _) _ _ _
  refine wpAny_bind (wpAny_nextOf_list_item (((w2.extBut s1.extBut D.i2z).extBut s2.extBut D.i12.symm).extBut s3.extBut D.TOi2.symm) (((lb.extBut s1.extBut D.l2z).extBut s2.extBut D.l2i1).extBut s3.extBut D.l2TO) ey fun g4 w2' s4 => wpAny_pure ?_)
  have p4 : IsPair g4 po x v := s4.extBut _ _ D.TOi2 p3
  refine wpAny_bind (wpAny_seqItems p4 rfl (wpAny_bind (wpAny_updateSeq_pair p4 fun g5 p5 s5 => ?_)))
  replace p5 : IsPair g5 po x y := p5
  refine wpAny_bind (wpAny_letGo (wpAny_pure (wpAny_pure (wpAny_bind (wpAny_seqItems p5 rfl (wpAny_bind (wpAny_newTuple ?_)))))))
  have sz : g5.objs.size = s.heap.objs.size := by rw [s5.1, s4.1, s3.1, s2.1, s1.1]
  have q5 : ZipF g5 q ti po .ellipsis f := s5.extBut _ _ D.TOz.symm (s4.extBut _ _ D.i2z.symm (s3.extBut _ _ D.TOz.symm (s2.extBut _ _ D.i1z.symm q1)))
  have keep : ∀ c o, c ≠ q → c ≠ po → c ≠ i1 → c ≠ i2 → s.heap.get? c = some o → g5.get? c = some o := fun c o e1 e2 e3 e4 e =>
    s5.extBut _ _ e2 (s4.extBut _ _ e4 (s3.extBut _ _ e2 (s2.extBut _ _ e3 (s1.extBut _ _ e1 e))))
  have w15 : g5.IsListIter i1 a (n1 + 1) := ((w1'.extBut s3.extBut D.TOi1.symm).extBut s4.extBut D.i12).extBut s5.extBut D.TOi1.symm
  have w25 : g5.IsListIter i2 b (n2 + 1) := w2'.extBut s5.extBut D.TOi2.symm
  have qlt : q < g5.objs.size := Heap.lt_size q5
  show wpAny _ _ (Builtin.SmallTypes.ownedTupleHandOut (.ref q) (.ref g5.objs.size) >>= _) _ _ _
  refine wpAny_bind ?_
  unfold Builtin.SmallTypes.ownedTupleHandOut
  have q6 : ZipF (g5.push { cls := .type "tuple", data := .seq #[x, y] }) q ti po .ellipsis f := Heap.get?_push_of_some _ q5
  refine wpAny_bind (wpAny_setField_rec q6 (by simp) fun g7 q7 s7 => ?_)
  replace q7 : ZipF g7 q ti po (rawInt g5.objs.size) f := q7
  refine wpAny_setField_rec q7 (by simp) fun g8 q8 s8 => ?_
  replace q8 : ZipF g8 q ti po (rawInt g5.objs.size) false := q8
  have up : ∀ c o, c ≠ q → g5.get? c = some o → g8.get? c = some o := fun c o e1 e => s8.extBut _ _ e1 (s7.extBut _ _ e1 (Heap.get?_push_of_some _ e))
  have p8 : IsPair g8 g5.objs.size x y := s8.extBut _ _ (Nat.ne_of_gt qlt) (s7.extBut _ _ (Nat.ne_of_gt qlt) (Heap.get?_push_size _ rfl))
  have sz8 : g8.objs.size = g5.objs.size + 1 := by rw [s8.1, s7.1, Heap.size_push]
  rw [sz] at q8 p8 sz8
  refine wpAny_pure ⟨_, rfl, ?_⟩
  show Q (.ref g5.objs.size) _
  rw [sz]
  exact k g8 q8 (up _ _ D.TOz p5) (w15.at fun o e => up _ o D.i1z e) (w25.at fun o e => up _ o D.i2z e) p8 sz8 fun c o e1 e2 e3 e4 e => up c o e1 (keep c o e1 e2 e3 e4 e)
theorem gone_end {q ti po T i1 i2 a b : Addr} {f : Bool} {n1 n2 : Nat} {xs ys : Array Value} {u v : Value} {Q : Fin → Shared → Prop} (hh : A.handled = none) (D : ZipApart q ti po i1 i2 a b)
    (hq : ZipF s.heap q ti po (rawInt T) f) (gone : s.heap.get? T = none) (pti : IsPair s.heap ti (.ref i1) (.ref i2)) (ppo : IsPair s.heap po u v)
    (w1 : s.heap.IsListIter i1 a n1) (w2 : s.heap.IsListIter i2 b n2) (la : s.heap.IsList a xs) (lb : s.heap.IsList b ys) (over : xs[n1]? = none ∨ ys[n2]? = none)
    (k : ∀ h' e, (∀ c o, c ≠ q → c ≠ po → c ≠ i1 → c ≠ i2 → s.heap.get? c = some o → h'.get? c = some o) → (∃ o, h'.get? e = some o ∧ o.cls = .type "StopIteration") → E (.ref e) { s with heap := h' }) :
    wpAny (model prog w) A (Builtin.«zip.__next__» ⟨[.ref q], []⟩) Q E s := by
  show wpAny _ _ (field (.ref q) 2 >>= _) _ _ _
  refine wpAny_bind (wpAny_field hq rfl (x := .bool false) rfl ?_)
  show wpAny _ _ (field (.ref q) 3 >>= _) _ _ _
  refine wpAny_bind (wpAny_field hq rfl (x := .ref ti) rfl (wpAny_bind (wpAny_seqItems pti rfl ?_)))
  show wpAny _ _ (Builtin.SmallTypes.ownedTupleIsFree (.ref q) >>= _) _ _ _
  refine wpAny_bind (free_gone hq gone ?_)
  simp only [if_true]
  refine wpAny_bind (wpAny_rule (wpAny_bind (wpAny_field hq rfl (x := .ref po) rfl (wpAny_bind (wpAny_setField_rec hq (by simp) fun g1 q1 s1 => ?_)))))
  replace q1 : ZipF g1 q ti po .ellipsis f := q1
  refine wpAny_bind ?_
  simp only [List.zipIdx_cons, List.zipIdx_nil, List.forIn_cons, List.forIn_nil]
  refine wpAny_bind (wpAny_bind (wpAny_onRaise ?_))
  show wpAny _ _ (Builtin.SmallTypes.nextOf (.ref i1) >>= _) _ _ _
  cases ex : xs[n1]? with
  | none =>
    refine wpAny_bind (wpAny_nextOf_list_end hh (w1.extBut s1.extBut D.i1z) (la.extBut s1.extBut D.l1z) ex fun g2 e s2 he => ?_)
    obtain ⟨oe, hoe, hce⟩ := he
    have q2 : ZipF g2 q ti po .ellipsis f := s2 _ _ D.i1z.symm q1
    have ne : e ≠ q := fun z => by subst z; rw [q2] at hoe; cases hoe; simp at hce
    refine wpAny_setField_rec q2 (by simp) fun g3 _ s3 => k g3 e (fun c o e1 _ e3 _ z => s3.extBut _ _ e1 (s2 _ _ e3 (s1.extBut _ _ e1 z))) ⟨oe, s3.extBut _ _ ne hoe, hce⟩
  | some x =>
    have ey : ys[n2]? = none := over.elim (fun z => by rw [ex] at z; cases z) fun z => z
    refine wpAny_bind (wpAny_nextOf_list_item (w1.extBut s1.extBut D.i1z) (la.extBut s1.extBut D.l1z) ex fun g2 w1' s2 => wpAny_pure ?_)
    have p2 : IsPair g2 po u v := s2.extBut _ _ D.TOi1 (s1.extBut _ _ D.TOz ppo)
    refine wpAny_bind (wpAny_seqItems p2 rfl (wpAny_bind (wpAny_updateSeq_pair p2 fun g3 p3 s3 => ?_)))
    refine wpAny_bind (wpAny_letGo (wpAny_pure ?_))
    refine wpAny_bind (wpAny_bind (wpAny_onRaise ?_))
    show wpAny _ _ (Builtin.SmallTypes.nextOf (.ref i2) >>= _) _ _ _
    refine wpAny_bind (wpAny_nextOf_list_end hh (((w2.extBut s1.extBut D.i2z).extBut s2.extBut D.i12.symm).extBut s3.extBut D.TOi2.symm) (((lb.extBut s1.extBut D.l2z).extBut s2.extBut D.l2i1).extBut s3.extBut D.l2TO) ey fun g4 e s4 he => ?_)
    obtain ⟨oe, hoe, hce⟩ := he
    have q4 : ZipF g4 q ti po .ellipsis f := s4 _ _ D.i2z.symm (s3.extBut _ _ D.TOz.symm (s2.extBut _ _ D.i1z.symm q1))
    have ne : e ≠ q := fun z => by subst z; rw [q4] at hoe; cases hoe; simp at hce
    refine wpAny_setField_rec q4 (by simp) fun g5 _ s5 => k g5 e (fun c o e1 e2 e3 e4 z => s5.extBut _ _ e1 (s4 _ _ e4 (s3.extBut _ _ e2 (s2.extBut _ _ e3 (s1.extBut _ _ e1 z))))) ⟨oe, s5.extBut _ _ ne hoe, hce⟩
theorem next_gone_item {q ti po T i1 i2 a b : Addr} {f : Bool} {n1 n2 : Nat} {xs ys : Array Value} {x y u v : Value} {Q : Option Value → Shared → Prop} (D : ZipApart q ti po i1 i2 a b)
    (hq : ZipF s.heap q ti po (rawInt T) f) (gone : s.heap.get? T = none) (pti : IsPair s.heap ti (.ref i1) (.ref i2)) (ppo : IsPair s.heap po u v)
    (w1 : s.heap.IsListIter i1 a n1) (w2 : s.heap.IsListIter i2 b n2) (la : s.heap.IsList a xs) (lb : s.heap.IsList b ys) (ex : xs[n1]? = some x) (ey : ys[n2]? = some y)
    (k : ∀ h', ZipF h' q ti po (rawInt s.heap.objs.size) false → IsPair h' po x y → h'.IsListIter i1 a (n1 + 1) → h'.IsListIter i2 b (n2 + 1) → IsPair h' s.heap.objs.size x y → h'.objs.size = s.heap.objs.size + 1 →
      (∀ c o, c ≠ q → c ≠ po → c ≠ i1 → c ≠ i2 → s.heap.get? c = some o → h'.get? c = some o) → Q (some (.ref s.heap.objs.size)) { s with heap := h' }) : wpAny (model prog w) A (pyNext (.ref q)) Q E s := by
  have ty : s.TypeIs (.ref q) "zip" := ⟨_, hq, rfl⟩
  unfold pyNext
  exact wpAny_bind (wpAny_attempt (wpAny_callSpecial?_slot (name := Str.ofString "__next__") ty F.slot_zip_next (wpAny_call_entry F.slot_zip_next ty F.entry_zip_next (gone_item D hq gone pti ppo w1 w2 la lb ex ey fun h' a1 a2 a3 a4 a5 a6 a7 => wpAny_pure (k h' a1 a2 a3 a4 a5 a6 a7)) (F.args_zip_next_1 _))))
theorem next_gone_end {q ti po T i1 i2 a b : Addr} {f : Bool} {n1 n2 : Nat} {xs ys : Array Value} {u v : Value} {Q : Option Value → Shared → Prop} (hh : A.handled = none) (D : ZipApart q ti po i1 i2 a b)
    (hq : ZipF s.heap q ti po (rawInt T) f) (gone : s.heap.get? T = none) (pti : IsPair s.heap ti (.ref i1) (.ref i2)) (ppo : IsPair s.heap po u v)
    (w1 : s.heap.IsListIter i1 a n1) (w2 : s.heap.IsListIter i2 b n2) (la : s.heap.IsList a xs) (lb : s.heap.IsList b ys) (over : xs[n1]? = none ∨ ys[n2]? = none)
    (k : ∀ h', (∀ c o, c ≠ q → c ≠ po → c ≠ i1 → c ≠ i2 → s.heap.get? c = some o → h'.get? c = some o) → Q none { s with heap := h' }) : wpAny (model prog w) A (pyNext (.ref q)) Q E s := by
  have ty : s.TypeIs (.ref q) "zip" := ⟨_, hq, rfl⟩
  unfold pyNext
  refine wpAny_bind (wpAny_attempt (wpAny_callSpecial?_slot (name := Str.ofString "__next__") ty F.slot_zip_next (wpAny_call_entry F.slot_zip_next ty F.entry_zip_next (gone_end hh D hq gone pti ppo w1 w2 la lb over fun h' e hk he => ?_) (F.args_zip_next_1 _))))
  obtain ⟨o, ho, hc⟩ := he
  exact wpAny_bind (wpAny_isInstance (T := "StopIteration") (b := true) ⟨o, ho, hc⟩ isSubtype_stop (wpAny_pure (k _ hk)))
end
def ZipSt (q ti po i1 i2 a b : Addr) (i : Nat) (h : Heap) : Prop :=
  (∃ v f, ZipF h q ti po v f ∧ ((v = .none ∧ f = false) ∨ ∃ T : Addr, v = rawInt T)) ∧ IsPair h ti (.ref i1) (.ref i2) ∧ (∃ x y, IsPair h po x y) ∧ h.IsListIter i1 a i ∧ h.IsListIter i2 b i
theorem turn_zipN {P : Program} {w : World} {K : PySem.W.Frag} {nm : Str} {tpos : Pos} {a b q ti po i1 i2 : Addr} (D : ZipApart q ti po i1 i2 a b) : Turn P w K (.Name nm tpos) (Itz K a b) [q, ti, po, i1, i2] q (ZipSt q ti po i1 i2 a b) where
  mem := by simp
  obj := fun i h st c hc => by
    obtain ⟨⟨v, f, hz, _⟩, hti, ⟨x, y, hpo⟩, ⟨o1, e1, _, d1⟩, ⟨o2, e2, _, d2⟩⟩ := st
    have e' : c = q ∨ c = ti ∨ c = po ∨ c = i1 ∨ c = i2 := by simpa using hc
    rcases e' with z | z | z | z | z
    · rw [z]; exact ⟨_, hz, fun v q => nomatch q⟩
    · rw [z]; exact ⟨_, hti, fun v q => nomatch q⟩
    · rw [z]; exact ⟨_, hpo, fun v q => nomatch q⟩
    · rw [z]; exact ⟨o1, e1, fun v q => by rw [d1] at q; cases q⟩
    · rw [z]; exact ⟨o2, e2, fun v q => by rw [d2] at q; cases q⟩
  keep := fun i h h' st k => by
    obtain ⟨⟨v, f, hz, hv⟩, hti, ⟨x, y, hpo⟩, h1, h2⟩ := st
    exact ⟨⟨v, f, k q (by simp) _ hz, hv⟩, k ti (by simp) _ hti, ⟨x, y, k po (by simp) _ hpo⟩, h1.at fun o e => k i1 (by simp) o e, h2.at fun o e => k i2 (by simp) o e⟩
  item := by
    intro X hP hw hK hc i pins s σ H E I hf st hg
    subst hP hw hK
    obtain ⟨⟨v0, f0, hz, hv⟩, hti, ⟨x0, y0, hpo⟩, h1, h2⟩ := st
    obtain ⟨xs, ys, x, y, hqx, hqy, hx, hy⟩ := hg
    obtain ⟨its, rv, p, _⟩ := I.list hqx
    obtain ⟨its2, rv2, p2, _⟩ := I.list hqy
    obtain ⟨u, hu, ru⟩ := rv.get hx
    obtain ⟨u2, hu2, ru2⟩ := rv2.get hy
    have ex : its.toArray[i]? = some u := by simpa using hu
    have ey : its2.toArray[i]? = some u2 := by simpa using hu2
    have below : ∀ c, c ∈ [q, ti, po, i1, i2] → c < s.heap.objs.size := fun c hcm => by
      have e' : c = q ∨ c = ti ∨ c = po ∨ c = i1 ∨ c = i2 := by simpa using hcm
      rcases e' with z | z | z | z | z
      · rw [z]; exact Heap.lt_size hz
      · rw [z]; exact Heap.lt_size hti
      · rw [z]; exact Heap.lt_size hpo
      · rw [z]; obtain ⟨_, e1, _⟩ := h1; exact Heap.lt_size e1
      · rw [z]; obtain ⟨_, e2, _⟩ := h2; exact Heap.lt_size e2
    have fin : ∀ h' : Heap, (∃ v f, ZipF h' q ti po v f ∧ ((v = .none ∧ f = false) ∨ ∃ T : Addr, v = rawInt T)) → (∃ x y, IsPair h' po x y) → h'.IsListIter i1 a (i + 1) → h'.IsListIter i2 b (i + 1) → IsPair h' s.heap.objs.size u u2 →
        (∀ c o, c ≠ q → c ≠ po → c ≠ i1 → c ≠ i2 → s.heap.get? c = some o → h'.get? c = some o) →
        ∃ u, some (Value.ref s.heap.objs.size) = some u ∧ wpAny (model X.prog X.w) X.A (letOwnedTupleGo (.Name nm tpos) (.ref q) u) (fun _ s2 => ∃ x H', Inv X pins σ H' s2 ∧ RelV x u ∧ (Itz X.K a b).yld i H x H' ∧ ZipSt q ti po i1 i2 a b (i + 1) s2.heap ∧ ∀ c ∈ [q, ti, po, i1, i2], H' c = none) E { s with heap := h' } := by
      intro h' a1 a2 a3 a4 a5 hk
      refine ⟨_, rfl, wpAny_pure ?_⟩
      have new : ObjOk X.prog X.w (upd H s.heap.objs.size (.tup [x, y])) h' s.heap.objs.size (.tup [x, y]) := ⟨by show 2 ≤ sizeLine; decide, [u, u2], .cons ru (.cons ru2 .nil), ⟨_, a5, rfl, _, rfl⟩⟩
      have I1 : Inv X pins σ (upd H s.heap.objs.size (.tup [x, y])) { s with heap := h' } :=
        I.turnedNew (t' := s.toks) (ch := [q, ti, po, i1, i2]) (fun c o hb e => hk c o (fun z => hb (by simp [z])) (fun z => hb (by simp [z])) (fun z => hb (by simp [z])) (fun z => hb (by simp [z])) e) hf (Nat.le_refl _) new
      refine ⟨.ref s.heap.objs.size, _, I1, rfl, ⟨_, x, y, rfl, I.hok.fresh (Nat.le_refl _), rfl, fun l hl => by rw [I.list_inj hl hqx]; exact hx, fun l hl => by rw [I.list_inj hl hqy]; exact hy⟩, ⟨a1, hk _ _ D.TIz D.TITO D.TIi1 D.TIi2 hti, a2, a3, a4⟩, fun c hcm => ?_⟩
      rw [upd_ne (Nat.ne_of_lt (below c hcm))]
      exact (hf c hcm).1
    rcases hv with ⟨rfl, rfl⟩ | ⟨T, rfl⟩
    · exact wpAny_pyNext_zip_item D hz hti hpo h1 h2 p.isList p2.isList ex ey fun h' a1 a2 a3 a4 a5 _ hk => fin h' ⟨_, _, a1, .inr ⟨_, rfl⟩⟩ ⟨_, _, a2⟩ a3 a4 a5 hk
    · cases hT : s.heap.get? T with
      | some oT => exact wpAny_pyNext_zip_item_held D hz hT hti h1 h2 p.isList p2.isList ex ey fun h' a1 a3 a4 a5 _ hk => fin h' ⟨_, _, a1, .inr ⟨_, rfl⟩⟩ ⟨_, _, hk _ _ D.TOz D.TOi1 D.TOi2 hpo⟩ a3 a4 a5 fun c o e1 _ e3 e4 e => hk c o e1 e3 e4 e
      | none => exact next_gone_item D hz hT hti hpo h1 h2 p.isList p2.isList ex ey fun h' a1 a2 a3 a4 a5 _ hk => fin h' ⟨_, _, a1, .inr ⟨_, rfl⟩⟩ ⟨_, _, a2⟩ a3 a4 a5 hk
  done := by
    intro X hP hw hK hc i pins s σ H E I hf st hg
    subst hP hw hK
    obtain ⟨⟨v0, f0, hz, hv⟩, hti, ⟨x0, y0, hpo⟩, h1, h2⟩ := st
    obtain ⟨xs, ys, hqx, hqy, hend⟩ := hg
    obtain ⟨its, rv, p, _⟩ := I.list hqx
    obtain ⟨its2, rv2, p2, _⟩ := I.list hqy
    have l1 := rv.length
    have l2 := rv2.length
    have he : its.toArray[i]? = none ∨ its2.toArray[i]? = none := hend.elim (fun z => .inl (by simp; omega)) fun z => .inr (by simp; omega)
    have fin : ∀ h' : Heap, (∀ c o, c ≠ q → c ≠ po → c ≠ i1 → c ≠ i2 → s.heap.get? c = some o → h'.get? c = some o) → (none : Option Value) = none ∧ Inv X pins σ H { s with heap := h' } := fun h' hk => ⟨rfl, I.turnedL (t' := s.toks) (ch := [q, ti, po, i1, i2]) (fun c o hb e =>
      hk c o (fun z => hb (by simp [z])) (fun z => hb (by simp [z])) (fun z => hb (by simp [z])) (fun z => hb (by simp [z])) e) hf⟩
    rcases hv with ⟨rfl, rfl⟩ | ⟨T, rfl⟩
    · exact wpAny_pyNext_zip_end (I.ok.hd hc) D hz hti hpo h1 h2 p.isList p2.isList he fun h' hk => fin h' hk
    · cases hT : s.heap.get? T with
      | some oT => exact wpAny_pyNext_zip_end_held (I.ok.hd hc) D hz hT hti h1 h2 p.isList p2.isList he fun h' hk => fin h' fun c o e1 _ e3 e4 e => hk c o e1 e3 e4 e
      | none => exact next_gone_end (I.ok.hd hc) D hz hT hti hpo h1 h2 p.isList p2.isList he fun h' hk => fin h' hk
  self := fun A i s Q E st h => by
    obtain ⟨⟨v0, f0, hz, _⟩, _⟩ := st
    have ty : s.TypeIs (.ref q) "zip" := ⟨_, hz, rfl⟩
    refine wpAny_pyIter_slot ty F.slot_zip_iter (wpAny_call_entry F.slot_zip_iter ty F.entry_zip_iter ?_ (F.args_zip_iter_1 _))
    show wpAny _ _ (ret (.ref q)) _ _ s
    exact wpAny_pure ⟨_, rfl, "zip", _, ty, F.slot_zip_next.lookup, h⟩
def iZipN (K : PySem.W.Frag) (ta : TA) : TI := fun σ H R => ta σ H fun vs H1 => ∃ a b xs ys, vs = [.ref a, .ref b] ∧ SqL K H1 a xs ∧ SqL K H1 b ys ∧ R (Itz K a b) H1
theorem pi_zipN {X : Cx} {e e2 : Expr} {ta : TA} {p pos tpos : Pos} {nm : Str} (hg : Gl X "zip") (hm : X.mg "zip" = none) (ha : PA X [e, e2] ta)
    (hs : starEach [e, e2] X.env = (false, eval e X.env) :: starEach [e2] X.env := by rfl) (hpl : (backTo pos (starEach [e2] X.env)).any (·.1) = false := by rfl) :
    PI X (.Name nm tpos) (.Call (.Name "zip" p) [e, e2] [] pos) (iZipN X.K ta) := by
  refine ⟨fun pins s σ H R I h => Call_ (ld_blt I hg hm PyProof.Rows.boot_zip (PyProof.Rows.callWith_type1 (thn (ha.run pos pins s σ H _ I h) fun us s1 ⟨vs, H1, I1, r1, q1⟩ => ?_) hs hpl))⟩
  obtain ⟨a, b, xs, ys, rfl, hqx, hqy, q⟩ := q1
  obtain ⟨u, u2, rfl, ru, ru2⟩ := vals2 r1
  cases ru
  cases ru2
  have fresh5 : ∀ c, c ∈ [s1.heap.objs.size + 4, s1.heap.objs.size + 2, s1.heap.objs.size + 3, s1.heap.objs.size, s1.heap.objs.size + 1] → FpOk X pins H1 c := fun c hcm => by
    have hle : s1.heap.objs.size ≤ c := by
      simp only [List.mem_cons, List.not_mem_nil, or_false] at hcm
      rcases hcm with z | z | z | z | z <;> rw [z] <;> first | exact Nat.le_refl _ | exact Nat.le_add_right _ _
    exact I1.fpOk hle (I1.hok.fresh hle)
  obtain ⟨its, rv, p1, _⟩ := I1.list hqx
  obtain ⟨its2, rv2, p2, _⟩ := I1.list hqy
  refine call_zip_2 p1.isList p2.isList fun h' hz hTI hTO h1 h2 hsz hk => wpAny_pyIter_zip hz ?_
  have I2 : Inv X pins σ H1 { s1 with heap := h' } := I1.kept (t' := s1.toks) hk
  exact ⟨s1.heap.objs.size + 4, [s1.heap.objs.size + 4, s1.heap.objs.size + 2, s1.heap.objs.size + 3, s1.heap.objs.size, s1.heap.objs.size + 1], _, _, H1, rfl, I2, turn_zipN (PySem.W.ktu_apart s1.heap.objs.size a b p1.lt p2.lt), ⟨⟨.none, false, hz, .inl ⟨rfl, rfl⟩⟩, hTI, ⟨_, _, hTO⟩, h1, h2⟩, fresh5, q⟩
end RZ
namespace L3
open PySem PySem.Spec PyProof.Rows L2
section
variable {K : PySem.W.Frag} {X : Cx} {tpos p pos : Pos} {nm : Str} {a b : Expr} {tl : TA} {L : AV}
def iZipO (L : AV) : IV := fun Γ C Q => L Γ C fun ds C1 => ∃ d d' xs ys, ds = [d, d'] ∧ lstOf C1 d = some xs ∧ lstOf C1 d' = some ys ∧ (noptrs xs && noptrs ys) = true ∧ Q (zipD xs ys) (srcOf d ++ srcOf d') C1
theorem vi_zipO (hK : X.K = K) (hm : X.mg "zip" = none) (h : VA K X [a, b] tl L) (hg : Gl X "zip" := by rfl) (hs : starEach [a, b] X.env = (false, eval a X.env) :: starEach [b] X.env := by rfl) (hpl : (backTo pos (starEach [b] X.env)).any (·.1) = false := by rfl) :
    VI K X (.Name nm tpos) (.Call (.Name "zip" p) [a, b] [] pos) (RZ.iZipN K tl) (iZipO L) := by
  subst hK
  refine ⟨RZ.pi_zipN hg hm h.pa hs hpl, fun H0 A0 av ad Γ C σ H Q3 Rr R h3 q => ?_⟩
  refine h.sim H0 A0 av ad Γ C σ H _ _ R h3 fun vs H' av' ad' ds C' R' l' dv ⟨d, d', xs, ys, e1, e, e', hnp, q3⟩ => ?_
  subst e1
  simp only [Bool.and_eq_true] at hnp
  obtain ⟨v, v', rfl, r, r'⟩ := den2 dv
  obtain ⟨a, rfl, ⟨vs, hs⟩, later⟩ := lst_later (ds := zipD xs ys) (src := srcOf d ++ srcOf d') R' r e (fun _ z => List.mem_append_left _ z) (fun _ => hnp.1)
  obtain ⟨b, rfl, ⟨us, hs2⟩, later2⟩ := lst_later (ds := zipD xs ys) (src := srcOf d ++ srcOf d') R' r' e' (fun _ z => List.mem_append_right _ z) (fun _ => hnp.2)
  refine ⟨a, b, vs, us, rfl, hs, hs2, q _ H' av' ad' C' _ _ R' l' (fun av1 ad1 Γ1 C1 σ1 H1 i R1 k => ?_) q3⟩
  obtain ⟨vs1, s1, r1⟩ := later av1 ad1 Γ1 C1 σ1 H1 R1 k
  obtain ⟨us1, s2, r2⟩ := later2 av1 ad1 Γ1 C1 σ1 H1 R1 k
  have l1 := r1.length
  have l2 := r2.length
  rw [zipD_len]
  refine ⟨fun hi => ⟨⟨vs1, us1, vs1[i]'(by omega), us1[i]'(by omega), s1, s2, by simp, by simp⟩, fun y H2 ⟨T, x, z, e1, e2, e3, e4, e5⟩ => ?_⟩, fun hi => ⟨vs1, us1, s1, s2, by omega⟩⟩
  subst e1 e3
  obtain ⟨dx, e6, rx⟩ := r1.get' (e4 vs1 s1)
  obtain ⟨dz, e7, rz⟩ := r2.get' (e5 us1 s2)
  exact ⟨same_upd e2, _, zipD_get xs ys i e6 e7, .tup ⟨upd_same, R1.nav e2⟩ (.cons (rx.le (Le.new e2)) (.cons (rz.le (Le.new e2)) .nil))⟩
end
def kf2 : List D → List Nat
  | _ :: .ptr k :: _ => [k]
  | _ => []
end L3
namespace L3
open PySem PySem.Spec PyProof.Rows L2
section
variable {K : PySem.W.Frag} {X : Cx} {es : List Expr} {gs : TGs} {Gs : GVs} {pos : Pos}
end
end L3
namespace L3
open PySem PySem.Spec PyProof.Rows L2
section
variable {h : Bool → Bool} {g g' : Nat → D}
end
section
variable {K : PySem.W.Frag} {X : Cx} {CX : CXT} {k n : Nat} {f : Addr} {fd : FuncData} {ps : List Str} {P : PV} {x : Str} {p pos : Pos} {e : Expr} {es : List Expr} {tl : TA} {L : AV}
end
end L3
namespace L3
open PySem PySem.Spec PyProof.Rows L2
section
variable {K : PySem.W.Frag} {X : Cx} {kx vx tg iter c : Expr} {ifs : List Expr} {scope : Scope} {own : List (Str × Nat)} {pos spos py : Pos} {wi : TI} {g : TG} {tt : TT} {tk tv : TE} {I : IV} {G : GV} {B : BV} {Ek Ev : EV} {F : FV} {x y : Str}
end
section
variable {K : PySem.W.Frag}
end
end L3
namespace L3
open PySem PySem.Spec PyProof.Rows L2
section
variable {K : PySem.W.Frag}
end
end L3
namespace L3
open PySem PySem.Spec PyProof.Rows L2
end L3
namespace L3
open PySem PySem.Spec PyProof.Rows L2
abbrev PVX := List D → Store → (D → Store → Prop) → (XD → Store → Prop) → Prop
def PVX.calm (P : PVX) : PV := fun ds C Q => P ds C Q fun _ _ => False
def Sp3X (K : PySem.W.Frag) (n : Nat) (P : PVX) : Sp := fun vs H Q E => ∃ (A0 : List Addr) (av : Av) (ds : List D) (C : Store) (Q3 : D → Store → Prop) (X3 : XD → Store → Prop), A0.length = n ∧ Rep K H A0 av (A0.map some) (ds.map some) C (vs.map some) H ∧ P ds C Q3 X3 ∧
  (∀ (av' : Av) (v : V) (H' : Hp) (d : D) (C' : Store), Rep K H A0 av' (A0.map some) [] C' [] H' → Fz av H av' H' → (∀ a, av a → av' a) → Den K H av' (A0.map some) H' v d → Q3 d C' → Q v H') ∧
  ∀ (av' : Av) (H' : Hp) (cls : Value) (d : Option Addr) (x : XD) (C' : Store), Rep K H A0 av' (A0.map some) [] C' [] H' → Fz av H av' H' → (∀ a, av a → av' a) → DenX K H av' (A0.map some) H' cls d x → X3 x C' → E cls d H'
theorem sp_calm {K : PySem.W.Frag} {n : Nat} {P : PVX} {vs : List V} {H : Hp} {Q : VK} {E E' : XK} (h : Sp3 K n P.calm vs H Q E) : Sp3X K n P vs H Q E' := by
  obtain ⟨A0, av, ds, C, Q3, e, R, hp, q⟩ := h
  exact ⟨A0, av, ds, C, Q3, _, e, R, hp, q, fun _ _ _ _ _ _ _ _ _ _ z => z.elim⟩
section
variable {P : Program} {w : World} {K : PySem.W.Frag} {mg : Str → Option Value} {base : Heap} {k n : Nat} {f : Addr} {fd : FuncData} {ps : List Str}
theorem calmF {PX : PVX} (F : FnOkG P w K mg base (L2.CX P w) k f fd ps (Sp3X K n PX)) : FnOkG P w K mg base CX0 k f fd ps (Sp3 K n PX.calm) := by
  refine ⟨fun vs H Q E h => F.len vs H Q E (sp_calm h), fun A outer s H args us vs Q E hr e0 hb r h => ?_⟩
  refine codeAny_mono (F.run A outer s H args us vs Q (fun _ _ _ => False) hr e0 hb r (sp_calm h)) fun r s' hq => ?_
  rcases r with e | fl
  · obtain ⟨_, _, _, _, _, _, _, _, _, _, _, _, z⟩ := hq
    exact z.elim
  · cases fl <;> exact hq
end
section
variable {P : Program} {w : World} {K : PySem.W.Frag} {mg : Str → Option Value} {base : Heap} {x qual : Str} {params : Arguments} {body : List Stmt} {scope : Scope} {dvs : List V} {kws : List (Str × V)} {f : Addr} {fd : FuncData}
end
section
variable {X : Cx} {CX : CXT} {k : Nat} {f : Addr} {fd : FuncData} {ps : List Str} {sp : Sp} {E : L2.St → XK} {x : Str} {p pos : Pos} {e : Expr} {es : List Expr} {t : TA}
end
section
variable {K : PySem.W.Frag} {X : Cx} {k : Nat} {f : Addr} {fd : FuncData} {ps : List Str} {P : PVX} {x : Str} {p pos pos2 : Pos} {e : Expr} {es : List Expr} {tl : TA} {L : AV} {W0 : WX}
variable (tk : Takes X W0) (F : FnOkG X.prog X.w X.K X.mg X.base (L2.CX X.prog X.w) k f fd ps (Sp3X K 0 P)) (hr : RoomG k X.A) (hm : X.mg x = some (.ref f)) (hk : PySem.W.keepIn X.K (.ref f) = true) (hb : Binds X.K fd ps []) (ha : VA K X (e :: es) tl L)
include tk F hr hm hk hb ha
end
section
variable {K : PySem.W.Frag} {X : Cx} {x : Str} {c : Value} {body suite : List Stmt} {b₀ : Stmt} {np pos pos' : Pos} {tb : WX → TS} {Tb : WX → SV} {us : TS} {U : SV} {Wout : WX} {ms : List (Str × Bool)}
end
end L3
namespace L3
open PySem PySem.Spec PyProof.Rows L2
theorem cal_never {P : Program} {w : World} {K : PySem.W.Frag} {mg : Str → Option Value} {base : Heap} {k n : Nat} {x : Str} {st : Stmt} {ps : List Str} {f : Addr} {fd : FuncData} (F : FnD K x st f fd) (g : mg x = some (.ref f)) (b : Binds K fd ps []) : Cal P w K mg base k x st ps n fun _ _ _ => False :=
  ⟨f, fd, ⟨fun _ _ _ _ ⟨_, _, _, _, _, _, _, h, _⟩ => h.elim, fun _ _ _ _ _ _ _ _ _ _ _ _ _ ⟨_, _, _, _, _, _, _, h, _⟩ => h.elim⟩, g, F.kp, b, F⟩
def isLstO (o : Obj) : Bool := match o.cls with
  | .type c => decide (c = "list")
  | _ => false
def frL (g : Addr → Option Obj) (as : List Addr) : PySem.W.Frag := (He.frG g as).filter fun q => !isLstO q.2
theorem frL_mem {g : Addr → Option Obj} {as : List Addr} {a : Addr} {o : Obj} (h : (frL g as).lookup a = some o) : g a = some o ∧ isLstO o = false := by
  obtain ⟨h1, h2⟩ := List.mem_filter.mp (He.lookup_mem h)
  refine ⟨He.frG_mem h1, ?_⟩
  have h3 : (!isLstO o) = true := h2
  simpa using h3
def NoL (K : PySem.W.Frag) : Prop := ∀ a o, K.lookup a = some o → isLstO o = false
def obsL (n : Nat) (fa : List He.Fa) (fn : List He.DefD) (g : Addr → Option Obj) : He.AlD := He.obsD fa fn (frL g (He.asD g n))
def hookL (n : Nat) (fa : List He.Fa) (fn : List He.DefD) : PySem.W.Hook where
  α := He.AlD
  obs := fun s => obsL n fa fn s.heap.get?
  val := fun _ => He.valD fn
  says := fun _ h => ∃ K : PySem.W.Frag, K.In h ∧ He.SaysD fa fn K ∧ NoL K
  of := fun _ _ e => ⟨_, fun _ _ h => (frL_mem h).1, e, fun _ _ h => (frL_mem h).2⟩
  keeps := fun _ _ _ ⟨K, hK, c, n⟩ k => ⟨K, PySem.W.Frag.In.keeps hK k, c, n⟩
theorem obsL_eq {n : Nat} {fa : List He.Fa} {fn : List He.DefD} {g : Addr → Option Obj} {s : Shared} (h : ∀ a, g a = s.heap.get? a) : obsL n fa fn g = (hookL n fa fn).obs s := by
  have e : g = s.heap.get? := funext h
  rw [e] <;> rfl
theorem law_callG {P : Program} {w : World} {K : PySem.W.Frag} {mg mb : Str → Option Value} {k : Nat} {fa a : Addr} {fd : FuncData} {x : Str} {Pv : PV} {s₁ : Shared} {vs : List Value} {ns : List Int}
    (KX : K.In s₁.heap) (hns : s₁.heap.Ns mainGlobals mg) (hb : s₁.heap.Ns builtinsNs mb) (hbb : ∀ x : Str, x ≠ "__name__" → mb x = bootBuiltins x) (hlim : s₁.heap.NoLimit) (hg : s₁.gens = #[])
    (ha : s₁.heap.get? a = some { cls := .type "list", data := .seq vs.toArray }) (hK : K.lookup a = none) (hi : IntsAre vs ns) (hl : ns.length ≤ sizeLine) (hr : Room k callerA)
    (F : ∀ base : Heap, K.In base → base.Ns mainGlobals mg → FnOkG P w K mg base CX0 k fa fd [x] (Sp3 K 0 Pv)) (hbind : ∀ (s : Shared) (u : Value), BindsTo s fd ⟨[u], []⟩ [(x, u)])
    (hP : Pv [.lst true (ns.map .int)] [] fun d _ => d = .bl true) :
    codeAny (model P w) callerA (.call (.ref fa) ⟨[.ref a], []⟩) (fun r s' => r = .ok (.ret (.bool true)) ∧ OldK s₁.heap s'.heap ∧ s'.os = s₁.os ∧ AllBare s'.gens) s₁ := by
  have rv := vals_ints hi
  let ob : Obj := { cls := .type "list", data := .seq vs.toArray }
  let H : Hp := fun b => if b = a then some (.frz ob (.lst (ns.map V.int))) else none
  have Ha : H a = some (.frz ob (.lst (ns.map V.int))) := if_pos rfl
  have Hn : ∀ b, b ≠ a → H b = none := fun b h => if_neg h
  have hok : HOk P w H s₁.heap := fun b u z => by
    by_cases h : b = a
    · subst h
      rw [Ha] at z
      cases z
      exact ⟨ha, by rw [List.length_map]; exact hl, vs, _, rv, ha⟩
    · rw [Hn b h] at z; cases z
  have noA : ∀ {b : Addr} {o : Obj}, s₁.heap.get? b = some o → (∀ q n, o.data ≠ .seq q n) → H b = none := fun {b o} e d => by
    refine Hn b fun h => ?_
    subst h
    rw [ha] at e
    cases e
    exact d _ _ rfl
  have nsK : ∀ {b : Addr} {m : Str → Option Value}, s₁.heap.Ns b m → (hidT s₁.heap H).Ns b m := fun ⟨o, es, ep, e, d, r⟩ => ⟨o, es, ep, hidT_get e (noA e fun q n z => by rw [d] at z; cases z), d, r⟩
  have hKb : K.In (hidT s₁.heap H) := fun b o e => hidT_get (KX b o e) (Hn b fun h => by subst h; rw [hK] at e; cases e)
  have hM : Mod K mg (hidT s₁.heap H) := ⟨hKb, nsK hns, ⟨mb, nsK hb, hbb⟩, let ⟨mc, h1, h2⟩ := hlim; ⟨mc, nsK h1, h2⟩⟩
  have e0 : Env0 P w K mg (hidT s₁.heap H) callerA [] s₁ H := ⟨rfl, hM, fun b o e => of_hidT e, Nat.le_of_eq (hidT_size _ _), trivial, fun b hb => absurd (show b ∈ ([] : List Addr) from hb) (by simp), hok, .of_eq hg⟩
  have R : Rep K H [] (fun _ => False) [] [some (.lst true (ns.map .int))] [] [some (.ref a)] H := by
    refine ⟨fun b h => by simp at h, fun b h => h.elim, fun b xs h => h.elim, fun i j b h => by simp at h, rfl, fun i b h => by simp at h, fun i b h => by simp at h, fun b o h _ => h, fun b h => h, fun i h => by simp at h, fun i b c h => by simp at h, rfl, fun i d h => ?_⟩
    cases i with
    | zero =>
      cases h
      exact ⟨.ref a, rfl, .lst ⟨.inr ⟨ob, Ha⟩, fun z => z⟩ (fun z => nomatch z) ints_den⟩
    | succ i => simp at h
  refine codeAny_mono ((F _ hKb (nsK hns)).run callerA [] s₁ H ⟨[.ref a], []⟩ [.ref a] [.ref a] (fun v _ => v = .bl true) (fun _ _ _ => False) ⟨hr, rfl⟩ e0 (hbind s₁ (.ref a)) (.cons rfl .nil)
    ⟨[], fun _ => False, [.lst true (ns.map .int)], [], fun d _ => d = .bl true, rfl, R, hP, fun av' v H' d C' _ _ _ x e => by subst e; cases x; rfl⟩) fun r s' h => ?_
  cases r with
  | error e => exact False.elim h
  | ok fl =>
    cases fl with
    | ret u =>
      obtain ⟨v, H', os, bare, un, hok', r', q⟩ := h
      have q' : v = .bl true := q
      subst q'
      obtain rfl : u = Value.bool true := r'
      refine ⟨rfl, OldK.of_keep fun b o e => ?_, os, bare⟩
      by_cases hba : b = a
      · subst hba
        have z2 := un.frzs b ob _ Ha
        obtain ⟨e1, _⟩ := hok b _ Ha
        obtain ⟨e2, _⟩ := hok' b _ z2
        rw [e] at e1
        cases e1
        exact e2
      · exact un.keep b o e (Hn b hba) (by intro z; exact absurd (show b ∈ ([] : List Addr) from z) (by simp)) (by simp)
    | _ => exact False.elim h
theorem walk_ofG {l : PySem.W.OpenLaw} {n k : Nat} {q : Program} {loose : List Str} {XP : (Str → Option Value) → Heap → Prop} {YP : World → Heap → Prop} {d : DefRec} {x : Str} {Pv : PV}
    (hn : l.most = some n) (hn2 : n ≤ sizeLine) (hdf : d.params.defaults = []) (hr : Room k callerA)
    (F : ∀ (w : World) (mg : Str → Option Value) (fa : Addr) (h : Heap), YP w h → h.Ns mainGlobals mg → mg d.name = some (.ref fa) →
      ∃ (K : PySem.W.Frag) (fd : FuncData), K.In h ∧ NoL K ∧ (∀ (s : Shared) (u : Value), BindsTo s fd ⟨[u], []⟩ [(x, u)]) ∧ ∀ base : Heap, K.In base → base.Ns mainGlobals mg → FnOkG l.prog w K mg base CX0 k fa fd [x] (Sp3 K 0 Pv))
    (hP : ∀ ns : List Int, ns.length ≤ n → Pv [.lst true (ns.map .int)] [] fun d _ => d = .bl true) :
    PySem.W.WalkO q loose XP YP l.row.toRowW d [] (fun f vs => PySem.call f vs) := by
  refine Att.attach_call hn hdf fun w s₀ s₁ mg mb fa o pm cd doc a vs ns G Y ho hd hcd hmg hobj hints hlen hg => ?_
  obtain ⟨K, fd, KX, hL, hb, hF⟩ := F w mg fa _ Y G.T.g hmg
  have hK : K.lookup a = none := by
    cases e : K.lookup a with
    | none => rfl
    | some o =>
      have h1 := hL a o e
      have h2 := KX a o e
      rw [hobj] at h2
      cases h2
      cases h1
  exact law_callG KX G.T.g G.T.b G.T.builtins G.T.nolimit hg hobj hK hints (Nat.le_trans hlen hn2) hr hF hb (hP ns hlen)
end L3
namespace L2
open PySem PySem.Spec PyProof.Rows
section
variable {P : Program} {w : World} {K : PySem.W.Frag} {mg : Str → Option Value} {base : Heap} {qual : Str} {params : Arguments} {body : List Stmt} {scope : Scope} {f : Addr} {fd : FuncData} {fld y msg : Str} {k : Nat}
end
end L2
namespace L3
open PySem PySem.Spec PyProof.Rows L2
section
variable {K : PySem.W.Frag} {X : Cx} {nm f y : Str} {fI : Addr} {k : Nat} {fd : FuncData} {e : Expr} {es : List Expr} {tl : TA} {L : AV} {p pos pos2 : Pos} {W0 : WX}
end
section
variable {K : PySem.W.Frag} {X : Cx} {i j : Nat} {nm f n x : Str} {fI : Addr} {p pos : Pos} {e : Expr} {val : XD → Option D} {t : Addr → Value → Option Addr → TE}
end
section
variable {K : PySem.W.Frag} {X : Cx} {x n : Str} {c : Value} {i : Nat} {body suite : List Stmt} {b₀ : Stmt} {np pos pos' : Pos} {tb : WX → TS} {Tb : WX → SV} {us : Addr → Value → Option Addr → TS} {U : XD → SV} {Wout : WX} {ms : List (Str × Bool)}
end
end L3
namespace L3
open PySem PySem.Spec PyProof.Rows L2
def CalX (P : Program) (w : World) (K : PySem.W.Frag) (mg : Str → Option Value) (base : Heap) (k : Nat) (x : Str) (st : Stmt) (ps : List Str) (n : Nat) (Pv : PVX) : Prop :=
  ∃ (f : Addr) (fd : FuncData), FnOkG P w K mg base (L2.CX P w) k f fd ps (Sp3X K n Pv) ∧ mg x = some (.ref f) ∧ PySem.W.keepIn K (.ref f) = true ∧ Binds K fd ps [] ∧ FnD K x st f fd
theorem CalX.calm {P : Program} {w : World} {K : PySem.W.Frag} {mg : Str → Option Value} {base : Heap} {k : Nat} {x : Str} {st : Stmt} {ps : List Str} {n : Nat} {Pv : PVX} (h : CalX P w K mg base k x st ps n Pv) : Cal P w K mg base k x st ps n Pv.calm := by
  obtain ⟨f, fd, G, g, kp, b, F⟩ := h
  exact ⟨f, fd, calmF G, g, kp, b, F⟩
theorem noptrs_all : ∀ ds : List D, noptrs ds = ds.all noptr
  | [] => rfl
  | d :: ds => by
    have := noptrs_all ds
    simp [noptrs, this]
section
variable {K : PySem.W.Frag} {X : Cx} {tg l : Expr} {tl : TA} {L : AV} {p pos : Pos}
end
end L3
namespace L3
open PySem PySem.Spec PyProof.Rows L2
end L3
namespace L3
open PySem PySem.Spec PyProof.Rows L2
def adv (ad : Ads) : Av := fun a => some a ∈ ad
section
variable {K : PySem.W.Frag} {H0 : Hp} {A0 : List Addr} {av : Av} {ad : Ads} {Γ : Slots} {C : Store} {σ : L2.St} {H : Hp}
theorem Rep.bare (R : Rep K H0 A0 av ad Γ C σ H) : Rep K H0 A0 (adv ad) ad [] C [] H := (R.unban (av' := adv ad) (fun a h => R.sub a h) (fun a h => h)).slots rfl fun i d h => by simp at h
end
section
variable {P : Program} {w : World} {K : PySem.W.Frag} {mg : Str → Option Value} {base : Heap} {x qual : Str} {params : Arguments} {body : List Stmt} {scope : Scope} {dvs : List V} {kws : List (Str × V)} {f : Addr} {fd : FuncData}
end
section
variable {K : PySem.W.Frag} {H0 : Hp} {A0 : List Addr} {av : Av} {ad : Ads} {Γ : Slots} {C : Store} {σ : L2.St} {H : Hp}
end
end L3
namespace L3
open PySem PySem.Spec PyProof.Rows L2
section
variable {K : PySem.W.Frag} {X : Cx} {e o value : Expr} {es : List Expr} {ta tv : TE} {Eo Ev : EV} {tl : TA} {L : AV} {nm f m x : Str} {pos pos' p apos : Pos} {k n : Nat} {fa : Addr} {fd : FuncData} {ps : List Str} {P : PV}
end
end L3
namespace L3
open PySem PySem.Spec PyProof.Rows L2
section
variable {W0 : WX} {i n : Nat} {nm f : Str} {P : PVX} {L : AV} {De : En} {Γ : Slots} {C : Store} {ms : List (Str × Bool)} {Tb : WX → SV} {U : SV} {Ux : XD → SV} {val : XD → Option D} {x : XD}
end
end L3
namespace L3
open PySem PySem.Spec PyProof.Rows L2
section
variable {K : PySem.W.Frag} {H0 : Hp} {A0 : List Addr} {av : Av} {ad : Ads} {Γ : Slots} {C : Store} {σ : L2.St} {H : Hp}
end
section
variable {K : PySem.W.Frag} {X : Cx} {e o value : Expr} {es : List Expr} {ta tv : TE} {Eo Ev : EV} {tl : TA} {L : AV} {nm f m x : Str} {pos pos' p apos : Pos} {k n : Nat} {fa : Addr} {fd : FuncData} {ps : List Str} {P : PV}
end
section
variable {K : PySem.W.Frag} {X : Cx} {k : Nat} {f : Addr} {fd : FuncData} {ps : List Str} {P : PVX} {x : Str} {p pos pos2 : Pos} {e : Expr} {es : List Expr} {tl : TA} {L : AV} {W0 : WX}
variable {De : En} {Γ : Slots} {C : Store} {i : Nat}
variable (tk : Takes X W0) (F : FnOkG X.prog X.w X.K X.mg X.base (L2.CX X.prog X.w) k f fd ps (Sp3X K 0 P)) (hr : RoomG k X.A) (hm : X.mg x = some (.ref f)) (hk : PySem.W.keepIn X.K (.ref f) = true) (hb : Binds X.K fd ps []) (ha : VA K X (e :: es) tl L)
include tk F hr hm hk hb ha
end
section
variable {K : PySem.W.Frag} {X : Cx} {e f e2 f2 : Expr} {pos : Pos} {tk tv tl tw : TE} {Ek Ev El Ew : EV}
end
end L3
namespace L2
open PySem PySem.Spec PySem.Calls PyProof.Rows
section
variable {pr : Program} {wd : World} {Ar : Around} {Ex : Value → Shared → Prop} {sh : Shared} {Kf : PySem.W.Frag} {xa Da : Addr} {obx : Obj} {odx : Option Obj}
end
end L2
namespace L3
open PySem PySem.Spec PyProof.Rows L2
def kitB (K : PySem.W.Frag) (nm c : Str) (b : Bool) : Bool := decide (PySem.W.kitOne K (.ref (He.ga K nm)) (.ref (He.ga K c)) = some b)
section
variable {K : PySem.W.Frag} {X : Cx} {i j : Nat} {nm f n x c : Str} {p p2 p3 pos : Pos} {e e2 e3 : Expr} {val u : XD → Option D} {bv bu : XD → Option Bool} {t ta tb : Addr → Value → Option Addr → TE} {tt tu : Addr → Value → Option Addr → TT} {ms : List (Str × Bool)}
end
end L3
namespace L2
open PySem PySem.Spec PyProof.Rows
end L2
namespace L3
open PySem PySem.Spec PyProof.Rows L2
section
variable {K : PySem.W.Frag} {X : Cx} {e f : Expr} {pos : Pos} {tk tv : TE} {Ek Ev : EV}
end
end L3
namespace L3
open PySem PySem.Spec PyProof.Rows L2
end L3
namespace L2
open PySem PySem.Spec PyProof.Rows
end L2
namespace L3
open PySem PySem.Spec PyProof.Rows L2
section
variable {K : PySem.W.Frag}
end
end L3
namespace L2
open PySem PySem.Spec PyProof.Rows
abbrev tkd (P : Program) (w : World) := tupleKind (mixKind P w)
def mergedH (acc rest : List (List Key × Addr × Value)) : List (List Key × Addr × Value) := rest.foldl (fun a q => storedH a q.1 q.2.1 q.2.2) acc
def mergeT (acc : List (List Key × V)) (rest : List (List Key × V)) : List (List Key × V) := rest.foldl (fun a q => putK a q.1 q.2) acc
theorem storedH_le (xs : List (List Key × Addr × Value)) (k : List Key) (a : Addr) (v : Value) : (storedH xs k a v).length ≤ xs.length + 1 := by
  unfold storedH
  split <;> simp
theorem storedH_mem {xs : List (List Key × Addr × Value)} {k : List Key} {a : Addr} {v : Value} {x : List Key × Addr × Value} (h : x ∈ storedH xs k a v) : x.2.1 = a ∨ ∃ y, y ∈ xs ∧ x.2.1 = y.2.1 := by
  unfold storedH at h
  split at h
  · obtain ⟨y, hy, rfl⟩ := List.mem_map.mp h
    refine .inr ⟨y, hy, ?_⟩
    unfold putAt
    split <;> rfl
  · rcases List.mem_append.mp h with h | h
    · exact .inr ⟨x, h, rfl⟩
    · rw [List.mem_singleton.mp h]
      exact .inl rfl
theorem tkey_keep {P : Program} {w : World} {h h' : Heap} {k : List Key} {a : Addr} (x : (tkd P w).is h k a) (e : ∀ o, h.get? a = some o → h'.get? a = some o) : (tkd P w).is h' k a :=
  let ⟨o, its, n, h1, h2, h3, h4⟩ := x; ⟨o, its, n, e o h1, h2, h3, h4⟩
theorem dictH_keep {P : Program} {w : World} {h h' : Heap} {d : Addr} {xs : List (List Key × Addr × Value)} (x : h.DictOfH (tkd P w) d xs) (e : ∀ o, h.get? d = some o → h'.get? d = some o) (ek : ∀ z, z ∈ xs → ∀ o, h.get? z.2.1 = some o → h'.get? z.2.1 = some o) : h'.DictOfH (tkd P w) d xs :=
  let ⟨o, es, ep, h1, h2, h3, h4, h5, h6⟩ := x; ⟨o, es, ep, e o h1, h2, h3, h4, fun z hz => tkey_keep (h5 z hz) (ek z hz), h6⟩
section
variable {prog : Program} {w : World} {A : Around} {E : Value → Shared → Prop}
theorem updT_loop {R : Result → Shared → Prop} {S I l : Addr} {items : Array Value} {res : Value} (hh : A.handled = none) (hu : A.units + 1 < cLine) (hlI : l ≠ I) (hSI : S ≠ I) (hSl : S ≠ l) :
    ∀ (rest : List (List Key × Addr × Value)) (i : Nat) (acc : List (List Key × Addr × Value)) (ix : Int) (t : Tok) (s : Shared), items.size = i + rest.length → acc.length + rest.length ≤ sizeLine →
      (∀ (j : Nat) (q : List Key × Addr × Value), rest[j]? = some q → ∃ (b : Addr), items[i + j]? = some (.ref b) ∧ b ≠ S ∧ b ≠ I ∧ q.2.1 ≠ S ∧ q.2.1 ≠ I ∧ IsTup s.heap b #[.ref q.2.1, q.2.2] ∧ (tkd prog w).is s.heap q.1 q.2.1) →
      (∀ z, z ∈ acc → z.2.1 ≠ I) → s.heap.IsListIter I l i → s.heap.IsList l items → s.heap.DictOfH (tkd prog w) S acc →
      (∀ h' tk, h'.DictOfH (tkd prog w) S (mergedH acc rest) → (∀ b o, b ≠ S → b ≠ I → s.heap.get? b = some o → h'.get? b = some o) → R (.ok (.ret res)) { s with heap := h', toks := tk }) →
      codeAny (model prog w) A (.builtin "dict.update.loop" ⟨[.ref S, .ref I, .int ix t, res], []⟩) R s
  | [], i, acc, ix, t, s, hsz, hln, ht, hacc, hit, hl, hm, hR => by
    refine codeAny_builtin ud_entry ?_
    rw [Around.under_plainId ud_plain _]
    show wpAny _ A.in1 (pyNext (.ref I) >>= _) _ _ s
    refine wpAny_bind (wpAny_pyNext_list_end (A := A.in1) hh hit hl (by first | exact Array.getElem?_eq_none (Nat.le_of_eq hsz) | (simp at hsz; simp; omega)) fun h' he => ?_)
    show wpAny _ A.in1 (Builtin.Dict.addKeywords S [] >>= _) _ _ _
    refine wpAny_bind (wpAny_pure (wpAny_pure ?_))
    exact hR h' s.toks (dictH_keep hm (fun o e => he S o hSI e) fun z hz o e => he _ o (hacc z hz) e) fun b o _ hb e => he b o hb e
  | q :: rest, i, acc, ix, t, s, hsz, hln, ht, hacc, hit, hl, hm, hR => by
    obtain ⟨b, hb, hbS, hbI, hqS, hqI, htup, hk⟩ := ht 0 q rfl
    rw [List.length_cons] at hsz hln
    refine codeAny_builtin ud_entry ?_
    rw [Around.under_plainId ud_plain _]
    show wpAny _ A.in1 (pyNext (.ref I) >>= _) _ _ s
    refine wpAny_bind (wpAny_pyNext_list_item (x := .ref b) hit hl (by simpa using hb) fun h1 hit1 hs1 => ?_)
    have ht1 : IsTup h1 b #[.ref q.2.1, q.2.2] := htup.extBut hs1.extBut hbI
    have hl1 : h1.IsList l items := hl.extBut hs1.extBut hlI
    have hm1 : h1.DictOfH (tkd prog w) S acc := dictH_keep hm (fun o e => hs1.extBut S o hSI e) fun z hz o e => hs1.extBut _ o (hacc z hz) e
    have hk1 : (tkd prog w).is h1 q.1 q.2.1 := tkey_keep hk fun o e => hs1.extBut _ o hqI e
    obtain ⟨o, ho, hc, n, hd⟩ := id ht1
    show wpAny _ A.in1 (holding [Value.ref b] _ >>= _) _ _ _
    refine wpAny_bind (wpAny_holding ?_)
    refine wpAny_bind (wpAny_tryCatch ?_)
    unfold Builtin.Dict.pairItems
    refine wpAny_bind (wpAny_typeOf (T := "tuple") ⟨o, ho, hc⟩ ?_)
    rw [if_pos (by first | decide | rfl | simp)]
    refine wpAny_bind (wpAny_seqItems ho hd (wpAny_pure ?_))
    show wpAny _ A.in1 (holding [.ref q.2.1, q.2.2] (dictSet S (.ref q.2.1) q.2.2)) _ _ _
    refine wpAny_holding (wpAny_dictSet_heap (knd := tkd prog w) (k := q.1) (tupleKind_room_in1 hu) hk1 hm1 (fun h2 hm2 hs2 => ?_) (by omega))
    refine wpAny_pure ⟨plainId_quiet ud_plain _, updT_loop (items := items) hh hu hlI hSI hSl rest (i + 1) (storedH acc q.1 q.2.1 q.2.2) (ix + 1) 0 _ (show items.size = i + 1 + rest.length by omega) ?_ (fun j q' e => ?_) (fun z hz => ?_) ?_ ?_ hm2 fun h' tk hd' k => ?_⟩
    · have z := storedH_le acc q.1 q.2.1 q.2.2
      omega
    · obtain ⟨b', hb', hbS', hbI', hqS', hqI', htup', hk'⟩ := ht (j + 1) q' (by simpa using e)
      refine ⟨b', ?_, hbS', hbI', hqS', hqI', (htup'.extBut hs1.extBut hbI').extBut hs2.extBut hbS', tkey_keep (tkey_keep hk' fun o e => hs1.extBut _ o hqI' e) fun o e => hs2.extBut _ o hqS' e⟩
      rw [show i + 1 + j = i + (j + 1) by omega]
      exact hb'
    · rcases storedH_mem hz with e | ⟨y, hy, e⟩
      · rw [e]; exact hqI
      · rw [e]; exact hacc y hy
    · exact hit1.at fun o' e => hs2.extBut I o' (Ne.symm hSI) e
    · exact hl1.extBut hs2.extBut (Ne.symm hSl)
    · exact hR h' tk hd' fun c oc h3 h4 e => k c oc h3 h4 (hs2.extBut c oc h3 (hs1.extBut c oc h4 e))
theorem call_dict_tups {s : Shared} {l : Addr} {ol : Obj} {items : Array Value} {n : Nat} {prs : List (List Key × Addr × Value)} {Q : Value → Shared → Prop} (hh : A.handled = none) (hu : A.units + 2 < cLine) (hl : s.heap.get? l = some ol) (hc : ol.cls = .type "list") (hd : ol.dict = none)
    (hdat : ol.data = .seq items n) (hsz : items.size = prs.length) (hln : prs.length ≤ sizeLine)
    (ht : ∀ (j : Nat) (q : List Key × Addr × Value), prs[j]? = some q → ∃ (b : Addr), items[j]? = some (.ref b) ∧ IsTup s.heap b #[.ref q.2.1, q.2.2] ∧ (tkd prog w).is s.heap q.1 q.2.1)
    (h : ∀ h' tk, h'.DictOfH (tkd prog w) s.heap.objs.size (mergedH [] prs) → (∀ b o, s.heap.get? b = some o → h'.get? b = some o) → Q (.ref s.heap.objs.size) { s with heap := h', toks := tk }) :
    wpAny (model prog w) A (call (.type "dict") [.ref l]) Q E s := by
  refine callType_codes (Q₁ := fun obj s₁ => obj = .ref s.heap.objs.size ∧ s₁ = { s with heap := s.heap.push { cls := .type "dict", data := .dict #[] } }) PySem.F.kt_called_dict (PySem.F.kt_typeCall_dict_1 _) PySem.F.entry_dict_init (kt_code_dict_new _ ⟨rfl, rfl⟩) ?_
  rintro obj s₁ ⟨rfl, rfl⟩
  have hnew : (s.heap.push { cls := .type "dict", data := .dict #[] }).DictOfH (tkd prog w) s.heap.objs.size [] := Heap.DictOfH.new s.heap
  have k0 : ∀ b o, s.heap.get? b = some o → (s.heap.push { cls := .type "dict", data := .dict #[] }).get? b = some o := fun b o e => Heap.get?_push_of_some _ e
  have tyN : ({ s with heap := s.heap.push { cls := .type "dict", data := .dict #[] } } : Shared).TypeIs (.ref s.heap.objs.size) "dict" := Heap.DictOfH.typeIs (s := { s with heap := s.heap.push { cls := .type "dict", data := .dict #[] } }) hnew
  refine ⟨tyN, PySem.F.args_dict_init_2 _ _, ?_⟩
  unfold Builtin.«dict.__init__»
  refine wpAny_bind ?_
  unfold Builtin.Dict.selfAndRest
  refine wpAny_bind (wpAny_notOrdered_dict tyN ?_)
  show wpAny _ _ (pure (s.heap.objs.size, [Value.ref l])) _ _ _
  refine wpAny_pure ?_
  show wpAny _ _ (Builtin.Dict.updateFrom "dict.__init__" s.heap.objs.size (.ref l) [] .none) _ _ _
  unfold Builtin.Dict.updateFrom
  refine wpAny_bind (wpAny_typeOf (T := "list") ⟨ol, k0 _ _ hl, hc⟩ ?_)
  rw [if_pos (by first | decide | rfl | simp)]
  refine wpAny_bind (miss_list (k0 _ _ hl) hc hdat hd hh fun h1 tk1 hk1 => ?_)
  rw [if_pos (show (none : Option Value).isNone = true from rfl)]
  refine wpAny_bind (wpAny_rule ?_)
  have hl1 : h1.IsList l items := ⟨ol, hk1 _ _ (k0 _ _ hl), hc, n, hdat⟩
  have hS1 : s.heap.objs.size < h1.objs.size := by
    have e : (s.heap.push { cls := .type "dict", data := .dict #[] }).get? s.heap.objs.size = some { cls := .type "dict", data := .dict #[] } := Heap.get?_push_size _ rfl
    exact Heap.lt_size (hk1 _ _ e)
  refine wpAny_bind (wpAny_pyIter_list hl1 ?_)
  have k2 : ∀ b o, h1.get? b = some o → (h1.push { cls := .type "list_iterator", data := .fields #[.ref l, .int 0 0] }).get? b = some o := fun b o e => Heap.get?_push_of_some _ e
  have hlt : l < s.heap.objs.size := Heap.lt_size hl
  have key := updT_loop (prog := prog) (w := w) (A := A.in1) (R := wants (fun r s₂ => r = .none ∧ Q (.ref s.heap.objs.size) s₂) E) (S := s.heap.objs.size) (I := h1.objs.size) (l := l) (items := items) (res := Value.none) hh (show A.in1.units + 1 < cLine from hu)
    (Nat.ne_of_lt (Nat.lt_trans hlt hS1)) (Nat.ne_of_lt hS1) (Nat.ne_of_gt hlt) prs 0 [] 0 0
    { s with heap := h1.push { cls := .type "list_iterator", data := .fields #[.ref l, .int 0 0] }, toks := tk1 } (by rw [hsz, Nat.zero_add]) (by rw [List.length_nil, Nat.zero_add]; exact hln)
    (fun j q e => by
      obtain ⟨b, e1, e2, e3⟩ := ht j q e
      have hb : b < s.heap.objs.size := e2.lt
      have hq : q.2.1 < s.heap.objs.size := by
        obtain ⟨o, _, _, ho, _⟩ := e3
        exact Heap.lt_size ho
      exact ⟨b, by rw [Nat.zero_add]; exact e1, Nat.ne_of_lt hb, Nat.ne_of_lt (Nat.lt_trans hb hS1), Nat.ne_of_lt hq, Nat.ne_of_lt (Nat.lt_trans hq hS1), e2.keeps fun c o z => k2 _ _ (hk1 _ _ (k0 _ _ z)), tkey_keep e3 fun o z => k2 _ _ (hk1 _ _ (k0 _ _ z))⟩)
    (fun z hz => by simp at hz) ⟨_, Heap.get?_push_size _ rfl, rfl, rfl⟩ (hl1.at fun o e => k2 _ _ e) (dictH_keep hnew (fun o e => k2 _ _ (hk1 _ _ e)) fun z hz => by simp at hz)
    (fun h' tk hd' k => ⟨rfl, h h' tk hd' fun b o e => k b o (Nat.ne_of_lt (Heap.lt_size e)) (Nat.ne_of_lt (Nat.lt_trans (Heap.lt_size e) hS1)) (k2 _ _ (hk1 _ _ (k0 _ _ e)))⟩)
  first
    | exact wpAny_pure ⟨plainId_quiet ud_plain _, key⟩
    | exact wpAny_bind (wpAny_pure (wpAny_pure ⟨plainId_quiet ud_plain _, key⟩))
end
section
variable {X : Cx}
theorem tups_of {pins : List (Addr × Obj)} {σ : St} {H : Hp} {s : Shared} (I : Inv X pins σ H s) : ∀ {ps : List Addr} {kvs : List (List Key × V)}, Paired (fun p kv => ∃ b, SqT X.K H p [.ref b, kv.2] ∧ H b = some (.tup (kv.1.map kV))) ps kvs →
    ∃ prs : List (List Key × Addr × Value), KT H kvs prs ∧ prs.length = ps.length ∧ ∀ (j : Nat) (q : List Key × Addr × Value), prs[j]? = some q → ∃ (b : Addr), ps[j]? = some b ∧ IsTup s.heap b #[.ref q.2.1, q.2.2] ∧ (tkd X.prog X.w).is s.heap q.1 q.2.1
  | _, _, .nil => ⟨[], .nil, rfl, fun j q e => by simp at e⟩
  | _, _, .cons (a := p) (b := kv) h t => by
    obtain ⟨prs, r, hl, hp⟩ := tups_of I t
    obtain ⟨b, h, hb⟩ := h
    obtain ⟨its, rv, ht, _⟩ := I.tuple h
    obtain ⟨u, y, ei, ru, ry⟩ := vals2 rv
    subst ei
    cases (show u = Value.ref b from ru)
    refine ⟨(kv.1, b, y) :: prs, .cons ⟨rfl, hb, ry⟩ r, by rw [List.length_cons, List.length_cons, hl], fun j q e => ?_⟩
    cases j with
    | zero =>
      have e' : (kv.1, b, y) = q := Option.some.inj e
      subst e'
      exact ⟨p, rfl, ht, key_of I.hok hb⟩
    | succ j =>
      obtain ⟨b', e1, e2, e3⟩ := hp j q (by simpa using e)
      exact ⟨b', by simpa using e1, e2, e3⟩
theorem KT.merge {H : Hp} : ∀ {rest : List (List Key × V)} {prs : List (List Key × Addr × Value)} {acc : List (List Key × V)} {xs : List (List Key × Addr × Value)}, KT H rest prs → KT H acc xs → KT H (mergeT acc rest) (mergedH xs prs)
  | _, _, _, _, .nil, r => r
  | _, _, acc, xs, .cons (a := p) (b := q) h t, r => by
    obtain ⟨h1, h2, h3⟩ := h
    have z := r.put p.1 h2 h3
    rw [h1] at z
    show KT H (mergeT (putK acc p.1 p.2) _) (mergedH (storedH xs q.1 q.2.1 q.2.2) _)
    rw [h1]
    exact KT.merge t z
theorem mergeT_le : ∀ (rest acc : List (List Key × V)), (mergeT acc rest).length ≤ acc.length + rest.length
  | [], acc => by show acc.length ≤ _; omega
  | p :: rest, acc => by
    have h1 := mergeT_le rest (putK acc p.1 p.2)
    have h2 := length_putK acc p.1 p.2
    show (mergeT (putK acc p.1 p.2) rest).length ≤ _
    rw [List.length_cons]
    omega
def rDictT (K : PySem.W.Frag) : List V → Hp → VK → Prop := fun xs H Q => ∃ (a : Addr) (ps : List Addr) (kvs : List (List Key × V)), xs = [.ref a] ∧ SqL K H a (ps.map V.ref) ∧ Paired (fun p kv => ∃ b, SqT K H p [.ref b, kv.2] ∧ H b = some (.tup (kv.1.map kV))) ps kvs ∧
    ∀ p, H p = none → Q (.ref p) (upd H p (.dT (mergeT [] kvs)))
theorem call_dictT (hcalm : X.calm = true) (hu : X.A.units + 65 < cLine) : CallR X (.type "dict") (rDictT X.K) := by
  intro pins s σ H xs us Q I r q
  obtain ⟨a, ps, kvs, ex, hq, hp, q⟩ := q
  subst ex
  obtain ⟨u, eu, rx⟩ := vals1 r
  subst eu
  cases rx
  obtain ⟨its, rv, pl, hz⟩ := I.list hq
  have ei := refs_at rv
  subst ei
  rw [List.length_map] at hz
  obtain ⟨prs, rel, hl, hpr⟩ := tups_of I hp
  obtain ⟨o, n, ho, hc, hd, hdat⟩ := pl
  refine call_dict_tups (prs := prs) (I.ok.hd hcalm) (by omega) ho hc hd hdat (by simp [hl]) (by rw [hl]; exact hz) (fun j q' e => ?_) fun h' tk hd' k => ?_
  · obtain ⟨b, e1, e2, e3⟩ := hpr j q' e
    exact ⟨b, by simp [e1], e2, e3⟩
  · have hm : (s.heap.objs.size == sysModules) = false := beq_eq_false_iff_ne.mpr (Nat.ne_of_gt I.big)
    have hlen : (mergeT [] kvs).length ≤ sizeLine := by
      refine Nat.le_trans (mergeT_le kvs []) ?_
      rw [List.length_nil, Nat.zero_add, Paired.length rel, hl]
      exact hz
    have hn := I.hok.fresh (Nat.le_refl s.heap.objs.size)
    have rel2 : KT (upd H s.heap.objs.size (.dT (mergeT [] kvs))) (mergeT [] kvs) (mergedH [] prs) := (KT.merge rel (.nil : KT H [] [])).keeps fun c ys ec => by
      rw [upd_ne (ne_of_none ec hn)]
      exact ec
    obtain ⟨q', es, ep', hq', h2, h3, h4, _, h5⟩ := hd'
    exact ⟨.ref s.heap.objs.size, upd H s.heap.objs.size (.dT (mergeT [] kvs)), I.laid (t' := tk) k (Nat.le_refl _) ⟨hlen, hm, _, rel2, q', es, ep', hq', h2, h3, h4, h5⟩, rfl, q _ hn⟩
end
end L2
namespace L3
open PySem PySem.Spec PyProof.Rows L2
def foldT (zs : List (List Key × D)) : List (List Key) × List D := zs.foldl (fun a z => (tPut z.1 a.1, yPut z.1 z.2 a.1 a.2)) ([], [])
def nDictT : NN := fun C ds Q => ∃ (x : D) (zs : List (List Key × D)), ds = [x] ∧ lstOf C x = some (zs.map fun z => .tup [.tup (z.1.map kD), z.2]) ∧ Q (.dt (foldT zs).1 (foldT zs).2)
section
variable {K : PySem.W.Frag} {H0 : Hp} {av : Av} {ad : Ads} {H : Hp}
theorem den_pairsT : ∀ {us : List V} {zs : List (List Key × D)}, DenAll K H0 av ad H us (zs.map fun z => .tup [.tup (z.1.map kD), z.2]) →
    ∃ (ps : List Addr) (kvs : List (List Key × V)), us = ps.map V.ref ∧ Paired (fun p kv => ∃ b, SqT K H p [.ref b, kv.2] ∧ H b = some (.tup (kv.1.map kV))) ps kvs ∧ kvs.map (·.1) = zs.map (·.1) ∧ DenAll K H0 av ad H (kvs.map (·.2)) (zs.map (·.2))
  | _, [], .nil => ⟨[], [], rfl, .nil, rfl, .nil⟩
  | _, z :: zs, .cons a b => by
    obtain ⟨ps, kvs, e1, r, e2, d⟩ := den_pairsT b
    cases a with
    | @tup p vs _ ht hd =>
      cases hd with
      | @cons v1 _ _ _ d1 hd =>
        cases hd with
        | @cons v2 _ _ _ d2 hd =>
          cases hd
          cases d1 with
          | @tup kb ks _ hk hkd =>
            have ek := den_kDs hkd
            subst ek
            exact ⟨p :: ps, (z.1, v2) :: kvs, by rw [List.map_cons, e1], .cons ⟨kb, ht.sq, hk.1⟩ r, by rw [List.map_cons, List.map_cons, e2], .cons d2 d⟩
theorem merge_den : ∀ {kvs : List (List Key × V)} {zs : List (List Key × D)} {acc : List (List Key × V)} {a : List (List Key) × List D}, kvs.map (·.1) = zs.map (·.1) → DenAll K H0 av ad H (kvs.map (·.2)) (zs.map (·.2)) → acc.map (·.1) = a.1 → DenAll K H0 av ad H (acc.map (·.2)) a.2 →
    (mergeT acc kvs).map (·.1) = (zs.foldl (fun a z => (tPut z.1 a.1, yPut z.1 z.2 a.1 a.2)) a).1 ∧ DenAll K H0 av ad H ((mergeT acc kvs).map (·.2)) (zs.foldl (fun a z => (tPut z.1 a.1, yPut z.1 z.2 a.1 a.2)) a).2
  | [], [], _, _, _, _, e, d => ⟨e, d⟩
  | [], _ :: _, _, _, e, _, _, _ => by simp at e
  | _ :: _, [], _, _, e, _, _, _ => by simp at e
  | p :: kvs, z :: zs, acc, a, e, d, ea, da => by
    simp only [List.map_cons, List.cons.injEq] at e
    cases d with
    | cons d1 d2 =>
      refine merge_den (kvs := kvs) (zs := zs) (acc := putK acc p.1 p.2) e.2 d2 ?_ ?_
      · rw [tput_keys, ea, e.1]
      · show DenAll K H0 av ad H _ (yPut z.1 z.2 a.1 a.2)
        rw [← ea, ← e.1]
        exact tput_den da d1
theorem sf_dictT : SimCF K (rDictT K) nDictT := by
  intro H0 A0 av ad Γ C σ H vs ds Q3 Q R d1 ⟨x, zs, e1, e2, q3⟩ q
  subst e1
  obtain ⟨v, rfl, r⟩ := den1 d1
  obtain ⟨a, us, rfl, h1, r1⟩ := R.lst r e2
  obtain ⟨ps, kvs, rfl, pr, ek, dv⟩ := den_pairsT r1
  refine ⟨a, ps, kvs, rfl, .inl h1, pr, fun p np => ?_⟩
  obtain ⟨m1, m2⟩ := merge_den (acc := []) (a := ([], [])) ek dv rfl .nil
  exact q H p (.dT (mergeT [] kvs)) (.dt (foldT zs).1 (foldT zs).2) (fun _ _ h => h) np (fun _ z => nomatch z) ⟨m1, m2⟩ q3
theorem call_dictT3 {X : Cx} (hK : X.K = K) (hc : X.calm = true) (hu : X.A.units + 65 < cLine) : CallR X (.type "dict") (rDictT K) := by subst hK; exact call_dictT hc hu
end
end L3
namespace L3
open PySem PySem.Spec PyProof.Rows L2
section
variable {K : PySem.W.Frag}
end
end L3
namespace L2
open PySem PySem.Spec PyProof.Rows
end L2
namespace L3
open PySem PySem.Spec PyProof.Rows L2
section
variable {K : PySem.W.Frag} {X : Cx} {a : Expr} {ta : TE} {Ea : EV} {p p2 q pos : Pos}
end
end L3
namespace L3
open PySem PySem.Spec PyProof.Rows L2
section
variable {K : PySem.W.Frag} {X : Cx} {k n : Nat} {f : Addr} {fd : FuncData} {ps : List Str} {P : PV} {x : Str} {p pos : Pos} {e : Expr} {es : List Expr} {tl : TA} {L : AV}
end
end L3
namespace L2
open PySem PySem.Spec PyProof.Rows
section
variable {P : Program} {w : World} {A : Around} {E : Value → Shared → Prop} {s : Shared}
end
end L2
namespace L2
open PySem PySem.Spec PyProof.Rows
end L2
namespace L3
open PySem PySem.Spec PyProof.Rows L2
section
variable {K : PySem.W.Frag} {X : Cx} {a : Expr} {ta : TE} {Ea : EV} {p p2 q pos : Pos}
end
end L3
namespace L2
open PySem PySem.W PySem.Spec PyProof.Rows
end L2
namespace L3
open PySem PySem.W PySem.Spec PyProof.Rows L2
section
variable {K : PySem.W.Frag} {X : Cx}
end
end L3
namespace L3
open PySem PySem.Spec PyProof.Rows L2
section
variable {K : PySem.W.Frag}
end
end L3
namespace L2
open PySem PySem.W PySem.Spec PyProof.Rows
end L2
namespace L3
open PySem PySem.Spec PyProof.Rows L2
section
variable {K : PySem.W.Frag}
end
section
variable {K : PySem.W.Frag} {X : Cx} {elts : List Expr} {kk : Nat} {tpos p pos : Pos} {a o : Expr} {tl : TA} {L : AV} {to : TE} {Eo : EV} {nm f : Str}
end
section
variable {K : PySem.W.Frag} {X : Cx} {e : Expr} {es : List Expr} {tl : TA} {L : AV} {p pos : Pos} {x : Str} {k : Nat} {f : Addr} {fd : FuncData} {ps : List Str} {P : PV}
end
end L3
namespace L2
open PySem PySem.W PySem.Spec PyProof.Rows
def rGeD (K : PySem.W.Frag) : R2 := fun x y H Q => ∃ d e, Dp K H x d ∧ Dp K H y e ∧ alike d e = true ∧ d ≠ .none ∧ min d.depth e.depth ≤ 60 ∧ Q (.bl (!dataLt d e)) H
theorem op_geD {X : Cx} (hu : X.A.units + 65 < cLine) : OpR X (compareOp .GtE) (rGeD X.K) := by
  intro pins s σ H x y v u Q I rx ry h
  obtain ⟨d, e, hd, he, sd, se, hm, q⟩ := h
  obtain ⟨as, r1⟩ := Dp.reads I d x v hd rx
  obtain ⟨bs, r2⟩ := Dp.reads I e y u he ry
  exact ge_data r1 r2 sd se (by omega) ⟨.bl _, H, I, rfl, q⟩
end L2
namespace L3
open PySem PySem.W PySem.Spec PyProof.Rows L2
section
variable {K : PySem.W.Frag} {X : Cx}
theorem op_geL (hK : X.K = K) (hu : X.A.units + 65 < cLine) : OpR X (compareOp .GtE) (rGeD K) := by
  subst hK
  exact op_geD hu
end
end L3
namespace L2
open PySem PySem.Spec PyProof.Rows
def keyP : Key → PyData
  | .inl i => .int i
  | .inr x => .str x
mutual
inductive DpX (K : PySem.W.Frag) (H : Hp) : V → PyData → Prop
  | non : DpX K H .non .none
  | bl (b : Bool) : DpX K H (.bl b) (.bool b)
  | int (i : Int) : DpX K H (.int i) (.int i)
  | str (x : Str) : DpX K H (.str x) (.str x)
  | lst {a : Addr} {xs : List V} {ds : List PyData} : Rd H a (.lst xs) → DpXAll K H xs ds → DpX K H (.ref a) (.list ds)
  | tup {a : Addr} {xs : List V} {ds : List PyData} : SqT K H a xs → DpXAll K H xs ds → DpX K H (.ref a) (.tuple ds)
  | dk {a : Addr} {kvs : List (Key × V)} {ds : List PyData} : Rd H a (.dK kvs) → DpXAll K H (kvs.map (·.2)) ds → DpX K H (.ref a) (.dict ((kvs.map fun z => keyP z.1).zip ds))
inductive DpXAll (K : PySem.W.Frag) (H : Hp) : List V → List PyData → Prop
  | nil : DpXAll K H [] []
  | cons {v : V} {vs : List V} {d : PyData} {ds : List PyData} : DpX K H v d → DpXAll K H vs ds → DpXAll K H (v :: vs) (d :: ds)
end
section
variable {X : Cx} {pins : List (Addr × Obj)} {σ : St} {H : Hp} {s : Shared}
def Sh1 (P : Program) (w : World) (h : Heap) (u : Value) (d : PyData) : Prop := d.showable = true → d.shown.length ≤ sizeLine → ∃ as bs, Reads h u d as ∧ ReadAtMost h d.depth bs ∧ ReprK P w bs h d.depth u d.shown
def ShN (P : Program) (w : World) (h : Heap) (us : List Value) (ds : List PyData) : Prop := PyData.showableAll ds = true → (∀ t, t ∈ PyData.shownAll ds → t.length ≤ sizeLine) → ∃ as bs, ReadsAll h us ds as ∧ ReadAtMost h (PyData.depthAll ds) bs ∧ ReprAllK P w bs h (PyData.depthAll ds) us (PyData.shownAll ds)
theorem ShN.nil {P : Program} {w : World} {h : Heap} : ShN P w h [] [] := fun _ _ => ⟨[], [], .nil, (fun _ z => by cases z), by simp only [PyData.shownAll]; exact .nil⟩
theorem ShN.cons {P : Program} {w : World} {h : Heap} {u : Value} {us : List Value} {d : PyData} {ds : List PyData} (a : Sh1 P w h u d) (b : ShN P w h us ds) : ShN P w h (u :: us) (d :: ds) := by
  intro ok sz
  rw [PyData.showableAll, Bool.and_eq_true] at ok
  simp only [PyData.shownAll, List.mem_cons, forall_eq_or_imp] at sz
  obtain ⟨as1, b1, r1, m1, k1⟩ := a ok.1 sz.1
  obtain ⟨as2, b2, r2, m2, k2⟩ := b ok.2 sz.2
  have l1 : d.depth ≤ PyData.depthAll (d :: ds) := by rw [PyData.depthAll]; exact Nat.le_max_left ..
  have l2 : PyData.depthAll ds ≤ PyData.depthAll (d :: ds) := by rw [PyData.depthAll]; exact Nat.le_max_right ..
  refine ⟨as1 ++ as2, b1 ++ b2, .cons r1 r2, (m1.mono l1).append (m2.mono l2), ?_⟩
  rw [PyData.shownAll]
  exact .cons ((k1.more fun x hx => List.mem_append_left _ hx).level_le l1) (k2.more_le (fun x hx => List.mem_append_right _ hx) l2)
theorem Sh1.flat {P : Program} {w : World} {h : Heap} {u : Value} {d : PyData} (r : Reads h u d []) (q : d.showable = true → d.shown.length ≤ sizeLine → ReprIs P w u d.shown) : Sh1 P w h u d := fun ok sz => ⟨[], [], r, (fun _ z => by cases z), ReprK.of_is (q ok sz) _ _ _⟩
end
end L2
namespace L3
open PySem PySem.Spec PyProof.Rows L2
mutual
def pyXW (g : Nat → Option PyData) : D → Option PyData
  | .non => some .none
  | .bl b => some (.bool b)
  | .int i => some (.int i)
  | .str s => some (.str s)
  | .lst _ xs => (pyXWs g xs).map .list
  | .tup xs => (pyXWs g xs).map .tuple
  | .dk _ ks xs => (pyXWs g xs).map fun ps => .dict ((ks.map keyP).zip ps)
  | .ptr k => g k
  | _ => none
def pyXWs (g : Nat → Option PyData) : List D → Option (List PyData)
  | [] => some []
  | x :: xs => (pyXW g x).bind fun p => (pyXWs g xs).map (p :: ·)
end
def pyXG (C : Store) : Nat → Nat → Option PyData
  | 0, _ => none
  | n + 1, k => match C[k]? with
    | some (.lst xs) => (pyXWs (pyXG C n) xs).map .list
    | some (.dk ks xs) => (pyXWs (pyXG C n) xs).map fun ps => .dict ((ks.map keyP).zip ps)
    | _ => none
def pyX (C : Store) (d : D) : Option PyData := pyXW (pyXG C 2) d
section
variable {K : PySem.W.Frag} {H0 : Hp} {A0 : List Addr} {av : Av} {ad : Ads} {Γ : Slots} {C : Store} {σ : L2.St} {H : Hp} {X : Cx}
mutual
theorem dx_of {g : Nat → Option PyData} (hg : ∀ k a p, ad[k]? = some (some a) → g k = some p → DpX K H (.ref a) p) : ∀ {d : D} {v : V} {p : PyData}, Den K H0 av ad H v d → pyXW g d = some p → DpX K H v p
  | .non, _, _, .non, e => by simp only [pyXW] at e; cases e; exact .non
  | .bl _, _, _, .bl, e => by simp only [pyXW] at e; cases e; exact .bl _
  | .int _, _, _, .int, e => by simp only [pyXW] at e; cases e; exact .int _
  | .str _, _, _, .str, e => by simp only [pyXW] at e; cases e; exact .str _
  | .lst _ xs, _, _, .lst r _ x, e => by
    simp only [pyXW] at e
    cases q : pyXWs g xs with
    | none => rw [q] at e; cases e
    | some ps => rw [q] at e; cases e; exact .lst r.1 (dxs_of hg x q)
  | .tup xs, _, _, .tup r x, e => by
    simp only [pyXW] at e
    cases q : pyXWs g xs with
    | none => rw [q] at e; cases e
    | some ps => rw [q] at e; cases e; exact .tup r.sq (dxs_of hg x q)
  | .dk _ ks xs, _, _, .dk (kvs := kvs) r _ _ ek x, e => by
    simp only [pyXW] at e
    cases q : pyXWs g xs with
    | none => rw [q] at e; cases e
    | some ps =>
      rw [q] at e
      cases e
      have := DpX.dk (K := K) r (dxs_of hg x q)
      rw [← ek, List.map_map]
      exact this
  | .ptr k, _, _, .ptr h, e => by simp only [pyXW] at e; exact hg k _ _ h e
  | .bad, _, _, _, e => by simp [pyXW] at e
  | .dt _ _ _, _, _, _, e => by simp [pyXW] at e
  | .obj _ _ _, _, _, _, e => by simp [pyXW] at e
  | .exc _ _ _, _, _, _, e => by simp [pyXW] at e
theorem dxs_of {g : Nat → Option PyData} (hg : ∀ k a p, ad[k]? = some (some a) → g k = some p → DpX K H (.ref a) p) : ∀ {ds : List D} {vs : List V} {ps : List PyData}, DenAll K H0 av ad H vs ds → pyXWs g ds = some ps → DpXAll K H vs ps
  | [], _, _, .nil, e => by simp only [pyXWs] at e; cases e; exact .nil
  | d :: ds, _, _, .cons a b, e => by
    simp only [pyXWs] at e
    cases q : pyXW g d with
    | none => rw [q] at e; cases e
    | some p =>
      rw [q] at e
      cases q2 : pyXWs g ds with
      | none => rw [q2] at e; cases e
      | some ps => rw [q2] at e; cases e; exact .cons (dx_of hg a q) (dxs_of hg b q2)
end
theorem dx_g (R : Rep K H0 A0 av ad Γ C σ H) : ∀ (n k : Nat) (a : Addr) (p : PyData), ad[k]? = some (some a) → pyXG C n k = some p → DpX K H (.ref a) p
  | 0, _, _, _, _, e => by cases e
  | n + 1, k, a, p, h, e => by
    simp only [pyXG] at e
    cases q : C[k]? with
    | none => rw [q] at e; cases e
    | some c =>
      rw [q] at e
      cases c with
      | lst xs =>
        simp only at e
        obtain ⟨vs, e1, r⟩ := R.cells k a _ h q
        cases q2 : pyXWs (pyXG C n) xs with
        | none => rw [q2] at e; cases e
        | some ps =>
          rw [q2] at e; cases e
          exact .lst (.inl e1) (dxs_of (dx_g R n) r q2)
      | dk ks xs =>
        simp only at e
        obtain ⟨kvs, e1, e2, r⟩ := R.cells k a _ h q
        cases q2 : pyXWs (pyXG C n) xs with
        | none => rw [q2] at e; cases e
        | some ps =>
          rw [q2] at e; cases e
          have := DpX.dk (K := K) (.inl e1) (dxs_of (dx_g R n) r q2)
          rw [← e2, List.map_map]
          exact this
      | dt _ _ => cases e
      | ins _ _ _ => cases e
      | dead => cases e
theorem Rep.dx (R : Rep K H0 A0 av ad Γ C σ H) {v : V} {d : D} {p : PyData} (x : Den K H0 av ad H v d) (e : pyX C d = some p) : DpX K H v p := dx_of (dx_g R 2) x e
end
end L3
namespace L2
open PySem PySem.Spec PyProof.Rows PySem.W
end L2
namespace L3
open PySem PySem.Spec PyProof.Rows L2
section
variable {K : PySem.W.Frag} {X : Cx} {a : Expr} {ta : TE} {Ea : EV}
end
end L3
namespace L2
open PySem PySem.Spec PyProof.Rows
section
variable {X : Cx} {pins : List (Addr × Obj)} {σ : St} {H : Hp} {s : Shared}
end
end L2
namespace L3
open PySem PySem.Spec PyProof.Rows L2
section
variable {K : PySem.W.Frag} {X : Cx} {e o : Expr} {te to : TE} {E Eo : EV} {apos pos : Pos}
end
end L3
namespace L3
open PySem PySem.W PySem.Spec PyProof.Rows L2
def asT (l : List Int) : PyData := .tuple (l.map .int)
theorem lt_asT (as bs : List Int) : dataLt (asT as) (asT bs) = lexI as bs := by
  unfold asT
  rw [dataLt_tuple, lex_lists]
theorem pyW_ints (g : Nat → Option PyData) : ∀ l : List Int, pyWs g (l.map .int) = some (l.map .int)
  | [] => rfl
  | x :: l => by simp only [List.map_cons, pyWs, pyW, pyW_ints g l]; rfl
theorem pyD_asT {C : Store} {l : List Int} : pyD C (.tup (l.map .int)) = some (asT l) := by
  unfold pyD
  rw [pyW, pyW_ints]
  rfl
section
variable {K : PySem.W.Frag} {X : Cx}
end
end L3
namespace L2
open PySem PySem.Spec PyProof.Rows
section
variable {X : Cx}
end
end L2
namespace L3
open PySem PySem.Spec PyProof.Rows L2
section
variable {K : PySem.W.Frag} {X : Cx} {k n : Nat} {f : Addr} {fd : FuncData} {ps : List Str} {P : PV} {x : Str} {p pos : Pos} {e : Expr} {es : List Expr} {tl : TA} {L : AV}
end
end L3
namespace L2
open PySem PySem.Spec PySem.Calls PyProof.Rows
section
variable {X : Cx} {pins : List (Addr × Obj)} {σ : St} {H : Hp} {s : Shared}
end
open L3 (ExT)
section
variable {X : Cx} {x n : Str} {c : Value} {i : Nat} {body suite : List Stmt} {b₀ : Stmt} {np pos pos' : Pos} {tb : WX → TS} {ts : Addr → Value → Option Addr → TS} {Wout : WX}
end
end L2
namespace L2
open PySem PySem.Spec PySem.Calls PyProof.Rows
open L3 (ExT)
end L2
namespace L3
open PySem PySem.Spec PyProof.Rows L2
section
variable {K : PySem.W.Frag} {X : Cx} {x n y : Str} {c : Value} {i j : Nat} {body : List Stmt} {np p p' pos pos' pos2 : Pos} {tb : WX → TS} {Tb : WX → SV} {Wout : WX} {ms : List (Str × Bool)}
end
theorem ExD.some {av : Av} {H : Hp} {d : Option Addr} {fs : List (Str × V)} (h : ExD av H d fs) : ∀ dd, d = some dd → ∃ fs : List (Str × V), H dd = some (.xd fs) := fun dd e => by
  rcases h with ⟨h, _⟩ | ⟨d', h, h2, _⟩
  · rw [h] at e; cases e
  · rw [h] at e; cases e; exact ⟨fs, h2⟩
section
variable {K : PySem.W.Frag} {X : Cx} {nm f c : Str} {fI : Addr} {p p3 pos tpos : Pos} {e : Expr} {es : List Expr} {E : EV} {te : TE} {tl : TA} {ms : List (Str × Bool)} {cs : List Addr} {k : Nat}
end
end L3
namespace L2
open PySem PySem.Spec PySem.Calls PyProof PyProof.Rows
section
variable {prog : Program} {w : World} {A : Around} {E : Value → Shared → Prop} {s : Shared}
end
section
variable {X : Cx}
end
end L2
namespace L3
open PySem PySem.Spec PyProof.Rows L2
section
variable {K : PySem.W.Frag} {X : Cx} {o : Expr} {to : TE} {Eo : EV} {p2 pos : Pos}
end
section
variable {K : PySem.W.Frag} {X : Cx} {k : Nat} {f : Addr} {fd : FuncData} {ps : List Str} {P : PV} {x : Str} {p pos : Pos}
end
section
variable {K : PySem.W.Frag} {X : Cx} {e : Expr} {es : List Expr} {tl : TA} {L : AV} {nm : Str} {pos p : Pos} {k : Nat} {fd : FuncData} {ps : List Str} {P : PV}
end
end L3
namespace L3
open PySem PySem.Spec PyProof.Rows L2
def IsD : HO → Prop
  | .dK _ => True
  | .dT _ => True
  | _ => False
structure Lk (d : Addr) (u : HO) (H H' : Hp) : Prop where
  oth : ∀ a, a ≠ d → H' a = H a
  one : ∀ o, H d = some o → o = u ∨ ∃ q, o = .frz q u
  two : ∀ o, H' d = some o → o = u ∨ ∃ q, o = .frz q u
  non : H d = none ↔ H' d = none
section
variable {K : PySem.W.Frag} {d : Addr} {u : HO} {H0 H0' H H' : Hp} {A0 : List Addr} {av av' : Av} {ad ad' : Ads} {Γ : Slots} {C : Store} {σ : L2.St}
theorem Lk.symm (k : Lk d u H H') : Lk d u H' H := ⟨fun a h => (k.oth a h).symm, k.two, k.one, k.non.symm⟩
theorem Lk.none (k : Lk d u H H') {a : Addr} (h : H a = none) : H' a = none := by
  by_cases e : a = d
  · subst e; exact k.non.mp h
  · rw [k.oth a e]; exact h
theorem Lk.at (k : Lk d u H H') {a : Addr} {o : HO} (h : H a = some o) (n1 : o ≠ u) (n2 : ∀ q, o ≠ .frz q u) : H' a = some o := by
  by_cases e : a = d
  · subst e
    rcases k.one o h with z | ⟨q, z⟩
    · exact absurd z n1
    · exact absurd z (n2 q)
  · rw [k.oth a e]; exact h
theorem Lk.rd (k : Lk d u H H') {a : Addr} {w : HO} (h : Rd H a w) (n : ∀ q z, w ≠ .frz q z) (g : IsD u) : Rd H' a w := by
  by_cases e : a = d
  · subst e
    have hw : w = u := by
      rcases h with h | ⟨o, h⟩
      · rcases k.one _ h with z | ⟨q, z⟩
        · exact z
        · exact absurd z (n _ _)
      · rcases k.one _ h with z | ⟨q, z⟩
        · subst z; exact g.elim
        · cases z; rfl
    subst hw
    cases e2 : H' a with
    | none =>
      have := k.non.mpr e2
      rcases h with h | ⟨o, h⟩ <;> rw [this] at h <;> cases h
    | some o =>
      rcases k.two o e2 with z | ⟨q, z⟩
      · subst z; exact .inl e2
      · subst z; exact .inr ⟨q, e2⟩
  · rcases h with h | ⟨o, h⟩
    · exact .inl ((k.oth a e).trans h)
    · exact .inr ⟨o, (k.oth a e).trans h⟩
theorem ne_lst (g : IsD u) {vs : List V} : HO.lst vs ≠ u := fun e => by subst e; exact g
theorem ne_tup (g : IsD u) {vs : List V} : HO.tup vs ≠ u := fun e => by subst e; exact g
theorem ne_ins (g : IsD u) {c x : Addr} {fs : List (Str × V)} : HO.ins c x fs ≠ u := fun e => by subst e; exact g
theorem ne_xd (g : IsD u) {fs : List (Str × V)} : HO.xd fs ≠ u := fun e => by subst e; exact g
theorem ne_ext (g : IsD u) {f : Heap → Prop} : HO.ext f ≠ u := fun e => by subst e; exact g
theorem ExD.lk (g : IsD u) (k : Lk d u H H') {dx : Option Addr} {fs : List (Str × V)} (h : ExD av H dx fs) : ExD av H' dx fs := by
  rcases h with h | ⟨dd, e, h, n⟩
  · exact .inl h
  · exact .inr ⟨dd, e, k.at h (ne_xd g) (fun _ => nofun), n⟩
mutual
theorem Den.lk (g : IsD u) (k0 : Lk d u H0 H0') (k : Lk d u H H') : ∀ {v : V} {x : D}, Den K H0 av ad H v x → Den K H0' av ad H' v x
  | _, _, .bad => .bad
  | _, _, .non => .non
  | _, _, .bl => .bl
  | _, _, .int => .int
  | _, _, .str => .str
  | _, _, .lst r o x => .lst ⟨k.rd r.1 (fun _ _ => nofun) g, r.2⟩ (fun e => ⟨k0.none (o e).1, k.at (o e).2 (ne_lst g) (fun _ => nofun)⟩) (DenAll.lk g k0 k x)
  | _, _, .tup r x => .tup ⟨k.at r.1 (ne_tup g) (fun _ => nofun), r.2⟩ (DenAll.lk g k0 k x)
  | _, _, .dk r n o e x => .dk (k.rd r (fun _ _ => nofun) g) n (fun z => k0.none (o z)) e (DenAll.lk g k0 k x)
  | _, _, .dt r n o e x => .dt (k.rd r (fun _ _ => nofun) g) n (fun z => k0.none (o z)) e (DenAll.lk g k0 k x)
  | _, _, .obj r n e x => .obj (k.at r (ne_ins g) (fun _ => nofun)) n e (DenAll.lk g k0 k x)
  | _, _, .exc r n f e x => .exc (k.at r (ne_ext g) (fun _ => nofun)) n (f.lk g k) e (DenAll.lk g k0 k x)
  | _, _, .ptr h => .ptr h
theorem DenAll.lk (g : IsD u) (k0 : Lk d u H0 H0') (k : Lk d u H H') : ∀ {vs : List V} {xs : List D}, DenAll K H0 av ad H vs xs → DenAll K H0' av ad H' vs xs
  | _, _, .nil => .nil
  | _, _, .cons a b => .cons (Den.lk g k0 k a) (DenAll.lk g k0 k b)
end
theorem CellOk.lk (g : IsD u) (k0 : Lk d u H0 H0') (k : Lk d u H H') {a : Addr} {c : Cell} (ne : a ≠ d) (x : CellOk K H0 av ad H a c) : CellOk K H0' av ad H' a c := by
  have h := k.oth a ne
  cases c with
  | lst _ => obtain ⟨vs, e, r⟩ := x; exact ⟨vs, h.trans e, r.lk g k0 k⟩
  | dk _ _ => obtain ⟨vs, e, z, r⟩ := x; exact ⟨vs, h.trans e, z, r.lk g k0 k⟩
  | dt _ _ => obtain ⟨vs, e, z, r⟩ := x; exact ⟨vs, h.trans e, z, r.lk g k0 k⟩
  | ins _ _ _ => obtain ⟨dx, vs, e, z, r⟩ := x; exact ⟨dx, vs, h.trans e, z, r.lk g k0 k⟩
  | dead => exact x
theorem Rep.lk (R : Rep K H0 A0 av ad Γ C σ H) (g : IsD u) (k0 : Lk d u H0 H0') (k : Lk d u H H') (nd : ¬ av d) (kd : ∀ o, H0' d = some o → H' d = some o) : Rep K H0' A0 av ad Γ C σ H' where
  sub := R.sub
  dom := fun a h e => R.dom a h (k.symm.none e)
  avt := fun a xs h r => R.avt a xs h (k.symm.at r (ne_tup g) (fun _ => nofun))
  nd := R.nd
  len := R.len
  pre := R.pre
  loc := fun i a h n => k0.none (R.loc i a h n)
  keep := fun a o h n => by
    by_cases e : a = d
    · subst e; exact kd o h
    · rw [k.oth a e]
      rw [k0.oth a e] at h
      exact R.keep a o h n
  there := fun a e => k0.none (R.there a (k.symm.none e))
  gone := R.gone
  cells := fun i a c h1 h2 => (R.cells i a c h1 h2).lk g k0 k fun e => nd (e ▸ R.av_of h1)
  slen := R.slen
  slot := fun i x h => by
    obtain ⟨v, h1, h2⟩ := R.slot i x h
    exact ⟨v, h1, h2.lk g k0 k⟩
theorem Le.lk {Hl Hl' : Hp} (l : Le av ad Hl av' ad' Hl') (k : Lk d u Hl H) (k' : Lk d u Hl' H') (nd : ¬ av d) (h : H d = some u) (h' : H' d = some u) (hl : Hl d ≠ none) : Le av ad H av' ad' H' where
  fz := fun a o e n => by
    by_cases q : a = d
    · subst q
      rw [h] at e; cases e
      refine ⟨h', ?_⟩
      cases e2 : Hl a with
      | none => exact absurd e2 hl
      | some w => exact (l.fz a w e2 n).2
    · rw [k.oth a q] at e
      obtain ⟨h1, h2⟩ := l.fz a o e n
      exact ⟨(k'.oth a q).trans h1, h2⟩
  pre := l.pre
  there := fun a e => k.none (l.there a (k'.symm.none e))
  avm := l.avm
  adn := fun a e => (l.adn a e).elim .inl fun z => .inr (k.none z)
  kp := fun a o e n => by
    by_cases q : a = d
    · subst q
      rw [h] at e; cases e
      exact h'
    · rw [k.oth a q] at e
      exact (k'.oth a q).trans (l.kp a o e n)
end
def tOr (t : TE) : TE := fun σ H Q => t σ H Q ∨ tLockE t σ H Q
section
variable {K : PySem.W.Frag}
variable {X : Cx} {elt tg : Expr} {ifs : List Expr} {scope : Scope} {own : List (Str × Nat)} {pos p : Pos} {g : TG} {tt : TT} {te : TE} {G : GV} {B : BV} {E : EV} {x : Str}
end
end L3
namespace L2
open PySem PySem.Spec PyProof.Rows
section
variable {tg kx vx : Expr} {ifs : List Expr} {g : TG} {tt : TT} {tk tv : TE} {vs : List Nat}
variable {X : Cx} {iter : Expr} {scope : Scope} {own : List (Str × Nat)} {pos : Pos} {wi : TI}
end
end L2
namespace L3
open PySem PySem.Spec PyProof.Rows L2
section
variable {K : PySem.W.Frag} {X : Cx} {kx vx tg iter c : Expr} {ifs : List Expr} {scope : Scope} {own : List (Str × Nat)} {pos spos py : Pos} {wi : TI} {g : TG} {tt : TT} {tk tv : TE} {I : IV} {G : GV} {B : BV} {Ek Ev : EV} {F : FV} {x y : Str}
end
end L3
namespace L2
open PySem PySem.Spec PyProof.Rows
end L2
namespace L3
open PySem PySem.Spec PyProof.Rows L2
section
variable {K : PySem.W.Frag}
end
end L3
namespace L2
open PySem PySem.Spec PyProof.Rows
end L2
namespace L3
open PySem PySem.Spec PyProof.Rows L2
end L3
namespace L3
open PySem PySem.Spec PyProof.Rows L2
section
variable {K : PySem.W.Frag} {X : Cx} {o e f : Expr} {apos cpos : Pos} {td ty tx : TE} {Eo Ei Ef : EV}
end
section
variable {K : PySem.W.Frag} {X : Cx} {tg : Expr} {body : List Stmt} {pos p : Pos} {g : TG} {G : GV} {ts : TS} {T : SV} {wi : TI} {I : IV} {x : Str}
end
end L3
namespace L3
open PySem PySem.Spec PyProof.Rows L2
section
variable {K : PySem.W.Frag} {X : Cx} {a : Expr} {ta : TE} {Ea : EV} {lo hi : Option Expr} {p2 pos : Pos} {tlo thi : TO} {Lo Hi : OV}
end
end L3
namespace RZ
open PySem PySem.Spec PyProof.Rows L2
section
variable {prog : Program} {w : World} {A : Around} {E : Value → Shared → Prop} {s : Shared}
end
end RZ
namespace L3
open PySem PySem.Spec PyProof.Rows L2
section
variable {K : PySem.W.Frag} {X : Cx} {tpos p pos : Pos} {elts : List Expr} {kk : Nat} {a b : Expr} {tl : TA} {L : AV}
end
end L3
namespace L3
open PySem PySem.Spec PyProof.Rows L2
section
variable {K : PySem.W.Frag}
end
section
variable {K : PySem.W.Frag}
variable {X : Cx} {elt tg : Expr} {ifs : List Expr} {scope : Scope} {own : List (Str × Nat)} {pos p : Pos} {g : TG} {tt : TT} {te : TE} {G : GV} {B : BV} {E : EV} {x : Str}
end
section
variable {K : PySem.W.Frag} {X : Cx} {tg : Expr} {body : List Stmt} {pos p : Pos} {g : TG} {G : GV} {ts : TS} {T : SV} {wi : TI} {I : IV} {x : Str}
end
end L3
namespace L3
open PySem PySem.Spec PyProof.Rows L2
section
variable {K : PySem.W.Frag} {X : Cx} {ts : TS} {T : SV}
end
section
variable {K : PySem.W.Frag} {X : Cx} {elt tg iter c : Expr} {ifs : List Expr} {scope : Scope} {own : List (Str × Nat)} {pos spos py : Pos} {wi : TI} {g : TG} {tt : TT} {te : TE} {I : IV} {G : GV} {B : BV} {E : EV} {F : FV} {x y : Str}
variable {x : Str} {p : Pos}
end
end L3
namespace L3
open PySem PySem.Spec PyProof.Rows L2
section
variable {K : PySem.W.Frag} {X : Cx} {a b c : Expr} {tl : TA} {L : AV} {pos : Pos}
end
end L3
namespace L3
open PySem PySem.Spec PyProof.Rows L2
section
variable {K : PySem.W.Frag} {X : Cx} {k n : Nat} {f : Addr} {fd : FuncData} {ps : List Str} {P : PV} {x : Str} {p pos : Pos} {e : Expr} {es : List Expr} {tl : TA} {L : AV}
end
end L3
namespace L3
open PySem PySem.Spec PyProof.Rows L2
abbrev XQv := XD → Slots → Store → Prop
section
variable (K : PySem.W.Frag) (W0 : WX)
def LiftX (H0 : Hp) (A0 : List Addr) (av : Av) (ad : Ads) (H : Hp) (XQ : XQv) : Prop := ∀ (av' : Av) (ad' : Ads) (Γ' : Slots) (C' : Store) (σ' : L2.St) (H' : Hp) (cls : Value) (d : Option Addr) (x : XD), Rep K H0 A0 av' ad' Γ' C' σ' H' → Le av ad H av' ad' H' → DenX K H0 av' ad' H' cls d x → XQ x Γ' C' → W0 cls d σ' H'
def SimEY (t : TE) (E : XQv → EV) : Prop := ∀ (H0 : Hp) (A0 : List Addr) (av : Av) (ad : Ads) (Γ : Slots) (C : Store) (σ : L2.St) (H : Hp) (XQ : XQv) (Q3 : D → Store → Prop) (Q : VK), Rep K H0 A0 av ad Γ C σ H → E XQ Γ C Q3 → LiftX K W0 H0 A0 av ad H XQ →
  (∀ (v : V) (H' : Hp) (av' : Av) (ad' : Ads) (d : D) (C' : Store), Rep K H0 A0 av' ad' Γ C' σ H' → Le av ad H av' ad' H' → Den K H0 av' ad' H' v d → Q3 d C' → Q v H') → t σ H Q
def SimFY (t : TE) (E : XQv → FV) : Prop := ∀ (H0 : Hp) (A0 : List Addr) (av : Av) (ad : Ads) (Γ : Slots) (C : Store) (σ : L2.St) (H : Hp) (XQ : XQv) (Q3 : Cell → Store → Prop) (Q : VK), Rep K H0 A0 av ad Γ C σ H → E XQ Γ C Q3 → LiftX K W0 H0 A0 av ad H XQ →
  (∀ (a : Addr) (H' : Hp) (av' : Av) (ad' : Ads) (c : Cell) (C' : Store), Rep K H0 A0 (fun b => av' b ∨ b = a) ad' Γ C' σ H' → (∀ b, some b ∈ ad' → av' b) → ¬ av' a → H a = none → Le av ad H (fun b => av' b ∨ b = a) ad' H' →
    CellOk K H0 (fun b => av' b ∨ b = a) ad' H' a c → Q3 c C' → Q (.ref a) H') → t σ H Q
structure VEY (X : Cx) (e : Expr) (t : TE) (E : XQv → EV) : Prop where
  pe : PE X e t
  sim : SimEY K W0 t E
structure VFY (X : Cx) (e : Expr) (t : TE) (E : XQv → FV) : Prop where
  pe : PE X e t
  sim : SimFY K W0 t E
end
section
variable {K : PySem.W.Frag} {X : Cx} {W0 : WX} {e a b c tg iter elt : Expr} {es elts ifs : List Expr} {t ta tb te : TE} {tA : TT} {E : EV} {Ey Ea Eb : XQv → EV} {Ep : EV} {Fy : XQv → FV} {B : BV} {tl : TA} {L : AV} {Ly : XQv → AV} {pos p pos2 tpos : Pos} {x y : Str} {g : TG} {G : GV} {tt : TT} {wi : TI} {Iy : XQv → IV} {kk : Nat}
theorem LiftX.later {H0 : Hp} {A0 : List Addr} {av av1 : Av} {ad ad1 : Ads} {H H1 : Hp} {XQ : XQv} (l : LiftX K W0 H0 A0 av ad H XQ) (f : Le av ad H av1 ad1 H1) : LiftX K W0 H0 A0 av1 ad1 H1 XQ := fun _ _ _ _ _ _ _ _ _ R g dx q => l _ _ _ _ _ _ _ _ _ R (f.trans g) dx q
theorem VFY.frz (h : VFY K W0 X e t Fy) : VEY K W0 X e t (fun XQ => eFrz (Fy XQ)) := by
  refine ⟨h.pe, fun H0 A0 av ad Γ C σ H XQ Q3 Q R hE lx q => ?_⟩
  refine h.sim H0 A0 av ad Γ C σ H XQ _ Q R hE lx fun p H' av' ad' c C' R' sub np hn l ok q3 => ?_
  have R2 : Rep K H0 A0 av' ad' Γ C' σ H' := R'.unban (fun _ z => .inl z) sub
  have f2 : Fz (fun b => av' b ∨ b = p) H' av' H' := Fz.less fun _ z => .inl z
  refine q _ _ av' ad' _ C' R2 ⟨l.fz.trans f2, l.pre, l.there, fun b h => (l.avm b h).elim (fun z => z) (fun e => by subst e; exact absurd hn (R.dom _ h)), l.adn, l.kp⟩ ?_ q3
  exact (ok.mono f2 Pre.refl rfl).frz (R.there p hn) np
end
end L3
namespace L3
open PySem PySem.Spec PyProof.Rows L2
section
variable {K : PySem.W.Frag} {H0 : Hp} {av : Av} {ad : Ads} {H : Hp}
end
end L3
namespace L2
open PySem PySem.Spec PyProof.Rows
section
variable {X : Cx} {pins : List (Addr × Obj)} {σ : St} {H : Hp} {s : Shared}
end
section
variable {X : Cx}
end
end L2
namespace L3
open PySem PySem.Spec PyProof.Rows L2
section
variable {K : PySem.W.Frag} {X : Cx}
end
end L3
namespace L3
open PySem PySem.W PySem.Spec PyProof.Rows L2
section
variable {K : PySem.W.Frag} {X : Cx}
end
end L3
namespace L2
open PySem PySem.Spec PyProof.Rows
section
variable {X : Cx} {e : Expr} {te : TE} {p apos cpos pos : Pos}
end
end L2
namespace L3
open PySem PySem.Spec PyProof.Rows L2
section
variable {K : PySem.W.Frag} {X : Cx} {e : Expr} {te : TE} {E : EV} {p apos cpos pos : Pos}
end
end L3
namespace L3
open PySem PySem.Spec PyProof.Rows L2
section
variable {K : PySem.W.Frag} {X : Cx} {k n : Nat} {f : Addr} {fd : FuncData} {ps : List Str} {P : PV} {x : Str} {p pos apos cpos : Pos} {o e : Expr} {es : List Expr} {to : TE} {Eo : EV} {tl : TA} {L : AV}
end
end L3
namespace L3
open PySem PySem.Spec PyProof.Rows L2
section
variable {K : PySem.W.Frag} {H0 : Hp} {A0 : List Addr} {av : Av} {ad : Ads} {Γ : Slots} {C C' : Store} {σ : L2.St} {H H' : Hp}
theorem Rep.callF (R : Rep K H0 A0 av ad Γ C σ H) {ks : List Nat} {P : PV} {vs : List V} {ds : List D} {Q3 : D → Store → Prop} {Q : VK} (dv : DenAll K H0 av ad H vs ds) (hk : ks.Nodup) (hc : ∀ k, k ∈ ks → ∃ c, C[k]? = some c ∧ c ≠ Cell.dead)
    {Qc : D → Store → Prop} (hp : P (views ks C ds) (viewC ks C) Qc) (hq : ∀ d Cc, Cc.length = ks.length → Qc d Cc → noold d = true ∧ (∀ c, c ∈ Cc → c.okC (fun o => !o) = true) ∧ Q3 (mapW id (backG ks) d) (putS ks (Cc.map (backs ks)) C))
    (q : ∀ (v : V) (H' : Hp) (C' : Store) (d : D), Rep K H0 A0 av ad Γ C' σ H' → Le av ad H av ad H' → Den K H0 av ad H' v d → Den K H av ad H' v d → (∀ a o, H a = some o → (∀ k, k ∈ ks → ad[k]? ≠ some (some a)) → H' a = some o) → Q3 d C' → Q v H') (E : XK) : Sp3 K ks.length P vs H Q E := by
  obtain ⟨Ac, hl, hA, hA2⟩ := addrs_of R ks hc
  have hA' : ∀ a, a ∈ Ac → av a := fun a h => by obtain ⟨k, _, e⟩ := hA2 a h; exact R.av_of e
  have cv := carry_view R hA hA2 2
  have same : ∀ (j : Nat) (a : Addr), Ac[j]? = some a → ∃ k, ks[j]? = some k ∧ ad[k]? = some (some a) := fun j a e => by
    have hj : j < ks.length := by rw [← hl]; exact (List.getElem?_eq_some_iff.mp e).1
    obtain ⟨b, h1, h2⟩ := hA j ks[j] (List.getElem?_eq_getElem hj)
    rw [e] at h1; cases h1
    exact ⟨ks[j], List.getElem?_eq_getElem hj, h2⟩
  have R0 : Rep K H Ac (fun a => a ∈ Ac) (Ac.map some) ((views ks C ds).map some) (viewC ks C) (vs.map some) H := by
    have dl : DenAll K H (fun a => a ∈ Ac) (Ac.map some) H vs (views ks C ds) := dv.carry cv (okWs_all _)
    refine ⟨fun a h => ?_, fun a h => R.dom a (hA' a h), fun a xs h => R.avt a xs (hA' a h), fun i j a h1 h2 => ?_, by simp [viewC, hl], fun i a h => ads_some.mpr h, fun i a h hi => ?_, fun a o h _ => h, fun a h => h, fun i h => ?_, fun i a c h1 h2 => ?_, by simp [dl.length], fun i d h => ?_⟩
    · obtain ⟨b, hb, e⟩ := List.mem_map.mp h; cases e; exact hb
    · obtain ⟨k1, e1, g1⟩ := same i a (ads_some.mp h1)
      obtain ⟨k2, e2, g2⟩ := same j a (ads_some.mp h2)
      have e := R.nd k1 k2 a g1 g2
      subst e
      exact nodup_ix' hk e1 e2
    · have := (List.getElem?_eq_some_iff.mp (ads_some.mp h)).1
      omega
    · rw [List.getElem?_map] at h
      cases q : Ac[i]? with
      | none => rw [q] at h; cases h
      | some a => rw [q] at h; cases h
    · obtain ⟨k, e1, g1⟩ := same i a (ads_some.mp h1)
      simp only [viewC, List.getElem?_map, e1, Option.map_some, Option.some.injEq] at h2
      subst h2
      have hlt : k < C.length := by rw [← R.len]; exact (List.getElem?_eq_some_iff.mp g1).1
      have hck : C[k]? = some C[k] := List.getElem?_eq_getElem hlt
      rw [hck]
      exact (R.cells k a _ g1 hck).carry cv (Cell.okC_all _)
    · rw [List.getElem?_map] at h
      cases q : (views ks C ds)[i]? with
      | none => rw [q] at h; cases h
      | some d' =>
        rw [q] at h; cases h
        obtain ⟨v, h1, h2⟩ := dl.get q
        exact ⟨v, by rw [List.getElem?_map, h1]; rfl, h2⟩
  refine ⟨Ac, _, _, _, Qc, hl, R0, hp, fun av' v H' d Cc Rc f _ x hqc => ?_⟩
  obtain ⟨hno, hok, q3⟩ := hq d Cc (by have := Rc.len; simp [hl] at this; exact this.symm) hqc
  have keepH : ∀ a o, H a = some o → a ∉ Ac → H' a = some o := Rc.keep
  have thereH : ∀ a, H' a = none → H a = none := Rc.there
  have lenC : Cc.length = Ac.length := by have := Rc.len; simpa using this.symm
  have cellC : ∀ (j : Nat) (a : Addr), Ac[j]? = some a → ∃ c, Cc[j]? = some c ∧ CellOk K H av' (Ac.map some) H' a c := fun j a e => by
    have hj : j < Cc.length := by rw [lenC]; exact (List.getElem?_eq_some_iff.mp e).1
    exact ⟨Cc[j], List.getElem?_eq_getElem hj, Rc.cells j a _ (ads_some.mpr e) (List.getElem?_eq_getElem hj)⟩
  have memAc : ∀ a, a ∈ Ac → ∃ j, Ac[j]? = some a := fun a h => by
    obtain ⟨i, hi, e⟩ := List.mem_iff_getElem.mp h
    exact ⟨i, by rw [List.getElem?_eq_getElem hi, e]⟩
  have cbz : ∀ Hz : Hp, (∀ a, H a = none → Hz a = none) → Carry K H av' (Ac.map some) Hz av ad H' id (fun o => !o) (backG ks) := by
    intro Hz hz
    refine ⟨fun a vs o r ho hok => ?_, fun _ z => z, fun a u o r n ho hok => ?_, fun a vs r => ⟨r.1, fun z => ?_⟩, fun j a e => ?_, fun a _ n z => ?_⟩
    · have ho' : o = false := by cases o <;> simp at hok ⊢
      have hn := ho ho'
      exact ⟨⟨r.1, R.nav hn⟩, fun _ => hz a hn⟩
    · have ho' : o = false := by cases o <;> simp at hok ⊢
      have hn := ho ho'
      exact ⟨R.nav hn, fun _ => hz a hn⟩
    · by_cases hm : a ∈ Ac
      · exact r.2 (Rc.sub a (List.mem_map.mpr ⟨a, hm, rfl⟩))
      · cases e : H a with
        | none => exact R.dom a z e
        | some o =>
          have := keepH a o e hm
          rw [r.1] at this
          cases this
          exact R.avt a vs z e
    · obtain ⟨k, e1, g1⟩ := same j a (ads_some.mp e)
      simp only [backG, e1]
      exact .ptr g1
    · cases z
  have cb := cbz H0 R.there
  have fz : Fz av H av H' := fun a o h n => ⟨keepH a o h fun z => n (hA' a z), n⟩
  have cellsOut : ∀ (i : Nat) (a : Addr), ad[i]? = some (some a) → a ∈ Ac → i ∈ ks := fun i a h hm => by
    obtain ⟨k, h1, h2⟩ := hA2 a hm
    rw [R.nd i k a h h2]; exact h1
  refine q v H' _ _ ⟨R.sub, fun a h e => ?_, fun a xs h e => ?_, R.nd, by rw [putS_len]; exact R.len, R.pre, R.loc, fun a o h n => ?_, fun a h => R.there a (thereH a h), fun i h => ?_, fun i a c h1 h2 => ?_, R.slen, fun i d h => ?_⟩ ⟨fz, Pre.refl, thereH, fun _ h => h, fun _ h => .inl h, fun a o h n => keepH a o h fun z => n (by obtain ⟨k, _, e⟩ := hA2 a z; exact mem_ads e)⟩ (x.carry cb hno) (x.carry (cbz H fun _ z => z) hno) (fun a o h n => keepH a o h fun z => by obtain ⟨k, hk', e⟩ := hA2 a z; exact n k hk' e) q3
  · exact R.dom a h (thereH a e)
  · by_cases hm : a ∈ Ac
    · obtain ⟨j, hj⟩ := memAc a hm
      obtain ⟨c, _, ok⟩ := cellC j a hj
      cases c with
      | lst _ => obtain ⟨_, e2, _⟩ := ok; rw [e] at e2; cases e2
      | dk _ _ => obtain ⟨_, e2, _⟩ := ok; rw [e] at e2; cases e2
      | dt _ _ => obtain ⟨_, e2, _⟩ := ok; rw [e] at e2; cases e2
      | ins _ _ _ => obtain ⟨_, _, e2, _⟩ := ok; rw [e] at e2; cases e2
      | dead => exact ok
    · cases e2 : H a with
      | none => exact R.dom a h e2
      | some o =>
        have := keepH a o e2 hm
        rw [e] at this
        cases this
        exact R.avt a xs h e2
  · refine keepH a o (R.keep a o h n) fun hm => ?_
    obtain ⟨k, h1, h2⟩ := hA2 a hm
    by_cases hk : k < A0.length
    · have e2 := R.pre k _ (List.getElem?_eq_getElem hk)
      rw [h2] at e2
      cases e2
      exact n (List.getElem_mem ..)
    · rw [R.loc k a h2 (Nat.le_of_not_lt hk)] at h; cases h
  · have hn : i ∉ ks := fun hm => by
      obtain ⟨c, h1, h2⟩ := hc i hm
      rw [R.gone i h] at h1
      cases h1
      exact h2 rfl
    rw [putS_out _ _ _ hn]
    exact R.gone i h
  · have hlt : i < C.length := by rw [← R.len]; exact (List.getElem?_eq_some_iff.mp h1).1
    by_cases hm : i ∈ ks
    · obtain ⟨j, hj, e⟩ := List.mem_iff_getElem.mp hm
      have ej : ks[j]? = some i := by rw [List.getElem?_eq_getElem hj, e]
      obtain ⟨b, g1, g2⟩ := hA j i ej
      rw [h1] at g2; cases g2
      obtain ⟨c', g3, ok⟩ := cellC j a g1
      rw [putS_in ks _ C hk ej (by rw [List.length_map]; exact (List.getElem?_eq_some_iff.mp g3).1) hlt, List.getElem?_map, g3] at h2
      cases h2
      exact ok.carry cb (hok c' (List.mem_of_getElem? g3))
    · rw [putS_out _ _ _ hm] at h2
      refine (R.cells i a c h1 h2).mono fz Pre.refl ?_
      cases e : H a with
      | none => exact absurd e (R.dom a (R.av_of h1))
      | some o => exact keepH a o e fun z => hm (cellsOut i a h1 z)
  · obtain ⟨u, h1, h2⟩ := R.slot i d h
    exact ⟨u, h1, h2.mono fz Pre.refl⟩
theorem Rep.banF (R : Rep K H0 A0 av ad Γ C σ H) (R' : Rep K H0 A0 av ad Γ C' σ H') (l : Le av ad H av ad H') {ks : List Nat} (s : ∀ a o, H a = some o → (∀ k, k ∈ ks → ad[k]? ≠ some (some a)) → H' a = some o) {p : Addr} {ws : List V} (n : H p = none) (hp : H' p = some (.lst ws)) (fl : ∀ (i : Nat) c, C'[i]? = some c → flatC c = true ∨ (i ∉ ks ∧ C[i]? = some c)) :
    Rep K H0 A0 (fun b => av b ∨ b = p) ad Γ C' σ H' := by
  have f : Fz av H (fun b => av b ∨ b = p) H' := fun a o ha na => ⟨(l.fz a o ha na).1, fun z => z.elim (l.fz a o ha na).2 fun e => ne_of_none ha n e⟩
  exact { R' with
    sub := fun a h => .inl (R'.sub a h)
    dom := fun a h => h.elim (R'.dom a) fun e => by rw [e, hp]; exact fun z => by cases z
    avt := fun a xs h r => h.elim (fun z => R'.avt a xs z r) fun e => by rw [e, hp] at r; cases r
    cells := fun i a c h1 h2 => by
      rcases fl i c h2 with hf | ⟨hi, h3⟩
      · have ok := R'.cells i a c h1 h2
        cases c with
        | lst xs => obtain ⟨vs, e, r⟩ := ok; exact ⟨vs, e, r.ban hp hf⟩
        | dk _ _ => cases hf
        | dt _ _ => cases hf
        | ins _ _ _ => cases hf
        | dead => exact ok
      · refine (R.cells i a c h1 h3).mono f Pre.refl ?_
        cases e : H a with
        | none => exact absurd e (R.dom a (R.av_of h1))
        | some o => exact s a o e fun k hk z => hi (R.nd i k a h1 z ▸ hk)
    slot := fun i d h => by
      obtain ⟨v, h1, h2⟩ := R.slot i d h
      exact ⟨v, h1, h2.mono f Pre.refl⟩ }
end
def eCallT2 (n : Nat) (kf : List D → List Nat) (P : PV) (L : AV) : EV := fun Γ C Q => L Γ C fun ds C1 => (kf ds).length = n ∧ (kf ds).Nodup ∧ (∀ k, k ∈ kf ds → ∃ c, C1[k]? = some c ∧ c ≠ Cell.dead) ∧
  P (views (kf ds) C1 ds) (viewC (kf ds) C1) fun d Cc => ∃ x y xs, d = .tup [x, y, .lst false xs] ∧ flatDs [x, y] = true ∧ flatDs xs = true ∧ (∀ c, c ∈ Cc → c.okC (fun o => !o) = true) ∧
    (∀ (i : Nat) c, (putS (kf ds) (Cc.map (backs (kf ds))) C1)[i]? = some c → flatC c = true ∨ (i ∉ kf ds ∧ C1[i]? = some c)) ∧ Q (.tup [x, y, .ptr C1.length]) (putS (kf ds) (Cc.map (backs (kf ds))) C1 ++ [.lst xs])
section
variable {K : PySem.W.Frag} {X : Cx} {k n : Nat} {f : Addr} {fd : FuncData} {ps : List Str} {P : PV} {x : Str} {p pos : Pos} {e : Expr} {es : List Expr} {tl : TA} {L : AV}
theorem sim_callT2 {kf : List D → List Nat} (hl : SimA K tl L) (E : XK) : SimE K (tCall (Sp3 K n P) [] E tl) (eCallT2 n kf P L) := fun H0 A0 av ad Γ C σ H Q3 Q R h q => by
  refine hl H0 A0 av ad Γ C σ H _ _ R h fun vs H1 av1 ad1 ds C1 R1 l1 dv ⟨h0, h1, h2, h3⟩ => ?_
  subst h0
  rw [List.append_nil]
  refine R1.callF (ks := kf ds) (Q3 := fun d C' => ∃ x y xs, d = .tup [x, y, .lst false xs] ∧ flatDs [x, y] = true ∧ flatDs xs = true ∧ (∀ (i : Nat) c, C'[i]? = some c → flatC c = true ∨ (i ∉ kf ds ∧ C1[i]? = some c)) ∧ Q3 (.tup [x, y, .ptr C1.length]) (C' ++ [.lst xs])) dv h1 h2 h3 (fun d Cc hC h4 => ?_) (fun v H' C' d R' l' den den2 s q3 => ?_) E
  · obtain ⟨x, y, xs, rfl, f1, f2, ok, fl, q4⟩ := h4
    have n1 := flats_np f1
    have n2 := flats_np f2
    simp only [noptrs, okWs, Bool.and_eq_true] at n1
    refine ⟨?_, ok, ?_⟩
    · simp only [noold, okW, okWs, n1.2.1, n1.2.2.1, n2.2]
      rfl
    · rw [mapW_np.1 (.tup [x, y, .lst false xs]) (by simp only [noptr, noptrs, n1.1.1, n1.1.2.1, n2.1]; rfl)]
      exact ⟨x, y, xs, rfl, f1, f2, fl, q4⟩
  · obtain ⟨x, y, xs, rfl, f1, f2, fl, q4⟩ := q3
    simp only [flatDs, Bool.and_eq_true] at f1
    cases den with
    | @tup t vs1 _ r z =>
      cases z with
      | cons a z =>
        cases z with
        | cons b z =>
          cases z with
          | cons c z =>
            cases z
            cases den2 with
            | @tup _ vs2 _ r2 z2 =>
              have ev := r.1.symm.trans r2.1
              simp only [Option.some.injEq, HO.tup.injEq] at ev
              subst ev
              cases z2 with
              | cons a2 z2 =>
                cases z2 with
                | cons b2 z2 =>
                  cases z2 with
                  | cons c2 z2 =>
                    cases c2 with
                    | @lst p ws2 _ _ rr2 o2 y2 =>
                      obtain ⟨n1, hp⟩ := o2 rfl
                      cases c with
                      | @lst _ ws _ _ rr o1 y1 =>
                        have hp1 := (o1 rfl).2
                        have ew : ws = ws2 := by
                          rw [hp] at hp1
                          cases hp1
                          rfl
                        subst ew
                        have RB := R1.banF R' l' s n1 hp fl
                        have np : some p ∉ ad1 := fun z => R1.dom _ (R1.sub _ z) n1
                        have RP := RB.push (c := .lst xs) (R1.there p n1) np (fun a h => R1.sub a h) ⟨ws, hp, y1.ban hp f2⟩
                        have pr : Pre ad1 (ad1 ++ [some p]) := fun k a h => by
                          have hlt : k < ad1.length := (List.getElem?_eq_some_iff.mp h).1
                          rw [List.getElem?_append_left hlt]; exact h
                        have tn : ∀ z, t = z → H' z = some (.tup _) := fun z e => by subst e; exact r.1
                        refine q _ H' _ _ _ _ RP (l1.trans ⟨fun a o ha na => ⟨(l'.fz a o ha na).1, fun z => z.elim (l'.fz a o ha na).2 fun e => ne_of_none ha n1 e⟩, pr, l'.there, fun _ z => .inl z, fun a h => ?_, l'.kp⟩) (.tup ⟨r.1, fun z => z.elim r.2 fun e => by have := tn p e; rw [hp] at this; cases this⟩ ?_) q4
                        · rcases List.mem_append.mp h with h | h
                          · exact .inl h
                          · simp at h
                            subst h
                            exact .inr n1
                        · refine .cons ((a.ban hp f1.1).mono Fz.refl pr) (.cons ((b.ban hp f1.2.1).mono Fz.refl pr) (.cons (.ptr ?_) .nil))
                          rw [← R1.len, List.getElem?_append_right (Nat.le_refl _), Nat.sub_self]
                          rfl
theorem ve_callT2 {kf : List D → List Nat} (F : FnOkG X.prog X.w X.K X.mg X.base CX0 k f fd ps (Sp3 K n P)) (hr : RoomG k X.A) (hm : X.mg x = some (.ref f)) (hk : PySem.W.keepIn X.K (.ref f) = true) (hb : Binds X.K fd ps []) (ha : VA K X (e :: es) tl L) (hg : Gl X x := by rfl)
    (hdb : (x == ("__debug__" : Str)) = false := by decide) (he : starEach (e :: es) X.env = (false, eval e X.env) :: starEach es X.env := by rfl) (hpl : (backTo pos (starEach es X.env)).any (·.1) = false := by rfl) :
    VE K X (.Call (.Name x p) (e :: es) [] pos) (tCall (Sp3 K n P) [] E0 tl) (eCallT2 n kf P L) := ⟨pe_callG F hr hg hm hk hb pass0 ha.pa hdb he hpl, sim_callT2 ha.sim E0⟩
end
end L3
namespace L3
open PySem PySem.Spec PyProof.Rows L2
def eFmt (E : EV) : EV := fun Γ C Q => E Γ C fun d C1 => (∃ y : Str, d = .str y ∧ y.length ≤ sizeLine ∧ Q (.str y) C1) ∨ ∃ i : Int, d = .int i ∧ i.natAbs.log2 < 1920 ∧ Q (.str (toString i)) C1
def jW : List EV → Str → Slots → Store → (Str → Store → Prop) → Prop
  | [], acc, _, C, Q => Q acc C
  | E :: Es, acc, Γ, C, Q => E Γ C fun d C1 => ∃ y : Str, d = .str y ∧ (acc ++ y).length ≤ sizeLine ∧ jW Es (acc ++ y) Γ C1 Q
def eJoin (Es : List EV) : EV := fun Γ C Q => jW Es Str.empty Γ C fun s C1 => Q (.str s) C1
section
variable {K : PySem.W.Frag} {X : Cx} {e v1 v2 : Expr} {rest : List Expr} {te : TE} {ts : List TE} {E : EV} {Es : List EV} {pos : Pos}
theorem ve_fmt (he : VE K X e te E) : VE K X (.FormattedValue e (-1) none pos) (tFmt te) (eFmt E) := by
  refine ⟨pe_fmt he.pe, fun H0 A0 av ad Γ C σ H Q3 Q R h q => ?_⟩
  refine he.sim H0 A0 av ad Γ C σ H _ _ R h fun v H1 av1 ad1 d C1 R1 l1 dv h1 => ?_
  rcases h1 with ⟨y, rfl, hy, h2⟩ | ⟨i, rfl, hi, h2⟩
  · exact .inl ⟨y, den_str dv, hy, q _ H1 av1 ad1 _ C1 R1 l1 .str h2⟩
  · exact .inr ⟨i, den_int dv, hi, q _ H1 av1 ad1 _ C1 R1 l1 .str h2⟩
inductive VJ (K : PySem.W.Frag) (X : Cx) : List Expr → List TE → List EV → Prop where
  | nil : VJ K X [] [] []
  | cons {e : Expr} {t : TE} {E : EV} {es : List Expr} {ts : List TE} {Es : List EV} (h : VE K X e t E) (r : VJ K X es ts Es) : VJ K X (e :: es) (t :: ts) (E :: Es)
theorem VJ.pj {es : List Expr} (h : VJ K X es ts Es) : PJ X es ts := by
  induction h with
  | nil => exact .nil
  | cons h _ ih => exact .cons h.pe ih
theorem sim_js {es : List Expr} (h : VJ K X es ts Es) : ∀ (acc : Str) (H0 : Hp) (A0 : List Addr) (av : Av) (ad : Ads) (Γ : Slots) (C : Store) (σ : L2.St) (H : Hp) (Q3 : Str → Store → Prop) (Q : Str → Hp → Prop), Rep K H0 A0 av ad Γ C σ H → jW Es acc Γ C Q3 →
    (∀ (s : Str) (H' : Hp) (av' : Av) (ad' : Ads) (C' : Store), Rep K H0 A0 av' ad' Γ C' σ H' → Le av ad H av' ad' H' → Q3 s C' → Q s H') → tJs ts acc σ H Q := by
  induction h with
  | nil => exact fun acc H0 A0 av ad Γ C σ H Q3 Q R h q => q acc H av ad C R Le.refl h
  | @cons e t E es ts Es he r ih =>
    intro acc H0 A0 av ad Γ C σ H Q3 Q R h q
    refine he.sim H0 A0 av ad Γ C σ H _ _ R h fun v H1 av1 ad1 d C1 R1 l1 dv ⟨y, e1, hy, h1⟩ => ?_
    subst e1
    refine ⟨y, den_str dv, hy, ih (acc ++ y) H0 A0 av1 ad1 Γ C1 σ H1 _ _ R1 h1 fun s H' av' ad' C' R' l' q3 => ?_⟩
    exact q s H' av' ad' C' R' (l1.trans l') q3
theorem ve_joined (h : VJ K X (v1 :: v2 :: rest) ts Es) : VE K X (.JoinedStr (v1 :: v2 :: rest) pos) (fun σ H Q => tJs ts Str.empty σ H fun out H1 => Q (.str out) H1) (eJoin Es) :=
  ⟨pe_joined h.pj, fun H0 A0 av ad Γ C σ H Q3 Q R h3 q => sim_js h Str.empty H0 A0 av ad Γ C σ H _ _ R h3 fun s H' av' ad' C' R' l' q3 => q (.str s) H' av' ad' (.str s) C' R' l' .str q3⟩
end
@[simp] theorem u_eFmt {E : EV} {Γ : Slots} {C : Store} {Q : D → Store → Prop} : eFmt E Γ C Q = E Γ C fun d C1 => (∃ y : Str, d = .str y ∧ y.length ≤ sizeLine ∧ Q (.str y) C1) ∨ ∃ i : Int, d = .int i ∧ i.natAbs.log2 < 1920 ∧ Q (.str (toString i)) C1 := rfl
@[simp] theorem u_eJoin {Es : List EV} {Γ : Slots} {C : Store} {Q : D → Store → Prop} : eJoin Es Γ C Q = jW Es Str.empty Γ C fun s C1 => Q (.str s) C1 := rfl
end L3
namespace L3
open PySem PySem.W PySem.Spec PyProof.Rows L2
def oGeT : O2 := fun _ x y Q => ∃ ns ms : List Int, x = .tup (ns.map .int) ∧ y = .tup (ms.map .int) ∧ Q (.bl (!lexI ns ms))
section
variable {K : PySem.W.Frag} {X : Cx}
theorem sr_geT : SimR K (rGeD K) oGeT := by
  intro H0 A0 av ad Γ C σ H x y dx dy Q3 Q R d1 d2 h3 q
  obtain ⟨as, bs, rfl, rfl, q3⟩ := h3
  refine ⟨_, _, R.dp d1 pyD_asT, R.dp d2 pyD_asT, ?_, by simp [asT], ?_, q _ H _ (fun _ _ h => h) (by rw [lt_asT]; exact .bl) q3⟩
  · exact alike_asP _ _
  · have : (asT as).depth ≤ 60 := by
      unfold asT
      rw [PyData.depth, depth_ints]
      omega
    omega
end
end L3
namespace L3
open PySem PySem.Spec PyProof.Rows L2
section
variable {K : PySem.W.Frag} {X : Cx} {body : List Stmt} {h₀ : ExceptHandler} {hds : List ExceptHandler} {l : List (Value × (Addr → Value → Option Addr → TS))} {hl : List (List (Str × Bool) × SV)} {pos : Pos} {tb : WX → TS} {Tb : WX → SV} {Wout : WX}
inductive VH (K : PySem.W.Frag) (X : Cx) : List ExceptHandler → List (Value × (Addr → Value → Option Addr → TS)) → List (List (Str × Bool) × SV) → Prop
  | nil : VH K X [] [] []
  | cons {x : Str} {c : Value} {us : TS} {U : SV} {ms : List (Str × Bool)} {b₀ : Stmt} {suite : List Stmt} {np pos' : Pos} {hds : List ExceptHandler} {l : List (Value × (Addr → Value → Option Addr → TS))} {hl : List (List (Str × Bool) × SV)} (hc : Names X x c)
      (hms : ∀ z, z ∈ ms → PySem.W.exmOne K (.ref (He.ga K z.1)) c = some z.2) (hsu : ∀ (a : Addr) (oe : Obj) (pn : List (Addr × Obj)), VSs K (X.suite a ((a, oe) :: pn)) (b₀ :: suite) us U) (r : VH K X hds l hl) :
      VH K X (.ExceptHandler (some (.Name x np)) none (b₀ :: suite) pos' :: hds) ((c, fun _ _ _ => us) :: l) ((ms, U) :: hl)
theorem VH.ok {hs : List ExceptHandler} (h : VH K X hs l hl) : HdsOk X hs l := by
  induction h with
  | nil => exact .nil
  | cons hc _ hsu _ ih => exact .cons hc (fun a oe cls d pn _ _ => (hsu a oe pn).ps) ih
end
end L3
namespace L3
open PySem PySem.NumText PySem.W.KIN PyProof.Rows
abbrev tx (n : Int) : Str := Str.ofString (toString n)
theorem bl_eq : (Str.ofString " ") = ⟨#[32]⟩ := by decide +kernel
theorem tx_digits {n : Int} (h0 : 0 ≤ n) : AllDigits (tx n).cps.toList := by
  obtain ⟨m, rfl⟩ := Int.eq_ofNat_of_zero_le h0
  intro c hc
  rw [signs_num] at hc
  obtain ⟨ch, hch, e⟩ := List.mem_map.mp hc
  rw [← e]
  exact digit_range (Nat.isDigit_of_mem_toDigits (by decide) (by decide) hch)
theorem tx_len {n : Int} (h0 : 0 ≤ n) {k : Nat} (hk : 0 < k) (h : n < 10 ^ k) : (tx n).length ≤ k := toString_length_le h0 hk h
theorem tx_ne {n : Int} (h0 : 0 ≤ n) : (tx n).cps.toList ≠ [] := by
  obtain ⟨m, rfl⟩ := Int.eq_ofNat_of_zero_le h0
  rw [signs_num]
  intro e
  have h := toDigits_len_ge 10 m
  rw [List.map_eq_nil_iff.mp e] at h
  exact absurd h (by decide)
theorem tx_reads {n : Int} (h0 : 0 ≤ n) (h : n < 10 ^ 600) : intText? (tx n) = some n := by
  have e := intText_digits (tx_digits h0) (tx_ne h0) (Nat.le_trans (tx_len h0 (by decide) h) (by decide))
  obtain ⟨m, rfl⟩ := Int.eq_ofNat_of_zero_le h0
  rw [signs_num, val_back] at e
  exact e
theorem head_zero (m : Nat) : ∀ c r, Nat.toDigits 10 m = c :: r → c = '0' → m = 0 := by
  induction m using Nat.strongRecOn with
  | _ m ih =>
    intro c r e hc
    by_cases h : m < 10
    · rw [Nat.toDigits_of_lt_base h] at e
      cases e
      have k : ∀ d : Nat, d < 10 → Nat.digitChar d = '0' → d = 0 := by decide
      exact k m h hc
    · have hm : m % 10 < 10 := Nat.mod_lt m (by decide)
      have t : Nat.toDigits 10 (m / 10) ++ Nat.toDigits 10 (m % 10) = Nat.toDigits 10 (10 * (m / 10) + m % 10) := Nat.toDigits_append_toDigits (by decide) (by omega) hm
      rw [Nat.div_add_mod, e] at t
      cases q : Nat.toDigits 10 (m / 10) with
      | nil => have := toDigits_len_ge 10 (m / 10); rw [q] at this; simp at this
      | cons d l =>
        rw [q] at t
        have e2 : d = c := by
          have := congrArg List.head? t
          simpa using this
        have := ih (m / 10) (by omega) d l q (e2.trans hc)
        omega
theorem tx_zero {n : Int} (h0 : 0 ≤ n) {c : Nat} {r : List Nat} (e : (tx n).cps.toList = c :: r) (hc : c = 48) : n = 0 := by
  obtain ⟨m, rfl⟩ := Int.eq_ofNat_of_zero_le h0
  rw [signs_num] at e
  cases q : Nat.toDigits 10 m with
  | nil => rw [q] at e; cases e
  | cons d l =>
    rw [q] at e
    simp only [List.map_cons, List.cons.injEq] at e
    have h1 : d = '0' := by
      apply Char.ext
      apply UInt32.toNat_inj.mp
      have : d.toNat = 48 := by rw [e.1, hc]
      exact this
    have := head_zero m d l q h1
    simp [this]
def line (ns : List Int) : Str := Txt.join ⟨#[32]⟩ (ns.map tx)
theorem tx_free {n : Int} (h0 : 0 ≤ n) : 32 ∉ (tx n).cps.toList := fun h => by
  have := tx_digits h0 32 h
  omega
theorem join_snoc (z : Str) : ∀ l : List Str, l ≠ [] → Str.join ⟨#[32]⟩ (l ++ [z]) = Str.join ⟨#[32]⟩ l ++ ⟨#[32]⟩ ++ z
  | [], h => absurd rfl h
  | [x], _ => rfl
  | x :: y :: l, _ => by
    show x ++ ⟨#[32]⟩ ++ Str.join ⟨#[32]⟩ ((y :: l) ++ [z]) = x ++ ⟨#[32]⟩ ++ Str.join ⟨#[32]⟩ (y :: l) ++ ⟨#[32]⟩ ++ z
    rw [join_snoc z (y :: l) (by simp)]
    simp only [PySem.Str.append_assoc]
theorem join_len (c : Nat) (k : Nat) : ∀ l : List Str, (∀ p ∈ l, p.length ≤ k) → (Str.join ⟨#[c]⟩ l).length ≤ l.length * (k + 1)
  | [], _ => Nat.zero_le _
  | [x], h => by
    have := h x (by simp)
    show x.length ≤ 1 * (k + 1)
    omega
  | x :: y :: l, h => by
    have h1 := h x (by simp)
    have h2 := join_len c k (y :: l) fun p hp => h p (List.mem_cons_of_mem _ hp)
    have e : (x ++ ⟨#[c]⟩ ++ Str.join ⟨#[c]⟩ (y :: l)).length = x.length + 1 + (Str.join ⟨#[c]⟩ (y :: l)).length := by
      simp [PySem.Str.length, PySem.Str.cps_append]
    show (x ++ ⟨#[c]⟩ ++ Str.join ⟨#[c]⟩ (y :: l)).length ≤ _
    rw [e]
    simp only [List.length_cons] at h2 ⊢
    have : (l.length + 1 + 1) * (k + 1) = (l.length + 1) * (k + 1) + (k + 1) := by rw [Nat.add_mul (l.length + 1), Nat.one_mul]
    omega
end L3
namespace L3
open PySem PySem.Spec PyProof.Rows L2
theorem pyWs_ints {g : Nat → Option PyData} : ∀ ns : List Int, pyWs g (ns.map .int) = some (ns.map .int)
  | [] => rfl
  | n :: ns => by simp only [List.map_cons, pyWs, pyW, pyWs_ints ns]; rfl
theorem pyD_ints {C : Store} {o : Bool} (ns : List Int) : pyD C (.lst o (ns.map .int)) = some (.list (ns.map .int)) := by
  unfold pyD
  rw [pyW, pyWs_ints]
  rfl
theorem depth_ints : ∀ ns : List Int, PyData.depthAll (ns.map .int) = 0
  | [] => rfl
  | n :: ns => by simp [PyData.depthAll, PyData.depth, depth_ints ns]
theorem lay_ints : ∀ ns : List Int, PyData.canLayAll0 (ns.map .int) = true
  | [] => rfl
  | n :: ns => by simp [PyData.canLayAll0, PyData.canLay0, lay_ints ns]
theorem shaped_ints (ns : List Int) : SeqAt.shaped (.list (ns.map .int)) = true := by
  simp [SeqAt.shaped, PyData.canLay0, PyData.depth, lay_ints, depth_ints]
theorem eqvAll_ints : ∀ ns ms : List Int, PyData.eqvAll (ns.map .int) (ms.map .int) = decide (ns = ms)
  | [], [] => by simp [PyData.eqvAll]
  | [], _ :: _ => by simp [PyData.eqvAll]
  | _ :: _, [] => by simp [PyData.eqvAll]
  | n :: ns, m :: ms => by
    simp only [List.map_cons, PyData.eqvAll, PyData.eqv, eqvAll_ints ns ms, List.cons.injEq]
    rw [Bool.decide_and]
    rfl
theorem eqv_ints (ns ms : List Int) : PyData.eqv (.list (ns.map .int)) (.list (ms.map .int)) = decide (ns = ms) := by rw [PyData.eqv, eqvAll_ints]
theorem oEq_ints {neg o o' : Bool} {C : Store} {ns ms : List Int} {q : D → Prop} (h : q (.bl (neg != decide (ns = ms)))) : oEq neg C (.lst o (ns.map .int)) (.lst o' (ms.map .int)) q :=
  ⟨_, _, pyD_ints ns, pyD_ints ms, shaped_ints ns, shaped_ints ms, by rw [eqv_ints]; exact h⟩
theorem np_ints {o : Bool} {ns : List Int} : (noold (.lst false (ns.map .int)) && noptr (.lst o (ns.map .int))) = true := by simp [noold, okW, okWs_ints, noptr, noptrs_ints]
theorem views_ints {ks : List Nat} {C : Store} {o : Bool} {ns : List Int} {ds : List D} : views ks C (.lst o (ns.map .int) :: ds) = .lst true (ns.map .int) :: views ks C ds := by
  unfold views
  rw [mapWs, mapW, mapWs_ints]
theorem views_int {ks : List Nat} {C : Store} {s : Int} {ds : List D} : views ks C (.int s :: ds) = .int s :: views ks C ds := by
  unfold views
  rw [mapWs, mapW]
theorem views_nil {ks : List Nat} {C : Store} : views ks C [] = [] := by
  unfold views
  rw [mapWs]
theorem fin_ints {n : Nat} {C : Store} {o : Bool} {ns : List Int} : fin n C (.lst o (ns.map .int)) = .lst o (ns.map .int) := by
  unfold fin
  rw [mapW, mapWs_ints]
  rfl
theorem fin_cell {C : Store} {k : Nat} {ns : List Int} (h : C[k]? = some (.lst (ns.map .int))) : fin 0 C (.ptr k) = .lst false (ns.map .int) := by
  unfold fin
  simp only [mapW, finG, h, Nat.not_lt_zero, if_false, mapWs_ints]
theorem finS0 {C : Store} : finS 0 C = [] := by simp [finS]
end L3
namespace L3
open PySem PySem.Spec PyProof.Rows L2
def T_is_stamp : SV :=
  (sRet (eAnd (eIsi .str (eVar 0)) (eAnd (eBin (oEq false) (eCB oLenA (aCons (eVar 0) aNil)) (eC (.int 1))) (eBin (oIn false) (eVar 0) (eC (.str "RB"))))))
abbrev N_is_stamp : List Str := ["thing"]
def T_are_stamps : SV :=
  (sRet (eAnd (eIsi .str (eVar 0)) (eAnd (eChain oLe oLe (eC (.int 1)) (eCB oLenA (aCons (eVar 0) aNil)) (eC (.int 24))) (eCB oAll (aCons (eFrz (fLc [1] (iSigns (eVar 0)) (gvName 1) bYes (eBin (oIn false) (eVar 1) (eC (.str "RB"))))) aNil)))))
abbrev N_are_stamps : List Str := ["thing", "sign"]
def T_is_between : SV :=
  (sRet (eAnd (eIsi .int (eVar 0)) (eAnd (eNot (eIsi .bool (eVar 0))) (eChain oLe oLe (eVar 1) (eVar 0) (eVar 2)))))
abbrev N_is_between : List Str := ["thing", "least", "most"]
def T_is_rule (P_is_between : PV) : SV :=
  (sSeq (sIf (bOr (bNot (bB (eIsi .tuple (eVar 0)))) (bOr (bB (eBin (oEq true) (eCB oLenA (aCons (eVar 0) aNil)) (eC (.int 2)))) (bNot (bB (eCB oAll (aCons (eFrz (fLc [2] (iTupl (eVar 0)) (gvName 2) bYes (eCall P_is_between (aCons (eVar 2) (aCons (eC (.int 0)) (aCons (eBin oSub (eVar 1) (eC (.int 1))) aNil)))))) aNil)))))) (sRet (eC (.bl false))) sNext)
  (sRet (eBin (oEq true) (eBin oIxT (eVar 0) (eC (.int 0))) (eBin oIxT (eVar 0) (eC (.int 1))))))
abbrev N_is_rule : List Str := ["thing", "many", "one"]
def T_are_rules (P_is_rule : PV) : SV :=
  (sSeq (sIf (bOr (bNot (bB (eIsi .list (eVar 0)))) (bOr (bB (eBin oGt (eCB oLenA (aCons (eVar 0) aNil)) (eC (.int 60)))) (bNot (bB (eCB oAll (aCons (eFrz (fLc [2] (iLst (eVar 0)) (gvName 2) bYes (eCall P_is_rule (aCons (eVar 2) (aCons (eVar 1) aNil))))) aNil)))))) (sRet (eC (.bl false))) sNext)
  (sRet (eCB oAll (aCons (eFrz (fLc [2, 3] (iZipD (aCons (eVar 0) (aCons (eFrz (fSlL (eVar 0) (oSome (eC (.int 1))) oNone)) aNil))) (gvTup 2 (gvCons (gvName 2) (gvCons (gvName 3) gvNil))) bYes (eBin oLtT (eVar 2) (eVar 3)))) aNil))))
abbrev N_are_rules : List Str := ["thing", "many", "one", "other"]
def T_is_heap (P_are_rules P_are_stamps P_is_stamp : PV) : SV :=
  (sSeq (sIf (bOr (bNot (bB (eIsi .tuple (eVar 0)))) (bB (eBin (oEq true) (eCB oLenA (aCons (eVar 0) aNil)) (eC (.int 3))))) (sRet (eC (.bl false))) sNext)
  (sRet (eAnd (eCall P_is_stamp (aCons (eBin oIxT (eVar 0) (eC (.int 0))) aNil)) (eAnd (eCall P_are_stamps (aCons (eBin oIxT (eVar 0) (eC (.int 1))) aNil)) (eCall P_are_rules (aCons (eBin oIxT (eVar 0) (eC (.int 2))) (aCons (eCB oLenA (aCons (eBin oIxT (eVar 0) (eC (.int 1))) aNil)) aNil)))))))
abbrev N_is_heap : List Str := ["thing"]
def T_straight_behind : SV :=
  (sSeq (sAsg (eCell (fLc [3] (iRange1 (aCons (eVar 0) aNil)) (gvName 3) bYes (eCell (fLst aNil)))) (gvName 2))
  (sSeq (sFor (iLst (eVar 1)) (gvTup 2 (gvCons (gvName 3) (gvCons (gvName 4) gvNil))) (sDrop (eMl mAppend (eBin oIxL (eVar 2) (eVar 3)) (aCons (eVar 4) aNil))))
  (sRet (eVar 2))))
abbrev N_straight_behind : List Str := ["many", "rules", "found", "paper", "other"]
def T_ordered (P_straight_behind : PV) : SV :=
  (sSeq (sAsg (eCell (fLst aNil)) (gvName 2))
  (sSeq (sAsg (eCell (fBin nRep (eFrz (fLst (aCons (eC (.int 0)) aNil))) (eVar 0))) (gvName 3))
  (sSeq (sFor (iLst (eVar 1)) (gvTup 2 (gvCons (gvName 4) (gvCons (gvName 5) gvNil))) (sAugL oAdd (eVar 3) (eVar 5) (eC (.int 1))))
  (sSeq (sAsg (eCall P_straight_behind (aCons (eVar 0) (aCons (eVar 1) aNil))) (gvName 6))
  (sSeq (sAsg (eCell (fLc [4] (iRange1 (aCons (eVar 0) aNil)) (gvName 4) (bB (eBin (oEq false) (eBin oIxL (eVar 3) (eVar 4)) (eC (.int 0)))) (eVar 4))) (gvName 7))
  (sSeq (sWhile (bB (eBin (oEq true) (eVar 7) (eFrz (fLst aNil)))) (sSeq (sAsg (eCB oMinL (aCons (eVar 7) aNil)) (gvName 4))
  (sSeq (sDrop (eMl mRemove (eVar 7) (aCons (eVar 4) aNil)))
  (sSeq (sDrop (eMl mAppend (eVar 2) (aCons (eVar 4) aNil)))
  (sFor (iLst (eBin oIxL (eVar 6) (eVar 4))) (gvName 5) (sSeq (sAugL oSub (eVar 3) (eVar 5) (eC (.int 1)))
  (sIf (bB (eBin (oEq false) (eBin oIxL (eVar 3) (eVar 5)) (eC (.int 0)))) (sDrop (eMl mAppend (eVar 7) (aCons (eVar 5) aNil))) sNext)))))))
  (sRet (eVar 2))))))))
abbrev N_ordered : List Str := ["many", "rules", "found", "waiting", "paper", "other", "behind", "free"]
def T_ring_by (P_ordered : PV) : SV :=
  (sSeq (sAsg (eCall P_ordered (aCons (eVar 0) (aCons (eVar 1) aNil))) (gvName 2))
  (sSeq (sAsg (eFrz (fLc [4] (iRange1 (aCons (eVar 0) aNil)) (gvName 4) (bB (eBin (oIn true) (eVar 4) (eVar 2))) (eVar 4))) (gvName 3))
  (sSeq (sIf (bB (eBin (oEq false) (eVar 3) (eFrz (fLst aNil)))) (sRet (eC .non)) sNext)
  (sSeq (sAsg (eCell (fLst (aCons (eBin oIxL (eVar 3) (eC (.int 0))) aNil))) (gvName 5))
  (sSeq (sWhile (bB (eBin oLt (eMl mCount (eVar 5) (aCons (eBin oIxL (eVar 5) (eUn oNeg (eC (.int 1)))) aNil)) (eC (.int 2)))) (sDrop (eMl mAppend (eVar 5) (aCons (eBin oIxL (eFrz (fLc [4, 6] (iLst (eVar 1)) (gvTup 2 (gvCons (gvName 4) (gvCons (gvName 6) gvNil))) (bAnd (bB (eBin (oEq false) (eVar 6) (eBin oIxL (eVar 5) (eUn oNeg (eC (.int 1)))))) (bB (eBin (oIn false) (eVar 4) (eVar 3)))) (eVar 4))) (eC (.int 0))) aNil))))
  (sSeq (sAsg (eFrz (fRev (eFrz (fSlL (eVar 5) (oSome (eBin oAdd (eMl mIndex (eVar 5) (aCons (eBin oIxL (eVar 5) (eUn oNeg (eC (.int 1)))) aNil)) (eC (.int 1)))) oNone)))) (gvName 7))
  (sSeq (sAsg (eMl mIndex (eVar 7) (aCons (eCB oMinL (aCons (eVar 7) aNil)) aNil)) (gvName 8))
  (sRet (eFrz (fBin nCat (eFrz (fSlL (eVar 7) (oSome (eVar 8)) oNone)) (eFrz (fSlL (eVar 7) oNone (oSome (eVar 8))))))))))))))
abbrev N_ring_by : List Str := ["many", "rules", "there", "left", "paper", "way", "other", "ring", "at"]
def T_is_pile (P_ring_by P_is_heap : PV) : SV :=
  (sRet (eAnd (eCall P_is_heap (aCons (eVar 0) aNil)) (eBin (oIsN false) (eCall P_ring_by (aCons (eCB oLenA (aCons (eBin oIxT (eVar 0) (eC (.int 1))) aNil)) (aCons (eBin oIxT (eVar 0) (eC (.int 2))) aNil))) (eC .non))))
abbrev N_is_pile : List Str := ["thing"]
def T_need_pile (P_is_pile : PV) : SV :=
  (sIf (bNot (bB (eCall P_is_pile (aCons (eVar 0) aNil)))) sNever sNext)
abbrev N_need_pile : List Str := ["pile"]
end L3
namespace L3
open PySem PySem.Spec PyProof.Rows L2
theorem goT {b : Bool} {X Y : Prop} (h : b = true) (x : X) : if b = true then X else Y := by rw [if_pos h]; exact x
theorem goF {b : Bool} {X Y : Prop} (h : b = false) (y : Y) : if b = true then X else Y := by rw [if_neg (by rw [h]; decide)]; exact y
mutual
theorem mapW_flat {h : Bool → Bool} {g : Nat → D} : ∀ {d : D}, flatD d = true → mapW h g d = d
  | .bad, e => by simp [flatD] at e
  | .non, _ => rfl
  | .bl _, _ => rfl
  | .int _, _ => rfl
  | .str _, _ => rfl
  | .tup xs, e => by
    rw [mapW, mapWs_flat (by simpa only [flatD] using e)]
  | .lst _ _, e => by simp [flatD] at e
  | .dk _ _ _, e => by simp [flatD] at e
  | .dt _ _ _, e => by simp [flatD] at e
  | .obj _ _ _, e => by simp [flatD] at e
  | .exc _ _ _, e => by simp [flatD] at e
  | .ptr _, e => by simp [flatD] at e
theorem mapWs_flat {h : Bool → Bool} {g : Nat → D} : ∀ {ds : List D}, flatDs ds = true → mapWs h g ds = ds
  | [], _ => rfl
  | x :: xs, e => by
    simp only [flatDs, Bool.and_eq_true] at e
    rw [mapWs, mapW_flat e.1, mapWs_flat e.2]
end
theorem flat_pairs : ∀ ps : List (Int × Int), flatDs (ps.map pD) = true
  | [] => rfl
  | z :: ps => by simp only [List.map_cons, flatDs, pD, flatD, flat_pairs ps, Bool.and_self]
def pil (o : Bool) (f st : Str) (rs : List (Int × Int)) : D := .tup [.str f, .str st, .lst o (rs.map pD)]
def cR : Str := ⟨#[82]⟩
def cB : Str := ⟨#[66]⟩
theorem cR_eq : Str.ofString "R" = cR := by decide +kernel
theorem cB_eq : Str.ofString "B" = cB := by decide +kernel
theorem RB_cps : (Str.ofString "RB").cps.toList = [82, 66] := by decide +kernel
structure Rul (n : Nat) (rs : List (Int × Int)) : Prop where
  few : rs.length ≤ 60
  inn : ∀ z, z ∈ rs → 0 ≤ z.1 ∧ z.1 < n ∧ 0 ≤ z.2 ∧ z.2 < n ∧ z.1 ≠ z.2
  srt : rs.Pairwise fun x y => SrtO.lexB x y = true
structure Pil (f st : Str) (rs : List (Int × Int)) : Prop where
  fst : f = cR ∨ f = cB
  pos : 1 ≤ st.length
  top : st.length ≤ 24
  sts : ∀ c, c ∈ st.cps.toList → c = 82 ∨ c = 66
  rul : Rul st.length rs
  acy : ∃ rk : Int → Nat, ∀ z, z ∈ rs → rk z.1 < rk z.2
theorem views_nc {C : Store} {ds : List D} (h : flatDs ds = true) : views [] C ds = ds := mapWs_flat h
theorem views_pil {C : Store} {o : Bool} {f st : Str} {rs : List (Int × Int)} {ds : List D} : views [] C (pil o f st rs :: ds) = pil true f st rs :: views [] C ds := by
  unfold views pil
  simp only [mapWs, mapW, mapWs_flat (flat_pairs rs)]
theorem views_rs {ks : List Nat} {C : Store} {o : Bool} {rs : List (Int × Int)} {ds : List D} : views ks C (.lst o (rs.map pD) :: ds) = .lst true (rs.map pD) :: views ks C ds := by
  unfold views
  simp only [mapWs, mapW, mapWs_flat (flat_pairs rs)]
def P_is_between : PV := fun ds C Q => ∃ i a b : Int, ds = [.int i, .int a, .int b] ∧ Q (.bl (decide (a ≤ i ∧ i ≤ b))) C
theorem v_is_between (ds : List D) (C : Store) (Q3 : D → Store → Prop) (h : P_is_between ds C Q3) (hC : C.length = 0) : T_is_between (enF 0 Q3) (start3 N_is_between ds) C := by
  obtain ⟨i, a, b, rfl, q⟩ := h
  rw [List.length_eq_zero_iff] at hC
  subst hC
  refine ⟨_, rfl, .int, rfl, true, rfl, ?_⟩
  refine goT rfl ?_
  refine ⟨_, rfl, .int, rfl, false, rfl, true, rfl, ?_⟩
  refine goT rfl ?_
  refine ⟨_, rfl, _, rfl, _, _, rfl, rfl, _, rfl, ?_⟩
  by_cases h1 : a ≤ i
  · refine goT (decide_eq_true h1) ?_
    refine ⟨_, rfl, _, _, rfl, rfl, ?_⟩
    have e : decide (a ≤ i ∧ i ≤ b) = decide (i ≤ b) := by simp [h1]
    rw [e] at q
    exact q
  · refine goF (decide_eq_false h1) ?_
    have e : decide (a ≤ i ∧ i ≤ b) = false := by simp [h1]
    rw [e] at q
    exact q
theorem sizeL : sizeLine = 16777216 := sizeLine_eq
def P_is_stamp : PV := fun ds C Q => ∃ f : Str, ds = [.str f] ∧ (f = cR ∨ f = cB) ∧ Q (.bl true) C
theorem in_RB {c : Nat} (h : c = 82 ∨ c = 66) : (!(Builtin.Str.occurrences (Str.ofString "RB") ⟨#[c]⟩ 0 (Str.ofString "RB").length 1).isEmpty) = true := by
  rw [StrLaws.found_one, RB_cps]
  simp
  omega
theorem v_is_stamp (ds : List D) (C : Store) (Q3 : D → Store → Prop) (h : P_is_stamp ds C Q3) (hC : C.length = 0) : T_is_stamp (enF 0 Q3) (start3 N_is_stamp ds) C := by
  obtain ⟨f, rfl, hf, q⟩ := h
  rw [List.length_eq_zero_iff] at hC
  subst hC
  obtain ⟨c, rfl, hc⟩ : ∃ c : Nat, f = ⟨#[c]⟩ ∧ (c = 82 ∨ c = 66) := hf.elim (fun e => ⟨82, e, .inl rfl⟩) fun e => ⟨66, e, .inr rfl⟩
  refine ⟨_, rfl, .str, rfl, true, rfl, ?_⟩
  refine goT rfl ?_
  refine ⟨_, rfl, (by rw [sizeL]; show 1 ≤ 16777216; decide), true, rfl, ?_⟩
  refine goT rfl ?_
  refine ⟨_, rfl, ?_⟩
  show Q3 (.bl (false != _)) _
  rw [in_RB hc]
  exact q
def P_are_stamps : PV := fun ds C Q => ∃ st : Str, ds = [.str st] ∧ 1 ≤ st.length ∧ st.length ≤ 24 ∧ (∀ c, c ∈ st.cps.toList → c = 82 ∨ c = 66) ∧ Q (.bl true) C
theorem v_are_stamps (ds : List D) (C : Store) (Q3 : D → Store → Prop) (h : P_are_stamps ds C Q3) (hC : C.length = 0) : T_are_stamps (enF 0 Q3) (start3 N_are_stamps ds) C := by
  obtain ⟨st, rfl, h1, h2, hs, q⟩ := h
  rw [List.length_eq_zero_iff] at hC
  subst hC
  have hz := sizeL
  refine ⟨_, rfl, .str, rfl, true, rfl, ?_⟩
  refine goT rfl ?_
  refine ⟨_, rfl, by omega, _, _, rfl, rfl, _, rfl, ?_⟩
  refine goT (decide_eq_true (by omega)) ?_
  refine ⟨_, _, rfl, rfl, _, rfl, ?_⟩
  refine goT (decide_eq_true (by omega)) ?_
  refine ⟨_, rfl, _, rfl, ?_⟩
  refine lc_map (fun _ => .bl true) (signs st) (fun _ _ => rfl) (by unfold signs; rw [List.length_map, Array.length_toList]; show st.length ≤ _; omega) (fun d hd R hR => ?_) ?_
  · obtain ⟨c, hc, rfl⟩ := List.mem_map.mp hd
    refine ⟨_, rfl, ?_⟩
    show R (.bl (false != _)) _
    rw [in_RB (hs c hc)]
    exact hR
  · refine ⟨_, (signs st).map fun _ => true, rfl, by simp [Cell.frz, lstOf], ?_⟩
    rw [show ((signs st).map fun _ => true).all (fun b => b) = true by simp]
    exact q
end L3
namespace L3
open PySem PySem.Spec PyProof.Rows L2
def P_is_rule : PV := fun ds C Q => ∃ (z : Int × Int) (n : Int), ds = [pD z, .int n] ∧ 0 ≤ z.1 ∧ z.1 < n ∧ 0 ≤ z.2 ∧ z.2 < n ∧ z.1 ≠ z.2 ∧ Q (.bl true) C
theorem v_is_rule (ds : List D) (C : Store) (Q3 : D → Store → Prop) (h : P_is_rule ds C Q3) (hC : C.length = 0) : T_is_rule P_is_between (enF 0 Q3) (start3 N_is_rule ds) C := by
  obtain ⟨z, n, rfl, h1, h2, h3, h4, h5, q⟩ := h
  rw [List.length_eq_zero_iff] at hC
  subst hC
  refine ⟨_, rfl, .tuple, rfl, true, rfl, ?_⟩
  refine goF rfl ?_
  refine ⟨_, rfl, _, _, rfl, rfl, _, rfl, ?_⟩
  refine goF rfl ?_
  refine ⟨_, rfl, _, rfl, ?_⟩
  refine lc_map (fun _ => .bl true) [.int z.1, .int z.2] (fun _ _ => rfl) (by rw [sizeL]; show 2 ≤ 16777216; decide) (fun d hd R hR => ?_) ?_
  · obtain ⟨i, rfl, hi1, hi2⟩ : ∃ i : Int, d = .int i ∧ 0 ≤ i ∧ i < n := by
      simp at hd
      rcases hd with rfl | rfl
      · exact ⟨_, rfl, h1, h2⟩
      · exact ⟨_, rfl, h3, h4⟩
    refine ⟨_, rfl, _, rfl, _, _, rfl, rfl, i, 0, n - 1, by rw [views_int, views_int, views_int, views_nil], rfl, ?_⟩
    rw [decide_eq_true (by omega)]
    exact hR
  · refine ⟨_, [true, true], rfl, rfl, _, rfl, ?_⟩
    refine goF rfl ?_
    refine ⟨_, rfl, _, _, _, rfl, rfl, rfl, _, rfl, _, _, _, rfl, rfl, rfl, ?_⟩
    show Q3 (.bl (true != decide (z.1 = z.2))) _
    rw [decide_eq_false h5]
    exact q
theorem np_pairs (rs : List (Int × Int)) : noptrs (rs.map pD) = true := (flats_np (flat_pairs rs)).1
def P_are_rules : PV := fun ds C Q => ∃ (o : Bool) (rs : List (Int × Int)) (n : Nat), ds = [.lst o (rs.map pD), .int (n : Nat)] ∧ Rul n rs ∧ Q (.bl true) C
theorem zip_tail : ∀ rs : List (Int × Int), rs.Pairwise (fun x y => SrtO.lexB x y = true) → ∀ d, d ∈ zipD (rs.map pD) ((rs.map pD).drop 1) → ∃ x y, d = .tup [pD x, pD y] ∧ SrtO.lexB x y = true
  | [], _, d, h => by simp [zipD] at h
  | [x], _, d, h => by simp [zipD] at h
  | x :: y :: rs, hp, d, h => by
    have h' : d ∈ D.tup [pD x, pD y] :: zipD ((y :: rs).map pD) (((y :: rs).map pD).drop 1) := h
    rcases List.mem_cons.mp h' with rfl | h'
    · exact ⟨x, y, rfl, (List.pairwise_cons.mp hp).1 y (by simp)⟩
    · exact zip_tail (y :: rs) (List.pairwise_cons.mp hp).2 d h'
theorem lex_lt {x y : Int × Int} (h : SrtO.lexB x y = true) : HT.lexLt [x.1, x.2] [y.1, y.2] = true := by
  have := SrtO.lexB_iff.mp h
  rw [HT.lexLt_cons, HT.lexLt_cons]
  by_cases e : x.1 = y.1
  · rw [if_pos e]
    by_cases e2 : x.2 = y.2
    · omega
    · rw [if_neg e2]
      exact decide_eq_true (by omega)
  · rw [if_neg e]
    exact decide_eq_true (by omega)
theorem v_are_rules (ds : List D) (C : Store) (Q3 : D → Store → Prop) (h : P_are_rules ds C Q3) (hC : C.length = 0) : T_are_rules P_is_rule (enF 0 Q3) (start3 N_are_rules ds) C := by
  obtain ⟨o, rs, n, rfl, hr, q⟩ := h
  rw [List.length_eq_zero_iff] at hC
  subst hC
  have hz := sizeL
  have hf := hr.few
  have hln : (rs.map pD).length = rs.length := List.length_map ..
  refine ⟨_, rfl, .list, rfl, true, rfl, ?_⟩
  refine goF rfl ?_
  refine ⟨_, rfl, _, _, rfl, rfl, _, _, rfl, rfl, _, rfl, ?_⟩
  refine goF (decide_eq_false (by rw [hln]; omega)) ?_
  refine ⟨_, rfl, _, rfl, ?_⟩
  refine lc_map (fun _ => .bl true) (rs.map pD) (fun _ _ => rfl) (by omega) (fun d hd R hR => ?_) ?_
  · obtain ⟨z, hm, rfl⟩ := List.mem_map.mp hd
    obtain ⟨a1, a2, a3, a4, a5⟩ := hr.inn z hm
    exact ⟨_, rfl, _, rfl, z, n, views_nc rfl, a1, a2, a3, a4, a5, rfl, hR⟩
  · refine ⟨_, (rs.map pD).map fun _ => true, rfl, by simp [Cell.frz, lstOf], _, rfl, ?_⟩
    refine goF (by simp) ?_
    refine ⟨_, rfl, _, rfl, _, rfl, _, rfl, ?_⟩
    have ec : cutD (rs.map pD) (some 1) none = (rs.map pD).drop 1 := by
      unfold cutD
      have e1 : HT.sIx (rs.map pD).length 0 (some 1) = min 1 (rs.map pD).length := HT.sIx_nat _ _ 1
      rw [e1, HT.sIx_none]
      rw [List.take_of_length_le (by simp)]
      cases rs with
      | nil => rfl
      | cons z rs => rw [show min 1 ((z :: rs).map pD).length = 1 by simp]
    refine ⟨_, _, _, _, rfl, rfl, rfl, by rw [np_pairs, ec, ← List.map_drop, np_pairs]; rfl, ?_⟩
    have hl2 : (zipD (rs.map pD) ((rs.map pD).drop 1)).length ≤ sizeLine := by rw [zipD_len]; omega
    rw [ec]
    refine lc_map (fun _ => .bl true) (zipD (rs.map pD) ((rs.map pD).drop 1)) (fun _ _ => rfl) hl2 (fun d hd R hR => ?_) ?_
    · obtain ⟨x, y, rfl, hxy⟩ := zip_tail rs hr.srt d hd
      refine ⟨_, rfl, rfl, _, _, rfl, _, _, rfl, rfl, ?_⟩
      refine ⟨_, rfl, _, rfl, [x.1, x.2], [y.1, y.2], rfl, rfl, ?_⟩
      rw [lex_lt hxy]
      exact hR
    · refine ⟨_, (zipD (rs.map pD) ((rs.map pD).drop 1)).map fun _ => true, rfl, by simp [Cell.frz, lstOf], ?_⟩
      rw [show ((zipD (rs.map pD) ((rs.map pD).drop 1)).map fun _ => true).all (fun b => b) = true by simp]
      exact q
def P_is_heap : PV := fun ds C Q => ∃ (o : Bool) (f st : Str) (rs : List (Int × Int)), ds = [pil o f st rs] ∧ (f = cR ∨ f = cB) ∧ 1 ≤ st.length ∧ st.length ≤ 24 ∧ (∀ c, c ∈ st.cps.toList → c = 82 ∨ c = 66) ∧ Rul st.length rs ∧ Q (.bl true) C
theorem v_is_heap (ds : List D) (C : Store) (Q3 : D → Store → Prop) (h : P_is_heap ds C Q3) (hC : C.length = 0) : T_is_heap P_are_rules P_are_stamps P_is_stamp (enF 0 Q3) (start3 N_is_heap ds) C := by
  obtain ⟨o, f, st, rs, rfl, hf, h1, h2, hs, hr, q⟩ := h
  rw [List.length_eq_zero_iff] at hC
  subst hC
  have hz := sizeL
  refine ⟨_, rfl, .tuple, rfl, true, rfl, ?_⟩
  refine goF rfl ?_
  refine ⟨_, rfl, _, _, rfl, rfl, _, rfl, ?_⟩
  refine goF rfl ?_
  refine ⟨_, rfl, _, _, _, rfl, rfl, rfl, f, views_nc rfl, hf, rfl, true, rfl, ?_⟩
  refine goT rfl ?_
  refine ⟨_, rfl, _, _, _, rfl, rfl, rfl, st, views_nc rfl, h1, h2, hs, rfl, true, rfl, ?_⟩
  refine goT rfl ?_
  refine ⟨_, rfl, _, _, _, rfl, rfl, rfl, _, rfl, _, _, _, rfl, rfl, rfl, by omega, ?_⟩
  exact ⟨true, rs, st.length, by rw [views_rs]; rw [views_nc rfl], hr, rfl, q⟩
end L3
namespace L3
open PySem PySem.Spec PyProof.Rows L2
def bh (rs : List (Int × Int)) (i : Nat) : List Int := (rs.filter fun z => z.1 = (i : Int)).map (·.2)
def bhD (n : Nat) (rs : List (Int × Int)) : D := .lst false ((List.range n).map fun i => .lst false ((bh rs i).map .int))
theorem bh_snoc {rs : List (Int × Int)} {z : Int × Int} {i : Nat} : bh (rs ++ [z]) i = if z.1 = (i : Int) then bh rs i ++ [z.2] else bh rs i := by
  unfold bh
  rw [List.filter_append, List.map_append]
  by_cases h : z.1 = (i : Int)
  · rw [if_pos h, List.filter_cons_of_pos (by simp [h])]
    rfl
  · rw [if_neg h, List.filter_cons_of_neg (by simp [h])]
    simp
theorem bh_len {rs : List (Int × Int)} {i : Nat} : (bh rs i).length ≤ rs.length := by
  unfold bh
  rw [List.length_map]
  exact List.length_filter_le _ _
def bhC (n : Nat) (rs : List (Int × Int)) : Store := (List.range n).map (fun i => Cell.lst ((bh rs i).map .int)) ++ [.lst ((List.range n).map .ptr)]
theorem bhC_at {n : Nat} {rs : List (Int × Int)} {i : Nat} (h : i < n) : (bhC n rs)[i]? = some (.lst ((bh rs i).map .int)) := by
  unfold bhC
  rw [List.getElem?_append_left (by simpa using h), List.getElem?_map, List.getElem?_range h]
  rfl
theorem bhC_top {n : Nat} {rs : List (Int × Int)} : (bhC n rs)[n]? = some (.lst ((List.range n).map .ptr)) := by
  unfold bhC
  rw [List.getElem?_append_right (by simp)]
  simp
theorem bhC_set {n : Nat} {rs : List (Int × Int)} {z : Int × Int} {i : Nat} (h : i < n) (e : z.1 = (i : Int)) : (bhC n rs).set i (.lst ((bh rs i).map .int ++ [.int z.2])) = bhC n (rs ++ [z]) := by
  unfold bhC
  rw [List.set_append_left _ _ (by simpa using h)]
  congr 1
  apply List.ext_getElem?
  intro j
  rw [List.getElem?_map]
  by_cases hj : j < n
  · rw [List.getElem?_range hj]
    by_cases hij : i = j
    · subst hij
      rw [List.getElem?_set_self (by simpa using h)]
      simp [bh_snoc, e]
    · rw [List.getElem?_set_ne hij, List.getElem?_map, List.getElem?_range hj]
      have : ¬ z.1 = (j : Int) := by omega
      simp [bh_snoc, this]
  · rw [List.getElem?_eq_none (by simpa using Nat.le_of_not_lt hj), List.getElem?_eq_none (by simpa using Nat.le_of_not_lt hj)]
    rfl
theorem fin_bh {n : Nat} {rs : List (Int × Int)} : fin 0 (bhC n rs) (.ptr n) = bhD n rs := by
  unfold fin bhD
  simp only [mapW, finG, Nat.not_lt_zero, if_false, bhC_top]
  congr 1
  have key : ∀ l : List Nat, (∀ i, i ∈ l → i < n) → mapWs id (finG 0 (bhC n rs) 2) (l.map .ptr) = l.map fun i => .lst false ((bh rs i).map .int) := by
    intro l
    induction l with
    | nil => intro _; rfl
    | cons i l ih =>
      intro h
      simp only [List.map_cons, mapWs, mapW]
      rw [ih fun j hj => h j (List.mem_cons_of_mem _ hj)]
      congr 1
      simp only [finG, Nat.not_lt_zero, if_false, bhC_at (h i (List.mem_cons_self ..)), mapWs_ints]
  exact key _ fun i hi => by simpa using hi
structure Rul0 (n : Nat) (rs : List (Int × Int)) : Prop where
  few : rs.length ≤ 100
  inn : ∀ z, z ∈ rs → 0 ≤ z.1 ∧ z.1 < n ∧ 0 ≤ z.2 ∧ z.2 < n ∧ z.1 ≠ z.2
theorem Rul.lax {n : Nat} {rs : List (Int × Int)} (h : Rul n rs) : Rul0 n rs := ⟨by have := h.few; omega, h.inn⟩
def P_straight_behind : PV := fun ds C Q => ∃ (o : Bool) (n : Nat) (rs : List (Int × Int)), ds = [.int (n : Nat), .lst o (rs.map pD)] ∧ n ≤ 24 ∧ Rul0 n rs ∧ Q (bhD n rs) C
theorem v_straight_behind (ds : List D) (C : Store) (Q3 : D → Store → Prop) (h : P_straight_behind ds C Q3) (hC : C.length = 0) : T_straight_behind (enF 0 Q3) (start3 N_straight_behind ds) C := by
  obtain ⟨o, n, rs, rfl, hn, hr, q⟩ := h
  rw [List.length_eq_zero_iff] at hC
  subst hC
  have hz := sizeL
  have hf := hr.few
  refine ⟨_, rfl, n, rfl, by omega, by omega, ?_⟩
  refine lcW_run (fun ds acc C => ∃ i, i + ds.length = n ∧ acc = (List.range i).map .ptr ∧ C = List.replicate i (.lst [])) ?step ?stop _ _ _ ⟨0, by simp [rgI], rfl, rfl⟩
  case step =>
    rintro d ds acc C ⟨i, hi, rfl, rfl⟩ R hR
    simp only [List.length_cons] at hi
    rw [u_gvName, u_bYes, if_pos rfl]
    refine ⟨Nat.zero_le _, by simp; omega, fun k hk => by simp at hk, ?_⟩
    refine hR _ _ ⟨i + 1, by omega, ?_, ?_⟩
    · rw [List.length_replicate, List.range_succ, List.map_append]
      rfl
    · rw [List.replicate_succ']
  case stop =>
    rintro acc C ⟨i, hi, rfl, rfl⟩
    simp only [List.length_nil, Nat.add_zero] at hi
    subst hi
    have e0 : List.replicate i (Cell.lst []) ++ [.lst ((List.range i).map .ptr)] = bhC i [] := by
      unfold bhC
      congr 1
      apply List.ext_getElem?
      intro j
      rw [List.getElem?_map]
      by_cases hj : j < i
      · rw [List.getElem?_range hj, List.getElem?_replicate, if_pos hj]
        rfl
      · rw [List.getElem?_eq_none (by simpa using Nat.le_of_not_lt hj), List.getElem?_eq_none (by simpa using Nat.le_of_not_lt hj)]
        rfl
    rw [List.length_replicate, e0]
    refine ⟨_, rfl, _, rfl, rfl, np_pairs rs, ?_⟩
    refine forW_run (fun ds Γ C => ∃ done rest, rs = done ++ rest ∧ ds = rest.map pD ∧ C = bhC i done ∧ ∃ a b, Γ = [some (.int (i : Nat)), some (.lst o (rs.map pD)), some (.ptr i), a, b]) ?step2 ?stop2 _ _ _ ⟨[], rs, rfl, rfl, rfl, _, _, rfl⟩
    case step2 =>
      rintro d ds Γ C ⟨done, rest, e1, e2, rfl, a, b, rfl⟩ R hR
      cases rest with
      | nil => cases e2
      | cons z rest =>
      simp only [List.map_cons, List.cons.injEq] at e2
      obtain ⟨rfl, rfl⟩ := e2
      obtain ⟨a1, a2, a3, a4, a5⟩ := hr.inn z (by rw [e1]; simp)
      obtain ⟨j, hj⟩ := Int.eq_ofNat_of_zero_le a1
      have hji : j < i := by omega
      refine ⟨_, rfl, rfl, _, _, rfl, _, _, rfl, rfl, ?_⟩
      refine ⟨_, rfl, _, rfl, (List.range i).map .ptr, z.1, .ptr j, by simp only [lstOf, bhC_top], rfl, ?_, ?_⟩
      · unfold atI ixN
        rw [List.length_map, List.length_range, if_pos a1, if_pos a2, hj]
        simp [hji]
      · refine ⟨(bh done j).map .int, by simp only [lstOf, bhC_at hji], _, rfl, j, (bh done j).map .int, _, rfl, rfl, bhC_at hji, ?_, ?_⟩
        · have := bh_len (rs := done) (i := j)
          have := congrArg List.length e1
          simp at this ⊢
          omega
        · rw [bhC_set hji hj]
          exact hR _ _ ⟨done ++ [z], rest, by rw [e1]; simp, rfl, rfl, _, _, rfl⟩
    case stop2 =>
      rintro Γ C ⟨done, rest, e1, e2, rfl, a, b, rfl⟩
      cases rest with
      | cons z rest => cases e2
      | nil =>
      rw [List.append_nil] at e1
      subst e1
      refine ⟨_, rfl, ?_⟩
      show Q3 (fin 0 _ _) (finS 0 _)
      rw [fin_bh, finS0]
      exact q
end L3
namespace L3
open PySem
def cnt (rs : List (Int × Int)) (fd : List Int) (j : Int) : Nat := (rs.filter fun z => decide (z.2 = j) && !decide (z.1 ∈ fd)).length
def Topo (rs : List (Int × Int)) (ord : List Int) : Prop := ∀ pre x post, ord = pre ++ x :: post → ∀ z, z ∈ rs → z.2 = x → z.1 ∈ pre
structure OInv (n : Nat) (rs : List (Int × Int)) (fd fr : List Int) (w : Nat → Int) (rest : List Int) : Prop where
  nd : (fd ++ fr).Nodup
  inn : ∀ x, x ∈ fd ++ fr → 0 ≤ x ∧ x < n
  wt : ∀ j : Nat, j < n → w j = (cnt rs fd j : Nat) + (rest.count (j : Int) : Nat)
  iff : ∀ j : Nat, j < n → ((j : Int) ∈ fd ++ fr ↔ w j = 0)
  topo : Topo rs fd
theorem cnt_step {rs : List (Int × Int)} {fd : List Int} {p j : Int} (hp : p ∉ fd) : cnt rs fd j = cnt rs (fd ++ [p]) j + ((rs.filter fun z => decide (z.1 = p)).map (·.2)).count j := by
  unfold cnt
  induction rs with
  | nil => rfl
  | cons z rs ih =>
    simp only [List.filter_cons]
    by_cases h1 : z.1 = p
    · have h2 : z.1 ∉ fd := by rw [h1]; exact hp
      by_cases h3 : z.2 = j
      · simp [h1, h3, hp] at ih ⊢
        omega
      · simp [h1, h3, hp] at ih ⊢
        omega
    · by_cases h3 : z.2 = j
      · by_cases h4 : z.1 ∈ fd
        · simp [h1, h3, h4] at ih ⊢
          omega
        · simp [h1, h3, h4] at ih ⊢
          omega
      · simp [h1, h3] at ih ⊢
        omega
theorem cnt_zero {rs : List (Int × Int)} {fd : List Int} {j : Int} : cnt rs fd j = 0 ↔ ∀ z, z ∈ rs → z.2 = j → z.1 ∈ fd := by
  unfold cnt
  rw [List.length_eq_zero_iff, List.filter_eq_nil_iff]
  constructor
  · intro h z hz e
    have := h z hz
    simpa [e] using this
  · intro h z hz
    have := h z hz
    simp
    intro e
    exact this e
theorem OInv.take {n : Nat} {rs : List (Int × Int)} {fd fr : List Int} {w : Nat → Int} {p : Nat} (I : OInv n rs fd fr w []) (hp : (p : Int) ∈ fr) : OInv n rs (fd ++ [(p : Int)]) (fr.erase p) w (bh rs p) := by
  have hnd := I.nd
  have pn := I.inn p (List.mem_append_right _ hp)
  have hpf : (p : Int) ∉ fd := fun h => (List.nodup_append.mp hnd).2.2 _ h _ hp rfl
  have perm : (fd ++ [(p : Int)] ++ fr.erase p).Perm (fd ++ fr) := by
    rw [List.append_assoc]
    exact (List.Perm.append_left fd (List.perm_cons_erase hp).symm)
  refine ⟨perm.nodup_iff.mpr hnd, fun x hx => I.inn x (perm.mem_iff.mp hx), fun j hj => ?_, fun j hj => ?_, ?_⟩
  · have h1 := I.wt j hj
    have h2 := cnt_step (rs := rs) (j := (j : Int)) hpf
    simp only [List.count_nil] at h1
    unfold bh
    omega
  · rw [perm.mem_iff]
    exact I.iff j hj
  · intro pre x post e z hz ez
    rcases List.append_eq_append_iff.mp e with ⟨a, e1, e2⟩ | ⟨a, e1, e2⟩
    · cases a with
      | nil =>
        simp at e1 e2
        have hw := (I.iff p (by omega)).mp (List.mem_append_right _ hp)
        have h1 := I.wt p (by omega)
        simp only [List.count_nil] at h1
        have hz0 : cnt rs fd p = 0 := by omega
        have := cnt_zero.mp hz0 z hz (by rw [ez]; exact e2.1.symm)
        rw [e1]
        exact this
      | cons b a => simp at e2
    · cases a with
      | nil =>
        simp at e1 e2
        have hw := (I.iff p (by omega)).mp (List.mem_append_right _ hp)
        have h1 := I.wt p (by omega)
        simp only [List.count_nil] at h1
        have hz0 : cnt rs fd p = 0 := by omega
        have := cnt_zero.mp hz0 z hz (by rw [ez]; exact e2.1)
        rw [← e1]
        exact this
      | cons b a =>
        simp only [List.cons_append, List.cons.injEq] at e2
        exact I.topo pre x a (by rw [e1, e2.1]) z hz ez
theorem OInv.step {n : Nat} {rs : List (Int × Int)} {fd fr : List Int} {w : Nat → Int} {o : Nat} {rest : List Int} (I : OInv n rs fd fr w ((o : Int) :: rest)) (ho : o < n) :
    OInv n rs fd (if w o - 1 = 0 then fr ++ [(o : Int)] else fr) (fun i => if i = o then w o - 1 else w i) rest := by
  have h1 := I.wt o ho
  simp only [List.count_cons_self] at h1
  have hno : (o : Int) ∉ fd ++ fr := fun h => by
    have := (I.iff o ho).mp h
    omega
  have wt : ∀ j : Nat, j < n → (if j = o then w o - 1 else w j) = (cnt rs fd j : Nat) + (rest.count (j : Int) : Nat) := fun j hj => by
    by_cases e : j = o
    · subst e
      rw [if_pos rfl]
      omega
    · rw [if_neg e]
      have := I.wt j hj
      rw [List.count_cons_of_ne (by omega)] at this
      exact this
  by_cases hz : w o - 1 = 0
  · rw [if_pos hz]
    refine ⟨?_, fun x hx => ?_, wt, fun j hj => ?_, I.topo⟩
    · rw [← List.append_assoc]
      refine List.nodup_append.mpr ⟨I.nd, by simp, fun a ha b hb e => ?_⟩
      simp at hb
      subst e hb
      exact hno ha
    · rw [← List.append_assoc] at hx
      rcases List.mem_append.mp hx with hx | hx
      · exact I.inn x hx
      · simp at hx; subst hx; omega
    · rw [← List.append_assoc, List.mem_append, List.mem_singleton]
      by_cases e : j = o
      · subst e
        simp [hz]
      · have := I.iff j hj
        rw [if_neg e, this]
        constructor
        · rintro (h | h)
          · exact h
          · omega
        · exact fun h => .inl h
  · rw [if_neg hz]
    refine ⟨I.nd, I.inn, wt, fun j hj => ?_, I.topo⟩
    by_cases e : j = o
    · subst e
      rw [if_pos rfl]
      exact ⟨fun h => absurd h hno, fun h => absurd h hz⟩
    · rw [if_neg e]
      exact I.iff j hj
def upto (n : Nat) : List Int := (List.range n).map fun i : Nat => (i : Int)
theorem OInv.done {n : Nat} {rs : List (Int × Int)} {fd : List Int} {w : Nat → Int} (I : OInv n rs fd [] w []) (hr : ∀ z, z ∈ rs → 0 ≤ z.1 ∧ z.1 < n) (hk : ∃ rk : Int → Nat, ∀ z, z ∈ rs → rk z.1 < rk z.2) : fd.Perm (upto n) := by
  obtain ⟨rk, hrk⟩ := hk
  have nd := I.nd
  rw [List.append_nil] at nd
  have all : ∀ m : Nat, ∀ j : Nat, j < n → rk j < m → (j : Int) ∈ fd := by
    intro m
    induction m with
    | zero => intro j _ h; omega
    | succ m ih =>
      intro j hj hm
      have hc : cnt rs fd j = 0 := cnt_zero.mpr fun z hz ez => by
        obtain ⟨h0, h1⟩ := hr z hz
        obtain ⟨i, hi⟩ := Int.eq_ofNat_of_zero_le h0
        have h2 := hrk z hz
        rw [ez] at h2
        rw [hi] at h2 h1 ⊢
        exact ih i (by omega) (by omega)
      have h3 := I.wt j hj
      rw [hc] at h3
      simp at h3
      have := (I.iff j hj).mpr h3
      simpa using this
  have nd2 : (upto n).Nodup := by
    unfold upto
    exact List.pairwise_map.mpr (List.Pairwise.imp (fun h e => h (Int.ofNat.inj e)) (List.nodup_range (n := n)))
  refine (List.perm_ext_iff_of_nodup nd nd2).mpr fun x => ⟨fun hx => ?_, fun hx => ?_⟩
  · obtain ⟨h0, h1⟩ := I.inn x (by simpa using hx)
    obtain ⟨i, rfl⟩ := Int.eq_ofNat_of_zero_le h0
    exact List.mem_map.mpr ⟨i, by simp; omega, rfl⟩
  · obtain ⟨i, hi, rfl⟩ := List.mem_map.mp hx
    exact all (rk i + 1) i (by simpa using hi) (by omega)
end L3
namespace L3
open PySem PySem.Spec PyProof.Rows L2
def P_ordered : PV := fun ds C Q => ∃ (o : Bool) (n : Nat) (rs : List (Int × Int)), ds = [.int (n : Nat), .lst o (rs.map pD)] ∧ 1 ≤ n ∧ n ≤ 24 ∧ Rul n rs ∧ (∃ rk : Int → Nat, ∀ z, z ∈ rs → rk z.1 < rk z.2) ∧
  ∀ ord : List Int, ord.Perm (upto n) → Topo rs ord → Q (.lst false (ord.map .int)) C
def wL (n : Nat) (w : Nat → Int) : List D := (List.range n).map fun j => .int (w j)
theorem wL_len {n : Nat} {w : Nat → Int} : (wL n w).length = n := by simp [wL]
theorem wL_get {n : Nat} {w : Nat → Int} {j : Nat} (h : j < n) : (wL n w)[j]? = some (.int (w j)) := by
  unfold wL
  rw [List.getElem?_map, List.getElem?_range h]
  rfl
theorem wL_set {n : Nat} {w : Nat → Int} {j : Nat} {v : Int} (h : j < n) : (wL n w).set j (.int v) = wL n (fun i => if i = j then v else w i) := by
  apply List.ext_getElem?
  intro i
  by_cases hi : i < n
  · rw [wL_get hi]
    by_cases e : j = i
    · subst e
      rw [List.getElem?_set_self (by rw [wL_len]; exact h), if_pos rfl]
    · rw [List.getElem?_set_ne e, wL_get hi, if_neg (fun z => e z.symm)]
  · rw [List.getElem?_eq_none (by simp [wL]; omega), List.getElem?_eq_none (by simp [wL]; omega)]
theorem ix_nat {n j : Nat} (h : j < n) : ixN n (j : Int) = some j := by
  unfold ixN
  rw [if_pos (by omega), if_pos (by omega)]
  simp
theorem wL_at {n : Nat} {w : Nat → Int} {j : Nat} (h : j < n) : atI (wL n w) (j : Int) = some (.int (w j)) := by
  unfold atI
  rw [wL_len, ix_nat h]
  exact wL_get h
def cn (rs : List (Int × Int)) (j : Nat) : Int := (cnt rs [] (j : Int) : Nat)
theorem cn_snoc {rs : List (Int × Int)} {z : Int × Int} {j : Nat} : cn (rs ++ [z]) j = if z.2 = (j : Int) then cn rs j + 1 else cn rs j := by
  unfold cn cnt
  rw [List.filter_append, List.length_append]
  by_cases h : z.2 = (j : Int)
  · rw [if_pos h, List.filter_cons_of_pos (by simp [h])]
    simp
  · rw [if_neg h, List.filter_cons_of_neg (by simp [h])]
    simp
theorem idx_first : ∀ (l : List Int) (k : Int), k ∈ l → ∃ j : Nat, l[j]? = some k ∧ (∀ m : Nat, m < j → l[m]? ≠ some k) ∧ l.eraseIdx j = l.erase k
  | [], k, h => by simp at h
  | a :: l, k, h => by
    by_cases e : a = k
    · subst e
      exact ⟨0, rfl, fun m hm => by omega, by simp⟩
    · obtain ⟨j, h1, h2, h3⟩ := idx_first l k (by simpa [Ne.symm e] using h)
      refine ⟨j + 1, by simpa using h1, fun m hm => ?_, ?_⟩
      · cases m with
        | zero => simpa using e
        | succ m => simpa using h2 m (by omega)
      · rw [List.eraseIdx_cons_succ, h3, List.erase_cons_tail (by simpa using e)]
theorem rep0 (n : Nat) : (List.replicate (n : Int).toNat [D.int 0]).flatten = wL n fun _ => 0 := by
  unfold wL
  rw [Int.toNat_natCast]
  induction n with
  | zero => rfl
  | succ n ih => rw [List.replicate_succ', List.flatten_append, ih, List.range_succ, List.map_append]; rfl
theorem nodup_len : ∀ (n : Nat) (l : List Int), l.Nodup → (∀ x, x ∈ l → 0 ≤ x ∧ x < n) → l.length ≤ n
  | 0, l, _, h => by
    cases l with
    | nil => exact Nat.le_refl _
    | cons x l => have := h x (by simp); omega
  | n + 1, l, nd, h => by
    by_cases hm : (n : Int) ∈ l
    · have h1 := nodup_len n (l.erase (n : Int)) (nd.erase _) fun x hx => by
        have h2 := h x (List.mem_of_mem_erase hx)
        have h3 : x ≠ (n : Int) := fun e => by
          subst e
          exact (List.Nodup.not_mem_erase nd) hx
        omega
      rw [List.length_erase_of_mem hm] at h1
      omega
    · have h1 := nodup_len n l nd fun x hx => by
        have h2 := h x hx
        have h3 : x ≠ (n : Int) := fun e => by subst e; exact hm hx
        omega
      omega
theorem inner_ok {De : En} {n : Nat} {rs : List (Int × Int)} {fd : List Int} {x0 x1 x6 : Option D} {p : Option D} (hn : n ≤ 24) : ∀ (rest : List Int) (fr : List Int) (w : Nat → Int) (q5 : Option D), OInv n rs fd fr w rest → (∀ x, x ∈ rest → 0 ≤ x ∧ x < n) →
    (∀ fr' w' q', OInv n rs fd fr' w' [] → De.nx [x0, x1, some (.ptr 0), some (.ptr 1), p, q', x6, some (.ptr 2)] [.lst (fd.map .int), .lst (wL n w'), .lst (fr'.map .int)]) →
    forW (gvName 5) (sSeq (sAugL oSub (eVar 3) (eVar 5) (eC (.int 1))) (sIf (bB (eBin (oEq false) (eBin oIxL (eVar 3) (eVar 5)) (eC (.int 0)))) (sDrop (eMl mAppend (eVar 7) (aCons (eVar 5) aNil))) sNext)) De (rest.map .int)
      [x0, x1, some (.ptr 0), some (.ptr 1), p, q5, x6, some (.ptr 2)] [.lst (fd.map .int), .lst (wL n w), .lst (fr.map .int)]
  | [], fr, w, q5, I, _, q => q fr w q5 I
  | x :: rest, fr, w, q5, I, hx, q => by
    obtain ⟨h0, h1⟩ := hx x (by simp)
    obtain ⟨o, rfl⟩ := Int.eq_ofNat_of_zero_le h0
    have ho : o < n := by omega
    have st := I.step ho
    have hz := sizeL
    have hfr : fr.length < sizeLine := by
      have h3 := nodup_len n (fd ++ fr) I.nd I.inn
      rw [List.length_append] at h3
      omega
    have go := fun fr' w' q5' I' => inner_ok (De := De) (x0 := x0) (x1 := x1) (x6 := x6) (p := p) hn rest fr' w' q5' I' (fun x hx' => hx x (List.mem_cons_of_mem _ hx')) q
    refine ⟨_, rfl, _, rfl, 1, _, _, o, _, rfl, rfl, rfl, by rw [wL_len]; exact ix_nat ho, wL_get ho, _, _, rfl, rfl, rfl, ?_⟩
    have es : (wL n w).set o (.int (w o - 1)) = wL n (fun i => if i = o then w o - 1 else w i) := wL_set ho
    refine ⟨_, rfl, _, rfl, wL n (fun i => if i = o then w o - 1 else w i), (o : Nat), .int (w o - 1), by rw [es]; rfl, rfl, by rw [wL_at ho, if_pos rfl], _, rfl, ?_⟩
    by_cases hw : w o - 1 = 0
    · refine goT (by simp [hw]) ?_
      rw [if_pos hw] at st
      refine ⟨_, rfl, fr.map .int, rfl, _, rfl, 2, fr.map .int, _, rfl, rfl, rfl, by simpa using hfr, ?_⟩
      have := go (fr ++ [(o : Int)]) _ (some (.int (o : Nat))) st
      rw [List.map_append] at this
      show forW _ _ _ _ _ [.lst (fd.map .int), .lst ((wL n w).set o (.int (w o - 1))), .lst (fr.map .int ++ [.int (o : Nat)])]
      rw [es]
      exact this
    · refine goF (by simp [hw]) ?_
      rw [if_neg hw] at st
      have := go fr _ (some (.int (o : Nat))) st
      show forW _ _ _ _ _ [.lst (fd.map .int), .lst ((wL n w).set o (.int (w o - 1))), .lst (fr.map .int)]
      rw [es]
      exact this
end L3
namespace L3
open PySem PySem.Spec PyProof.Rows L2
def fr0 (n : Nat) (w : Nat → Int) : List Int := ((List.range n).filter fun j => decide (w j = 0)).map fun j : Nat => (j : Int)
theorem rg_len' (lo : Int) (n : Nat) : (rgI lo n).length = n := by simp [rgI]
theorem bhD_ok {n : Nat} {rs : List (Int × Int)} : (noold (bhD n rs) && noptr (bhD n rs)) = true := by
  have h1 : ∀ l : List Nat, okWs (fun o => !o) (l.map fun i => .lst false ((bh rs i).map .int)) = true := by
    intro l
    induction l with
    | nil => rfl
    | cons i l ih => simp only [List.map_cons, okWs, okW, okWs_ints, ih]; rfl
  have h2 : ∀ l : List Nat, noptrs (l.map fun i => .lst false ((bh rs i).map .int)) = true := by
    intro l
    induction l with
    | nil => rfl
    | cons i l ih => simp only [List.map_cons, noptrs, noptr, noptrs_ints, ih]; rfl
  unfold bhD noold
  rw [okW, noptr, h1, h2]
  rfl
theorem bhD_at {n : Nat} {rs : List (Int × Int)} {i : Nat} (h : i < n) : atI ((List.range n).map fun i => D.lst false ((bh rs i).map .int)) (i : Int) = some (.lst false ((bh rs i).map .int)) := by
  unfold atI
  rw [List.length_map, List.length_range, ix_nat h]
  show ((List.range n).map fun i => D.lst false ((bh rs i).map .int))[i]? = _
  rw [List.getElem?_map, List.getElem?_range h]
  rfl
theorem start_inv {n : Nat} {rs : List (Int × Int)} : OInv n rs [] (fr0 n (cn rs)) (cn rs) [] := by
  have mem : ∀ x, x ∈ fr0 n (cn rs) ↔ ∃ j : Nat, j < n ∧ cn rs j = 0 ∧ x = (j : Int) := fun x => by
    unfold fr0
    constructor
    · intro h
      obtain ⟨j, hj, rfl⟩ := List.mem_map.mp h
      obtain ⟨h1, h2⟩ := List.mem_filter.mp hj
      exact ⟨j, by simpa using h1, by simpa using h2, rfl⟩
    · rintro ⟨j, h1, h2, rfl⟩
      exact List.mem_map.mpr ⟨j, List.mem_filter.mpr ⟨by simpa using h1, by simpa using h2⟩, rfl⟩
  refine ⟨?_, fun x hx => ?_, fun j hj => by simp [cn], fun j hj => ?_, fun pre x post e => by simp at e⟩
  · rw [List.nil_append]
    exact List.pairwise_map.mpr (List.Pairwise.imp (fun h e => h (Int.ofNat.inj e)) ((List.nodup_range (n := n)).filter _))
  · obtain ⟨j, h1, _, rfl⟩ := (mem x).mp (by simpa using hx)
    omega
  · rw [List.nil_append, mem]
    constructor
    · rintro ⟨i, h1, h2, e⟩
      have : j = i := by omega
      rw [this]; exact h2
    · exact fun h => ⟨j, hj, h, rfl⟩
theorem v_ordered (ds : List D) (C : Store) (Q3 : D → Store → Prop) (h : P_ordered ds C Q3) (hC : C.length = 0) : T_ordered P_straight_behind (enF 0 Q3) (start3 N_ordered ds) C := by
  obtain ⟨o, n, rs, rfl, h1, hn, hr, hk, q⟩ := h
  rw [List.length_eq_zero_iff] at hC
  subst hC
  have hz := sizeL
  have hf := hr.few
  refine ⟨Nat.zero_le _, ?_⟩
  refine ⟨by rw [hz]; show 1 ≤ 16777216; decide, _, rfl, _, n, rfl, rfl, by omega, by omega, by simp; omega, rfl, ?_⟩
  rw [rep0]
  refine ⟨_, rfl, _, rfl, rfl, np_pairs rs, ?_⟩
  refine forW_run (fun ds Γ C => ∃ done rest, rs = done ++ rest ∧ ds = rest.map pD ∧ C = [.lst [], .lst (wL n (cn done))] ∧ ∃ a b, Γ = [some (.int (n : Nat)), some (.lst o (rs.map pD)), some (.ptr 0), some (.ptr 1), a, b, none, none]) ?step ?stop _ _ _ ⟨[], rs, rfl, rfl, rfl, _, _, rfl⟩
  case step =>
    rintro d ds Γ C ⟨done, rest, e1, e2, rfl, a, b, rfl⟩ R hR
    cases rest with
    | nil => cases e2
    | cons z rest =>
    simp only [List.map_cons, List.cons.injEq] at e2
    obtain ⟨rfl, rfl⟩ := e2
    obtain ⟨a1, a2, a3, a4, a5⟩ := hr.inn z (by rw [e1]; simp)
    obtain ⟨j, hj⟩ := Int.eq_ofNat_of_zero_le a3
    have hji : j < n := by omega
    refine ⟨_, rfl, rfl, _, _, rfl, _, _, rfl, rfl, ?_⟩
    refine ⟨_, rfl, _, rfl, 1, _, _, j, _, rfl, rfl, rfl, by rw [wL_len, hj]; exact ix_nat hji, wL_get hji, _, _, rfl, rfl, rfl, ?_⟩
    refine hR _ _ ⟨done ++ [z], rest, by rw [e1]; simp, rfl, ?_, _, _, rfl⟩
    show [Cell.lst [], Cell.lst ((wL n (cn done)).set j (.int (cn done j + 1)))] = _
    rw [wL_set hji]
    congr 4
    funext i
    rw [cn_snoc, hj]
    by_cases e : i = j
    · subst e; simp
    · rw [if_neg e, if_neg (by omega)]
  case stop =>
    rintro Γ C ⟨done, rest, e1, e2, rfl, a, b, rfl⟩
    cases rest with
    | cons z rest => cases e2
    | nil =>
    rw [List.append_nil] at e1
    subst e1
    refine ⟨_, rfl, _, rfl, true, n, rs, by rw [views_int, views_rs, views_nil], hn, hr.lax, bhD_ok, ?_⟩
    refine ⟨_, rfl, n, rfl, by omega, by omega, ?_⟩
    refine lc_filter (fun d => match d with | .int i => decide (cn rs i.toNat = 0) | _ => false) (fun d => d) (rgI 0 ((n : Int)).toNat) (fun _ h => by simp at h) (by rw [rg_len']; omega) (fun d hd R R' hR hR' => ?_) ?_
    · obtain ⟨i, hi, rfl⟩ := List.mem_map.mp hd
      have hin : i < n := by simpa using hi
      have ei : (0 : Int) + (i : Nat) = (i : Int) := by omega
      rw [ei] at hR hR' ⊢
      refine ⟨_, rfl, _, rfl, _, _, _, rfl, rfl, wL_at hin, _, rfl, ?_⟩
      by_cases hw : cn rs i = 0
      · refine goT (by simp [hw]) ?_
        exact ⟨_, rfl, hR (by simp [hw])⟩
      · refine goF (by simp [hw]) ?_
        exact hR' (by simp [hw])
    · have ef : ((rgI 0 ((n : Int)).toNat).filter fun d => match d with | .int i => decide (cn rs i.toNat = 0) | _ => false).map (fun d => d) = (fr0 n (cn rs)).map .int := by
        unfold rgI fr0
        rw [Int.toNat_natCast]
        simp only [List.filter_map, List.map_map]
        congr 1
        · funext i
          show D.int (0 + (i : Nat)) = D.int (i : Nat)
          rw [Int.zero_add]
        · apply List.filter_congr
          intro i _
          show decide (cn rs (0 + (i : Int)).toNat = 0) = _
          rw [Int.zero_add, Int.toNat_natCast]
      rw [ef]
      let Γ0 : Option D → Option D → Slots := fun p q => [some (.int (n : Nat)), some (.lst o (rs.map pD)), some (.ptr 0), some (.ptr 1), p, q, some (bhD n rs), some (.ptr 2)]
      refine ⟨fun m Γ C => ∃ (fd fr : List Int) (w : Nat → Int) (p q : Option D), m = n - fd.length ∧ OInv n rs fd fr w [] ∧ Γ = Γ0 p q ∧ C = [.lst (fd.map .int), .lst (wL n w), .lst (fr.map .int)], ⟨_, [], fr0 n (cn rs), cn rs, _, _, rfl, start_inv, rfl, rfl⟩, ?_⟩
      rintro m Γ C ⟨fd, fr, w, p, q5, rfl, I, rfl, rfl⟩
      refine ⟨_, rfl, Nat.zero_le _, ?_⟩
      refine ⟨_, _, (show pyD _ (.ptr 2) = some (.list (fr.map .int)) by simp [pyD, pyW, pyG, pyWs_ints]), pyD_ints (o := false) [], shaped_ints fr, shaped_ints [], _, rfl, ?_⟩
      rw [eqv_ints]
      by_cases he : fr = []
      · subst he
        refine goF (by simp) ?_
        have hp := I.done (fun z hz => ⟨(hr.inn z hz).1, (hr.inn z hz).2.1⟩) hk
        refine ⟨_, rfl, ?_⟩
        show Q3 (fin 0 _ (.ptr 0)) (finS 0 _)
        rw [fin_cell (ns := fd) rfl, finS0]
        exact q fd hp I.topo
      · refine goT (by simp [he]) ?_
        refine ⟨_, rfl, .ptr 2, fr, rfl, rfl, List.length_pos_iff.mpr he, fun mn hmn hle => ?_⟩
        obtain ⟨hm0, hm1⟩ := I.inn mn (List.mem_append_right _ hmn)
        obtain ⟨pp, rfl⟩ := Int.eq_ofNat_of_zero_le hm0
        have hpn : pp < n := by omega
        obtain ⟨j, hj1, hj2, hj3⟩ := idx_first fr _ hmn
        have hlen := nodup_len n (fd ++ fr) I.nd I.inn
        rw [List.length_append] at hlen
        have hfr0 : 0 < fr.length := List.length_pos_iff.mpr he
        refine ⟨_, rfl, fr.map .int, rfl, _, rfl, 2, fr, (pp : Int), j, rfl, rfl, rfl, hj1, hj2, ?_⟩
        rw [hj3]
        refine ⟨_, rfl, fd.map .int, rfl, _, rfl, 0, fd.map .int, _, rfl, rfl, rfl, by simp; omega, ?_⟩
        refine ⟨_, rfl, _, rfl, _, (pp : Int), .lst false ((bh rs pp).map .int), rfl, rfl, bhD_at hpn, _, rfl, rfl, noptrs_ints _, ?_⟩
        have It := I.take hmn
        have hb : ∀ x, x ∈ bh rs pp → 0 ≤ x ∧ x < n := fun x hx => by
          obtain ⟨z, hz, rfl⟩ := List.mem_map.mp hx
          have := hr.inn z (List.mem_filter.mp hz).1
          omega
        have e0 : fd.map D.int ++ [D.int (pp : Nat)] = (fd ++ [(pp : Int)]).map .int := by simp
        show forW _ _ _ _ _ [Cell.lst (fd.map D.int ++ [D.int (pp : Nat)]), .lst (wL n w), .lst ((fr.erase (pp : Int)).map .int)]
        rw [e0]
        refine inner_ok hn (bh rs pp) (fr.erase (pp : Int)) w q5 It hb fun fr' w' q' I' => ?_
        exact ⟨n - (fd ++ [(pp : Int)]).length, by simp; omega, fd ++ [(pp : Int)], fr', w', _, q', rfl, I', rfl, rfl⟩
end L3
namespace L3
open PySem PySem.Spec PyProof.Rows L2
def P_ring_none : PV := fun ds C Q => ∃ (o : Bool) (n : Nat) (rs : List (Int × Int)), ds = [.int (n : Nat), .lst o (rs.map pD)] ∧ 1 ≤ n ∧ n ≤ 24 ∧ Rul n rs ∧ (∃ rk : Int → Nat, ∀ z, z ∈ rs → rk z.1 < rk z.2) ∧ Q .non C
theorem in_ints {neg : Bool} {C : Store} {o : Bool} {z : Int} {ns : List Int} {q : D → Prop} (h : q (.bl (neg != decide (z ∈ ns)))) : oIn neg C (.int z) (.lst o (ns.map .int)) q := by
  refine ⟨.int z, ns.map .int, rfl, pyD_ints ns, by simp [SeqAt.shaped, PyData.canLay0, PyData.depth], shaped_ints ns, ?_⟩
  have e : ((ns.map PyData.int).any fun y => PyData.eqv y (.int z)) = decide (z ∈ ns) := by
    rw [List.any_map]
    by_cases hm : z ∈ ns
    · rw [decide_eq_true hm]
      exact List.any_eq_true.mpr ⟨z, hm, by simp [PyData.eqv]⟩
    · rw [decide_eq_false hm]
      apply Bool.eq_false_iff.mpr
      intro h
      obtain ⟨y, hy, e⟩ := List.any_eq_true.mp h
      have : y = z := by simpa [PyData.eqv] using e
      exact hm (this ▸ hy)
  rw [e]
  exact h
theorem views_pil1 {C : Store} {o : Bool} {f st : Str} {rs : List (Int × Int)} : views [] C [pil o f st rs] = [pil true f st rs] := by rw [views_pil, views_nil]
def P_is_pile : PV := fun ds C Q => ∃ (o : Bool) (f st : Str) (rs : List (Int × Int)), ds = [pil o f st rs] ∧ Pil f st rs ∧ Q (.bl true) C
theorem v_is_pile (ds : List D) (C : Store) (Q3 : D → Store → Prop) (h : P_is_pile ds C Q3) (hC : C.length = 0) : T_is_pile P_ring_none P_is_heap (enF 0 Q3) (start3 N_is_pile ds) C := by
  obtain ⟨o, f, st, rs, rfl, hp, q⟩ := h
  rw [List.length_eq_zero_iff] at hC
  subst hC
  have hz := sizeL
  have h24 := hp.top
  refine ⟨_, rfl, true, f, st, rs, views_pil1, hp.fst, hp.pos, hp.top, hp.sts, hp.rul, rfl, true, rfl, ?_⟩
  refine goT rfl ?_
  refine ⟨_, rfl, _, _, _, rfl, rfl, rfl, by omega, _, rfl, _, _, _, rfl, rfl, rfl, ?_⟩
  exact ⟨true, st.length, rs, by rw [views_int, views_rs, views_nil], hp.pos, hp.top, hp.rul, hp.acy, rfl, rfl, true, rfl, q⟩
def P_need_pile : PV := fun ds C Q => ∃ (o : Bool) (f st : Str) (rs : List (Int × Int)), ds = [pil o f st rs] ∧ Pil f st rs ∧ Q .non C
theorem v_need_pile (ds : List D) (C : Store) (Q3 : D → Store → Prop) (h : P_need_pile ds C Q3) (hC : C.length = 0) : T_need_pile P_is_pile (enF 0 Q3) (start3 N_need_pile ds) C := by
  obtain ⟨o, f, st, rs, rfl, hp, q⟩ := h
  rw [List.length_eq_zero_iff] at hC
  subst hC
  refine ⟨_, rfl, true, f, st, rs, views_pil1, hp, rfl, true, rfl, ?_⟩
  exact goF rfl q
def sg (st : Str) (i : Nat) : Nat := st.cps.toList.getD i 0
def neq (a b : Nat) : Int := if a = b then 0 else 1
def f0 (f : Str) : Nat := f.cps.toList.getD 0 0
end L3
namespace L3
open PySem
structure Fix (n : Nat) (bs : Nat → Int) (ch : Nat → Nat → Int) (rs : List (Int × Int)) (v : Nat → Int) : Prop where
  low : ∀ j, j < n → bs j ≤ v j
  up : ∀ z, z ∈ rs → v z.1.toNat + ch z.1.toNat z.2.toNat ≤ v z.2.toNat
  by_ : ∀ j, j < n → v j = bs j ∨ ∃ z, z ∈ rs ∧ z.2 = (j : Int) ∧ v j = v z.1.toNat + ch z.1.toNat j
theorem Fix.le {n : Nat} {bs : Nat → Int} {ch : Nat → Nat → Int} {rs : List (Int × Int)} {v w : Nat → Int} (hr : ∀ z, z ∈ rs → 0 ≤ z.1 ∧ z.1 < n) (hk : ∃ rk : Int → Nat, ∀ z, z ∈ rs → rk z.1 < rk z.2) (V : Fix n bs ch rs v) (W : Fix n bs ch rs w) : ∀ j, j < n → v j ≤ w j := by
  obtain ⟨rk, hrk⟩ := hk
  have all : ∀ m : Nat, ∀ j : Nat, j < n → rk j < m → v j ≤ w j := by
    intro m
    induction m with
    | zero => intro j _ h; omega
    | succ m ih =>
      intro j hj hm
      rcases V.by_ j hj with e | ⟨z, hz, e1, e2⟩
      · rw [e]; exact W.low j hj
      · obtain ⟨h0, h1⟩ := hr z hz
        obtain ⟨i, hi⟩ := Int.eq_ofNat_of_zero_le h0
        have h2 := hrk z hz
        rw [e1, hi] at h2
        have h3 := ih i (by omega) (by omega)
        have h4 := W.up z hz
        rw [e1] at h4
        rw [hi] at e2 h4
        simp at e2 h4
        omega
  exact fun j hj => all (rk j + 1) j hj (by omega)
theorem Fix.eq {n : Nat} {bs : Nat → Int} {ch : Nat → Nat → Int} {rs : List (Int × Int)} {v w : Nat → Int} (hr : ∀ z, z ∈ rs → 0 ≤ z.1 ∧ z.1 < n) (hk : ∃ rk : Int → Nat, ∀ z, z ∈ rs → rk z.1 < rk z.2) (V : Fix n bs ch rs v) (W : Fix n bs ch rs w) : ∀ j, j < n → v j = w j :=
  fun j hj => Int.le_antisymm (Fix.le hr hk V W j hj) (Fix.le hr hk W V j hj)
structure EInv (n : Nat) (bs : Nat → Int) (ch : Nat → Nat → Int) (rs : List (Int × Int)) (pre : List Int) (p : Int) (dn : List (Int × Int)) (v : Nat → Int) : Prop where
  low : ∀ j, j < n → bs j ≤ v j
  by_ : ∀ j, j < n → v j = bs j ∨ ∃ z, z ∈ rs ∧ z.2 = (j : Int) ∧ z.1 ∈ pre ++ [p] ∧ v j = v z.1.toNat + ch z.1.toNat j
  up : ∀ z, z ∈ rs → z.1 ∈ pre → v z.1.toNat + ch z.1.toNat z.2.toNat ≤ v z.2.toNat
  upp : ∀ z, z ∈ dn → z.1 = p → v z.1.toNat + ch z.1.toNat z.2.toNat ≤ v z.2.toNat
theorem EInv.step {n : Nat} {bs : Nat → Int} {ch : Nat → Nat → Int} {rs : List (Int × Int)} {pre post : List Int} {p : Int} {dn : List (Int × Int)} {v : Nat → Int} {z : Int × Int} (I : EInv n bs ch rs pre p dn v) (hz : z ∈ rs) (hp : z.1 = p)
    (hdn : ∀ y, y ∈ dn → y ∈ rs) (hr : ∀ z, z ∈ rs → 0 ≤ z.1 ∧ z.1 < n ∧ 0 ≤ z.2 ∧ z.2 < n ∧ z.1 ≠ z.2) (nd : (pre ++ p :: post).Nodup) (ht : Topo rs (pre ++ p :: post)) :
    EInv n bs ch rs pre p (dn ++ [z]) (fun i => if i = z.2.toNat then max (v i) (v z.1.toNat + ch z.1.toNat z.2.toNat) else v i) := by
  obtain ⟨a1, a2, a3, a4, a5⟩ := hr z hz
  obtain ⟨b, hb⟩ := Int.eq_ofNat_of_zero_le a3
  obtain ⟨a, ha⟩ := Int.eq_ofNat_of_zero_le a1
  have hn1 : z.2 ∉ pre := fun h => by
    obtain ⟨s, t, e⟩ := List.append_of_mem h
    have h1 := ht s z.2 (t ++ p :: post) (by rw [e]; simp) z hz rfl
    rw [hp] at h1
    have h2 := (List.nodup_append.mp nd).2.2 p (by rw [e]; simp [h1]) p (by simp)
    exact h2 rfl
  have hab : a ≠ b := fun e => a5 (by rw [ha, hb, e])
  -- what stands ahead does not change
  have keep : ∀ i : Nat, (i : Int) ∈ pre ++ [p] → i ≠ b := fun i hi e => by
    subst e
    rcases List.mem_append.mp hi with h | h
    · exact hn1 (by rw [hb]; exact h)
    · simp at h
      exact a5 (by rw [hb, h, hp])
  rw [hb, ha]
  simp only [Int.toNat_natCast]
  have val : ∀ i : Nat, i ≠ b → (if i = b then max (v i) (v a + ch a b) else v i) = v i := fun i h => if_neg h
  have grow : ∀ i : Nat, v i ≤ (if i = b then max (v i) (v a + ch a b) else v i) := fun i => by
    by_cases h : i = b
    · rw [if_pos h]; omega
    · rw [if_neg h]; omega
  have src : ∀ y, y ∈ rs → y.1 ∈ pre ++ [p] → y.1.toNat ≠ b := fun y hy h => by
    obtain ⟨c, hc⟩ := Int.eq_ofNat_of_zero_le (hr y hy).1
    rw [hc] at h ⊢
    simp only [Int.toNat_natCast]
    exact keep c h
  refine ⟨fun j hj => Int.le_trans (I.low j hj) (grow j), fun j hj => ?_, fun y hy hyp => ?_, fun y hy hyp => ?_⟩
  · by_cases e : j = b
    · subst e
      rw [if_pos rfl]
      by_cases hm : v j ≤ v a + ch a j
      · right
        refine ⟨z, hz, hb, by rw [hp]; simp, ?_⟩
        rw [ha]
        simp only [Int.toNat_natCast]
        rw [val a hab]
        omega
      · have em : max (v j) (v a + ch a j) = v j := by omega
        rw [em]
        rcases I.by_ j hj with e | ⟨y, hy, e1, e2, e3⟩
        · exact .inl e
        · exact .inr ⟨y, hy, e1, e2, by rw [val _ (src y hy e2)]; exact e3⟩
    · rw [val j e]
      rcases I.by_ j hj with e | ⟨y, hy, e1, e2, e3⟩
      · exact .inl e
      · exact .inr ⟨y, hy, e1, e2, by rw [val _ (src y hy e2)]; exact e3⟩
  · rw [val _ (src y hy (List.mem_append_left _ hyp))]
    exact Int.le_trans (I.up y hy hyp) (grow _)
  · rcases List.mem_append.mp hy with h | h
    · rw [val _ (src y (hdn y h) (by rw [hyp]; simp))]
      exact Int.le_trans (I.upp y h hyp) (grow _)
    · simp at h
      subst h
      rw [ha, hb]
      simp only [Int.toNat_natCast]
      rw [val a hab, if_pos trivial]
      omega
theorem EInv.next {n : Nat} {bs : Nat → Int} {ch : Nat → Nat → Int} {rs : List (Int × Int)} {pre : List Int} {p q : Int} {v : Nat → Int} (I : EInv n bs ch rs pre p rs v) : EInv n bs ch rs (pre ++ [p]) q [] v := by
  refine ⟨I.low, fun j hj => ?_, fun z hz h => ?_, fun z hz => by simp at hz⟩
  · rcases I.by_ j hj with e | ⟨z, hz, e1, e2, e3⟩
    · exact .inl e
    · exact .inr ⟨z, hz, e1, List.mem_append_left _ e2, e3⟩
  · rcases List.mem_append.mp h with h | h
    · exact I.up z hz h
    · simp at h
      exact I.upp z hz h
theorem EInv.start {n : Nat} {bs : Nat → Int} {ch : Nat → Nat → Int} {rs : List (Int × Int)} {p : Int} : EInv n bs ch rs [] p [] bs := ⟨fun _ _ => Int.le_refl _, fun _ _ => .inl rfl, fun z _ h => by simp at h, fun z h => by simp at h⟩
end L3
namespace L3
open PySem PySem.Spec PyProof.Rows L2
def bsOf (f st : Str) (j : Nat) : Int := neq (sg st j) (f0 f)
def chOf (st : Str) (i j : Nat) : Int := neq (sg st i) (sg st j)
abbrev PFix (f st : Str) (rs : List (Int × Int)) (v : Nat → Int) : Prop := Fix st.length (bsOf f st) (chOf st) rs v
theorem wL_ints {n : Nat} {w : Nat → Int} : wL n w = ((List.range n).map w).map .int := by simp [wL]
end L3
namespace L3
open PySem
theorem ranks {n : Nat} {rs : List (Int × Int)} (hr : ∀ z, z ∈ rs → 0 ≤ z.1 ∧ z.1 < n ∧ 0 ≤ z.2 ∧ z.2 < n ∧ z.1 ≠ z.2) (hk : ∃ rk : Int → Nat, ∀ z, z ∈ rs → rk z.1 < rk z.2) :
    ∃ r : Nat → Nat, (∀ j, j < n → r j < n) ∧ ∀ z, z ∈ rs → r z.1.toNat < r z.2.toNat := by
  obtain ⟨rk, hrk⟩ := hk
  let r : Nat → Nat := fun j => (List.range n).countP fun i : Nat => decide (rk (i : Int) < rk (j : Int))
  have strict : ∀ (l : List Nat) (a b x : Nat), a ≤ b → x ∈ l → a ≤ rk (x : Int) → rk (x : Int) < b → l.countP (fun i : Nat => decide (rk (i : Int) < a)) < l.countP fun i : Nat => decide (rk (i : Int) < b) := by
    intro l a b x hab
    induction l with
    | nil => intro h; simp at h
    | cons y l ih =>
      intro hm h1 h2
      have mono : l.countP (fun i : Nat => decide (rk (i : Int) < a)) ≤ l.countP fun i : Nat => decide (rk (i : Int) < b) := List.countP_mono_left fun i _ h => by
        simp at h ⊢
        omega
      rw [List.countP_cons, List.countP_cons]
      rcases List.mem_cons.mp hm with rfl | hm
      · rw [if_neg (by simp; omega), if_pos (by simp; omega)]
        omega
      · have := ih hm h1 h2
        have g : (if decide (rk (y : Int) < a) = true then 1 else 0) ≤ (if decide (rk (y : Int) < b) = true then 1 else 0) := by
          by_cases h : rk (y : Int) < a
          · rw [if_pos (by simp [h]), if_pos (by simp; omega)]
            exact Nat.le_refl _
          · rw [if_neg (by simp [h])]
            exact Nat.zero_le _
        omega
  refine ⟨r, fun j hj => ?_, fun z hz => ?_⟩
  · have h1 := strict (List.range n) (rk (j : Int)) (rk (j : Int) + 1) j (by omega) (by simpa using hj) (Nat.le_refl _) (by omega)
    have h2 := List.countP_le_length (p := fun i : Nat => decide (rk (i : Int) < rk (j : Int) + 1)) (l := List.range n)
    rw [List.length_range] at h2
    exact Nat.lt_of_lt_of_le h1 h2
  · obtain ⟨a1, a2, a3, a4, _⟩ := hr z hz
    obtain ⟨a, ha⟩ := Int.eq_ofNat_of_zero_le a1
    obtain ⟨b, hb⟩ := Int.eq_ofNat_of_zero_le a3
    have h := hrk z hz
    rw [ha, hb] at h ⊢
    simp only [Int.toNat_natCast]
    exact strict (List.range n) (rk (a : Int)) (rk (b : Int)) a (by omega) (by simp; omega) (Nat.le_refl _) h
structure RInv (n : Nat) (bs : Nat → Int) (ch : Nat → Nat → Int) (rs : List (Int × Int)) (r : Nat → Nat) (V : Nat → Int) (k : Nat) (dn : List (Int × Int)) (v : Nat → Int) : Prop where
  low : ∀ j, j < n → bs j ≤ v j
  le : ∀ j, j < n → v j ≤ V j
  eq : ∀ j, j < n → r j < k → v j = V j
  upp : ∀ z, z ∈ dn → r z.1.toNat < k → V z.1.toNat + ch z.1.toNat z.2.toNat ≤ v z.2.toNat
theorem RInv.step {n : Nat} {bs : Nat → Int} {ch : Nat → Nat → Int} {rs : List (Int × Int)} {r : Nat → Nat} {V : Nat → Int} {k : Nat} {dn : List (Int × Int)} {v : Nat → Int} {a b : Nat} (F : Fix n bs ch rs V) (I : RInv n bs ch rs r V k dn v)
    (hz : ((a : Int), (b : Int)) ∈ rs) (ha : a < n) (hb : b < n) : RInv n bs ch rs r V k (dn ++ [((a : Int), (b : Int))]) (fun i => if i = b then max (v i) (v a + ch a b) else v i) := by
  have hF := F.up _ hz
  simp only [Int.toNat_natCast] at hF
  have grow : ∀ i : Nat, v i ≤ (if i = b then max (v i) (v a + ch a b) else v i) := fun i => by
    by_cases h : i = b
    · rw [if_pos h]; omega
    · rw [if_neg h]; omega
  have hle : ∀ j, j < n → (if j = b then max (v j) (v a + ch a b) else v j) ≤ V j := fun j hj => by
    have h1 := I.le j hj
    have h2 := I.le a ha
    by_cases h : j = b
    · subst h; simp only [if_true]; omega
    · rw [if_neg h]; exact h1
  refine ⟨fun j hj => Int.le_trans (I.low j hj) (grow j), hle, fun j hj hk => ?_, fun z hz' hk => ?_⟩
  · have := I.eq j hj hk
    have h1 := hle j hj
    have h2 := grow j
    omega
  · rcases List.mem_append.mp hz' with h | h
    · exact Int.le_trans (I.upp z h hk) (grow _)
    · simp at h
      subst h
      simp only [Int.toNat_natCast] at hk ⊢
      have := I.eq a ha hk
      simp only [if_true]
      omega
theorem RInv.next {n : Nat} {bs : Nat → Int} {ch : Nat → Nat → Int} {rs : List (Int × Int)} {r : Nat → Nat} {V : Nat → Int} {k : Nat} {v : Nat → Int} (F : Fix n bs ch rs V) (I : RInv n bs ch rs r V k rs v) (hr : ∀ z, z ∈ rs → r z.1.toNat < r z.2.toNat) :
    RInv n bs ch rs r V (k + 1) [] v := by
  refine ⟨I.low, I.le, fun j hj hk => ?_, fun z hz => by simp at hz⟩
  by_cases h : r j < k
  · exact I.eq j hj h
  · have h1 := I.le j hj
    rcases F.by_ j hj with e | ⟨z, hz, e1, e2⟩
    · have := I.low j hj
      omega
    · have h2 := hr z hz
      have e3 : z.2.toNat = j := by rw [e1]; simp
      rw [e3] at h2
      have h3 := I.upp z hz (by omega)
      rw [e3] at h3
      omega
theorem RInv.start {n : Nat} {bs : Nat → Int} {ch : Nat → Nat → Int} {rs : List (Int × Int)} {r : Nat → Nat} {V : Nat → Int} (F : Fix n bs ch rs V) : RInv n bs ch rs r V 0 [] bs := ⟨fun _ _ => Int.le_refl _, F.low, fun j hj h => by omega, fun z h => by simp at h⟩
theorem fix_ex {n : Nat} (bs : Nat → Int) (ch : Nat → Nat → Int) {rs : List (Int × Int)} (hr : ∀ z, z ∈ rs → 0 ≤ z.1 ∧ z.1 < n ∧ 0 ≤ z.2 ∧ z.2 < n ∧ z.1 ≠ z.2) (hk : ∃ rk : Int → Nat, ∀ z, z ∈ rs → rk z.1 < rk z.2) : ∃ V, Fix n bs ch rs V := by
  obtain ⟨r, _, h2⟩ := ranks hr hk
  let val : (Nat → Int) → Nat → Int := fun v j => (rs.filter fun z => decide (z.2 = (j : Int))).foldl (fun m z => max m (v z.1.toNat + ch z.1.toNat j)) (bs j)
  have fold : ∀ (v : Nat → Int) (j : Nat) (l : List (Int × Int)) (m : Int), m ≤ l.foldl (fun m z => max m (v z.1.toNat + ch z.1.toNat j)) m ∧ (∀ z, z ∈ l → v z.1.toNat + ch z.1.toNat j ≤ l.foldl (fun m z => max m (v z.1.toNat + ch z.1.toNat j)) m) ∧
      (l.foldl (fun m z => max m (v z.1.toNat + ch z.1.toNat j)) m = m ∨ ∃ z, z ∈ l ∧ l.foldl (fun m z => max m (v z.1.toNat + ch z.1.toNat j)) m = v z.1.toNat + ch z.1.toNat j) := by
    intro v j l
    induction l with
    | nil => intro m; exact ⟨Int.le_refl _, fun z h => by simp at h, .inl rfl⟩
    | cons y l ih =>
      intro m
      obtain ⟨i1, i2, i3⟩ := ih (max m (v y.1.toNat + ch y.1.toNat j))
      simp only [List.foldl_cons]
      refine ⟨by omega, fun z hz => ?_, ?_⟩
      · rcases List.mem_cons.mp hz with rfl | hz
        · omega
        · exact i2 z hz
      · rcases i3 with e | ⟨z, hz, e⟩
        · by_cases h : v y.1.toNat + ch y.1.toNat j ≤ m
          · left; omega
          · right; exact ⟨y, by simp, by omega⟩
        · right; exact ⟨z, List.mem_cons_of_mem _ hz, e⟩
  let it : Nat → Nat → Int := fun k => k.rec bs fun _ v => val v
  have stab : ∀ m j, r j < m → ∀ k, r j ≤ k → it (k + 1) j = it (r j + 1) j := by
    intro m
    induction m with
    | zero => intro j h; omega
    | succ m ih =>
      intro j hj k hk
      show val (it k) j = val (it (r j)) j
      have : ∀ z, z ∈ rs → z.2 = (j : Int) → it k z.1.toNat = it (r j) z.1.toNat := fun z hz e => by
        have h3 := h2 z hz
        rw [e] at h3
        simp only [Int.toNat_natCast] at h3
        obtain ⟨k', rfl⟩ : ∃ k', k = k' + 1 := ⟨k - 1, by omega⟩
        obtain ⟨r', hr'⟩ : ∃ r', r j = r' + 1 := ⟨r j - 1, by omega⟩
        rw [ih _ (by omega) k' (by omega), hr', ih _ (by omega) r' (by omega)]
      have fc : ∀ (l : List (Int × Int)) (m : Int), (∀ z, z ∈ l → it k z.1.toNat = it (r j) z.1.toNat) → l.foldl (fun m z => max m (it k z.1.toNat + ch z.1.toNat j)) m = l.foldl (fun m z => max m (it (r j) z.1.toNat + ch z.1.toNat j)) m := by
        intro l
        induction l with
        | nil => intro m _; rfl
        | cons y l ihl =>
          intro m h
          simp only [List.foldl_cons]
          rw [h y (by simp)]
          exact ihl _ fun z hz => h z (List.mem_cons_of_mem _ hz)
      exact fc _ _ fun z hz => this z (List.mem_filter.mp hz).1 (by simpa using (List.mem_filter.mp hz).2)
  refine ⟨fun j => it (r j + 1) j, fun j _ => (fold (it (r j)) j _ (bs j)).1, fun z hz => ?_, fun j _ => ?_⟩
  · obtain ⟨a1, a2, a3, a4, _⟩ := hr z hz
    obtain ⟨b, hb⟩ := Int.eq_ofNat_of_zero_le a3
    have h3 := h2 z hz
    rw [hb] at h3 ⊢
    simp only [Int.toNat_natCast] at h3 ⊢
    have h4 := (fold (it (r b)) b (rs.filter fun z => decide (z.2 = (b : Int))) (bs b)).2.1 z (List.mem_filter.mpr ⟨hz, by simp [hb]⟩)
    obtain ⟨r', hr'⟩ : ∃ r', r b = r' + 1 := ⟨r b - 1, by omega⟩
    have h5 := stab _ z.1.toNat (Nat.lt_succ_self _) r' (by omega)
    rw [← hr'] at h5
    rw [← h5]
    exact h4
  · rcases (fold (it (r j)) j (rs.filter fun z => decide (z.2 = (j : Int))) (bs j)).2.2 with e | ⟨z, hz, e⟩
    · exact .inl e
    · obtain ⟨hz1, hz2⟩ := List.mem_filter.mp hz
      have ez : z.2 = (j : Int) := by simpa using hz2
      have h3 := h2 z hz1
      rw [ez] at h3
      simp only [Int.toNat_natCast] at h3
      obtain ⟨r', hr'⟩ : ∃ r', r j = r' + 1 := ⟨r j - 1, by omega⟩
      have h5 := stab _ z.1.toNat (Nat.lt_succ_self _) r' (by omega)
      rw [← hr'] at h5
      right
      refine ⟨z, hz1, ez, ?_⟩
      show val (it (r j)) j = it (r z.1.toNat + 1) z.1.toNat + ch z.1.toNat j
      rw [← h5]
      exact e
end L3
namespace L3
open PySem PySem.Spec PyProof.Rows L2
theorem np_rg' (lo : Int) (n : Nat) : noptrs (rgI lo n) = true := rgI_np
def IsMax (n : Nat) (v : Nat → Int) (m : Int) : Prop := (∃ j, j < n ∧ v j = m) ∧ ∀ j, j < n → v j ≤ m
theorem max_of {n : Nat} {v : Nat → Int} {m : Int} (hm : m ∈ (List.range n).map v) (hle : ∀ y, y ∈ (List.range n).map v → y ≤ m) : IsMax n v m := by
  refine ⟨?_, fun j hj => hle _ (List.mem_map.mpr ⟨j, by simpa using hj, rfl⟩)⟩
  obtain ⟨j, hj, e⟩ := List.mem_map.mp hm
  exact ⟨j, by simpa using hj, e⟩
theorem Pil.other {f g st : Str} {rs : List (Int × Int)} (h : Pil f st rs) (hg : g = cR ∨ g = cB) : Pil g st rs := ⟨hg, h.pos, h.top, h.sts, h.rul, h.acy⟩
end L3
namespace L3
open PySem PySem.Spec PyProof.Rows L2
theorem cpow10 (k : Nat) (h : k ≤ 100) : CPowW 10 (k : Int) := cpow_of (n := 4) (by omega) (by decide) (by omega)
theorem log_of {n : Int} {k : Nat} (h : n.natAbs < 2 ^ k) (hk : 0 < k) : n.natAbs.log2 < k := by
  by_cases hz : n.natAbs = 0
  · rw [hz]; simpa using hk
  · rw [Nat.log2_lt hz]; exact h
theorem cmul_of {i j : Int} {a b : Nat} (ha : i.natAbs < 2 ^ a) (hb : j.natAbs < 2 ^ b) (h0 : 0 < a) (h1 : 0 < b) (h : a + b < 1000000) : CMulW i j := by
  have := log_of ha h0
  have := log_of hb h1
  unfold CMulW
  omega
theorem cdiv_of {i j : Int} (h0 : 0 < j) (h : j < 2 ^ 8000) : CDivW i j := ⟨h0, Nat.lt_of_lt_of_le (log_of (k := 8000) (by omega) (by decide)) (by decide)⟩
def Jar (c : Int) (x : Cell) : Prop := ∃ a b k : Int, x = .lst [.int a, .int b, .int k] ∧ 0 ≤ a ∧ 0 ≤ b ∧ b < 10 ^ 120 ∧ 0 ≤ k ∧ k ≤ c
def callK (n : Nat) (kf : List D → List Nat) (P : PV) (ds : List D) (C1 : Store) (Q : D → Store → Prop) : Prop := (kf ds).length = n ∧ (kf ds).Nodup ∧ (∀ k, k ∈ kf ds → ∃ c, C1[k]? = some c ∧ c ≠ Cell.dead) ∧
  P (views (kf ds) C1 ds) (viewC (kf ds) C1) fun d Cc => noold d = true ∧ (∀ c, c ∈ Cc → c.okC (fun o => !o) = true) ∧ Q (mapW id (backG (kf ds)) d) (putS (kf ds) (Cc.map (backs (kf ds))) C1)
@[simp] theorem u_eCallK {n : Nat} {kf : List D → List Nat} {P : PV} {L : AV} {Γ : Slots} {C : Store} {Q : D → Store → Prop} : eCallK n kf P L Γ C Q = L Γ C fun ds C1 => callK n kf P ds C1 Q := rfl
theorem Jar.view {c : Int} {x : Cell} (h : Jar c x) {f : Bool → Bool} {g : Nat → D} : x.mapC f g = x := by
  obtain ⟨a, b, k, rfl, _⟩ := h
  rfl
theorem Jar.alive {c : Int} {x : Cell} (h : Jar c x) : x ≠ .dead := by
  obtain ⟨a, b, k, rfl, _⟩ := h
  simp
theorem Jar.ok {c : Int} {x : Cell} (h : Jar c x) : x.okC (fun o => !o) = true := by
  obtain ⟨a, b, k, rfl, _⟩ := h
  rfl
end L3
namespace L3
open PySem PySem.Spec PyProof.Rows L2
end L3
namespace L3
open PySem PySem.Spec PyProof.Rows L2
theorem pyWs_pairs {g : Nat → Option PyData} : ∀ ps : List (Int × Int), pyWs g (ps.map pD) = some (ps.map fun z => .tuple [.int z.1, .int z.2])
  | [] => rfl
  | z :: ps => by simp only [List.map_cons, pyWs, pD, pyW, pyWs_pairs ps]; rfl
theorem lay_pairs : ∀ ps : List (Int × Int), PyData.canLayAll0 (ps.map fun z => .tuple [.int z.1, .int z.2]) = true
  | [] => rfl
  | z :: ps => by simp [PyData.canLayAll0, PyData.canLay0, lay_pairs ps]
theorem depth_pairs : ∀ ps : List (Int × Int), PyData.depthAll (ps.map fun z => .tuple [.int z.1, .int z.2]) ≤ 1
  | [] => by simp [PyData.depthAll]
  | z :: ps => by
    have := depth_pairs ps
    simp [PyData.depthAll, PyData.depth]
    omega
def Along (ord : List Int) (ps : List (Int × Int)) : Prop := ∀ z, z ∈ ps → ∃ a b : Nat, a < b ∧ ord[a]? = some z.1 ∧ ord[b]? = some z.2
theorem along_ok {n : Nat} {ord : List Int} {qs : List (Int × Int)} (ho : ord.Perm (upto n)) (nd : qs.Nodup) (hl : qs.length ≤ 60) (ha : Along ord qs) (hs : qs.Pairwise fun x y => SrtO.lexB y x = false) :
    Rul n qs ∧ ∃ rk : Int → Nat, ∀ z, z ∈ qs → rk z.1 < rk z.2 := by
  have ond : ord.Nodup := ho.nodup_iff.mpr (List.pairwise_map.mpr (List.Pairwise.imp (fun h e => h (Int.ofNat.inj e)) (List.nodup_range (n := n))))
  have mem : ∀ x, x ∈ ord → 0 ≤ x ∧ x < n := fun x hx => by
    obtain ⟨i, hi, rfl⟩ := List.mem_map.mp (ho.mem_iff.mp hx)
    have : i < n := by simpa using hi
    omega
  have idx : ∀ (a : Nat) (x : Int), ord[a]? = some x → ord.idxOf x = a := fun a x h => by
    obtain ⟨h1, h2⟩ := List.getElem?_eq_some_iff.mp h
    rw [← h2]
    exact ond.idxOf_getElem a h1
  refine ⟨⟨hl, fun z hz => ?_, ?_⟩, fun x => ord.idxOf x, fun z hz => ?_⟩
  · obtain ⟨a, b, hab, e1, e2⟩ := ha z hz
    have m1 := mem _ (List.mem_of_getElem? e1)
    have m2 := mem _ (List.mem_of_getElem? e2)
    refine ⟨m1.1, m1.2, m2.1, m2.2, fun e => ?_⟩
    have i1 := idx a _ e1
    have i2 := idx b _ e2
    rw [e] at i1
    omega
  · have both := List.Pairwise.and hs nd
    refine both.imp fun h => ?_
    obtain ⟨h1, h2⟩ := h
    have h3 := SrtO.lexB_no.mp h1
    refine SrtO.lexB_iff.mpr ?_
    rename_i x y
    by_cases e : x.1 = y.1
    · have : x.2 ≠ y.2 := fun e2 => h2 (Prod.ext e e2)
      omega
    · omega
  · obtain ⟨a, b, hab, e1, e2⟩ := ha z hz
    show ord.idxOf z.1 < ord.idxOf z.2
    rw [idx a _ e1, idx b _ e2]
    exact hab
end L3
namespace L3
open PySem PySem.Spec PyProof.Rows L2
theorem em_cps : (Str.ofString "").cps = #[] := by decide +kernel
theorem join_signs : ∀ ys : List Str, (∀ y, y ∈ ys → y = cR ∨ y = cB) → (Txt.join (Str.ofString "") ys).length = ys.length ∧ ∀ c, c ∈ (Txt.join (Str.ofString "") ys).cps.toList → c = 82 ∨ c = 66 := by
  intro ys
  rw [TL.join_eq]
  induction ys with
  | nil => intro _; exact ⟨rfl, fun c h => by simp [PySem.Str.join, PySem.Str.empty] at h⟩
  | cons x ys ih =>
    intro h
    obtain ⟨i1, i2⟩ := ih fun y hy => h y (List.mem_cons_of_mem _ hy)
    have hx := h x (List.mem_cons_self ..)
    have x1 : x.length = 1 := by rcases hx with rfl | rfl <;> rfl
    have x2 : ∀ c, c ∈ x.cps.toList → c = 82 ∨ c = 66 := by
      rcases hx with rfl | rfl
      · intro c hc; simp [cR] at hc; exact .inl hc
      · intro c hc; simp [cB] at hc; exact .inr hc
    cases ys with
    | nil => exact ⟨x1, x2⟩
    | cons y ys =>
      have e : (PySem.Str.join (Str.ofString "") (x :: y :: ys)).cps = x.cps ++ (PySem.Str.join (Str.ofString "") (y :: ys)).cps := by
        show (x ++ Str.ofString "" ++ PySem.Str.join (Str.ofString "") (y :: ys)).cps = _
        rw [PySem.Str.cps_append, PySem.Str.cps_append, em_cps, Array.append_empty]
      refine ⟨?_, fun c hc => ?_⟩
      · unfold PySem.Str.length at i1 x1 ⊢
        rw [e, Array.size_append, i1, x1]
        simp
        omega
      · rw [e, Array.toList_append] at hc
        rcases List.mem_append.mp hc with hc | hc
        · exact x2 c hc
        · exact i2 c hc
theorem rg_upto (n : Nat) : rgI 0 ((n : Int)).toNat = (upto n).map .int := by
  unfold rgI upto
  rw [Int.toNat_natCast, List.map_map]
  congr 1
  funext i
  show D.int (0 + (i : Nat)) = D.int (i : Nat)
  rw [Int.zero_add]
theorem RB_at {r : Int} (h0 : 0 ≤ r) (h1 : r < 2) : ∃ c : Nat, atI (Str.ofString "RB").cps.toList r = some c ∧ ((⟨#[c]⟩ : Str) = cR ∨ (⟨#[c]⟩ : Str) = cB) := by
  have : r = 0 ∨ r = 1 := by omega
  rw [RB_cps]
  rcases this with rfl | rfl
  · exact ⟨82, rfl, .inl rfl⟩
  · exact ⟨66, rfl, .inr rfl⟩
theorem RB_len : (Str.ofString "RB").length = 2 := by decide +kernel
theorem seq_ix {r : Int} {n : Nat} (h0 : 0 ≤ r) (h1 : r < n) : seqIndex? r n = some r.toNat := seqIndex_of h0 h1
theorem er_map : ∀ (L : List Int) (j : Nat), (L.map D.int).eraseIdx j = (L.eraseIdx j).map D.int
  | [], _ => by simp
  | _ :: _, 0 => rfl
  | a :: L, j + 1 => by simp only [List.map_cons, List.eraseIdx_cons_succ, er_map L j]
end L3
namespace L3
open PySem PySem.Spec PyProof.Rows L2
def P_Lw_cells : PV := fun ds C Q => ∃ (o : Bool) (ns : List Int) (m : Int), ds = [.lst o (ns.map .int), .int m] ∧ ns.length ≤ 63 ∧ ∀ ms : List Int, ms.length ≤ 64 → Q (.lst false (ms.map .int)) C
def P_never : PV := fun _ _ _ => False
end L3
namespace L3
open PySem PySem.Spec PyProof.Rows L2
theorem neq01 (a b : Nat) : 0 ≤ neq a b ∧ neq a b ≤ 1 := by
  unfold neq
  split <;> decide
theorem max_eq {n : Nat} {v w : Nat → Int} {m k : Int} (h : ∀ j, j < n → v j = w j) (a : IsMax n v m) (b : IsMax n w k) : m = k := by
  obtain ⟨⟨i, hi, ei⟩, ai⟩ := a
  obtain ⟨⟨j, hj, ej⟩, bj⟩ := b
  have h1 := ai j hj
  have h2 := bj i hi
  rw [h j hj] at h1
  rw [← h i hi] at h2
  omega
theorem Pil.r2 {f st : Str} {rs : List (Int × Int)} (hp : Pil f st rs) : ∀ z, z ∈ rs → 0 ≤ z.1 ∧ z.1 < st.length := fun z hz => ⟨(hp.rul.inn z hz).1, (hp.rul.inn z hz).2.1⟩
theorem pfix_max {f st : Str} {rs : List (Int × Int)} (hp : Pil f st rs) {g : Str} {v w : Nat → Int} {m k : Int} (V : PFix g st rs v) (W : PFix g st rs w) (a : IsMax st.length v m) (b : IsMax st.length w k) : m = k := max_eq (Fix.eq hp.r2 hp.acy V W) a b
theorem np_pil {f st : Str} {rs : List (Int × Int)} : (noold (pil false f st rs) && noptr (pil false f st rs)) = true := by
  have := flats_np (flat_pairs rs)
  unfold pil
  simp only [noold, okW, okWs, noptr, noptrs, this.1, this.2]
  rfl
end L3
namespace L3
open PySem PySem.Spec PyProof.Rows L2
structure Shw (p : PyData) (d n : Nat) : Prop where
  ok : p.showable = true
  nd : p.hasDict = false
  dp : p.depth ≤ d
  ln : p.shown.length ≤ n
structure Shws (ps : List PyData) (d n : Nat) : Prop where
  ok : PyData.showableAll ps = true
  nd : PyData.hasDictAll ps = false
  dp : PyData.depthAll ps ≤ d
  ln : ((PyData.shownAll ps).map (·.length)).sum + 2 * ps.length ≤ n
theorem shownAll_len : ∀ ps : List PyData, (PyData.shownAll ps).length = ps.length
  | [] => rfl
  | p :: ps => by simp only [PyData.shownAll, List.length_cons, shownAll_len ps]
theorem Shws.nil {d n : Nat} : Shws [] d n := ⟨rfl, rfl, Nat.zero_le _, by simp [PyData.shownAll]⟩
theorem Shws.cons {p : PyData} {ps : List PyData} {d n m : Nat} (a : Shw p d n) (b : Shws ps d m) : Shws (p :: ps) d (n + m + 2) := by
  have h1 := a.ln
  have h2 := b.ln
  refine ⟨by simp [PyData.showableAll, a.ok, b.ok], by simp [PyData.hasDictAll, a.nd, b.nd], ?_, ?_⟩
  · have h3 := a.dp
    have h4 := b.dp
    simp only [PyData.depthAll]
    omega
  · simp only [PyData.shownAll, List.map_cons, List.sum_cons, List.length_cons]
    omega
theorem Shws.all {ps : List PyData} {d n : Nat} (h : ∀ p, p ∈ ps → Shw p d n) : Shws ps d (ps.length * (n + 2)) := by
  induction ps with
  | nil => exact .nil
  | cons p ps ih =>
    have := Shws.cons (h p (List.mem_cons_self ..)) (ih fun q hq => h q (List.mem_cons_of_mem _ hq))
    rw [List.length_cons, Nat.add_mul, Nat.one_mul]
    exact ⟨this.ok, this.nd, this.dp, by have := this.ln; omega⟩
theorem Shw.le {p : PyData} {d n d' n' : Nat} (a : Shw p d n) (h : d ≤ d') (h' : n ≤ n') : Shw p d' n' := ⟨a.ok, a.nd, Nat.le_trans a.dp h, Nat.le_trans a.ln h'⟩
theorem Shw.list {ps : List PyData} {d n : Nat} (a : Shws ps d n) : Shw (.list ps) (d + 1) (n + 3) := by
  have h := listText_len_le (PyData.shownAll ps)
  have h1 := a.ln
  have h2 := a.dp
  rw [shownAll_len] at h
  refine ⟨by rw [PyData.showable]; exact a.ok, by rw [PyData.hasDict]; exact a.nd, by rw [PyData.depth]; omega, ?_⟩
  rw [PyData.shown]
  omega
theorem Shw.tuple {ps : List PyData} {d n : Nat} (a : Shws ps d n) : Shw (.tuple ps) (d + 1) (n + 3) := by
  have h := tupleText_len_le (PyData.shownAll ps)
  have h1 := a.ln
  have h2 := a.dp
  rw [shownAll_len] at h
  refine ⟨by rw [PyData.showable]; exact a.ok, by rw [PyData.hasDict]; exact a.nd, by rw [PyData.depth]; omega, ?_⟩
  rw [PyData.shown]
  omega
theorem Shw.int {i : Int} {d : Nat} (h0 : 0 ≤ i) (h1 : i < 10 ^ 40) : Shw (.int i) d 40 := by
  refine ⟨?_, rfl, by simp [PyData.depth], ?_⟩
  · rw [PyData.showable]
    refine decide_eq_true ?_
    have hz : i.natAbs < 2 ^ 200 := by
      have : i < 2 ^ 200 := Int.lt_of_lt_of_le h1 (by decide)
      omega
    exact Nat.lt_trans (log_of (k := 200) hz (by decide)) (by decide)
  · rw [PyData.shown]
    exact tx_len h0 (by decide) h1
theorem Shw.str {s : Str} {d n : Nat} (h : ∀ c, c ∈ s.cps.toList → c < 16 ^ 8) (hl : s.length ≤ n) : Shw (.str s) d (10 * n + 2) := by
  have := StrLaws.reprText_len s h
  refine ⟨rfl, rfl, by simp [PyData.depth], ?_⟩
  rw [PyData.shown]
  omega
theorem Shw.ints {ns : List Int} (h : ∀ n, n ∈ ns → 0 ≤ n ∧ n < 10 ^ 40) : Shw (.list (ns.map .int)) 1 (ns.length * 42 + 3) := by
  have := Shw.list (Shws.all (ps := ns.map PyData.int) (d := 0) (n := 40) fun p hp => by
    obtain ⟨n, hn, rfl⟩ := List.mem_map.mp hp
    exact .int (h n hn).1 (h n hn).2)
  rw [List.length_map] at this
  exact this
theorem Shw.sz {p : PyData} {d n : Nat} (h : Shw p d n) (hn : n ≤ 16777216) : p.shown.length ≤ sizeLine := by
  have := h.ln
  have := sizeL
  omega
theorem oRepr_of {C : Store} {d : D} {xs : List D} {p : PyData} {n : Nat} {Q : D → Prop} (e : seqOf C d = some xs) (e2 : pyD C d = some p) (h : Shw p 60 n) (hn : n ≤ 16777216) (q : Q (.str p.shown)) : oRepr C [d] Q :=
  ⟨d, xs, p, rfl, e, e2, h.ok, h.nd, h.dp, by have := h.ln; have := sizeL; omega, q⟩
def pilP (f st : Str) (rs : List (Int × Int)) : PyData := .tuple [.str f, .str st, .list (rs.map fun z => .tuple [.int z.1, .int z.2])]
theorem shw_pil {f st : Str} {rs : List (Int × Int)} (h : Pil f st rs) : Shw (pilP f st rs) 3 6000 := by
  have hr := h.rul
  have h24 := h.top
  have hp : Shw (.list (rs.map fun z => PyData.tuple [.int z.1, .int z.2])) 2 (rs.length * (40 + (40 + 0 + 2) + 2 + 3 + 2) + 3) := by
    have := Shw.list (Shws.all (ps := rs.map fun z => PyData.tuple [.int z.1, .int z.2]) (d := 1) (n := 40 + (40 + 0 + 2) + 2 + 3) fun p hp => by
      obtain ⟨z, hz, rfl⟩ := List.mem_map.mp hp
      obtain ⟨a1, a2, a3, a4, _⟩ := hr.inn z hz
      exact .tuple (.cons (.int a1 (by omega)) (.cons (.int a3 (by omega)) (.nil (n := 0)))))
    rw [List.length_map] at this
    exact this
  have hf := hr.few
  have h1 : Shw (.str f) 2 (10 * 1 + 2) := .str (fun c hc => by
    rcases h.fst with rfl | rfl
    · simp [cR] at hc; omega
    · simp [cB] at hc; omega) (by rcases h.fst with rfl | rfl <;> decide)
  have h2 : Shw (.str st) 2 (10 * 24 + 2) := .str (fun c hc => by have := h.sts c hc; omega) h24
  exact (Shw.tuple (.cons h1 (.cons h2 (.cons hp (.nil (n := 0)))))).le (Nat.le_refl _) (by omega)
end L3
namespace L3
open PySem PySem.Spec PyProof.Rows L2
def prs (l : List Int) : List (Int × Int) := l.zip (l.drop 1)
theorem prs_at {l : List Int} {i : Nat} {z : Int × Int} : (prs l)[i]? = some z ↔ l[i]? = some z.1 ∧ l[i + 1]? = some z.2 := by
  unfold prs
  rw [List.getElem?_zip_eq_some, List.getElem?_drop]
  rw [show 1 + i = i + 1 by omega]
theorem prs_mem {l : List Int} {z : Int × Int} : z ∈ prs l ↔ ∃ i : Nat, l[i]? = some z.1 ∧ l[i + 1]? = some z.2 := by
  rw [List.mem_iff_getElem?]
  exact ⟨fun ⟨i, h⟩ => ⟨i, prs_at.mp h⟩, fun ⟨i, h⟩ => ⟨i, prs_at.mpr h⟩⟩
theorem prs_len {l : List Int} : (prs l).length = l.length - 1 := by simp [prs]
theorem prs_cons (a b : Int) (l : List Int) : prs (a :: b :: l) = (a, b) :: prs (b :: l) := rfl
theorem zip_prs : ∀ l : List Int, zipD (l.map .int) ((l.map .int).drop 1) = (prs l).map pD
  | [] => rfl
  | [a] => rfl
  | a :: b :: l => by
    have ih := zip_prs (b :: l)
    rw [prs_cons]
    simp only [List.map_cons, List.drop_succ_cons, List.drop_zero, zipD] at ih ⊢
    rw [← ih]
    rfl
theorem cut_tail (xs : List D) : cutD xs (some 1) none = xs.drop 1 := by
  unfold cutD
  have e1 : HT.sIx xs.length 0 (some 1) = min 1 xs.length := HT.sIx_nat _ _ 1
  rw [e1, HT.sIx_none]
  rw [List.take_of_length_le (by simp)]
  cases xs with
  | nil => rfl
  | cons z rs => rw [show min 1 (z :: rs).length = 1 by simp]
theorem cut_from (xs : List D) (a : Nat) (h : a ≤ xs.length) : cutD xs (some (a : Int)) none = xs.drop a := by
  unfold cutD
  have e1 : HT.sIx xs.length 0 (some (a : Int)) = min a xs.length := HT.sIx_nat _ _ a
  rw [e1, HT.sIx_none]
  rw [List.take_of_length_le (by simp), Nat.min_eq_left h]
theorem cut_to (xs : List D) (a : Nat) : cutD xs none (some (a : Int)) = xs.take a := by
  unfold cutD
  have e1 : HT.sIx xs.length xs.length (some (a : Int)) = min a xs.length := HT.sIx_nat _ _ a
  rw [e1, HT.sIx_none]
  simp
structure Chn (n : Nat) (rs : List (Int × Int)) (l : List Int) : Prop where
  ne : l ≠ []
  few : l.length ≤ 100
  inn : ∀ x, x ∈ l → 0 ≤ x ∧ x < n
  stp : ∀ z, z ∈ prs l → z ∈ rs
theorem Chn.one {n : Nat} {rs : List (Int × Int)} {i : Int} (h0 : 0 ≤ i) (h1 : i < n) : Chn n rs [i] := ⟨by simp, by simp, fun x hx => by simp at hx; subst hx; exact ⟨h0, h1⟩, fun z hz => by simp [prs] at hz⟩
theorem Chn.sub {n : Nat} {rs : List (Int × Int)} {l : List Int} (h : Chn n rs l) (a b : Nat) (ha : a < l.length) (hb : 0 < b) : Chn n rs ((l.drop a).take b) := by
  have hl := h.few
  refine ⟨fun e => ?_, by simp; omega, fun x hx => h.inn x (List.mem_of_mem_drop (List.mem_of_mem_take hx)), fun z hz => ?_⟩
  · have := congrArg List.length e
    simp at this
    omega
  · obtain ⟨i, h1, h2⟩ := prs_mem.mp hz
    have h1' := h1
    have h2' := h2
    rw [List.getElem?_take] at h1 h2
    split at h1
    · split at h2
      · rw [List.getElem?_drop] at h1 h2
        exact h.stp z (prs_mem.mpr ⟨a + i, h1, h2⟩)
      · cases h2
    · cases h1
theorem Chn.snoc {n : Nat} {rs : List (Int × Int)} {l : List Int} {x y : Int} (h : Chn n rs l) (hl : l.length < 100) (hx : l[l.length - 1]? = some x) (hxy : (x, y) ∈ rs) (h0 : 0 ≤ y) (h1 : y < n) : Chn n rs (l ++ [y]) := by
  refine ⟨by simp, by simp; omega, fun z hz => ?_, fun z hz => ?_⟩
  · rcases List.mem_append.mp hz with hz | hz
    · exact h.inn z hz
    · simp at hz; subst hz; exact ⟨h0, h1⟩
  · obtain ⟨i, e1, e2⟩ := prs_mem.mp hz
    have hi : i + 1 < (l ++ [y]).length := (List.getElem?_eq_some_iff.mp e2).1
    simp at hi
    by_cases hj : i + 1 < l.length
    · rw [List.getElem?_append_left (by omega)] at e1
      rw [List.getElem?_append_left hj] at e2
      exact h.stp z (prs_mem.mpr ⟨i, e1, e2⟩)
    · have : i = l.length - 1 := by omega
      subst this
      rw [List.getElem?_append_left (by omega), hx] at e1
      rw [List.getElem?_append_right (by omega), show l.length - 1 + 1 - l.length = 0 by omega] at e2
      simp at e1 e2
      have : z = (x, y) := Prod.ext e1.symm e2.symm
      rw [this]
      exact hxy
def chg (st : Str) (z : Int × Int) : Int := neq (sg st z.1.toNat) (sg st z.2.toNat)
theorem ints_at {l : List Int} {i : Nat} {a : Int} (h : l[i]? = some a) : atI (l.map D.int) (i : Int) = some (.int a) := by
  have hi : i < l.length := (List.getElem?_eq_some_iff.mp h).1
  unfold atI
  rw [List.length_map, ix_nat hi]
  show (l.map D.int)[i]? = _
  rw [List.getElem?_map, h]
  rfl
theorem ints_last {l : List Int} {a : Int} (h : l[l.length - 1]? = some a) : atI (l.map D.int) (-1) = some (.int a) := by
  have hi : l.length - 1 < l.length := (List.getElem?_eq_some_iff.mp h).1
  unfold atI ixN
  rw [List.length_map]
  rw [if_neg (by decide), if_pos (by omega)]
  show (l.map D.int)[(-1 + (l.length : Int)).toNat]? = _
  rw [show (-1 + (l.length : Int)).toNat = l.length - 1 by omega, List.getElem?_map, h]
  rfl
end L3
namespace L3
open PySem PySem.Spec PyProof.Rows L2
theorem forC_run {G : GV} {T : SV} {De : En} {ok : Store → Prop} (I : List D → Slots → Store → Prop)
    (step : ∀ d ds Γ C, I (d :: ds) Γ C → ∀ R : Slots → Store → Prop, (∀ Γ' C', ok C' → I ds Γ' C' → R Γ' C') → G d Γ C fun Γ1 C1 => T { De with nx := R, ct := R, bk := De.nx } Γ1 C1)
    (stop : ∀ Γ C, I [] Γ C → De.nx Γ C) : ∀ ds Γ C, I ds Γ C → forC G T De ok ds Γ C
  | [], Γ, C, h => stop Γ C h
  | d :: ds, Γ, C, h => step d ds Γ C h _ fun Γ' C' o h' => ⟨o, forC_run I step stop ds Γ' C' h'⟩
theorem get_last {α : Type} (l : List α) (x : α) : (l ++ [x])[l.length]? = some x := by simp
theorem Pil.sg2 {f st : Str} {rs : List (Int × Int)} (hp : Pil f st rs) {j : Nat} (hj : j < st.length) : sg st j = 82 ∨ sg st j = 66 := by
  have hl : st.cps.toList.length = st.length := by rw [Array.length_toList]; rfl
  unfold sg
  rw [List.getD_eq_getElem?_getD, List.getElem?_eq_getElem (by omega)]
  exact hp.sts _ (List.getElem_mem ..)
theorem Pil.f2 {f st : Str} {rs : List (Int × Int)} (hp : Pil f st rs) : f0 f = 82 ∨ f0 f = 66 := by
  rcases hp.fst with rfl | rfl
  · exact .inl rfl
  · exact .inr rfl
theorem neq_par {a b c : Nat} (ha : a = 82 ∨ a = 66) (hb : b = 82 ∨ b = 66) (hc : c = 82 ∨ c = 66) : (neq a c + neq a b) % 2 = neq b c := by
  rcases ha with rfl | rfl <;> rcases hb with rfl | rfl <;> rcases hc with rfl | rfl <;> decide
theorem ex_least {α : Type} (r : α → α → Prop) (tot : ∀ a b, r a b ∨ r b a) (tr : ∀ a b c, r a b → r b c → r a c) : ∀ l : List α, l ≠ [] → ∃ a, a ∈ l ∧ ∀ b, b ∈ l → r a b
  | [], h => absurd rfl h
  | [a], _ => ⟨a, by simp, fun b hb => by simp at hb; subst hb; exact (tot b b).elim id id⟩
  | a :: b :: l, _ => by
    obtain ⟨c, hc, hm⟩ := ex_least r tot tr (b :: l) (by simp)
    rcases tot a c with h | h
    · refine ⟨a, by simp, fun d hd => ?_⟩
      rcases List.mem_cons.mp hd with rfl | hd
      · exact (tot d d).elim id id
      · exact tr _ _ _ h (hm d hd)
    · refine ⟨c, List.mem_cons_of_mem _ hc, fun d hd => ?_⟩
      rcases List.mem_cons.mp hd with rfl | hd
      · exact h
      · exact hm d hd
end L3
namespace L3
open PySem PySem.Spec PyProof.Rows L2
def pilC (k : Nat) (f st : Str) : D := .tup [.str f, .str st, .ptr k]
theorem views_pilC {C : Store} {k : Nat} {f st : Str} {rs : List (Int × Int)} {ds : List D} (hk : C[k]? = some (.lst (rs.map pD))) : views [] C (pilC k f st :: ds) = pil true f st rs :: views [] C ds := by
  unfold views pilC
  simp only [mapWs, mapW, viewG, posOf, hk, mapWs_flat (flat_pairs rs)]
  rfl
theorem pyG_pairs {C : Store} {k n : Nat} {rs : List (Int × Int)} (hk : C[k]? = some (.lst (rs.map pD))) : pyG C (n + 1) k = some (.list (rs.map fun z => .tuple [.int z.1, .int z.2])) := by
  simp only [pyG, hk, pyWs_pairs]
  rfl
theorem pyD_pilC {C : Store} {k : Nat} {f st : Str} {rs : List (Int × Int)} (hk : C[k]? = some (.lst (rs.map pD))) : pyD C (pilC k f st) = some (pilP f st rs) := by
  unfold pyD pilC
  simp only [pyW, pyWs, pyG_pairs hk]
  rfl
def callTK (n : Nat) (kf : List D → List Nat) (P : PV) (ds : List D) (C1 : Store) (Q : D → Store → Prop) : Prop := (kf ds).length = n ∧ (kf ds).Nodup ∧ (∀ k, k ∈ kf ds → ∃ c, C1[k]? = some c ∧ c ≠ Cell.dead) ∧
  P (views (kf ds) C1 ds) (viewC (kf ds) C1) fun d Cc => ∃ x y xs, d = .tup [x, y, .lst false xs] ∧ flatDs [x, y] = true ∧ flatDs xs = true ∧ (∀ c, c ∈ Cc → c.okC (fun o => !o) = true) ∧
    (∀ (i : Nat) c, (putS (kf ds) (Cc.map (backs (kf ds))) C1)[i]? = some c → flatC c = true) ∧ Q (.tup [x, y, .ptr C1.length]) (putS (kf ds) (Cc.map (backs (kf ds))) C1 ++ [.lst xs])
theorem e_eCallT {n : Nat} {kf : List D → List Nat} {P : PV} {L : AV} {Γ : Slots} {C : Store} {Q : D → Store → Prop} : eCallT n kf P L Γ C Q = L Γ C fun ds C1 => callTK n kf P ds C1 Q := rfl
def Flat (C : Store) : Prop := ∀ (i : Nat) c, C[i]? = some c → flatC c = true
theorem Flat.set {C : Store} {k : Nat} {x : Cell} (h : Flat C) (hx : flatC x = true) : Flat (C.set k x) := fun i c e => by
  by_cases hk : k = i
  · subst hk
    have hl : k < C.length := by
      have := (List.getElem?_eq_some_iff.mp e).1
      simpa using this
    rw [List.getElem?_set_self hl] at e
    cases e
    exact hx
  · rw [List.getElem?_set_ne hk] at e
    exact h i c e
theorem Flat.snoc {C : Store} {x : Cell} (h : Flat C) (hx : flatC x = true) : Flat (C ++ [x]) := fun i c e => by
  by_cases hi : i < C.length
  · rw [List.getElem?_append_left hi] at e
    exact h i c e
  · have : i = C.length := by
      have := (List.getElem?_eq_some_iff.mp e).1
      simp at this
      omega
    subst this
    rw [get_last] at e
    cases e
    exact hx
theorem Flat.nil : Flat [] := fun i c e => by simp at e
theorem Jar.flat {c : Int} {x : Cell} (h : Jar c x) : flatC x = true := by
  obtain ⟨a, b, k, rfl, _⟩ := h
  rfl
theorem Pil.out {f st : Str} {rs : List (Int × Int)} (h : Pil f st rs) (j : Nat) : Pil f st (rs.eraseIdx j) := by
  have hs : (rs.eraseIdx j).Sublist rs := List.eraseIdx_sublist ..
  obtain ⟨rk, hrk⟩ := h.acy
  refine ⟨h.fst, h.pos, h.top, h.sts, ⟨Nat.le_trans hs.length_le h.rul.few, fun z hz => h.rul.inn z (hs.subset hz), h.rul.srt.sublist hs⟩, rk, fun z hz => hrk z (hs.subset hz)⟩
end L3
namespace L3
open PySem PySem.Spec PyProof.Rows L2
end L3
namespace L3
open PySem PySem.Spec PyProof.Rows L2
end L3
namespace L3
open PySem PySem.Spec PyProof.Rows L2
def rv (rs : List (Int × Int)) : List (Int × Int) := rs.map fun z => (z.2, z.1)
theorem rv_mem {rs : List (Int × Int)} {z : Int × Int} : z ∈ rv rs ↔ (z.2, z.1) ∈ rs := by
  unfold rv
  rw [List.mem_map]
  constructor
  · rintro ⟨y, hy, rfl⟩; exact hy
  · exact fun h => ⟨_, h, rfl⟩
theorem Pil.pfix {f st : Str} {rs : List (Int × Int)} (hp : Pil f st rs) : ∃ v, PFix f st rs v := fix_ex _ _ hp.rul.inn hp.acy
theorem wL_congr {n : Nat} {u w : Nat → Int} (h : ∀ j, j < n → u j = w j) : wL n u = wL n w := by
  unfold wL
  apply List.map_congr_left
  intro j hj
  rw [h j (by simpa using hj)]
def Most (f st : Str) (rs : List (Int × Int)) (m : Int) : Prop := m ≤ 10 ^ 30 ∧ ∀ v k, PFix f st rs v → IsMax st.length v k → k ≤ m
theorem Most.nn {f st : Str} {rs : List (Int × Int)} {m : Int} (hp : Pil f st rs) (h : Most f st rs m) : 0 ≤ m := by
  obtain ⟨v, V⟩ := hp.pfix
  obtain ⟨k, hk, hm⟩ := ex_least (fun a b : Int => b ≤ a) (fun a b => by omega) (fun a b c h1 h2 => by omega) ((List.range st.length).map v) (by
    have := hp.pos
    intro e
    have := congrArg List.length e
    simp at this
    omega)
  have M := max_of hk hm
  have h1 := h.2 v k V M
  have h2 := M.2 0 hp.pos
  have h3 := V.low 0 hp.pos
  have h4 : bsOf f st 0 = neq (sg st 0) (f0 f) := rfl
  have h5 := neq01 (sg st 0) (f0 f)
  omega
end L3
namespace L3
open PySem PySem.Spec PyProof.Rows L2
structure Plan (f st : Str) (rs : List (Int × Int)) (top : Int) (w : Nat → Int) : Prop where
  blk : ∀ j, j < st.length → bsOf f st j ≤ w j ∧ w j ≤ top ∧ (w j - bsOf f st j) % 2 = 0
  led : ∀ z, z ∈ rs → w z.1.toNat ≤ w z.2.toNat
theorem bs_par {f st : Str} {rs : List (Int × Int)} (hp : Pil f st rs) {i j : Nat} (hi : i < st.length) (hj : j < st.length) : (bsOf f st i + chOf st i j) % 2 = bsOf f st j % 2 ∧ (bsOf f st i = 0 ∨ bsOf f st i = 1) ∧ (chOf st i j = 0 ∨ chOf st i j = 1) := by
  have h1 := neq_par (hp.sg2 hi) (hp.sg2 hj) hp.f2
  have h2 := neq01 (sg st i) (f0 f)
  have h3 := neq01 (sg st i) (sg st j)
  have h4 := neq01 (sg st j) (f0 f)
  have e1 : bsOf f st i = neq (sg st i) (f0 f) := rfl
  have e2 : bsOf f st j = neq (sg st j) (f0 f) := rfl
  have e3 : chOf st i j = neq (sg st i) (sg st j) := rfl
  rw [e1, e2, e3]
  omega
theorem Plan.step {f st : Str} {rs : List (Int × Int)} (hp : Pil f st rs) {top : Int} {w : Nat → Int} (P : Plan f st rs top w) {z : Int × Int} (hz : z ∈ rs) : w z.1.toNat + chOf st z.1.toNat z.2.toNat ≤ w z.2.toNat := by
  obtain ⟨a, b, c, d, e⟩ := hp.rul.inn z hz
  have h1 := P.led z hz
  obtain ⟨_, _, h2⟩ := P.blk z.1.toNat (by omega)
  obtain ⟨_, _, h3⟩ := P.blk z.2.toNat (by omega)
  obtain ⟨h4, h5, h6⟩ := bs_par hp (show z.1.toNat < st.length by omega) (show z.2.toNat < st.length by omega)
  omega
end L3
namespace L3
open PySem PySem.Spec PyProof.Rows L2
theorem fix_sub {f st : Str} {rs rs' : List (Int × Int)} (hp : Pil f st rs') {v v' : Nat → Int} (hs : ∀ z, z ∈ rs' → z ∈ rs) (V : PFix f st rs v) (V' : PFix f st rs' v') : ∀ j, j < st.length → v' j ≤ v j := by
  obtain ⟨rk, hrk⟩ := hp.acy
  have all : ∀ m : Nat, ∀ j : Nat, j < st.length → rk j < m → v' j ≤ v j := by
    intro m
    induction m with
    | zero => intro j _ h; omega
    | succ m ih =>
      intro j hj hm
      rcases V'.by_ j hj with e | ⟨z, hz, e1, e2⟩
      · rw [e]; exact V.low j hj
      · obtain ⟨h0, h1⟩ := hp.r2 z hz
        obtain ⟨i, hi⟩ := Int.eq_ofNat_of_zero_le h0
        have h2 := hrk z hz
        rw [e1, hi] at h2
        have h3 := ih i (by omega) (by omega)
        have h4 := V.up z (hs z hz)
        rw [e1] at h4
        rw [hi] at e2 h4
        simp only [Int.toNat_natCast] at e2 h4
        omega
  exact fun j hj => all (rk j + 1) j hj (by omega)
theorem Most.of {f st : Str} {rs : List (Int × Int)} (hp : Pil f st rs) {v : Nat → Int} {k m : Int} (V : PFix f st rs v) (M : IsMax st.length v k) (h : k ≤ m) (h30 : m ≤ 10 ^ 30) : Most f st rs m := ⟨h30, fun w l W L => by rw [pfix_max hp W V L M]; exact h⟩
theorem Most.sub {f st : Str} {rs rs' : List (Int × Int)} (hp : Pil f st rs) (hp' : Pil f st rs') (hs : ∀ z, z ∈ rs' → z ∈ rs) {m : Int} (h : Most f st rs m) : Most f st rs' m := by
  refine ⟨h.1, fun v' k' V' M' => ?_⟩
  obtain ⟨v, V⟩ := hp.pfix
  obtain ⟨⟨j, hj, ej⟩, _⟩ := M'
  have h1 := fix_sub hp' hs V V' j hj
  obtain ⟨k, hk, hm⟩ := ex_least (fun a b : Int => b ≤ a) (fun a b => by omega) (fun a b c h1 h2 => by omega) ((List.range st.length).map v) (by
    have := hp.pos
    intro e
    have := congrArg List.length e
    simp at this
    omega)
  have M := max_of hk hm
  have h2 := h.2 v k V M
  have h3 := M.2 j hj
  omega
def two (n : Nat) (v w : Nat → Int) : PyData := .list [.list (((List.range n).map v).map .int), .list (((List.range n).map w).map .int)]
end L3
namespace L3
open PySem PySem.Spec PyProof.Rows L2
inductive Way (st : Str) (rs : List (Int × Int)) : Int → Int → Int → Prop
  | nil (p : Int) : Way st rs p p 0
  | snoc {p x y c : Int} : Way st rs p x c → (x, y) ∈ rs → Way st rs p y (c + chg st (x, y))
inductive WayIn (st : Str) (rs : List (Int × Int)) (A : List Int) : Int → Int → Int → Prop
  | nil (p : Int) : WayIn st rs A p p 0
  | snoc {p x y c : Int} : WayIn st rs A p x c → x ∈ A → (x, y) ∈ rs → WayIn st rs A p y (c + chg st (x, y))
inductive WayN (st : Str) (rs : List (Int × Int)) : Nat → Int → Int → Int → Prop
  | nil (k : Nat) (p : Int) : WayN st rs k p p 0
  | snoc {k : Nat} {p x y c : Int} : WayN st rs k p x c → (x, y) ∈ rs → WayN st rs (k + 1) p y (c + chg st (x, y))
section
variable {st : Str} {rs : List (Int × Int)}
theorem chg01 (st : Str) (z : Int × Int) : 0 ≤ chg st z ∧ chg st z ≤ 1 := neq01 _ _
theorem Way.nn {p q c : Int} (h : Way st rs p q c) : 0 ≤ c := by
  induction h with
  | nil => exact Int.le_refl _
  | @snoc x y c _ _ ih => have := chg01 st (x, y); omega
theorem WayIn.way {A : List Int} {p q c : Int} (h : WayIn st rs A p q c) : Way st rs p q c := by
  induction h with
  | nil => exact .nil _
  | snoc _ _ hz ih => exact .snoc ih hz
theorem Way.inn {p q c : Int} {A : List Int} (hA : ∀ z, z ∈ rs → z.1 ∈ A) (h : Way st rs p q c) : WayIn st rs A p q c := by
  induction h with
  | nil => exact .nil _
  | snoc _ hz ih => exact .snoc ih (hA _ hz) hz
theorem WayN.mono {k j : Nat} {p q c : Int} (h : WayN st rs k p q c) (hkj : k ≤ j) : WayN st rs j p q c := by
  induction h generalizing j with
  | nil => exact .nil _ _
  | snoc _ hz ih =>
    obtain ⟨j', rfl⟩ : ∃ j', j = j' + 1 := ⟨j - 1, by omega⟩
    exact .snoc (ih (by omega)) hz
theorem Way.few {p q c : Int} {r : Nat → Nat} (hr : ∀ z, z ∈ rs → r z.1.toNat < r z.2.toNat) (h : Way st rs p q c) : WayN st rs (r q.toNat) p q c := by
  induction h with
  | nil => exact .nil _ _
  | snoc _ hz ih => exact (WayN.snoc ih hz).mono (hr _ hz)
end
def Bst (st : Str) (rs : List (Int × Int)) (p q : Int) : Option Int → Prop
  | some m => Way st rs p q m ∧ ∀ c, Way st rs p q c → c ≤ m
  | none => ∀ c, ¬ Way st rs p q c
theorem Bst.eq {st : Str} {rs : List (Int × Int)} {p q : Int} {a b : Option Int} (x : Bst st rs p q a) (y : Bst st rs p q b) : a = b := by
  cases a with
  | none => cases b with
    | none => rfl
    | some m => exact absurd y.1 (x m)
  | some m => cases b with
    | none => exact absurd x.1 (y m)
    | some k => have h1 := x.2 k y.1; have h2 := y.2 m x.1; rw [show m = k by omega]
def Grow (u u' : Int → Option Int) : Prop := ∀ q m, u q = some m → ∃ m', u' q = some m' ∧ m ≤ m'
theorem Grow.refl {u : Int → Option Int} : Grow u u := fun q m h => ⟨m, h, Int.le_refl _⟩
theorem Grow.trans {u v w : Int → Option Int} (a : Grow u v) (b : Grow v w) : Grow u w := fun q m h => by
  obtain ⟨m1, e1, h1⟩ := a q m h
  obtain ⟨m2, e2, h2⟩ := b q m1 e1
  exact ⟨m2, e2, by omega⟩
structure Dic (ks : List Key) (xs : List D) (u : Int → Option Int) (m : Nat) : Prop where
  at_ : ∀ q : Int, dAt (.inl q) ks xs = (u q).map .int
  len : ks.length = xs.length
  few : ks.length ≤ m
  flat : flatDs xs = true
theorem dAt_put {k q : Key} {y : D} : ∀ {ks : List Key} {xs : List D}, ks.length = xs.length → dAt q (kPut k ks) (xPut k y ks xs) = if k = q then some y else dAt q ks xs := by
  have snoc : ∀ (ks : List Key) (xs : List D), ks.length = xs.length → hasK k ks = false → dAt q (ks ++ [k]) (xs ++ [y]) = if k = q then some y else dAt q ks xs := by
    intro ks
    induction ks with
    | nil => intro xs h _; cases xs with
      | nil => rfl
      | cons _ _ => simp at h
    | cons p ks ih =>
      intro xs h hk
      cases xs with
      | nil => simp at h
      | cons x xs =>
        simp only [hasK, List.any_cons, Bool.or_eq_false_iff, decide_eq_false_iff_not] at hk
        simp only [List.cons_append, dAt]
        by_cases e : p = q
        · rw [if_pos e, if_pos e, if_neg fun z => hk.1 (e.trans z.symm)]
        · rw [if_neg e, if_neg e, ih xs (by simpa using h) hk.2]
  have mid : ∀ (ks : List Key) (xs : List D), ks.length = xs.length → hasK k ks = true → dAt q ks ((ks.zip xs).map fun z => if z.1 = k then y else z.2) = if k = q then some y else dAt q ks xs := by
    intro ks
    induction ks with
    | nil => intro xs h hk; cases hk
    | cons p ks ih =>
      intro xs h hk
      cases xs with
      | nil => simp at h
      | cons x xs =>
        simp only [List.zip_cons_cons, List.map_cons, dAt]
        by_cases e : p = q
        · subst e
          rw [if_pos rfl]
          by_cases e2 : p = k
          · rw [if_pos e2, if_pos e2.symm]
          · rw [if_neg e2, if_neg fun z => e2 z.symm, if_pos rfl]
        · rw [if_neg e, if_neg e]
          by_cases hk2 : hasK k ks = true
          · exact ih xs (by simpa using h) hk2
          · have hpk : p = k := by
              simp only [hasK, List.any_cons, Bool.or_eq_true, decide_eq_true_eq] at hk hk2
              exact hk.resolve_right hk2
            subst hpk
            rw [if_neg e]
            have : (ks.zip xs).map (fun z => if z.1 = p then y else z.2) = xs := by
              have hx : ks.length = xs.length := by simpa using h
              clear ih h hk
              induction ks generalizing xs with
              | nil => cases xs with
                | nil => rfl
                | cons _ _ => simp at hx
              | cons r ks ih2 =>
                cases xs with
                | nil => simp at hx
                | cons x' xs =>
                  simp only [hasK, List.any_cons, Bool.or_eq_true, decide_eq_true_eq, not_or] at hk2
                  simp only [List.zip_cons_cons, List.map_cons]
                  rw [if_neg hk2.1, ih2 xs hk2.2 (by simpa using hx)]
            rw [this]
  intro ks xs h
  unfold kPut xPut
  cases hk : hasK k ks with
  | true => rw [if_pos rfl, if_pos rfl]; exact mid ks xs h hk
  | false => rw [if_neg (by decide), if_neg (by decide)]; exact snoc ks xs h hk
theorem Dic.put {ks : List Key} {xs : List D} {u : Int → Option Int} {m : Nat} (d : Dic ks xs u m) (b y : Int) : Dic (kPut (.inl b) ks) (xPut (.inl b) (.int y) ks xs) (fun q => if q = b then some y else u q) (m + 1) := by
  refine ⟨fun q => ?_, ?_, ?_, ?_⟩
  · rw [dAt_put d.len, d.at_ q]
    by_cases e : q = b
    · subst e; rw [if_pos rfl, if_pos rfl]; rfl
    · rw [if_neg e, if_neg fun z => e (Sum.inl.inj z).symm]
  · unfold kPut xPut
    have := d.len
    split
    · simp; omega
    · simp; omega
  · have := d.few
    unfold kPut
    split
    · omega
    · simp; omega
  · have hf := d.flat
    have app : ∀ xs : List D, flatDs xs = true → flatDs (xs ++ [.int y]) = true := by
      intro xs
      induction xs with
      | nil => intro _; rfl
      | cons x xs ih => intro h; simp only [flatDs, Bool.and_eq_true] at h; simp only [List.cons_append, flatDs, h.1, ih h.2, Bool.and_self]
    have mp : ∀ (ks : List Key) (xs : List D), flatDs xs = true → flatDs ((ks.zip xs).map fun z => if z.1 = .inl b then .int y else z.2) = true := by
      intro ks
      induction ks with
      | nil => intro xs _; rfl
      | cons k ks ih =>
        intro xs h
        cases xs with
        | nil => rfl
        | cons x xs =>
          simp only [flatDs, Bool.and_eq_true] at h
          simp only [List.zip_cons_cons, List.map_cons, flatDs, ih xs h.2, Bool.and_true]
          split
          · rfl
          · exact h.1
    unfold xPut
    split
    · exact mp ks xs hf
    · exact app xs hf
theorem Dic.one (b y : Int) : Dic [.inl b] [.int y] (fun q => if q = b then some y else none) 1 := by
  refine ⟨fun q => ?_, rfl, Nat.le_refl _, rfl⟩
  simp only [dAt]
  by_cases e : q = b
  · subst e; rw [if_pos rfl, if_pos rfl]; rfl
  · rw [if_neg e, if_neg fun z => e (Sum.inl.inj z).symm]; rfl
theorem Dic.mono {ks : List Key} {xs : List D} {u : Int → Option Int} {m k : Nat} (d : Dic ks xs u m) (h : m ≤ k) : Dic ks xs u k := ⟨d.at_, d.len, Nat.le_trans d.few h, d.flat⟩
theorem Dic.some {ks : List Key} {xs : List D} {u : Int → Option Int} {m : Nat} (d : Dic ks xs u m) (q : Int) : (dAt (.inl q) ks xs).isSome = (u q).isSome := by
  rw [d.at_ q]
  cases u q <;> rfl
end L3
namespace L3
open PySem PySem.Spec PyProof.Rows L2
end L3
namespace L3
open PySem PySem.Spec PyProof.Rows L2
end L3
namespace L3
namespace RG
open PySem PySem.Spec PyProof.Rows L2
def T_Lw_ink : SV :=
  (sSeq (sIf (bB (eBin oGt (eBin oIxL (eVar 0) (eC (.int 0))) (eC (.int 0)))) (sSeq (sAsg (eBin oMod (eBin oIxL (eVar 0) (eC (.int 0))) (eVar 1)) (gvName 2))
  (sSeq (sAsg (eBin oDivW (eBin oIxL (eVar 0) (eC (.int 0))) (eVar 1)) (gvSubL (eVar 0) (eC (.int 0))))
  (sRet (eVar 2)))) sNext)
  (sSeq (sAsg (eBin oAdd (eBin oIxL (eVar 0) (eC (.int 2))) (eC (.int 1))) (gvSubL (eVar 0) (eC (.int 2))))
  (sSeq (sAsg (eBin oMod (eBin oPowW (eBin oAdd (eBin oIxL (eVar 0) (eC (.int 1))) (eBin oMulW (eC (.int 500009)) (eBin oIxL (eVar 0) (eC (.int 2))))) (eC (.int 3))) (eBin oAdd (eBin oPowW (eC (.int 10)) (eC (.int 35))) (eC (.int 69)))) (gvName 3))
  (sSeq (sAsg (eBin oMod (eBin oPowW (eBin oAdd (eBin oMulW (eVar 3) (eBin oIxL (eVar 0) (eC (.int 2)))) (eC (.int 88883))) (eC (.int 3))) (eBin oAdd (eBin oPowW (eC (.int 10)) (eC (.int 37))) (eC (.int 43)))) (gvName 3))
  (sRet (eBin oMod (eBin oDivW (eVar 3) (eC (.int 16381))) (eVar 1)))))))
abbrev N_Lw_ink : List Str := ["_law_pad_here", "_law_many_here", "_law_found", "_law_pressed"]
def T_Lw_many (P_Lw_ink : PV) : SV :=
  (sSeq (sIf (bB (eBin (oEq false) (eVar 1) (eC (.int 3)))) (sRet (eBin oAdd (eC (.int 2)) (eCallK 1 kf1 P_Lw_ink (aCons (eVar 0) (aCons (eC (.int 2)) aNil))))) sNext)
  (sRet (eBin oAdd (eC (.int 1)) (eCallK 1 kf1 P_Lw_ink (aCons (eVar 0) (aCons (eBin oIxL (eFrz (fLst (aCons (eC (.int 2)) (aCons (eC (.int 6)) (aCons (eVar 1) aNil))))) (eCallK 1 kf1 P_Lw_ink (aCons (eVar 0) (aCons (eC (.int 3)) aNil)))) aNil))))))
abbrev N_Lw_many : List Str := ["_law_pad_here", "_law_most"]
def T_Lw_stamps (P_Lw_ink : PV) : SV :=
  (sSeq (sAsg (eCallK 1 kf1 P_Lw_ink (aCons (eVar 0) (aCons (eC (.int 4)) aNil))) (gvName 2))
  (sSeq (sAsg (eFrz (fLc [4] (iRange1 (aCons (eVar 1) aNil)) (gvName 4) bYes (eBin oIxS (eC (.str "RB")) (eCallK 1 kf1 P_Lw_ink (aCons (eVar 0) (aCons (eC (.int 2)) aNil)))))) (gvName 3))
  (sRet (eM1 oJoin (eC (.str "")) (eBin oIxL (eFrz (fLst (aCons (eVar 3) (aCons (eVar 3) (aCons (eFrz (fBin nRep (eFrz (fSlL (eVar 3) oNone (oSome (eC (.int 1))))) (eVar 1))) (aCons (eFrz (fSlL (eFrz (fBin nRep (eFrz (fLst (aCons (eC (.str "R")) (aCons (eC (.str "B")) aNil)))) (eVar 1))) oNone (oSome (eVar 1)))) aNil)))))) (eVar 2))))))
abbrev N_Lw_stamps : List Str := ["_law_pad_here", "_law_many_here", "_law_kind", "_law_some", "_law_k"]
def T_Lw_pile (P_Lw_many P_Lw_ink P_Lw_stamps : PV) : SV :=
  (sSeq (sAsg (eCallK 1 kf1 P_Lw_many (aCons (eVar 0) (aCons (eVar 1) aNil))) (gvName 2))
  (sSeq (sAsg (eCell (fListRange (eVar 2))) (gvName 3))
  (sSeq (sAsg (eFrz (fLc [5] (iRange1 (aCons (eVar 2) aNil)) (gvName 5) bYes (eMl mPopAt (eVar 3) (aCons (eCallK 1 kf1 P_Lw_ink (aCons (eVar 0) (aCons (eCB oLenA (aCons (eVar 3) aNil)) aNil))) aNil)))) (gvName 4))
  (sSeq (sAsg (eCell fDt0) (gvName 6))
  (sSeq (sAsg (eBin oIxL (eFrz (fLst (aCons (eC (.int 1)) (aCons (eC (.int 3)) (aCons (eVar 2) aNil))))) (eCallK 1 kf1 P_Lw_ink (aCons (eVar 0) (aCons (eC (.int 3)) aNil)))) (gvName 7))
  (sSeq (sFor (iRange1 (aCons (eBin oMulW (eCallK 1 kf1 P_Lw_ink (aCons (eVar 0) (aCons (eBin oIxL (eFrz (fLst (aCons (eC (.int 4)) (aCons (eC (.int 14)) (aCons (eC (.int 61)) aNil))))) (eCallK 1 kf1 P_Lw_ink (aCons (eVar 0) (aCons (eC (.int 3)) aNil)))) aNil))) (eCB oInt (aCons (eBin oGt (eVar 2) (eC (.int 1))) aNil))) aNil)) (gvName 8) (sSeq (sAsg (eCallK 1 kf1 P_Lw_ink (aCons (eVar 0) (aCons (eBin oSub (eVar 2) (eC (.int 1))) aNil))) (gvName 9))
  (sAsg (eC (.bl true)) (gvSubT (eVar 6) (eTup (aCons (eBin oIxL (eVar 4) (eVar 9)) (aCons (eBin oIxL (eVar 4) (eCB oMin2 (aCons (eBin oSub (eVar 2) (eC (.int 1))) (aCons (eBin oAdd (eBin oAdd (eVar 9) (eC (.int 1))) (eCallK 1 kf1 P_Lw_ink (aCons (eVar 0) (aCons (eVar 7) aNil)))) aNil)))) aNil)))))))
  (sSeq (sIf (bB (eBin (oEq false) (eCallK 1 kf1 P_Lw_ink (aCons (eVar 0) (aCons (eC (.int 4)) aNil))) (eC (.int 0)))) (sAsg (eCell (fCB nDictT (aCons (eFrz (fLc [10] (iZipO (aCons (eVar 4) (aCons (eFrz (fSlL (eVar 4) (oSome (eC (.int 1))) oNone)) aNil))) (gvName 10) bYes (eTup (aCons (eVar 10) (aCons (eC (.bl true)) aNil))))) aNil))) (gvName 6)) sNext)
  (sRet (eTup (aCons (eBin oIxS (eC (.str "RB")) (eCallK 1 kf1 P_Lw_ink (aCons (eVar 0) (aCons (eC (.int 2)) aNil)))) (aCons (eCallK 1 kf1 P_Lw_stamps (aCons (eVar 0) (aCons (eVar 2) aNil))) (aCons (eFrz (fCB nSortT (aCons (eVar 6) aNil))) aNil))))))))))))
abbrev N_Lw_pile : List Str := ["_law_pad_here", "_law_most", "_law_many_here", "_law_left", "_law_line", "_law_k", "_law_found", "_law_reach", "_law_lap", "_law_at", "_law_pair"]
def T_Lw_same (P_Lw_same : PV) : SV :=
  (sSeq (sIf (bB (eIsi2 .list .tuple (eVar 1))) (sSeq (sIf (bOr (bNot (bB (eIsi2 .list .tuple (eVar 0)))) (bB (eBin (oEq true) (eIsi .list (eVar 0)) (eIsi .list (eVar 1))))) (sRet (eC (.bl false))) sNext)
  (sRet (eAnd (eBin (oEq false) (eCB oLenA (aCons (eVar 0) aNil)) (eCB oLenA (aCons (eVar 1) aNil))) (eCB oAll (aCons (eFrz (fLc [2, 3] (iZipS (aCons (eVar 0) (aCons (eVar 1) aNil))) (gvTup 2 (gvCons (gvName 2) (gvCons (gvName 3) gvNil))) bYes (eCall P_Lw_same (aCons (eVar 2) (aCons (eVar 3) aNil))))) aNil))))) sNext)
  (sSeq (sIf (bOr (bB (eIsi2 .bool .str (eVar 1))) (bB (eBin (oIsN false) (eVar 1) (eC .non)))) (sRet (eAnd (eBin (oEq false) (eIsi .bool (eVar 0)) (eIsi .bool (eVar 1))) (eBin (oEq false) (eVar 0) (eVar 1)))) sNext)
  (sRet (eAnd (eIsi .int (eVar 0)) (eAnd (eNot (eIsi .bool (eVar 0))) (eBin (oEq false) (eVar 0) (eVar 1)))))))
abbrev N_Lw_same : List Str := ["_law_found", "_law_due", "_law_one", "_law_other"]
def T_Lw_pad : SV :=
  (sRet (eFrz (fLst (aCons (eCB oMax2 (aCons (eC (.int 0)) (aCons (eBin oSub (eVar 0) (eBin oPowW (eC (.int 10)) (eC (.int 18)))) aNil))) (aCons (eBin oAdd (eBin oMulW (eBin oMod (eVar 0) (eBin oAdd (eBin oPowW (eC (.int 10)) (eC (.int 40))) (eC (.int 121)))) (eC (.int 89))) (eVar 1)) (aCons (eC (.int 0)) aNil))))))
abbrev N_Lw_pad : List Str := ["_law_cell", "_law_k"]
end RG
end L3
namespace L3
namespace RG
namespace K08
open PySem PySem.Spec PyProof.Rows L2
def T_words_in : SV :=
  (sSeq (sIf (bNot (bB (eIsi .str (eVar 0)))) sNever sNext)
  (sRet (eFrz (fSplit (eVar 0) (eC (.str " "))))))
abbrev N_words_in : List Str := ["text"]
def T_number_in : SV :=
  (sSeq (sIf (bOr (bB (eBin (oEq false) (eVar 0) (eC (.str "")))) (bOr (bNot (bB (eCB oAll (aCons (eFrz (fLc [1] (iSigns (eVar 0)) (gvName 1) bYes (eBin (oIn false) (eVar 1) (eC (.str "0123456789"))))) aNil)))) (bAnd (bB (eBin (oEq false) (eBin oIxS (eVar 0) (eC (.int 0))) (eC (.str "0")))) (bB (eBin (oEq true) (eVar 0) (eC (.str "0"))))))) (sRet (eC .non)) sNext)
  (sRet (eCB oIntS (aCons (eVar 0) aNil))))
abbrev N_number_in : List Str := ["word", "sign"]
def T_rule_in (P_number_in : PV) : SV :=
  (sSeq (sAsg (eFrz (fLc [2] (iLst (eFrz (fSplit (eVar 0) (eC (.str ">"))))) (gvName 2) bYes (eCall P_number_in (aCons (eVar 2) aNil)))) (gvName 1))
  (sRet (eIf (bOr (bB (eBin (oEq true) (eCB oLenA (aCons (eVar 1) aNil)) (eC (.int 2)))) (bB (eBin (oIn false) (eC .non) (eVar 1)))) (eC .non) (eTup (aCons (eBin oIxL (eVar 1) (eC (.int 0))) (aCons (eBin oIxL (eVar 1) (eC (.int 1))) aNil))))))
abbrev N_rule_in : List Str := ["word", "numbers", "part"]
def T_goes_on (P_is_rule P_ring_by : PV) : SV :=
  (sSeq (sIf (bOr (bNot (bB (eCall P_is_rule (aCons (eVar 2) (aCons (eVar 0) aNil))))) (bOr (bB (eBin (oEq false) (eCB oLenA (aCons (eVar 1) aNil)) (eC (.int 60)))) (bAnd (bB (eBin (oEq true) (eVar 1) (eFrz (fLst aNil)))) (bB (eBin oGeT (eBin oIxL (eVar 1) (eUn oNeg (eC (.int 1)))) (eVar 2)))))) (sRet (eC (.bl false))) sNext)
  (sRet (eBin (oIsN false) (eCall P_ring_by (aCons (eVar 0) (aCons (eFrz (fBin nCat (eVar 1) (eFrz (fLst (aCons (eVar 2) aNil))))) aNil))) (eC .non))))
abbrev N_goes_on : List Str := ["many", "rules", "rule"]
def T_read_pile (P_words_in P_is_stamp P_are_stamps P_rule_in P_goes_on : PV) : SV :=
  (sSeq (sAsg (eCall P_words_in (aCons (eVar 0) aNil)) (gvName 1))
  (sSeq (sIf (bNot (bB (eCall P_is_stamp (aCons (eBin oIxL (eVar 1) (eC (.int 0))) aNil)))) sNever sNext)
  (sSeq (sIf (bOr (bB (eBin oLt (eCB oLenA (aCons (eVar 1) aNil)) (eC (.int 2)))) (bNot (bB (eCall P_are_stamps (aCons (eBin oIxL (eVar 1) (eC (.int 1))) aNil))))) sNever sNext)
  (sSeq (sAsg (eCell (fLst aNil)) (gvName 2))
  (sSeq (sFor (iRange2 (aCons (eC (.int 2)) (aCons (eCB oLenA (aCons (eVar 1) aNil)) aNil))) (gvName 3) (sSeq (sAsg (eCall P_rule_in (aCons (eBin oIxL (eVar 1) (eVar 3)) aNil)) (gvName 4))
  (sSeq (sIf (bNot (bB (eCall P_goes_on (aCons (eCB oLenA (aCons (eBin oIxL (eVar 1) (eC (.int 1))) aNil)) (aCons (eVar 2) (aCons (eVar 4) aNil)))))) sNever sNext)
  (sDrop (eMl mAppend (eVar 2) (aCons (eVar 4) aNil))))))
  (sRet (eTup (aCons (eBin oIxL (eVar 1) (eC (.int 0))) (aCons (eBin oIxL (eVar 1) (eC (.int 1))) (aCons (eVar 2) aNil))))))))))
abbrev N_read_pile : List Str := ["text", "words", "rules", "at", "rule"]
def T_show_pile (P_need_pile : PV) : SV :=
  (sSeq (sDrop (eCall P_need_pile (aCons (eVar 0) aNil)))
  (sSeq (sAsg (eVar 0) (gvTup 3 (gvCons (gvName 1) (gvCons (gvName 2) (gvCons (gvName 3) gvNil)))))
  (sRet (eM1 oJoin (eC (.str " ")) (eFrz (fBin nCat (eFrz (fLst (aCons (eVar 1) (aCons (eVar 2) aNil)))) (eFrz (fLc [4, 5] (iLst (eVar 3)) (gvTup 2 (gvCons (gvName 4) (gvCons (gvName 5) gvNil))) bYes (eJoin [(eFmt (eVar 4)), (eFmt (eC (.str ">"))), (eFmt (eVar 5))])))))))))
abbrev N_show_pile : List Str := ["pile", "first", "stamps", "rules", "paper", "other"]
def T_Lw_right (P_Lw_pile P_show_pile P_read_pile P_Lw_same : PV) : SV :=
  (sSeq (sAsg (eCallT2 1 kf1 P_Lw_pile (aCons (eVar 0) (aCons (eVar 1) aNil))) (gvName 2))
  (sSeq (sAsg (eCB oRepr (aCons (eVar 2) aNil)) (gvName 3))
  (sSeq (sAsg (eBin oCatS (eBin oCatS (eBin oIxT (eVar 2) (eC (.int 0))) (eC (.str " "))) (eBin oIxT (eVar 2) (eC (.int 1)))) (gvName 4))
  (sSeq (sForC (iLst (eBin oIxT (eVar 2) (eC (.int 2)))) (gvTup 2 (gvCons (gvName 5) (gvCons (gvName 6) gvNil))) (sAsg (eBin oCatS (eBin oCatS (eBin oCatS (eBin oCatS (eVar 4) (eC (.str " "))) (eCB oStrI (aCons (eVar 5) aNil))) (eC (.str ">"))) (eCB oStrI (aCons (eVar 6) aNil))) (gvName 4)))
  (sSeq (sIf (bOr (bB (eBin (oEq true) (eCall P_show_pile (aCons (eVar 2) aNil)) (eVar 4))) (bB (eBin (oEq true) (eCB oRepr (aCons (eVar 2) aNil)) (eVar 3)))) (sRet (eC (.bl false))) sNext)
  (sSeq (sFor (iRange1 (aCons (eC (.int 2)) aNil)) (gvName 7) (sSeq (sAsg (eCallT2 0 kf1 P_read_pile (aCons (eVar 4) aNil)) (gvName 8))
  (sSeq (sIf (bNot (bB (eCall P_Lw_same (aCons (eVar 8) (aCons (eVar 2) aNil))))) (sRet (eC (.bl false))) sNext)
  (sSeq (sDrop (eMl mAppend (eBin oIxT (eVar 8) (eC (.int 2))) (aCons (eTup (aCons (eC (.int 0)) (aCons (eC (.int 0)) aNil))) aNil)))
  (sDrop (eMl mReverse (eBin oIxT (eVar 8) (eC (.int 2))) aNil))))))
  (sSeq (sIf (bB (eBin (oEq true) (eCall P_show_pile (aCons (eCallT2 0 kf1 P_read_pile (aCons (eVar 4) aNil)) aNil)) (eVar 4))) (sRet (eC (.bl false))) sNext)
  (sSeq (sDrop (eMl mClear (eBin oIxT (eVar 2) (eC (.int 2))) aNil))
  (sRet (eBin (oEq false) (eCall P_show_pile (aCons (eVar 2) aNil)) (eBin oCatS (eBin oCatS (eBin oIxT (eVar 2) (eC (.int 0))) (eC (.str " "))) (eBin oIxT (eVar 2) (eC (.int 1))))))))))))))
abbrev N_Lw_right : List Str := ["_law_pad_here", "_law_most", "_law_pile_here", "_law_kept", "_law_line", "_law_paper", "_law_other", "_law_lap", "_law_found"]
def T_law (P_Lw_right P_Lw_pad : PV) : SV :=
  (sSeq (sFor (iEnumD (aCons (eFrz (fSlL (eFrz (fBin nCat (eVar 0) (eFrz (fLst (aCons (eC (.int 0)) aNil))))) oNone (oSome (eCB oMax2 (aCons (eC (.int 1)) (aCons (eCB oMin2 (aCons (eCB oLenA (aCons (eVar 0) aNil)) (aCons (eC (.int 12)) aNil))) aNil)))))) aNil)) (gvTup 2 (gvCons (gvName 1) (gvCons (gvName 2) gvNil))) (sIf (bNot (bB (eCallK 1 kf1 P_Lw_right (aCons (eCell (fCall P_Lw_pad (aCons (eVar 2) (aCons (eVar 1) aNil)))) (aCons (eIf (bB (eBin (oEq false) (eVar 0) (eFrz (fLst aNil)))) (eC (.int 3)) (eC (.int 24))) aNil))))) (sRet (eC (.bl false))) sNext))
  (sRet (eC (.bl true))))
abbrev N_law : List Str := ["_law_script", "_law_k", "_law_cell"]
end K08
end RG
end L3
namespace L3
namespace PN
open PySem PySem.Spec PyProof.Rows L2
def T_Lw_pile (P_Lw_draw : PV) : SV :=
  (sSeq (sAsg (eBin oAdd (eC (.int 1)) (eCallK 1 kf1 P_Lw_draw (aCons (eVar 0) (aCons (eVar 1) aNil)))) (gvName 3))
  (sSeq (sAsg (eM1 oJoin (eC (.str "")) (eFrz (fLc [5] (iRange1 (aCons (eVar 3) aNil)) (gvName 5) bYes (eBin oIxS (eC (.str "RB")) (eCallK 1 kf1 P_Lw_draw (aCons (eVar 0) (aCons (eC (.int 2)) aNil))))))) (gvName 4))
  (sSeq (sAsg (eCell (fListRange (eVar 3))) (gvName 6))
  (sSeq (sAsg (eFrz (fLc [8] (iRange1 (aCons (eVar 3) aNil)) (gvName 8) bYes (eMl mPopAt (eVar 6) (aCons (eCallK 1 kf1 P_Lw_draw (aCons (eVar 0) (aCons (eCB oLenA (aCons (eVar 6) aNil)) aNil))) aNil)))) (gvName 7))
  (sSeq (sAsg (eCell fDt0) (gvName 9))
  (sSeq (sFor (iRange1 (aCons (eCallK 1 kf1 P_Lw_draw (aCons (eVar 0) (aCons (eBin oAdd (eVar 2) (eC (.int 1))) aNil))) aNil)) (gvName 8) (sSeq (sPar 10 11 (aCons (eCallK 1 kf1 P_Lw_draw (aCons (eVar 0) (aCons (eVar 3) aNil))) (aCons (eCallK 1 kf1 P_Lw_draw (aCons (eVar 0) (aCons (eVar 3) aNil))) aNil)))
  (sIf (bB (eBin (oEq true) (eVar 10) (eVar 11))) (sAsg (eC (.bl true)) (gvSubT (eVar 9) (eTup (aCons (eBin oIxL (eVar 7) (eCB oMin2 (aCons (eVar 10) (aCons (eVar 11) aNil)))) (aCons (eBin oIxL (eVar 7) (eCB oMax2 (aCons (eVar 10) (aCons (eVar 11) aNil)))) aNil))))) sNext)))
  (sRet (eTup (aCons (eBin oIxS (eC (.str "RB")) (eCallK 1 kf1 P_Lw_draw (aCons (eVar 0) (aCons (eC (.int 2)) aNil)))) (aCons (eVar 4) (aCons (eFrz (fCB nSortT (aCons (eVar 9) aNil))) aNil)))))))))))
abbrev N_Lw_pile : List Str := ["_law_bag_here", "_law_top", "_law_rules", "_law_many", "_law_stamps", "_law_paper", "_law_left", "_law_row", "_law_bout", "_law_found", "_law_one", "_law_two"]
def T_Lw_same (P_Lw_same : PV) : SV :=
  (sSeq (sIf (bB (eIsi2 .list .tuple (eVar 1))) (sSeq (sIf (bOr (bNot (bB (eIsi2 .list .tuple (eVar 0)))) (bB (eBin (oEq true) (eIsi .list (eVar 0)) (eIsi .list (eVar 1))))) (sRet (eC (.bl false))) sNext)
  (sRet (eAnd (eBin (oEq false) (eCB oLenA (aCons (eVar 0) aNil)) (eCB oLenA (aCons (eVar 1) aNil))) (eCB oAll (aCons (eFrz (fLc [2] (iRange1 (aCons (eCB oLenA (aCons (eVar 1) aNil)) aNil)) (gvName 2) bYes (eCall P_Lw_same (aCons (eBin oIxA (eVar 0) (eVar 2)) (aCons (eBin oIxA (eVar 1) (eVar 2)) aNil))))) aNil))))) sNext)
  (sSeq (sIf (bB (eIsi .int (eVar 1))) (sRet (eAnd (eIsi .int (eVar 0)) (eAnd (eBin (oEq false) (eIsi .bool (eVar 0)) (eIsi .bool (eVar 1))) (eBin (oEq false) (eVar 0) (eVar 1))))) sNext)
  (sRet (eBin (oEq false) (eVar 0) (eVar 1)))))
abbrev N_Lw_same : List Str := ["_law_found", "_law_due", "_law_k"]
def T_law (P_Lw_cells P_Lw_right P_Lw_bag : PV) : SV :=
  (sSeq (sFor (iEnumD (aCons (eCall P_Lw_cells (aCons (eVar 0) aNil)) aNil)) (gvTup 2 (gvCons (gvName 1) (gvCons (gvName 2) gvNil))) (sIf (bNot (bB (eCallK 1 kf2 P_Lw_right (aCons (eVar 0) (aCons (eCell (fCall P_Lw_bag (aCons (eVar 2) (aCons (eVar 1) aNil)))) aNil))))) (sRet (eC (.bl false))) sNext))
  (sRet (eC (.bl true))))
abbrev N_law : List Str := ["_law_script", "_law_k", "_law_cell"]
end PN
end L3
namespace L3
namespace PN
open PySem PySem.Spec PyProof.Rows L2
def Bag (c : Int) (x : Cell) : Prop := ∃ a b k : Int, x = .lst [.int a, .int b, .int k] ∧ 0 ≤ a ∧ 0 ≤ b ∧ b < 10 ^ 42 ∧ 0 ≤ k ∧ k ≤ c
theorem Bag.view {c : Int} {x : Cell} (h : Bag c x) {f : Bool → Bool} {g : Nat → D} : x.mapC f g = x := by
  obtain ⟨a, b, k, rfl, _⟩ := h
  rfl
theorem Bag.alive {c : Int} {x : Cell} (h : Bag c x) : x ≠ .dead := by
  obtain ⟨a, b, k, rfl, _⟩ := h
  simp
theorem Bag.ok {c : Int} {x : Cell} (h : Bag c x) : x.okC (fun o => !o) = true := by
  obtain ⟨a, b, k, rfl, _⟩ := h
  rfl
theorem Bag.finS {c : Int} {x : Cell} (h : Bag c x) {C : Store} : finS 1 (x :: C) = [x] := by
  obtain ⟨a, b, k, rfl, _⟩ := h
  rfl
theorem Bag.le {c c' : Int} {x : Cell} (h : Bag c x) (hc : c ≤ c') : Bag c' x := by
  obtain ⟨a, b, k, e, h1, h2, h3, h4, h5⟩ := h
  exact ⟨a, b, k, e, h1, h2, h3, h4, by omega⟩
def P_Lw_bag : PV := fun ds C Q => ∃ c k : Int, ds = [.int c, .int k] ∧ 0 ≤ k ∧ k < 1000 ∧ ∀ xs, Bag 0 (.lst xs) → flatDs xs = true → Q (.lst false xs) C
def P_Lw_draw : PV := fun ds C Q => ∃ (m c : Int) (x : Cell), ds = [.ptr 0, .int m] ∧ C = [x] ∧ Bag c x ∧ 0 < m ∧ m < 10 ^ 32 ∧ c < 10 ^ 6 ∧ ∀ r y, 0 ≤ r → r < m → Bag (c + 1) y → Q (.int r) [y]
theorem callB {kf : List D → List Nat} {P : PV} {k : Nat} {ds ds' : List D} {C1 : Store} {c : Int} {x : Cell} {Q : D → Store → Prop} (hkf : kf ds = [k]) (hk : C1[k]? = some x) (hx : Bag c x) (he : views [k] C1 ds = ds')
    (h : P ds' [x] fun d Cc => ∃ y c', Cc = [y] ∧ Bag c' y ∧ (noold d && noptr d) = true ∧ Q d (C1.set k y)) (mono : ∀ (R R' : D → Store → Prop), (∀ d Cc, R d Cc → R' d Cc) → P ds' [x] R → P ds' [x] R') : callK 1 kf P ds C1 Q := by
  unfold callK
  rw [hkf]
  refine ⟨rfl, List.nodup_cons.mpr ⟨by simp, List.nodup_nil⟩, fun k' hk' => ⟨x, ?_, hx.alive⟩, ?_⟩
  · simp at hk'; subst hk'; exact hk
  · have e3 : viewC [k] C1 = [x] := by
      unfold viewC
      simp only [List.map_cons, List.map_nil, hk, Option.getD_some]
      rw [hx.view]
    rw [he, e3]
    refine mono _ _ (fun d Cc hd => ?_) h
    obtain ⟨y, c', rfl, hy, hn, hq⟩ := hd
    simp only [Bool.and_eq_true] at hn
    refine ⟨hn.1, fun c hc => ?_, ?_⟩
    · simp at hc; subst hc; exact hy.ok
    · rw [mapW_np.1 d hn.2]
      show Q d ((C1.set k (y.mapC id (backG [k]))))
      rw [hy.view]
      exact hq
theorem views_p1 {k : Nat} {C1 : Store} {es : List D} : views [k] C1 (.ptr k :: es) = .ptr 0 :: mapWs (fun _ => true) (viewG [k] C1 2) es := by
  unfold views
  rw [mapWs]
  simp [mapW, viewG, posOf]
theorem mono_draw {ds : List D} {C : Store} (R R' : D → Store → Prop) (h : ∀ d Cc, R d Cc → R' d Cc) : P_Lw_draw ds C R → P_Lw_draw ds C R' := fun ⟨m, c, x, e1, e2, e3, e4, e5, e6, q⟩ => ⟨m, c, x, e1, e2, e3, e4, e5, e6, fun r y a b d => h _ _ (q r y a b d)⟩
theorem draw_k {m c : Int} {x : Cell} {k : Nat} {C1 : Store} {Q : D → Store → Prop} (hk : C1[k]? = some x) (hx : Bag c x) (hm : 0 < m) (hm2 : m < 10 ^ 32) (hc : c < 10 ^ 6) (q : ∀ r y, 0 ≤ r → r < m → Bag (c + 1) y → Q (.int r) (C1.set k y)) :
    callK 1 kf1 P_Lw_draw [.ptr k, .int m] C1 Q :=
  callB (k := k) (ds' := [.ptr 0, .int m]) rfl hk hx (by rw [views_p1]; rfl) ⟨m, c, x, rfl, rfl, hx, hm, hm2, hc, fun r y h0 h1 hy => ⟨y, _, rfl, hy, rfl, q r y h0 h1 hy⟩⟩ mono_draw
theorem draw_e {i k : Nat} {m c : Int} {x : Cell} {C1 : Store} {Γ : Slots} {E : EV} {Q : D → Store → Prop} (hk : C1[k]? = some x) (hx : Bag c x) (hv : Γ[i]? = some (some (.ptr k))) (hE : ∀ R : D → Store → Prop, R (.int m) C1 → E Γ C1 R) (hm : 0 < m) (hm2 : m < 10 ^ 32) (hc : c < 10 ^ 6)
    (q : ∀ r y, 0 ≤ r → r < m → Bag (c + 1) y → Q (.int r) (C1.set k y)) : eCallK 1 kf1 P_Lw_draw (aCons (eVar i) (aCons E aNil)) Γ C1 Q := by
  rw [u_eCallK]
  simp only [u_aCons, u_aNil, u_eVar]
  exact ⟨_, hv, hE _ (draw_k hk hx hm hm2 hc q)⟩
theorem kP_inj {z w : Int × Int} (h : kP z = kP w) : z = w := by
  simp only [kP, List.cons.injEq, Sum.inl.injEq] at h
  exact Prod.ext h.1 h.2.1
theorem hasT_pairs {z : Int × Int} {ps : List (Int × Int)} : hasT (kP z) (ps.map kP) = decide (z ∈ ps) := by
  unfold hasT
  rw [List.any_map]
  by_cases h : z ∈ ps
  · rw [decide_eq_true h]
    exact List.any_eq_true.mpr ⟨z, h, by simp⟩
  · rw [decide_eq_false h]
    refine Bool.eq_false_iff.mpr fun e => ?_
    obtain ⟨w, hw, e⟩ := List.any_eq_true.mp e
    have : w = z := kP_inj (by simpa using e)
    exact h (this ▸ hw)
def addP (z : Int × Int) (ps : List (Int × Int)) : List (Int × Int) := if z ∈ ps then ps else ps ++ [z]
theorem tPut_pairs {z : Int × Int} {ps : List (Int × Int)} : tPut (kP z) (ps.map kP) = (addP z ps).map kP := by
  unfold tPut addP
  rw [hasT_pairs]
  by_cases h : z ∈ ps
  · simp [h]
  · simp [h]
theorem yPut_pairs {z : Int × Int} {ps : List (Int × Int)} : yPut (kP z) (.bl true) (ps.map kP) (ps.map fun _ => .bl true) = (addP z ps).map fun _ => .bl true := by
  unfold yPut addP
  rw [hasT_pairs]
  by_cases h : z ∈ ps
  · have : ∀ (ps : List (Int × Int)), ((ps.map kP).zip (ps.map fun _ => D.bl true)).map (fun w => if w.1 = kP z then D.bl true else w.2) = ps.map fun _ => .bl true := by
      intro ps
      induction ps with
      | nil => rfl
      | cons a ps ih => simp only [List.map_cons, List.zip_cons_cons, ih, ite_self]
    simp only [h, decide_true, if_true]
    exact this ps
  · simp [h]
theorem kP_D (z : Int × Int) : D.tup ((kP z).map kD) = pD z := rfl
theorem sum_one : ∀ l : List Str, (∀ y, y ∈ l → y = cR ∨ y = cB) → (l.map (·.length)).sum = l.length
  | [], _ => rfl
  | y :: l, h => by
    have e : y.length = 1 := by rcases h y (List.mem_cons_self ..) with rfl | rfl <;> rfl
    rw [List.map_cons, List.sum_cons, e, sum_one l fun z hz => h z (List.mem_cons_of_mem _ hz), List.length_cons]
    omega
theorem signs_e {i v w : Nat} {n k : Nat} {c : Int} {x : Cell} {C1 : Store} {Γ : Slots} {Q : D → Store → Prop} (hk : C1[k]? = some x) (hx : Bag c x) (hv : (wipe3 Γ [w])[i]? = some (some (.ptr k))) (hiw : i ≠ w) (hn : Γ[v]? = some (some (.int (n : Nat)))) (hn24 : n ≤ 24) (hc : c < 10 ^ 5)
    (q : ∀ (st : Str) (y : Cell), st.length = n → (∀ c, c ∈ st.cps.toList → c = 82 ∨ c = 66) → Bag (c + n) y → Q (.str st) (C1.set k y)) :
    eM1 oJoin (eC (.str "")) (eFrz (fLc [w] (iRange1 (aCons (eVar v) aNil)) (gvName w) bYes (eBin oIxS (eC (.str "RB")) (eCallK 1 kf1 P_Lw_draw (aCons (eVar i) (aCons (eC (.int 2)) aNil)))))) Γ C1 Q := by
  have hz := sizeL
  refine ⟨⟨_, rfl⟩, _, hn, n, rfl, by omega, by omega, ?_⟩
  have hset : ∀ (y z : Cell), (C1.set k y).set k z = C1.set k z := fun y z => by rw [List.set_set]
  have hkl : k < C1.length := (List.getElem?_eq_some_iff.mp hk).1
  have hself : C1.set k x = C1 := by
    obtain ⟨_, e⟩ := List.getElem?_eq_some_iff.mp hk
    rw [← e]
    exact List.set_getElem_self hkl
  refine lcW_run (fun ds acc C => ∃ (ss : List Str) (y : Cell), ss.length + ds.length = n ∧ acc = ss.map .str ∧ C = C1.set k y ∧ Bag (c + ss.length) y ∧ ∀ s, s ∈ ss → s = cR ∨ s = cB) ?step ?stop _ _ _ ⟨[], x, by rw [rg_upto]; simp [upto], rfl, hself.symm, by simpa using hx, fun s hs => by simp at hs⟩
  case step =>
    rintro d ds acc C ⟨ss, y, hl, rfl, rfl, hy, hs⟩ R hR
    simp only [List.length_cons] at hl
    rw [u_gvName, u_bYes, if_pos rfl, u_eBin, u_eC]
    refine draw_e (k := k) (m := 2) (x := y) (by rw [List.getElem?_set_self hkl]) hy (by rw [List.getElem?_set_ne (Ne.symm hiw)]; exact hv) (fun R h => h) (by decide) (by decide) (by omega) fun r y2 h0 h1 hy2 => ?_
    obtain ⟨cc, hcc, hcs⟩ := RB_at h0 h1
    refine ⟨_, _, cc, rfl, rfl, by rw [RB_len, hz]; decide, hcc, ?_⟩
    rw [hset]
    refine ⟨by rw [hz, List.length_map]; omega, fun k hk => by simp at hk, hR _ _ ⟨ss ++ [⟨#[cc]⟩], y2, by simp; omega, by simp, rfl, by simp only [List.length_append, List.length_singleton]; exact hy2.le (by omega), fun s hs' => ?_⟩⟩
    rcases List.mem_append.mp hs' with h | h
    · exact hs s h
    · rw [List.mem_singleton.mp h]; exact hcs
  case stop =>
    rintro acc C ⟨ss, y, hl, rfl, rfl, hy, hs⟩
    simp only [List.length_nil, Nat.add_zero] at hl
    obtain ⟨jl, jc⟩ := join_signs ss hs
    refine ⟨Str.ofString "", _, ss, rfl, rfl, rfl, ?_, q _ _ (by rw [jl, hl]) jc (by rw [← hl]; exact hy)⟩
    rw [sum_one ss hs]
    have e0 : (Str.ofString "").length = 0 := by decide +kernel
    rw [e0]
    omega
end PN
end L3
namespace L3
namespace PN
open PySem PySem.Spec PyProof.Rows L2
theorem set_at {C : Store} {k : Nat} {x y : Cell} (h : C[k]? = some x) : (C.set k y)[k]? = some y := List.getElem?_set_self (List.getElem?_eq_some_iff.mp h).1
theorem fin_pil' {n : Nat} {C : Store} {f st : Str} {rs : List (Int × Int)} : fin n C (pil false f st rs) = pil false f st rs := by
  have h := np_pil (f := f) (st := st) (rs := rs)
  simp only [Bool.and_eq_true] at h
  exact mapW_np.1 _ h.2
theorem pil_of {n : Nat} {f st : Str} {qs : List (Int × Int)} {ord : List Int} {ps : List (Int × Int)} (hf : f = cR ∨ f = cB) (h1 : 1 ≤ n) (hn : n ≤ 24) (hl : st.length = n) (hs : ∀ c, c ∈ st.cps.toList → c = 82 ∨ c = 66) (ho : ord.Perm (upto n)) (nd : ps.Nodup) (hps : ps.length ≤ 60) (ha : Along ord ps)
    (hp : qs.Perm ps) (hsr : qs.Pairwise fun x y => SrtO.lexB y x = false) : Pil f st qs := by
  obtain ⟨r1, r2⟩ := along_ok (n := n) ho (hp.nodup_iff.mpr nd) (by rw [hp.length_eq]; exact hps) (fun z hz => ha z (hp.mem_iff.mp hz)) hsr
  rw [← hl] at r1
  exact ⟨hf, by omega, by omega, hs, r1, r2⟩
def P_Lw_pile : PV := fun ds C Q => ∃ (t r c : Int) (x : Cell), ds = [.ptr 0, .int t, .int r] ∧ C = [x] ∧ Bag c x ∧ c < 10 ^ 4 ∧ 1 ≤ t ∧ t ≤ 24 ∧ 0 ≤ r ∧ r ≤ 60 ∧
  ∀ f st rs c' y, Pil f st rs → (st.length : Int) ≤ t → Bag c' y → c' ≤ c + 200 → Q (pil false f st rs) [y]
theorem v_Lw_pile (ds : List D) (C : Store) (Q3 : D → Store → Prop) (h : P_Lw_pile ds C Q3) (hC : C.length = 1) : T_Lw_pile P_Lw_draw (enF 1 Q3) (start3 N_Lw_pile ds) C := by
  obtain ⟨t, r, c, x, rfl, rfl, hx, hc, ht0, ht1, hr0, hr1, q⟩ := h
  have hz := sizeL
  show sSeq (sAsg (eBin oAdd (eC (.int 1)) (eCallK 1 kf1 P_Lw_draw (aCons (eVar 0) (aCons (eVar 1) aNil)))) (gvName 3)) _ _ _ _
  rw [u_sSeq, u_sAsg, u_eBin, u_eC]
  refine draw_e (k := 0) (m := t) rfl hx rfl (fun R h => ⟨_, rfl, h⟩) (by omega) (by omega) (by omega) fun m1 y1 hm0 hm1 hy1 => ?_
  obtain ⟨m, rfl⟩ := Int.eq_ofNat_of_zero_le hm0
  refine ⟨_, _, rfl, rfl, ?_⟩
  obtain ⟨n, en⟩ : ∃ n : Nat, n = m + 1 := ⟨_, rfl⟩
  show gvName 3 (D.int ((1 : Int) + (m : Nat))) _ _ _
  rw [show (1 : Int) + (m : Nat) = (n : Nat) by omega]
  have hn1 : 1 ≤ n := by omega
  have hn24 : n ≤ 24 := by omega
  rw [u_gvName]
  dsimp only
  rw [u_sSeq, u_sAsg]
  refine signs_e (k := 0) (i := 0) (v := 3) (n := n) (x := y1) rfl hy1 rfl (by decide) rfl hn24 (by omega) fun st y2 hst hsg hy2 => ?_
  refine ⟨_, rfl, n, rfl, by omega, by omega, ?_⟩
  rw [rg_upto]
  refine ⟨_, rfl, n, rfl, by omega, by omega, ?_⟩
  refine lcW_run (fun ds acc C => ∃ (as L : List Int) (y : Cell) (c' : Int), ds.length = L.length ∧ acc = as.map .int ∧ C = [y, .lst (L.map .int)] ∧ (as ++ L).Perm (upto n) ∧ Bag c' y ∧ c' = c + 1 + n + as.length) ?step ?stop _ _ _ ⟨[], upto n, y2, c + 1 + n, by rw [rg_upto]; simp, rfl, rfl, List.Perm.refl _, hy2, by simp⟩
  case step =>
    rintro d ds acc C ⟨as, L, y, c', hl, rfl, rfl, hp, hy, hc'⟩ R hR
    have hpl := hp.length_eq
    simp [upto] at hpl
    simp only [List.length_cons] at hl
    rw [u_gvName, u_bYes, if_pos rfl, u_eMl]
    refine ⟨_, rfl, L.map .int, rfl, ?_⟩
    rw [u_aCons]
    refine draw_e (k := 0) (m := (L.length : Nat)) (x := y) rfl hy rfl (fun R h => ⟨_, rfl, _, _, rfl, rfl, by rw [List.length_map]; exact h⟩) (by omega) (by omega) (by omega) fun r y2 h0 h1 hy2 => ?_
    obtain ⟨j, rfl⟩ := Int.eq_ofNat_of_zero_le h0
    have hj : j < L.length := by omega
    refine ⟨1, L.map .int, (j : Nat), j, .int L[j], rfl, rfl, rfl, by omega, by omega, by rw [List.length_map]; exact seq_ix h0 h1, by rw [List.getElem?_map, List.getElem?_eq_getElem hj]; rfl, by simp; omega, fun k hk => by simp at hk, ?_⟩
    refine hR _ _ ⟨as ++ [L[j]], L.eraseIdx j, y2, c' + 1, by rw [List.length_eraseIdx_of_lt hj]; omega, by simp, ?_, ?_, hy2, by simp; omega⟩
    · show [y2, Cell.lst ((L.map D.int).eraseIdx j)] = _
      rw [er_map]
    · refine List.Perm.trans ?_ hp
      rw [List.append_assoc]
      refine List.Perm.append_left as ?_
      rw [List.eraseIdx_eq_take_drop_succ]
      show (L[j] :: (L.take j ++ L.drop (j + 1))).Perm L
      refine List.perm_middle.symm.trans ?_
      rw [← List.drop_eq_getElem_cons hj, List.take_append_drop]
  case stop =>
    rintro acc C ⟨as, L, y, c', hl, rfl, rfl, hp, hy, hc'⟩
    have hL : L = [] := List.length_eq_zero_iff.mp hl.symm
    subst hL
    rw [List.append_nil] at hp
    have al : as.length = n := by rw [hp.length_eq]; simp [upto]
    have aml : (as.map D.int).length = n := by rw [List.length_map, al]
    have at_get : ∀ j : Nat, j < n → ∃ v : Int, as[j]? = some v ∧ atI (as.map D.int) (j : Int) = some (.int v) := fun j hj => by
      refine ⟨as[j]'(by omega), List.getElem?_eq_getElem _, ?_⟩
      unfold atI
      rw [aml, ix_nat hj]
      show (as.map D.int)[j]? = _
      rw [List.getElem?_map, List.getElem?_eq_getElem (by omega)]
      rfl
    show sSeq (sAsg (eCell fDt0) (gvName 9)) (sSeq (sFor (iRange1 (aCons (eCallK 1 kf1 P_Lw_draw (aCons (eVar 0) (aCons (eBin oAdd (eVar 2) (eC (.int 1))) aNil))) aNil)) _ _) _) _ _ _
    rw [u_sSeq, u_sAsg]
    show sSeq (sFor (iRange1 (aCons (eCallK 1 kf1 P_Lw_draw (aCons (eVar 0) (aCons (eBin oAdd (eVar 2) (eC (.int 1))) aNil))) aNil)) _ _) _ _ _ _
    rw [u_sSeq]
    unfold sFor iRange1
    rw [u_aCons]
    refine draw_e (k := 0) (m := r + 1) (x := y) rfl hy rfl (fun R h => ⟨_, rfl, _, _, rfl, rfl, h⟩) (by omega) (by omega) (by omega) fun cnt y3 hc0 hc1 hy3 => ?_
    refine ⟨cnt, rfl, by omega, by omega, rfl, np_rg' 0 _, ?_⟩
    refine forW_run (fun ds Γ C => ∃ (k : Nat) (ps : List (Int × Int)) (y : Cell) (c2 : Int), k + ds.length = cnt.toNat ∧ C = [y, .lst [], .dt (ps.map kP) (ps.map fun _ => .bl true)] ∧ Bag c2 y ∧ c2 ≤ c' + 1 + 2 * k ∧ ps.Nodup ∧ ps.length ≤ k ∧ Along as ps ∧
      ∃ a b e g, Γ = [some (.ptr 0), some (.int t), some (.int r), some (.int (n : Nat)), some (.str st), a, some (.ptr 1), some (.lst false (as.map .int)), b, some (.ptr 2), e, g]) ?step2 ?stop2 _ _ _ ⟨0, [], y3, c' + 1, by rw [rg_len']; simp, rfl, hy3, by omega, List.nodup_nil, by simp, fun z h => by simp at h, _, _, _, _, rfl⟩
    case step2 =>
      rintro d ds Γ C ⟨k, ps, y, c2, hk, rfl, hy, hc2, nd, hpl, hal, a, b, e, g, rfl⟩ R hR
      simp only [List.length_cons] at hk
      rw [u_gvName, u_sSeq, u_sPar, u_aCons]
      refine draw_e (k := 0) (m := (n : Nat)) (x := y) rfl hy rfl (fun R h => ⟨_, rfl, h⟩) (by omega) (by omega) (by omega) fun r1 y4 ha0 ha1 hy4 => ?_
      rw [u_aCons]
      refine draw_e (k := 0) (m := (n : Nat)) (x := y4) rfl hy4 rfl (fun R h => ⟨_, rfl, h⟩) (by omega) (by omega) (by omega) fun r2 y5 hb0 hb1 hy5 => ?_
      refine ⟨_, _, rfl, ?_⟩
      obtain ⟨an, rfl⟩ := Int.eq_ofNat_of_zero_le ha0
      obtain ⟨bn, rfl⟩ := Int.eq_ofNat_of_zero_le hb0
      refine ⟨_, rfl, _, rfl, _, rfl, ?_⟩
      by_cases hab : an = bn
      · refine goF (by simp [hab]) ?_
        exact hR _ _ ⟨k + 1, ps, y5, _, by omega, rfl, hy5, by omega, nd, by omega, hal, _, _, _, _, rfl⟩
      · refine goT (by simp; omega) ?_
        obtain ⟨v1, e1, e2⟩ := at_get (min an bn) (by omega)
        obtain ⟨v2, e3, e4⟩ := at_get (max an bn) (by omega)
        have em : min (an : Int) (bn : Int) = ((min an bn : Nat) : Int) := by omega
        have eM : max (an : Int) (bn : Int) = ((max an bn : Nat) : Int) := by omega
        refine ⟨_, rfl, _, rfl, _, rfl, _, rfl, _, _, rfl, _, _, _, rfl, rfl, (by rw [em]; exact e2), _, rfl, _, rfl, _, rfl, _, _, rfl, _, _, _, rfl, rfl, (by rw [eM]; exact e4), by rw [hz]; show 2 ≤ 16777216; decide, ?_⟩
        refine ⟨2, ps.map kP, ps.map fun _ => .bl true, kP (v1, v2), rfl, rfl, rfl, by rw [List.length_map, hz]; omega, ?_⟩
        rw [tPut_pairs, yPut_pairs]
        refine hR _ _ ⟨k + 1, addP (v1, v2) ps, y5, _, by omega, rfl, hy5, by omega, ?_, ?_, ?_, _, _, _, _, rfl⟩
        · unfold addP
          by_cases hm : (v1, v2) ∈ ps
          · rw [if_pos hm]; exact nd
          · rw [if_neg hm]
            refine List.nodup_append.mpr ⟨nd, by simp, fun a ha b hb e => ?_⟩
            simp at hb
            subst e hb
            exact hm ha
        · unfold addP
          split
          · omega
          · rw [List.length_append, List.length_singleton]
            omega
        · intro z hz'
          unfold addP at hz'
          split at hz'
          · exact hal z hz'
          · rcases List.mem_append.mp hz' with h | h
            · exact hal z h
            · simp at h
              subst h
              exact ⟨min an bn, max an bn, by omega, e1, e3⟩
    case stop2 =>
      rintro Γ C ⟨k, ps, y, c2, hk, rfl, hy, hc2, nd, hpl, hal, a, b, e, g, rfl⟩
      simp only [List.length_nil, Nat.add_zero] at hk
      show sRet (eTup (aCons (eBin oIxS (eC (.str "RB")) (eCallK 1 kf1 P_Lw_draw (aCons (eVar 0) (aCons (eC (.int 2)) aNil)))) (aCons (eVar 4) (aCons (eFrz (fCB nSortT (aCons (eVar 9) aNil))) aNil)))) _ _ _
      rw [u_sRet, u_eTup, u_aCons, u_eBin, u_eC]
      refine draw_e (k := 0) (m := 2) (x := y) rfl hy rfl (fun R h => h) (by decide) (by decide) (by omega) fun rf y6 hf0 hf1 hy6 => ?_
      obtain ⟨cc, hcc, hcs⟩ := RB_at hf0 hf1
      refine ⟨_, _, cc, rfl, rfl, by rw [RB_len, hz]; decide, hcc, ?_⟩
      refine ⟨_, rfl, _, rfl, _, ps, _, rfl, rfl, fun qs hq hs => ⟨by rw [hz]; show 3 ≤ 16777216; decide, ?_⟩⟩
      have hp' := pil_of hcs hn1 hn24 hst hsg hp nd (by omega) hal hq hs
      obtain ⟨ja, jb, jk, rfl, hj⟩ := hy6
      show Q3 (fin 1 _ (pil false ⟨#[cc]⟩ st qs)) [Cell.lst [.int ja, .int jb, .int jk]]
      rw [fin_pil']
      exact q _ _ _ (c2 + 1) _ hp' (by omega) ⟨ja, jb, jk, rfl, hj⟩ (by omega)
end PN
end L3
namespace L3
namespace PN
open PySem PySem.Spec PyProof.Rows L2
end PN
end L3
namespace L3
namespace PN
open PySem PySem.Spec PyProof.Rows L2
theorem range_drop {n k : Nat} {it : Nat → D} (h : k < n) : ((List.range n).drop k).map it = it k :: ((List.range n).drop (k + 1)).map it := by
  rw [List.drop_eq_getElem_cons (by simpa using h)]
  simp
theorem lc_go {G : GV} {B : BV} {E : EV} {Γ : Slots} {ok : Store → Prop} {Q : Cell → Store → Prop} {C : Store} {n : Nat} (it : Nat → D) (I : Nat → List D → Store → Prop) (h0 : I 0 [] C)
    (step : ∀ k acc C, k < n → I k acc C → ∀ R : List D → Store → Prop, (∀ acc' C', I (k + 1) acc' C' → R acc' C') →
      G (it k) Γ C fun Γ1 C1 => B Γ1 C1 fun b C2 => if b = true then E Γ1 C2 fun y C3 => acc.length < sizeLine ∧ ok C3 ∧ R (acc ++ [y]) C3 else ok C2 ∧ R acc C2)
    (stop : ∀ acc C, I n acc C → Q (.lst acc) C) : lcW G B E Γ ok Q ((List.range n).map it) [] C := by
  refine lcW_run (fun ds acc C => ∃ k, k ≤ n ∧ ds = ((List.range n).drop k).map it ∧ I k acc C) (fun d ds acc C h R hR => ?_) (fun acc C h => ?_) _ _ _ ⟨0, Nat.zero_le _, by simp, h0⟩
  · obtain ⟨k, hk, e, i⟩ := h
    by_cases hkn : k < n
    · rw [range_drop hkn, List.cons.injEq] at e
      obtain ⟨rfl, rfl⟩ := e
      exact step k acc C hkn i R fun acc' C' i' => hR _ _ ⟨k + 1, hkn, rfl, i'⟩
    · have : k = n := by omega
      subst this
      rw [List.drop_eq_nil_of_le (by simp)] at e
      cases e
  · obtain ⟨k, hk, e, i⟩ := h
    by_cases hkn : k < n
    · rw [range_drop hkn] at e
      cases e
    · have : k = n := by omega
      subst this
      exact stop acc C i
theorem lc_rows {G : GV} {E : EV} {Γ : Slots} {ok : Store → Prop} {Q : Cell → Store → Prop} {C : Store} {n : Nat} (it out : Nat → D) (hok : ok C) (hn : n ≤ sizeLine)
    (h : ∀ j, j < n → ∀ R : D → Store → Prop, R (out j) C → G (it j) Γ C fun Γ1 C1 => E Γ1 C1 R) (q : Q (.lst ((List.range n).map out)) C) : lcW G bYes E Γ ok Q ((List.range n).map it) [] C := by
  refine lc_go it (fun k acc C' => C' = C ∧ acc = (List.range k).map out) ⟨rfl, rfl⟩ (fun k acc C' hk ⟨e1, e2⟩ R hR => ?_) (fun acc C' ⟨e1, e2⟩ => ?_)
  · subst e1 e2
    refine h k hk _ ⟨by simp; omega, hok, hR _ _ ⟨rfl, ?_⟩⟩
    rw [List.range_succ, List.map_append]
    rfl
  · subst e1 e2
    exact q
theorem lc_rowsF {G : GV} {B : BV} {E : EV} {Γ : Slots} {ok : Store → Prop} {Q : Cell → Store → Prop} {C : Store} {n : Nat} (it out : Nat → D) (t : Nat → Bool) (hok : ok C) (hn : n ≤ sizeLine)
    (h : ∀ j, j < n → ∀ R : D → Store → Prop, ∀ R' : Store → Prop, (t j = true → R (out j) C) → (t j = false → R' C) → G (it j) Γ C fun Γ1 C1 => B Γ1 C1 fun b C2 => if b = true then E Γ1 C2 R else R' C2) (q : Q (.lst (((List.range n).filter t).map out)) C) : lcW G B E Γ ok Q ((List.range n).map it) [] C := by
  refine lc_go it (fun k acc C' => C' = C ∧ acc = ((List.range k).filter t).map out) ⟨rfl, rfl⟩ (fun k acc C' hk ⟨e1, e2⟩ R hR => ?_) (fun acc C' ⟨e1, e2⟩ => ?_)
  · subst e1 e2
    refine h k hk _ _ (fun ht => ⟨?_, hok, hR _ _ ⟨rfl, ?_⟩⟩) fun ht => ⟨hok, hR _ _ ⟨rfl, ?_⟩⟩
    · have := List.length_filter_le t (List.range k)
      simp at this ⊢
      omega
    · rw [List.range_succ, List.filter_append, List.map_append]
      simp [ht]
    · rw [List.range_succ, List.filter_append, List.map_append]
      simp [ht]
  · subst e1 e2
    exact q
theorem rgI_range (n : Nat) : rgI 0 ((n : Int)).toNat = (List.range n).map fun j : Nat => D.int (j : Nat) := by
  rw [rg_upto]
  unfold upto
  rw [List.map_map]
  rfl
theorem b01 (f st : Str) (j : Nat) : bsOf f st j = 0 ∨ bsOf f st j = 1 := by
  have := neq01 (sg st j) (f0 f)
  have e : bsOf f st j = neq (sg st j) (f0 f) := rfl
  omega
end PN
end L3
namespace L3
namespace PN
open PySem PySem.Spec PyProof.Rows L2
section
variable {α : Type} {G : GV} {B : BV} {E : EV} {Γ : Slots} {ok : Store → Prop} {Q : Cell → Store → Prop} {C : Store}
theorem lc_of (l : List α) (it out : α → D) (hok : ok C) (hn : l.length ≤ sizeLine)
    (h : ∀ a, a ∈ l → ∀ R : D → Store → Prop, R (out a) C → G (it a) Γ C fun Γ1 C1 => E Γ1 C1 R) (q : Q (.lst (l.map out)) C) : lcW G bYes E Γ ok Q (l.map it) [] C := by
  refine lcW_run (fun ds acc C' => C' = C ∧ ∃ p r, l = p ++ r ∧ ds = r.map it ∧ acc = p.map out) (fun d ds acc C' ⟨e, p, r, e1, e2, e3⟩ R hR => ?_) (fun acc C' ⟨e, p, r, e1, e2, e3⟩ => ?_) _ _ _ ⟨rfl, [], l, rfl, rfl, rfl⟩
  · subst e e3
    cases r with
    | nil => cases e2
    | cons a r =>
      rw [List.map_cons, List.cons.injEq] at e2
      obtain ⟨rfl, rfl⟩ := e2
      refine h a (by rw [e1]; simp) _ ⟨?_, hok, hR _ _ ⟨rfl, p ++ [a], r, by rw [e1]; simp, rfl, by simp⟩⟩
      rw [e1] at hn
      simp at hn ⊢
      omega
  · subst e e3
    cases r with
    | nil =>
      rw [List.append_nil] at e1
      subst e1
      exact q
    | cons a r => cases e2
theorem lc_ofF (l : List α) (it out : α → D) (t : α → Bool) (hok : ok C) (hn : l.length ≤ sizeLine)
    (h : ∀ a, a ∈ l → ∀ R : D → Store → Prop, ∀ R' : Store → Prop, (t a = true → R (out a) C) → (t a = false → R' C) → G (it a) Γ C fun Γ1 C1 => B Γ1 C1 fun b C2 => if b = true then E Γ1 C2 R else R' C2) (q : Q (.lst ((l.filter t).map out)) C) : lcW G B E Γ ok Q (l.map it) [] C := by
  refine lcW_run (fun ds acc C' => C' = C ∧ ∃ p r, l = p ++ r ∧ ds = r.map it ∧ acc = (p.filter t).map out) (fun d ds acc C' ⟨e, p, r, e1, e2, e3⟩ R hR => ?_) (fun acc C' ⟨e, p, r, e1, e2, e3⟩ => ?_) _ _ _ ⟨rfl, [], l, rfl, rfl, rfl⟩
  · subst e e3
    cases r with
    | nil => cases e2
    | cons a r =>
      rw [List.map_cons, List.cons.injEq] at e2
      obtain ⟨rfl, rfl⟩ := e2
      refine h a (by rw [e1]; simp) _ _ (fun ht => ⟨?_, hok, hR _ _ ⟨rfl, p ++ [a], r, by rw [e1]; simp, rfl, by simp [List.filter_append, ht]⟩⟩) fun ht => ⟨hok, hR _ _ ⟨rfl, p ++ [a], r, by rw [e1]; simp, rfl, by simp [List.filter_append, ht]⟩⟩
      have := List.length_filter_le t p
      rw [e1] at hn
      simp at hn ⊢
      omega
  · subst e e3
    cases r with
    | nil =>
      rw [List.append_nil] at e1
      subst e1
      exact q
    | cons a r => cases e2
end
structure PlanU (f st : Str) (rs : List (Int × Int)) (w : Nat → Int) : Prop where
  blk : ∀ j, j < st.length → 0 ≤ w j ∧ w j % 2 = bsOf f st j
  led : ∀ z, z ∈ rs → w z.1.toNat ≤ w z.2.toNat
theorem Plan.u {f st : Str} {rs : List (Int × Int)} {t : Int} {w : Nat → Int} (P : Plan f st rs t w) : PlanU f st rs w :=
  ⟨fun j hj => by have := P.blk j hj; have := b01 f st j; omega, P.led⟩
end PN
end L3
namespace L3
namespace PN
open PySem PySem.Spec PyProof.Rows L2
end PN
end L3
namespace L3
namespace PN
open PySem PySem.Spec PyProof.Rows L2
def P_Lw_cells : PV := fun ds C Q => ∃ (o : Bool) (ns : List Int), ds = [.lst o (ns.map .int)] ∧ ns.length ≤ 63 ∧ ∀ ms : List Int, ms.length ≤ 64 → Q (.lst false (ms.map .int)) C
theorem mono_pile {ds : List D} {C : Store} (R R' : D → Store → Prop) (h : ∀ d Cc, R d Cc → R' d Cc) : P_Lw_pile ds C R → P_Lw_pile ds C R' := fun ⟨t, r, c, x, e1, e2, e3, e4, e5, e6, e7, e8, q⟩ => ⟨t, r, c, x, e1, e2, e3, e4, e5, e6, e7, e8, fun f st rs c' y a b d e => h _ _ (q f st rs c' y a b d e)⟩
end PN
end L3
namespace L3
namespace PN
open PySem PySem.Spec PyProof.Rows L2
inductive Sm : Nat → D → D → Prop
  | int {k : Nat} {n : Int} : Sm k (.int n) (.int n)
  | lst {k : Nat} {o o' : Bool} {xs ys : List D} : xs.length = ys.length → ys.length ≤ 10000 → (∀ (i : Nat) (x y : D), xs[i]? = some x → ys[i]? = some y → Sm k x y) → Sm (k + 1) (.lst o xs) (.lst o' ys)
  | tup {k : Nat} {xs ys : List D} : xs.length = ys.length → ys.length ≤ 10000 → (∀ (i : Nat) (x y : D), xs[i]? = some x → ys[i]? = some y → Sm k x y) → Sm (k + 1) (.tup xs) (.tup ys)
theorem mapWs_get {h : Bool → Bool} {g : Nat → D} : ∀ {xs : List D} {i : Nat} {x : D}, (mapWs h g xs)[i]? = some x → ∃ y, xs[i]? = some y ∧ x = mapW h g y
  | [], _, _, e => by simp [mapWs] at e
  | a :: l, 0, x, e => by simp [mapWs] at e; exact ⟨a, rfl, e.symm⟩
  | a :: l, i + 1, x, e => by
    have e' : (mapWs h g l)[i]? = some x := by simpa [mapWs] using e
    simpa using mapWs_get e'
theorem mapWs_len {h : Bool → Bool} {g : Nat → D} : ∀ xs : List D, (mapWs h g xs).length = xs.length
  | [] => rfl
  | _ :: l => by simp only [mapWs, List.length_cons, mapWs_len l]
theorem Sm.view {k : Nat} {x y : D} (s : Sm k x y) {h h' : Bool → Bool} {g g' : Nat → D} : Sm k (mapW h g x) (mapW h' g' y) := by
  induction s with
  | int => exact .int
  | lst e hl _ ih =>
    refine .lst (by rw [mapWs_len, mapWs_len, e]) (by rw [mapWs_len]; exact hl) fun i x y e1 e2 => ?_
    obtain ⟨x', f1, rfl⟩ := mapWs_get e1
    obtain ⟨y', f2, rfl⟩ := mapWs_get e2
    exact ih i x' y' f1 f2
  | tup e hl _ ih =>
    refine .tup (by rw [mapWs_len, mapWs_len, e]) (by rw [mapWs_len]; exact hl) fun i x y e1 e2 => ?_
    obtain ⟨x', f1, rfl⟩ := mapWs_get e1
    obtain ⟨y', f2, rfl⟩ := mapWs_get e2
    exact ih i x' y' f1 f2
theorem Sm.up {k : Nat} {x y : D} (s : Sm k x y) : Sm (k + 1) x y := by
  induction s with
  | int => exact .int
  | lst e hl _ ih => exact .lst e hl ih
  | tup e hl _ ih => exact .tup e hl ih
theorem Sm.ints {k : Nat} {o o' : Bool} {l : List Int} (h : l.length ≤ 10000) : Sm (k + 1) (.lst o (l.map .int)) (.lst o' (l.map .int)) := .lst rfl (by simpa using h) fun i x y e1 e2 => by
  rw [e1] at e2
  cases e2
  rw [List.getElem?_map] at e1
  cases hl : l[i]? with
  | none => rw [hl] at e1; cases e1
  | some n => rw [hl] at e1; cases e1; exact .int
theorem Sm.wL {k n : Nat} {o o' : Bool} {a b : Nat → Int} (h : n ≤ 24) (e : ∀ j, j < n → a j = b j) : Sm (k + 1) (.lst o (wL n a)) (.lst o' (wL n b)) := by
  rw [wL_congr e, wL_ints]
  exact .ints (by simp; omega)
def P_sm (k : Nat) : PV := fun ds C Q => ∃ x y, ds = [x, y] ∧ Sm k x y ∧ Q (.bl true) C
end PN
end L3
namespace L3
namespace PN
open PySem PySem.Spec PyProof.Rows L2
theorem PlanU.nn {f st : Str} {rs : List (Int × Int)} {w : Nat → Int} (P : PlanU f st rs w) {j : Nat} (hj : j < st.length) : 0 ≤ w j := (P.blk j hj).1
def P_Lw_right : PV := fun ds C Q => ∃ (ns : List Int) (x : Cell), ds = [.lst true (ns.map .int), .ptr 0] ∧ C = [x] ∧ Bag 0 x ∧ ns.length ≤ 63 ∧ ∀ y c', Bag c' y → Q (.bl true) [y]
theorem mono_right {ds : List D} {C : Store} (R R' : D → Store → Prop) (h : ∀ d Cc, R d Cc → R' d Cc) : P_Lw_right ds C R → P_Lw_right ds C R' := fun ⟨ns, x, e1, e2, e3, e4, q⟩ => ⟨ns, x, e1, e2, e3, e4, fun y c' a => h _ _ (q y c' a)⟩
theorem enum_ints (ms : List Int) : enumD 0 (ms.map .int) = (List.range ms.length).map fun i : Nat => .tup [.int (i : Nat), .int (ms.getD i 0)] := by
  apply List.ext_getElem?
  intro i
  by_cases h : i < ms.length
  · have e : (ms.map D.int)[i]? = some (.int (ms.getD i 0)) := by
      rw [List.getElem?_map, List.getElem?_eq_getElem h, List.getD_eq_getElem?_getD, List.getElem?_eq_getElem h]
      rfl
    rw [enumD_get _ 0 i e, List.getElem?_map, List.getElem?_range h, Nat.zero_add]
    rfl
  · rw [List.getElem?_eq_none (by rw [enumD_len, List.length_map]; omega), List.getElem?_eq_none (by simp; omega)]
def P_law : PV := fun ds C Q => ∃ ns : List Int, ds = [.lst true (ns.map .int)] ∧ C = [] ∧ ns.length ≤ 63 ∧ Q (.bl true) []
theorem v_law (ds : List D) (C : Store) (Q3 : D → Store → Prop) (h : P_law ds C Q3) (hC : C.length = 0) : T_law P_Lw_cells P_Lw_right P_Lw_bag (enF 0 Q3) (start3 N_law ds) C := by
  obtain ⟨ns, rfl, rfl, hl, q⟩ := h
  have hz := sizeL
  refine ⟨_, rfl, true, ns, by rw [views_ints, views_nil], hl, fun ms hm => ⟨np_ints, _, _, rfl, rfl, ?_⟩⟩
  rw [enum_ints]
  refine ⟨rfl, noptrs_map _ fun _ _ => rfl, ?_⟩
  refine forW_run (fun ds Γ C => ∃ (k : Nat), k ≤ ms.length ∧ ds = ((List.range ms.length).drop k).map (fun i : Nat => D.tup [.int (i : Nat), .int (ms.getD i 0)]) ∧ ∃ a b, Γ = [some (.lst true (ns.map .int)), a, b]) ?step ?stop _ _ _ ⟨0, Nat.zero_le _, by rw [List.drop_zero], _, _, rfl⟩
  case step =>
    rintro d ds Γ C0 ⟨k, hk, eds, a, b, rfl⟩ R hR
    by_cases hkn : k < ms.length
    · rw [range_drop hkn, List.cons.injEq] at eds
      obtain ⟨rfl, rfl⟩ := eds
      refine ⟨_, rfl, rfl, _, _, rfl, _, _, rfl, rfl, ?_⟩
      dsimp only
      rw [u_sIf, u_bNot, u_bB, u_eCallK, u_aCons]
      refine ⟨_, rfl, ?_⟩
      dsimp only
      rw [u_aCons, u_eCell]
      refine ⟨_, rfl, _, rfl, ms.getD k 0, (k : Nat), by rw [views_int, views_int, views_nil], by omega, by omega, fun xs hx hf => ⟨xs, rfl, hf, ?_⟩⟩
      have hkk : (C0 ++ [Cell.lst xs])[C0.length]? = some (.lst xs) := by simp
      dsimp only
      rw [u_aNil]
      refine callB (k := C0.length) (ds' := [.lst true (ns.map .int), .ptr 0]) rfl hkk hx (by rw [views_ints, views_p1]; rfl) ⟨ns, .lst xs, rfl, rfl, hx, hl, fun y c' hy => ⟨y, c', rfl, hy, rfl, true, rfl, goF rfl ?_⟩⟩ mono_right
      exact hR _ _ ⟨k + 1, hkn, rfl, _, _, rfl⟩
    · rw [List.drop_eq_nil_of_le (by simp; omega)] at eds
      cases eds
  case stop =>
    rintro Γ C0 ⟨k, hk, eds, a, b, rfl⟩
    show Q3 (fin 0 C0 (.bl true)) (finS 0 C0)
    rw [finS0]
    exact q
end PN
end L3
namespace L3
namespace PN
open PySem PySem.Spec PyProof.Rows L2
theorem PlanU.lo {f st : Str} {rs : List (Int × Int)} {a b : Nat → Int} (A : PlanU f st rs a) (B : PlanU f st rs b) : PlanU f st rs fun j => min (a j) (b j) :=
  ⟨fun j hj => by have := A.blk j hj; have := B.blk j hj; show 0 ≤ min (a j) (b j) ∧ min (a j) (b j) % 2 = _; omega, fun z hz => by have := A.led z hz; have := B.led z hz; show min (a z.1.toNat) (b z.1.toNat) ≤ min (a z.2.toNat) (b z.2.toNat); omega⟩
theorem PlanU.hi {f st : Str} {rs : List (Int × Int)} {a b : Nat → Int} (A : PlanU f st rs a) (B : PlanU f st rs b) : PlanU f st rs fun j => max (a j) (b j) :=
  ⟨fun j hj => by have := A.blk j hj; have := B.blk j hj; show 0 ≤ max (a j) (b j) ∧ max (a j) (b j) % 2 = _; omega, fun z hz => by have := A.led z hz; have := B.led z hz; show max (a z.1.toNat) (b z.1.toNat) ≤ max (a z.2.toNat) (b z.2.toNat); omega⟩
theorem Sm.w {n : Nat} (hn : n ≤ 24) (h h' : Bool → Bool) (g g' : Nat → D) (o o' : Bool) {w w' : Nat → Int} (e : ∀ j, j < n → w j = w' j) : Sm 1 (mapW h g (.lst o (L3.wL n w))) (mapW h' g' (.lst o' (L3.wL n w'))) := (Sm.wL hn e).view
theorem view_w {h : Bool → Bool} {C : Store} {k n : Nat} {w : Nat → Int} (hk : C[k]? = some (.lst (L3.wL n w))) : mapW h (viewG [] C 2) (.ptr k) = .lst true (L3.wL n w) := by
  rw [mapW, viewG]
  simp only [posOf, hk, L3.wL_ints, mapWs_ints]
theorem Sm.ptr {n k : Nat} {C : Store} (hn : n ≤ 24) (h h' : Bool → Bool) (g' : Nat → D) (o' : Bool) {w w' : Nat → Int} (hk : C[k]? = some (.lst (L3.wL n w))) (e : ∀ j, j < n → w j = w' j) : Sm 1 (mapW h (viewG [] C 2) (.ptr k)) (mapW h' g' (.lst o' (L3.wL n w'))) := by
  rw [view_w hk]
  exact (Sm.w hn id h' (fun _ => .bad) g' true o' e : Sm 1 (mapW id (fun _ => .bad) (.lst true (L3.wL n w))) _) |> fun s => by
    have : mapW id (fun _ => D.bad) (.lst true (L3.wL n w)) = .lst true (L3.wL n w) := by rw [L3.wL_ints, mapW, mapWs_ints]; rfl
    rwa [this] at s
theorem Sm.two {o o' : Bool} {p1 p2 q1 q2 : D} (s1 : Sm 1 p1 q1) (s2 : Sm 1 p2 q2) : Sm 2 (.lst o [p1, p2]) (.lst o' [q1, q2]) := .lst rfl (by simp) fun i x y e1 e2 => by
  have : i = 0 ∨ i = 1 := by
    have := (List.getElem?_eq_some_iff.mp e1).1
    simp at this
    omega
  rcases this with rfl | rfl
  · cases e1; cases e2; exact s1
  · cases e1; cases e2; exact s2
end PN
end L3
namespace L3
namespace PN
open PySem PySem.Spec PyProof.Rows L2
def S (n : Nat) (g : Nat → Int) : Int := ((List.range n).map g).sum
theorem le5 : ∀ l : List D, l.length ≤ 5 → l.length ≤ sizeLine := fun l h => by rw [sizeL]; omega
end PN
end L3
namespace L3
namespace RG
open PySem PySem.Spec PyProof.Rows L2
open PN (sum_one pil_of views_p1 fin_pil' lc_of)
theorem le5 : ∀ l : List D, l.length ≤ 5 → l.length ≤ sizeLine := fun l h => by rw [sizeL]; omega
def Pad (c : Int) (x : Cell) : Prop := ∃ a b k : Int, x = .lst [.int a, .int b, .int k] ∧ 0 ≤ a ∧ 0 ≤ b ∧ b < 10 ^ 45 ∧ 0 ≤ k ∧ k ≤ c
theorem Pad.view {c : Int} {x : Cell} (h : Pad c x) {f : Bool → Bool} {g : Nat → D} : x.mapC f g = x := by
  obtain ⟨a, b, k, rfl, _⟩ := h
  rfl
theorem Pad.alive {c : Int} {x : Cell} (h : Pad c x) : x ≠ .dead := by
  obtain ⟨a, b, k, rfl, _⟩ := h
  simp
theorem Pad.ok {c : Int} {x : Cell} (h : Pad c x) : x.okC (fun o => !o) = true := by
  obtain ⟨a, b, k, rfl, _⟩ := h
  rfl
theorem Pad.flat {c : Int} {x : Cell} (h : Pad c x) : flatC x = true := by
  obtain ⟨a, b, k, rfl, _⟩ := h
  rfl
theorem Pad.finS {c : Int} {x : Cell} (h : Pad c x) {C : Store} : finS 1 (x :: C) = [x] := by
  obtain ⟨a, b, k, rfl, _⟩ := h
  rfl
theorem Pad.le {c c' : Int} {x : Cell} (h : Pad c x) (hc : c ≤ c') : Pad c' x := by
  obtain ⟨a, b, k, e, h1, h2, h3, h4, h5⟩ := h
  exact ⟨a, b, k, e, h1, h2, h3, h4, by omega⟩
theorem callB {kf : List D → List Nat} {P : PV} {k : Nat} {ds ds' : List D} {C1 : Store} {c : Int} {x : Cell} {Q : D → Store → Prop} (hkf : kf ds = [k]) (hk : C1[k]? = some x) (hx : Pad c x) (he : views [k] C1 ds = ds')
    (h : P ds' [x] fun d Cc => ∃ y c', Cc = [y] ∧ Pad c' y ∧ (noold d && noptr d) = true ∧ Q d (C1.set k y)) (mono : ∀ (R R' : D → Store → Prop), (∀ d Cc, R d Cc → R' d Cc) → P ds' [x] R → P ds' [x] R') : callK 1 kf P ds C1 Q := by
  unfold callK
  rw [hkf]
  refine ⟨rfl, List.nodup_cons.mpr ⟨by simp, List.nodup_nil⟩, fun k' hk' => ⟨x, ?_, hx.alive⟩, ?_⟩
  · simp at hk'; subst hk'; exact hk
  · have e3 : viewC [k] C1 = [x] := by
      unfold viewC
      simp only [List.map_cons, List.map_nil, hk, Option.getD_some]
      rw [hx.view]
    rw [he, e3]
    refine mono _ _ (fun d Cc hd => ?_) h
    obtain ⟨y, c', rfl, hy, hn, hq⟩ := hd
    simp only [Bool.and_eq_true] at hn
    refine ⟨hn.1, fun c hc => ?_, ?_⟩
    · simp at hc; subst hc; exact hy.ok
    · rw [mapW_np.1 d hn.2]
      show Q d ((C1.set k (y.mapC id (backG [k]))))
      rw [hy.view]
      exact hq
def P_Lw_pad : PV := fun ds C Q => ∃ c k : Int, ds = [.int c, .int k] ∧ 0 ≤ k ∧ k < 1000 ∧ ∀ xs, Pad 0 (.lst xs) → flatDs xs = true → Q (.lst false xs) C
theorem v_Lw_pad (ds : List D) (C : Store) (Q3 : D → Store → Prop) (h : P_Lw_pad ds C Q3) (hC : C.length = 0) : T_Lw_pad (enF 0 Q3) (start3 N_Lw_pad ds) C := by
  obtain ⟨c, k, rfl, h0, h1, q⟩ := h
  rw [List.length_eq_zero_iff] at hC
  subst hC
  have hlen : sizeLine = 16777216 := sizeLine_eq
  have hb0 := Int.emod_nonneg c (b := 10 ^ 40 + 121) (by decide)
  have hb1 := Int.emod_lt_of_pos c (b := 10 ^ 40 + 121) (by decide)
  have eΓ : start3 N_Lw_pad [D.int c, D.int k] = [some (.int c), some (.int k)] := rfl
  rw [eΓ]
  simp [T_Lw_pad, oMax2]
  have e40 : (10 : Int) ^ 40 + 121 = 10000000000000000000000000000000000000121 := by decide
  rw [e40] at hb0 hb1
  refine ⟨cpow10 18 (by decide), _, _, ⟨rfl, rfl⟩, cpow10 40 (by decide), cmul_of (a := 200) (b := 8) (by omega) (by decide) (by decide) (by decide) (by decide), by omega, ?_⟩
  generalize c % 10000000000000000000000000000000000000121 = m at *
  have e : ([D.int (max 0 (c - 1000000000000000000)), D.int (m * 89 + k), D.int 0] : List D) = [max 0 (c - 1000000000000000000), m * 89 + k, 0].map .int := rfl
  rw [finS0, e, fin_ints, ← e]
  exact q _ ⟨_, _, _, rfl, by omega, by omega, by omega, by omega, by omega⟩ rfl
def P_Lw_ink : PV := fun ds C Q => ∃ (m c : Int) (x : Cell), ds = [.ptr 0, .int m] ∧ C = [x] ∧ Pad c x ∧ 0 < m ∧ m < 10 ^ 35 ∧ c < 10 ^ 6 ∧ ∀ r y, 0 ≤ r → r < m → Pad (c + 1) y → Q (.int r) [y]
theorem v_Lw_ink (ds : List D) (C : Store) (Q3 : D → Store → Prop) (h : P_Lw_ink ds C Q3) (hC : C.length = 1) : T_Lw_ink (enF 1 Q3) (start3 N_Lw_ink ds) C := by
  obtain ⟨m, c, x, rfl, rfl, ⟨a, b, k, rfl, ha, hb, hb2, hk, hkc⟩, hm, hm2, hc, q⟩ := h
  have hlen : sizeLine = 16777216 := sizeLine_eq
  have eΓ : start3 N_Lw_ink [D.ptr 0, D.int m] = [some (.ptr 0), some (.int m), none, none] := rfl
  rw [eΓ]
  have fi : ∀ (C : Store) (r : Int), fin 1 C (.int r) = .int r := fun C r => rfl
  have fs : ∀ a b k : Int, finS 1 [.lst [.int a, .int b, .int k]] = [.lst [.int a, .int b, .int k]] := fun a b k => rfl
  simp [T_Lw_ink, oIxL, lstOf, atI, ixN, gvSubL, fi, fs]
  by_cases h : 0 < a
  · refine .inr ⟨h, hm, cdiv_of hm (by omega), q _ _ (Int.emod_nonneg _ (by omega)) (Int.emod_lt_of_pos _ hm) ⟨_, _, _, rfl, Int.ediv_nonneg ha (by omega), hb, hb2, hk, by omega⟩⟩
  · refine .inl ⟨by omega, cmul_of (a := 20) (b := 21) (by decide) (by omega) (by decide) (by decide) (by decide), cpow_of (n := 200) (by decide) (by omega) (by decide), cpow10 35 (by decide), ?_⟩
    have p0 := Int.emod_nonneg ((b + 500009 * (k + 1)) ^ 3) (b := 100000000000000000000000000000000069) (by decide)
    have p1 := Int.emod_lt_of_pos ((b + 500009 * (k + 1)) ^ 3) (b := 100000000000000000000000000000000069) (by decide)
    generalize (b + 500009 * (k + 1)) ^ 3 % 100000000000000000000000000000000069 = p at *
    have g1 : p * (k + 1) ≤ p * 1000001 := Int.mul_le_mul_of_nonneg_left (by omega) p0
    have g0 : 0 ≤ p * (k + 1) := Int.mul_nonneg p0 (by omega)
    refine ⟨cmul_of (a := 150) (b := 21) (by omega) (by omega) (by decide) (by decide) (by decide), cpow_of (n := 200) (by decide) (by omega) (by decide), cpow10 37 (by decide), cdiv_of (by decide) (by decide), hm, ?_⟩
    exact q _ _ (Int.emod_nonneg _ (by omega)) (Int.emod_lt_of_pos _ hm) ⟨_, _, _, rfl, ha, hb, hb2, by omega, by omega⟩
theorem mono_ink {ds : List D} {C : Store} (R R' : D → Store → Prop) (h : ∀ d Cc, R d Cc → R' d Cc) : P_Lw_ink ds C R → P_Lw_ink ds C R' := fun ⟨m, c, x, e1, e2, e3, e4, e5, e6, q⟩ => ⟨m, c, x, e1, e2, e3, e4, e5, e6, fun r y a b d => h _ _ (q r y a b d)⟩
theorem ink_k {m c : Int} {x : Cell} {k : Nat} {C1 : Store} {Q : D → Store → Prop} (hk : C1[k]? = some x) (hx : Pad c x) (hm : 0 < m) (hm2 : m < 10 ^ 35) (hc : c < 10 ^ 6) (q : ∀ r y, 0 ≤ r → r < m → Pad (c + 1) y → Q (.int r) (C1.set k y)) :
    callK 1 kf1 P_Lw_ink [.ptr k, .int m] C1 Q :=
  callB (k := k) (ds' := [.ptr 0, .int m]) rfl hk hx (by rw [views_p1]; rfl) ⟨m, c, x, rfl, rfl, hx, hm, hm2, hc, fun r y h0 h1 hy => ⟨y, _, rfl, hy, rfl, q r y h0 h1 hy⟩⟩ mono_ink
theorem ink_e {i k : Nat} {m c : Int} {x : Cell} {C1 : Store} {Γ : Slots} {E : EV} {Q : D → Store → Prop} (hk : C1[k]? = some x) (hx : Pad c x) (hv : Γ[i]? = some (some (.ptr k))) (hE : ∀ R : D → Store → Prop, R (.int m) C1 → E Γ C1 R) (hm : 0 < m) (hm2 : m < 10 ^ 35) (hc : c < 10 ^ 6)
    (q : ∀ r y, 0 ≤ r → r < m → Pad (c + 1) y → Q (.int r) (C1.set k y)) : eCallK 1 kf1 P_Lw_ink (aCons (eVar i) (aCons E aNil)) Γ C1 Q := by
  rw [u_eCallK]
  simp only [u_aCons, u_aNil, u_eVar]
  exact ⟨_, hv, hE _ (ink_k hk hx hm hm2 hc q)⟩
def P_Lw_many : PV := fun ds C Q => ∃ (m c : Int) (x : Cell), ds = [.ptr 0, .int m] ∧ C = [x] ∧ Pad c x ∧ (m = 3 ∨ m = 24) ∧ c < 10 ^ 4 ∧ ∀ (n : Nat) y, 1 ≤ n → (n : Int) ≤ m → Pad (c + 2) y → Q (.int (n : Nat)) [y]
theorem v_Lw_many (ds : List D) (C : Store) (Q3 : D → Store → Prop) (h : P_Lw_many ds C Q3) (hC : C.length = 1) : T_Lw_many P_Lw_ink (enF 1 Q3) (start3 N_Lw_many ds) C := by
  obtain ⟨m, c, x, rfl, rfl, hx, hm, hc, q⟩ := h
  have hz := sizeL
  unfold T_Lw_many
  rw [u_sSeq, u_sIf]
  refine ⟨_, rfl, _, rfl, ?_⟩
  by_cases h : m = 3
  · refine goT (by simp [h]) ?_
    rw [u_sRet, u_eBin, u_eC]
    refine ink_e (k := 0) (m := 2) rfl hx rfl (fun R h => h) (by decide) (by decide) (by omega) fun r y h0 h1 hy => ?_
    refine ⟨_, _, rfl, rfl, ?_⟩
    obtain ⟨a, rfl⟩ := Int.eq_ofNat_of_zero_le h0
    obtain ⟨ja, jb, jk, rfl, hj⟩ := hy
    show Q3 (.int (2 + (a : Int))) [Cell.lst [.int ja, .int jb, .int jk]]
    rw [show (2 : Int) + (a : Int) = ((2 + a : Nat) : Int) by omega]
    exact q _ _ (by omega) (by omega) (Pad.le ⟨ja, jb, jk, rfl, hj⟩ (by omega))
  · refine goF (by simp [h]) ?_
    rw [u_sNext]
    try dsimp only
    rw [u_sRet, u_eBin, u_eC]
    show eCallK 1 kf1 P_Lw_ink _ _ _ _
    rw [u_eCallK, u_aCons]
    refine ⟨_, rfl, ?_⟩
    show aCons _ _ _ _ _
    rw [u_aCons, u_eBin]
    refine ⟨_, rfl, le5 _ (by simp), ?_⟩
    refine ink_e (k := 0) (m := 3) rfl hx rfl (fun R h => h) (by decide) (by decide) (by omega) fun r y h0 h1 hy => ?_
    obtain ⟨w, hw, hw0, hw1⟩ : ∃ w : Int, atI [D.int 2, D.int 6, D.int m] r = some (.int w) ∧ 0 < w ∧ w ≤ m := by
      have : r = 0 ∨ r = 1 ∨ r = 2 := by omega
      rcases this with rfl | rfl | rfl
      · exact ⟨2, rfl, by decide, by omega⟩
      · exact ⟨6, rfl, by decide, by omega⟩
      · exact ⟨m, rfl, by omega, by omega⟩
    refine ⟨_, _, _, rfl, rfl, hw, ?_⟩
    try dsimp only
    rw [u_aNil]
    refine ink_k (k := 0) (x := y) rfl hy hw0 (by omega) (by omega) fun r2 y2 h20 h21 hy2 => ?_
    refine ⟨_, _, rfl, rfl, ?_⟩
    obtain ⟨a, rfl⟩ := Int.eq_ofNat_of_zero_le h20
    obtain ⟨ja, jb, jk, rfl, hj⟩ := hy2
    show Q3 (.int (1 + (a : Int))) [Cell.lst [.int ja, .int jb, .int jk]]
    rw [show (1 : Int) + (a : Int) = ((1 + a : Nat) : Int) by omega]
    exact q _ _ (by omega) (by omega) (Pad.le ⟨ja, jb, jk, rfl, hj⟩ (by omega))
def SG (n : Nat) (ss : List Str) : Prop := ss.length = n ∧ ∀ s, s ∈ ss → s = cR ∨ s = cB
theorem signs_e {k n : Nat} {c : Int} {x : Cell} {C1 : Store} {Γ : Slots} {Q : D → Store → Prop} (hk : C1[k]? = some x) (hx : Pad c x) (hv : (wipe3 Γ [4])[0]? = some (some (.ptr k))) (hn : Γ[1]? = some (some (.int (n : Nat)))) (hn24 : n ≤ 24) (hc : c < 10 ^ 5)
    (q : ∀ (ss : List Str) (y : Cell), SG n ss → Pad (c + n) y → Q (.lst false (ss.map .str)) (C1.set k y)) :
    eFrz (fLc [4] (iRange1 (aCons (eVar 1) aNil)) (gvName 4) bYes (eBin oIxS (eC (.str "RB")) (eCallK 1 kf1 P_Lw_ink (aCons (eVar 0) (aCons (eC (.int 2)) aNil))))) Γ C1 Q := by
  have hz := sizeL
  refine ⟨_, hn, n, rfl, by omega, by omega, ?_⟩
  have hset : ∀ (y z : Cell), (C1.set k y).set k z = C1.set k z := fun y z => by rw [List.set_set]
  have hkl : k < C1.length := (List.getElem?_eq_some_iff.mp hk).1
  have hself : C1.set k x = C1 := by
    obtain ⟨_, e⟩ := List.getElem?_eq_some_iff.mp hk
    rw [← e]
    exact List.set_getElem_self hkl
  refine lcW_run (fun ds acc C => ∃ (ss : List Str) (y : Cell), ss.length + ds.length = n ∧ acc = ss.map .str ∧ C = C1.set k y ∧ Pad (c + ss.length) y ∧ ∀ s, s ∈ ss → s = cR ∨ s = cB) ?step ?stop _ _ _ ⟨[], x, by rw [rg_upto]; simp [upto], rfl, hself.symm, by simpa using hx, fun s hs => by simp at hs⟩
  case step =>
    rintro d ds acc C ⟨ss, y, hl, rfl, rfl, hy, hs⟩ R hR
    simp only [List.length_cons] at hl
    rw [u_gvName, u_bYes, if_pos rfl, u_eBin, u_eC]
    refine ink_e (k := k) (m := 2) (x := y) (by rw [List.getElem?_set_self hkl]) hy (by rw [List.getElem?_set_ne (by decide)]; exact hv) (fun R h => h) (by decide) (by decide) (by omega) fun r y2 h0 h1 hy2 => ?_
    obtain ⟨cc, hcc, hcs⟩ := RB_at h0 h1
    refine ⟨_, _, cc, rfl, rfl, by rw [RB_len, hz]; decide, hcc, ?_⟩
    rw [hset]
    refine ⟨by rw [hz, List.length_map]; omega, fun k hk => by simp at hk, hR _ _ ⟨ss ++ [⟨#[cc]⟩], y2, by simp; omega, by simp, rfl, by simp only [List.length_append, List.length_singleton]; exact hy2.le (by omega), fun s hs' => ?_⟩⟩
    rcases List.mem_append.mp hs' with h | h
    · exact hs s h
    · rw [List.mem_singleton.mp h]; exact hcs
  case stop =>
    rintro acc C ⟨ss, y, hl, rfl, rfl, hy, hs⟩
    simp only [List.length_nil, Nat.add_zero] at hl
    exact q ss y ⟨hl, hs⟩ (by rw [← hl]; exact hy)
theorem flat_rep : ∀ (n : Nat) (xs : List Str), (List.replicate n (xs.map D.str)).flatten = ((List.replicate n xs).flatten).map D.str
  | 0, xs => rfl
  | n + 1, xs => by rw [List.replicate_succ, List.replicate_succ, List.flatten_cons, List.flatten_cons, List.map_append, flat_rep n xs]
theorem cut_len (xs : List D) (a b : Option Int) : (cutD xs a b).length ≤ xs.length := by
  unfold cutD
  rw [List.length_take, List.length_drop]
  omega
def P_Lw_stamps : PV := fun ds C Q => ∃ (n : Nat) (c : Int) (x : Cell), ds = [.ptr 0, .int (n : Nat)] ∧ C = [x] ∧ Pad c x ∧ 1 ≤ n ∧ n ≤ 24 ∧ c < 10 ^ 4 ∧ ∀ (st : Str) y, st.length = n → (∀ c, c ∈ st.cps.toList → c = 82 ∨ c = 66) → Pad (c + 1 + n) y → Q (.str st) [y]
theorem v_Lw_stamps (ds : List D) (C : Store) (Q3 : D → Store → Prop) (h : P_Lw_stamps ds C Q3) (hC : C.length = 1) : T_Lw_stamps P_Lw_ink (enF 1 Q3) (start3 N_Lw_stamps ds) C := by
  obtain ⟨n, c, x, rfl, rfl, hx, hn1, hn24, hc, q⟩ := h
  have hz := sizeL
  unfold T_Lw_stamps
  rw [u_sSeq, u_sAsg]
  refine ink_e (k := 0) (m := 4) rfl hx rfl (fun R h => h) (by decide) (by decide) (by omega) fun kd y1 hk0 hk1 hy1 => ?_
  try dsimp only
  rw [u_gvName, u_sSeq, u_sAsg]
  refine signs_e (k := 0) (n := n) (x := y1) rfl hy1 rfl rfl hn24 (by omega) fun ss y2 hs hy2 => ?_
  try dsimp only
  rw [u_gvName, u_sRet]
  refine ⟨⟨_, rfl⟩, ?_⟩
  have hsl := hs.1
  refine ⟨_, rfl, _, rfl, _, rfl, _, rfl, _, rfl, _, rfl, _, _, rfl, rfl, by omega, by omega, ?_, rfl, ?_⟩
  · have h1 := cut_len (ss.map D.str) none (some 1)
    have h2 : (cutD (ss.map D.str) none (some 1)).length * ((n : Int)).toNat ≤ 24 * 24 := Nat.mul_le_mul (by rw [List.length_map] at h1; omega) (by omega)
    omega
  refine ⟨le5 _ (by simp), _, rfl, _, _, rfl, rfl, by omega, by omega, by simp; omega, rfl, _, rfl, _, rfl, _, rfl, le5 _ (by simp), ?_⟩
  try dsimp only
  rw [u_eVar]
  have e1 : (1 : Int) = ((1 : Nat) : Int) := rfl
  have en : (n : Int).toNat = n := rfl
  rw [e1, cut_to, cut_to, ← List.map_take, en, flat_rep, show [D.str (Str.ofString "R"), D.str (Str.ofString "B")] = [cR, cB].map D.str by rw [← cR_eq, ← cB_eq]; rfl, flat_rep, ← List.map_take]
  have s3 : SG n (List.replicate n (ss.take 1)).flatten := by
    have m1 : min 1 ss.length = 1 := by omega
    refine ⟨by simp [m1], fun s h => ?_⟩
    obtain ⟨l, hl, hm⟩ := List.mem_flatten.mp h
    rw [List.eq_of_mem_replicate hl] at hm
    exact hs.2 s (List.mem_of_mem_take hm)
  have s4 : SG n ((List.replicate n [cR, cB]).flatten.take n) := by
    refine ⟨by simp; omega, fun s h => ?_⟩
    obtain ⟨l, hl, hm⟩ := List.mem_flatten.mp (List.mem_of_mem_take h)
    rw [List.eq_of_mem_replicate hl] at hm
    simpa using hm
  generalize (List.replicate n (ss.take 1)).flatten = z3 at *
  generalize (List.replicate n [cR, cB]).flatten.take n = z4 at *
  obtain ⟨zs, hz', hzs⟩ : ∃ zs : List Str, atI [D.lst false (ss.map .str), D.lst false (ss.map .str), D.lst false (z3.map .str), D.lst false (z4.map .str)] kd = some (.lst false (zs.map .str)) ∧ SG n zs := by
    have : kd = 0 ∨ kd = 1 ∨ kd = 2 ∨ kd = 3 := by omega
    rcases this with rfl | rfl | rfl | rfl
    · exact ⟨ss, rfl, hs⟩
    · exact ⟨ss, rfl, hs⟩
    · exact ⟨z3, rfl, s3⟩
    · exact ⟨z4, rfl, s4⟩
  refine ⟨_, rfl, _, _, _, rfl, rfl, hz', ?_⟩
  obtain ⟨jl, jc⟩ := join_signs zs hzs.2
  have js : (zs.map (·.length)).sum = n := by rw [sum_one zs hzs.2, hzs.1]
  refine ⟨Str.ofString "", _, zs, rfl, rfl, rfl, ?_, ?_⟩
  · have e0 : (Str.ofString "").length = 0 := by decide +kernel
    rw [js, e0]
    omega
  obtain ⟨ja, jb, jk, rfl, hj⟩ := hy2
  show Q3 (.str (Txt.join (Str.ofString "") zs)) [Cell.lst [.int ja, .int jb, .int jk]]
  exact q _ _ (by rw [jl, hzs.1]) jc ⟨ja, jb, jk, rfl, hj⟩
end RG
end L3
namespace L3
namespace RG
open PySem PySem.Spec PyProof.Rows L2
open PN (tPut_pairs yPut_pairs addP kP_D sum_one pil_of views_p1 fin_pil' lc_of)
theorem addP_nd {z : Int × Int} {ps : List (Int × Int)} (nd : ps.Nodup) : (addP z ps).Nodup := by
  unfold addP
  by_cases hm : z ∈ ps
  · rw [if_pos hm]; exact nd
  · rw [if_neg hm]
    refine List.nodup_append.mpr ⟨nd, by simp, fun a ha b hb e => ?_⟩
    simp at hb
    subst e hb
    exact hm ha
theorem addP_len (z : Int × Int) (ps : List (Int × Int)) : (addP z ps).length ≤ ps.length + 1 := by
  unfold addP
  split
  · omega
  · rw [List.length_append, List.length_singleton]
    omega
theorem addP_mem {z w : Int × Int} {ps : List (Int × Int)} : w ∈ addP z ps ↔ w ∈ ps ∨ w = z := by
  unfold addP
  split
  · exact ⟨.inl, fun h => h.elim id fun e => e ▸ by assumption⟩
  · simp
def addPs (zs ps : List (Int × Int)) : List (Int × Int) := zs.foldl (fun a z => addP z a) ps
theorem addPs_nd : ∀ {zs ps : List (Int × Int)}, ps.Nodup → (addPs zs ps).Nodup
  | [], _, h => h
  | z :: zs, ps, h => addPs_nd (zs := zs) (addP_nd h)
theorem addPs_len : ∀ (zs ps : List (Int × Int)), (addPs zs ps).length ≤ ps.length + zs.length
  | [], ps => Nat.le_refl _
  | z :: zs, ps => by
    have h1 := addPs_len zs (addP z ps)
    have h2 := addP_len z ps
    show (addPs zs (addP z ps)).length ≤ _
    rw [List.length_cons]
    omega
theorem addPs_mem : ∀ {zs ps : List (Int × Int)} {w : Int × Int}, w ∈ addPs zs ps ↔ w ∈ ps ∨ w ∈ zs
  | [], ps, w => by simp [addPs]
  | z :: zs, ps, w => by
    show w ∈ addPs zs (addP z ps) ↔ _
    rw [addPs_mem, addP_mem, List.mem_cons, or_assoc]
theorem foldT_go : ∀ (zs ps : List (Int × Int)), (zs.map fun z => (kP z, D.bl true)).foldl (fun a z => (tPut z.1 a.1, yPut z.1 z.2 a.1 a.2)) (ps.map kP, ps.map fun _ => D.bl true) = ((addPs zs ps).map kP, (addPs zs ps).map fun _ => .bl true)
  | [], ps => rfl
  | z :: zs, ps => by
    rw [List.map_cons, List.foldl_cons]
    show (zs.map fun z => (kP z, D.bl true)).foldl (fun a z => (tPut z.1 a.1, yPut z.1 z.2 a.1 a.2)) (tPut (kP z) (ps.map kP), yPut (kP z) (.bl true) (ps.map kP) (ps.map fun _ => .bl true)) = _
    rw [tPut_pairs, yPut_pairs, foldT_go zs (addP z ps)]
    rfl
theorem foldT_pairs (zs : List (Int × Int)) : foldT (zs.map fun z => (kP z, D.bl true)) = ((addPs zs []).map kP, (addPs zs []).map fun _ => .bl true) := foldT_go zs []
theorem along_prs : ∀ (l : List Int), Along l (prs l)
  | [], z, h => by simp [prs] at h
  | [a], z, h => by simp [prs] at h
  | a :: b :: l, z, h => by
    have e : prs (a :: b :: l) = (a, b) :: prs (b :: l) := by simp [prs]
    rw [e] at h
    rcases List.mem_cons.mp h with rfl | h
    · exact ⟨0, 1, by omega, rfl, rfl⟩
    · obtain ⟨i, j, h1, h2, h3⟩ := along_prs (b :: l) z h
      exact ⟨i + 1, j + 1, by omega, by simpa using h2, by simpa using h3⟩
def P_Lw_pile : PV := fun ds C Q => ∃ (m c : Int) (x : Cell), ds = [.ptr 0, .int m] ∧ C = [x] ∧ Pad c x ∧ (m = 3 ∨ m = 24) ∧ c < 1000 ∧
  ∀ f st rs c' y, Pil f st rs → (st.length : Int) ≤ m → Pad c' y → c' ≤ c + 300 → Q (pil false f st rs) [y]
abbrev T_pile_tl : SV := (sRet (eTup (aCons (eBin oIxS (eC (.str "RB")) (eCallK 1 kf1 P_Lw_ink (aCons (eVar 0) (aCons (eC (.int 2)) aNil)))) (aCons (eCallK 1 kf1 P_Lw_stamps (aCons (eVar 0) (aCons (eVar 2) aNil))) (aCons (eFrz (fCB nSortT (aCons (eVar 6) aNil))) aNil)))))
theorem mono_stamps {ds : List D} {C : Store} (R R' : D → Store → Prop) (h : ∀ d Cc, R d Cc → R' d Cc) : P_Lw_stamps ds C R → P_Lw_stamps ds C R' := fun ⟨n, c, x, e1, e2, e3, e4, e5, e6, q⟩ => ⟨n, c, x, e1, e2, e3, e4, e5, e6, fun st y a b d => h _ _ (q st y a b d)⟩
theorem stamps_e {i j k : Nat} {n : Nat} {c : Int} {x : Cell} {C1 : Store} {Γ : Slots} {Q : D → Store → Prop} (hk : C1[k]? = some x) (hx : Pad c x) (hv : Γ[i]? = some (some (.ptr k))) (hj : Γ[j]? = some (some (.int (n : Nat)))) (h1 : 1 ≤ n) (h24 : n ≤ 24) (hc : c < 10 ^ 4)
    (q : ∀ (st : Str) y, st.length = n → (∀ c, c ∈ st.cps.toList → c = 82 ∨ c = 66) → Pad (c + 1 + n) y → Q (.str st) (C1.set k y)) : eCallK 1 kf1 P_Lw_stamps (aCons (eVar i) (aCons (eVar j) aNil)) Γ C1 Q := by
  rw [u_eCallK]
  simp only [u_aCons, u_aNil, u_eVar]
  exact ⟨_, hv, _, hj, callB (k := k) (ds' := [.ptr 0, .int (n : Nat)]) rfl hk hx (by rw [views_p1]; rfl) ⟨n, c, x, rfl, rfl, hx, h1, h24, hc, fun st y h0 h1 hy => ⟨y, _, rfl, hy, rfl, q st y h0 h1 hy⟩⟩ mono_stamps⟩
theorem mono_many {ds : List D} {C : Store} (R R' : D → Store → Prop) (h : ∀ d Cc, R d Cc → R' d Cc) : P_Lw_many ds C R → P_Lw_many ds C R' := fun ⟨m, c, x, e1, e2, e3, e4, e5, q⟩ => ⟨m, c, x, e1, e2, e3, e4, e5, fun n y a b d => h _ _ (q n y a b d)⟩
theorem many_e {i j k : Nat} {m c : Int} {x : Cell} {C1 : Store} {Γ : Slots} {Q : D → Store → Prop} (hk : C1[k]? = some x) (hx : Pad c x) (hv : Γ[i]? = some (some (.ptr k))) (hj : Γ[j]? = some (some (.int m))) (hm : m = 3 ∨ m = 24) (hc : c < 10 ^ 4)
    (q : ∀ (n : Nat) y, 1 ≤ n → (n : Int) ≤ m → Pad (c + 2) y → Q (.int (n : Nat)) (C1.set k y)) : eCallK 1 kf1 P_Lw_many (aCons (eVar i) (aCons (eVar j) aNil)) Γ C1 Q := by
  rw [u_eCallK]
  simp only [u_aCons, u_aNil, u_eVar]
  exact ⟨_, hv, _, hj, callB (k := k) (ds' := [.ptr 0, .int m]) rfl hk hx (by rw [views_p1]; rfl) ⟨m, c, x, rfl, rfl, hx, hm, hc, fun n y h0 h1 hy => ⟨y, _, rfl, hy, rfl, q n y h0 h1 hy⟩⟩ mono_many⟩
theorem pile_tl {n k : Nat} {c : Int} {x : Cell} {C : Store} {Γ : Slots} {Q3 : D → Store → Prop} {as : List Int} {ps : List (Int × Int)} (h0 : C[0]? = some x) (hx : Pad c x) (hk : k ≠ 0) (hC : C[k]? = some (.dt (ps.map kP) (ps.map fun _ => .bl true))) (g0 : Γ[0]? = some (some (.ptr 0))) (g2 : Γ[2]? = some (some (.int (n : Nat)))) (g6 : Γ[6]? = some (some (.ptr k)))
    (h1 : 1 ≤ n) (h24 : n ≤ 24) (hc : c < 5000) (hp : as.Perm (upto n)) (nd : ps.Nodup) (hl : ps.length ≤ 60) (hal : Along as ps) (q : ∀ f st rs y, Pil f st rs → st.length = n → Pad (c + 2 + n) y → Q3 (pil false f st rs) [y]) : T_pile_tl (enF 1 Q3) Γ C := by
  have hz := sizeL
  show sRet _ _ _ _
  rw [u_sRet, u_eTup, u_aCons, u_eBin, u_eC]
  refine ink_e (k := 0) (m := 2) (x := x) h0 hx g0 (fun R h => h) (by decide) (by decide) (by omega) fun rf y6 hf0 hf1 hy6 => ?_
  obtain ⟨cc, hcc, hcs⟩ := RB_at hf0 hf1
  refine ⟨_, _, cc, rfl, rfl, by rw [RB_len, hz]; decide, hcc, ?_⟩
  have h00 : (C.set 0 y6)[0]? = some y6 := PN.set_at h0
  show aCons _ _ _ _ _
  rw [u_aCons]
  refine stamps_e (k := 0) (x := y6) (n := n) h00 hy6 g0 g2 h1 h24 (by omega) fun st y7 hst hsg hy7 => ?_
  rw [List.set_set]
  have hkk : (C.set 0 y7)[k]? = some (.dt (ps.map kP) (ps.map fun _ => .bl true)) := by
    rw [List.getElem?_set_ne (Ne.symm hk)]
    exact hC
  refine ⟨_, g6, _, ps, ps.map fun _ => .bl true, rfl, by simp only [dtOf, hkk], fun qs hq hs => ⟨by rw [hz]; show 3 ≤ 16777216; decide, ?_⟩⟩
  have hp' := pil_of hcs h1 h24 hst hsg hp nd hl hal hq hs
  obtain ⟨ja, jb, jk, rfl, hj⟩ := hy7
  obtain ⟨x0, C', rfl⟩ : ∃ x0 C', C = x0 :: C' := by
    cases C with
    | nil => simp at h0
    | cons a C => exact ⟨_, _, rfl⟩
  show Q3 (fin 1 _ (pil false ⟨#[cc]⟩ st qs)) [Cell.lst [.int ja, .int jb, .int jk]]
  rw [fin_pil']
  exact q _ _ _ _ hp' hst (Pad.le ⟨ja, jb, jk, rfl, hj⟩ (by omega))
theorem v_Lw_pile (ds : List D) (C : Store) (Q3 : D → Store → Prop) (h : P_Lw_pile ds C Q3) (hC : C.length = 1) : T_Lw_pile P_Lw_many P_Lw_ink P_Lw_stamps (enF 1 Q3) (start3 N_Lw_pile ds) C := by
  obtain ⟨m, c, x, rfl, rfl, hx, hm, hc, q⟩ := h
  have hz := sizeL
  unfold T_Lw_pile
  rw [u_sSeq, u_sAsg]
  refine many_e (k := 0) rfl hx rfl rfl hm (by omega) fun n y1 hn1 hnm hy1 => ?_
  have hn24 : n ≤ 24 := by omega
  try dsimp only
  rw [u_gvName, u_sSeq]
  refine ⟨_, rfl, n, rfl, by omega, by omega, ?_⟩
  rw [rg_upto]
  try dsimp only
  rw [u_gvName, u_sSeq]
  refine ⟨_, rfl, n, rfl, by omega, by omega, ?_⟩
  refine lcW_run (fun ds acc C => ∃ (as L : List Int) (y : Cell) (c' : Int), ds.length = L.length ∧ acc = as.map .int ∧ C = [y, .lst (L.map .int)] ∧ (as ++ L).Perm (upto n) ∧ Pad c' y ∧ c' = c + 2 + as.length) ?step ?stop _ _ _ ⟨[], upto n, y1, c + 2, by rw [rg_upto]; simp, rfl, rfl, List.Perm.refl _, hy1, by simp⟩
  case step =>
    rintro d ds acc C ⟨as, L, y, c', hl, rfl, rfl, hp, hy, hc'⟩ R hR
    have hpl := hp.length_eq
    simp [upto] at hpl
    simp only [List.length_cons] at hl
    rw [u_gvName, u_bYes, if_pos rfl, u_eMl]
    refine ⟨_, rfl, L.map .int, rfl, ?_⟩
    rw [u_aCons]
    refine ink_e (k := 0) (m := (L.length : Nat)) (x := y) rfl hy rfl (fun R h => ⟨_, rfl, _, _, rfl, rfl, by rw [List.length_map]; exact h⟩) (by omega) (by omega) (by omega) fun r y2 h0 h1 hy2 => ?_
    obtain ⟨j, rfl⟩ := Int.eq_ofNat_of_zero_le h0
    have hj : j < L.length := by omega
    refine ⟨1, L.map .int, (j : Nat), j, .int L[j], rfl, rfl, rfl, by omega, by omega, by rw [List.length_map]; exact seq_ix h0 h1, by rw [List.getElem?_map, List.getElem?_eq_getElem hj]; rfl, by simp; omega, fun k hk => by simp at hk, ?_⟩
    refine hR _ _ ⟨as ++ [L[j]], L.eraseIdx j, y2, c' + 1, by rw [List.length_eraseIdx_of_lt hj]; omega, by simp, ?_, ?_, hy2, by simp; omega⟩
    · show [y2, Cell.lst ((L.map D.int).eraseIdx j)] = _
      rw [er_map]
    · refine List.Perm.trans ?_ hp
      rw [List.append_assoc]
      refine List.Perm.append_left as ?_
      rw [List.eraseIdx_eq_take_drop_succ]
      show (L[j] :: (L.take j ++ L.drop (j + 1))).Perm L
      refine List.perm_middle.symm.trans ?_
      rw [← List.drop_eq_getElem_cons hj, List.take_append_drop]
  case stop =>
    rintro acc C ⟨as, L, y, c', hl, rfl, rfl, hp, hy, hc'⟩
    have hL : L = [] := List.length_eq_zero_iff.mp hl.symm
    subst hL
    rw [List.append_nil] at hp
    have al : as.length = n := by rw [hp.length_eq]; simp [upto]
    have aml : (as.map D.int).length = n := by rw [List.length_map, al]
    have at_get : ∀ j : Nat, j < n → ∃ v : Int, as[j]? = some v ∧ atI (as.map D.int) (j : Int) = some (.int v) := fun j hj => by
      refine ⟨as[j]'(by omega), List.getElem?_eq_getElem _, ?_⟩
      unfold atI
      rw [aml, ix_nat hj]
      show (as.map D.int)[j]? = _
      rw [List.getElem?_map, List.getElem?_eq_getElem (by omega)]
      rfl
    try dsimp only
    rw [u_gvName, u_sSeq, u_sAsg]
    show sSeq (sAsg (eBin oIxL (eFrz (fLst (aCons (eC (.int 1)) (aCons (eC (.int 3)) (aCons (eVar 2) aNil))))) (eCallK 1 kf1 P_Lw_ink (aCons (eVar 0) (aCons (eC (.int 3)) aNil)))) (gvName 7)) _ _ _ _
    rw [u_sSeq, u_sAsg, u_eBin]
    refine ⟨_, rfl, le5 _ (by simp), ?_⟩
    refine ink_e (k := 0) (m := 3) (x := y) rfl hy rfl (fun R h => h) (by decide) (by decide) (by omega) fun r0 y3 h00 h01 hy3 => ?_
    obtain ⟨rc, hrc, hrc0, hrc1⟩ : ∃ w : Int, atI [D.int 1, D.int 3, D.int (n : Nat)] r0 = some (.int w) ∧ 0 < w ∧ w ≤ 24 := by
      have : r0 = 0 ∨ r0 = 1 ∨ r0 = 2 := by omega
      rcases this with rfl | rfl | rfl
      · exact ⟨1, rfl, by decide, by decide⟩
      · exact ⟨3, rfl, by decide, by decide⟩
      · exact ⟨_, rfl, by omega, by omega⟩
    refine ⟨_, _, _, rfl, rfl, hrc, ?_⟩
    try dsimp only
    rw [u_gvName]
    show sSeq (sFor (iRange1 (aCons (eBin oMulW (eCallK 1 kf1 P_Lw_ink (aCons (eVar 0) (aCons (eBin oIxL (eFrz (fLst (aCons (eC (.int 4)) (aCons (eC (.int 14)) (aCons (eC (.int 61)) aNil))))) (eCallK 1 kf1 P_Lw_ink (aCons (eVar 0) (aCons (eC (.int 3)) aNil)))) aNil))) (eCB oInt (aCons (eBin oGt (eVar 2) (eC (.int 1))) aNil))) aNil)) (gvName 8) _) _ _ _ _
    rw [u_sSeq]
    unfold sFor iRange1
    rw [u_aCons, u_eBin, u_eCallK, u_aCons]
    refine ⟨_, rfl, ?_⟩
    show aCons _ _ _ _ _
    rw [u_aCons, u_eBin]
    refine ⟨le5 _ (by simp), ?_⟩
    refine ink_e (k := 0) (m := 3) (x := y3) rfl hy3 rfl (fun R h => h) (by decide) (by decide) (by omega) fun r1 y4 h10 h11 hy4 => ?_
    obtain ⟨tp, htp, htp0, htp1⟩ : ∃ w : Int, atI [D.int 4, D.int 14, D.int 61] r1 = some (.int w) ∧ 0 < w ∧ w ≤ 61 := by
      have : r1 = 0 ∨ r1 = 1 ∨ r1 = 2 := by omega
      rcases this with rfl | rfl | rfl
      · exact ⟨4, rfl, by decide, by decide⟩
      · exact ⟨14, rfl, by decide, by decide⟩
      · exact ⟨61, rfl, by decide, by decide⟩
    refine ⟨_, _, _, rfl, rfl, htp, ?_⟩
    try dsimp only
    rw [u_aNil]
    refine ink_k (k := 0) (x := y4) rfl hy4 htp0 (by omega) (by omega) fun cnt y5 hc0 hc1 hy5 => ?_
    refine ⟨_, rfl, _, _, rfl, rfl, _, _, rfl, rfl, ?_, ?_⟩
    · refine cmul_of (a := 10) (b := 2) (by omega) ?_ (by decide) (by decide) (by decide)
      split <;> decide
    have ek : ∃ kk : Nat, cnt * (if decide ((1 : Int) < (n : Nat)) = true then 1 else 0) = (kk : Nat) ∧ kk ≤ 60 ∧ (kk ≠ 0 → 1 < n) := by
      by_cases h1 : (1 : Int) < (n : Nat)
      · rw [decide_eq_true h1, if_pos rfl]
        exact ⟨cnt.toNat, by omega, by omega, fun _ => by omega⟩
      · rw [decide_eq_false h1]
        exact ⟨0, by simp, by omega, fun h => absurd rfl h⟩
    obtain ⟨kk, ekk, hkk, hkn⟩ := ek
    refine ⟨_, rfl, ?_⟩
    rw [ekk]
    refine ⟨by omega, by omega, rfl, np_rg' 0 _, ?_⟩
    refine forW_run (fun ds Γ C => ∃ (k : Nat) (ps : List (Int × Int)) (y : Cell) (c2 : Int), k + ds.length = kk ∧ C = [y, .lst [], .dt (ps.map kP) (ps.map fun _ => .bl true)] ∧ Pad c2 y ∧ c2 ≤ c' + 3 + 2 * k ∧ ps.Nodup ∧ ps.length ≤ k ∧ Along as ps ∧
      ∃ a b e g, Γ = [some (.ptr 0), some (.int m), some (.int (n : Nat)), some (.ptr 1), some (.lst false (as.map .int)), a, some (.ptr 2), some (.int rc), b, e, g]) ?step2 ?stop2 _ _ _ ⟨0, [], y5, c' + 3, by rw [rg_len']; simp, rfl, hy5.le (by omega), by omega, List.nodup_nil, by simp, fun z h => by simp at h, _, _, _, _, rfl⟩
    case step2 =>
      rintro d ds Γ C ⟨k, ps, y, c2, hk, rfl, hy, hc2, nd, hpl, hal, a, b, e, g, rfl⟩ R hR
      simp only [List.length_cons] at hk
      have hn2 : 1 < n := hkn (by omega)
      rw [u_gvName, u_sSeq, u_sAsg]
      refine ink_e (k := 0) (m := ((n - 1 : Nat) : Int)) (x := y) rfl hy rfl (fun R h => ⟨_, rfl, _, _, rfl, rfl, by show R (D.int (((n : Nat) : Int) - 1)) _; rw [show ((n : Nat) : Int) - 1 = ((n - 1 : Nat) : Int) by omega]; exact h⟩) (by omega) (by omega) (by omega) fun r1 y4 ha0 ha1 hy4 => ?_
      obtain ⟨an, rfl⟩ := Int.eq_ofNat_of_zero_le ha0
      try dsimp only
      rw [u_gvName, u_sAsg, u_eC]
      obtain ⟨v1, e1, e2⟩ := at_get an (by omega)
      refine ⟨_, rfl, _, rfl, _, rfl, _, _, _, rfl, rfl, e2, _, rfl, _, rfl, _, _, rfl, rfl, _, rfl, _, _, rfl, rfl, ?_⟩
      show eCallK 1 kf1 P_Lw_ink _ _ _ _
      refine ink_e (k := 0) (m := rc) (x := y4) rfl hy4 rfl (fun R h => ⟨_, rfl, h⟩) hrc0 (by omega) (by omega) fun r2 y6 hb0 hb1 hy6 => ?_
      obtain ⟨bn, rfl⟩ := Int.eq_ofNat_of_zero_le hb0
      obtain ⟨v2, e3, e4⟩ := at_get (min (n - 1) (an + 1 + bn)) (by omega)
      have eM : min (((n : Nat) : Int) - 1) ((an : Int) + 1 + (bn : Int)) = ((min (n - 1) (an + 1 + bn) : Nat) : Int) := by omega
      refine ⟨_, _, rfl, rfl, _, _, rfl, _, _, _, rfl, rfl, (by rw [eM]; exact e4), by rw [hz]; show 2 ≤ 16777216; decide, ?_⟩
      refine ⟨2, ps.map kP, ps.map fun _ => .bl true, kP (v1, v2), rfl, rfl, rfl, by rw [List.length_map, hz]; omega, ?_⟩
      rw [tPut_pairs, yPut_pairs]
      refine hR _ _ ⟨k + 1, addP (v1, v2) ps, y6, _, by omega, rfl, hy6, by omega, addP_nd nd, ?_, ?_, _, _, _, _, rfl⟩
      · have := addP_len (v1, v2) ps
        omega
      · intro z hz'
        rcases addP_mem.mp hz' with h | rfl
        · exact hal z h
        · exact ⟨an, min (n - 1) (an + 1 + bn), by omega, e1, e3⟩
    case stop2 =>
      rintro Γ C ⟨k, ps, y, c2, hk, rfl, hy, hc2, nd, hpl, hal, a, b, e, g, rfl⟩
      simp only [List.length_nil, Nat.add_zero] at hk
      try dsimp only
      rw [u_sSeq, u_sIf]
      show bB (eBin (oEq false) (eCallK 1 kf1 P_Lw_ink (aCons (eVar 0) (aCons (eC (.int 4)) aNil))) (eC (.int 0))) _ _ _
      rw [u_bB, u_eBin]
      refine ink_e (k := 0) (m := 4) (x := y) rfl hy rfl (fun R h => h) (by decide) (by decide) (by omega) fun r4 y4 h40 h41 hy4 => ?_
      refine ⟨_, rfl, ?_⟩
      by_cases h4 : r4 = 0
      · refine goT (by simp [h4]) ?_
        rw [u_sAsg]
        refine ⟨_, rfl, _, rfl, _, rfl, _, rfl, _, _, _, _, rfl, rfl, rfl, ?_, ?_⟩
        · rw [cut_tail, noptrs_ints, ← List.map_drop, noptrs_ints]
          rfl
        rw [cut_tail, zip_prs]
        refine lc_of (prs as) _ (fun z => D.tup [pD z, .bl true]) (fun _ h => by simp [srcOf] at h) (by rw [prs_len, al]; omega) (fun z hz' R hR => ?_) ?_
        · rw [u_gvName]
          exact ⟨_, rfl, by rw [hz]; show 2 ≤ 16777216; decide, hR⟩
        refine ⟨_, (prs as).map fun z => (kP z, D.bl true), rfl, ?_, ?_⟩
        · rw [List.map_map]
          rfl
        rw [foldT_pairs]
        try dsimp only
        rw [u_gvName]
        refine pile_tl (k := 3) (n := n) (as := as) (ps := addPs (prs as) []) rfl hy4 (by decide) rfl rfl rfl rfl hn1 hn24 (by omega) hp (addPs_nd List.nodup_nil) ?_ ?_ fun f st rs y hp hl hy => ?_
        · have h1 := addPs_len (prs as) []
          rw [prs_len, al] at h1
          simp at h1
          omega
        · intro z hz'
          rcases addPs_mem.mp hz' with h | h
          · simp at h
          · exact along_prs as z h
        exact q f st rs _ y hp (by omega) hy (by omega)
      · refine goF (by simp [h4]) ?_
        rw [u_sNext]
        try dsimp only
        refine pile_tl (k := 2) (n := n) (as := as) (ps := ps) rfl hy4 (by decide) rfl rfl rfl rfl hn1 hn24 (by omega) hp nd (by omega) hal fun f st rs y hp hl hy => ?_
        exact q f st rs _ y hp (by omega) hy (by omega)
end RG
end L3
namespace L3
namespace RG
open PySem PySem.Spec PyProof.Rows L2
inductive Lead (rs : List (Int × Int)) : Int → Int → Prop
  | one {a b : Int} : (a, b) ∈ rs → Lead rs a b
  | cons {a b c : Int} : (a, b) ∈ rs → Lead rs b c → Lead rs a c
theorem Lead.trans {rs : List (Int × Int)} {a b c : Int} (h : Lead rs a b) (g : Lead rs b c) : Lead rs a c := by
  induction h with
  | one h => exact .cons h g
  | cons h _ ih => exact .cons h (ih g)
theorem Lead.snoc {rs : List (Int × Int)} {a b c : Int} (h : Lead rs a b) (g : (b, c) ∈ rs) : Lead rs a c := h.trans (.one g)
theorem Lead.back {rs : List (Int × Int)} {a b : Int} (h : Lead rs a b) : Lead (rv rs) b a := by
  induction h with
  | one h => exact .one (rv_mem.mpr h)
  | cons h _ ih => exact ih.snoc (rv_mem.mpr h)
theorem Lead.mono {rs qs : List (Int × Int)} (h : ∀ z, z ∈ rs → z ∈ qs) {a b : Int} (l : Lead rs a b) : Lead qs a b := by
  induction l with
  | one g => exact .one (h _ g)
  | cons g _ ih => exact .cons (h _ g) ih
theorem lead_inn {n : Nat} {rs : List (Int × Int)} (hr : Rul0 n rs) {a b : Int} (l : Lead rs a b) : 0 ≤ a ∧ a < n ∧ 0 ≤ b ∧ b < n := by
  induction l with
  | one g =>
    have := hr.inn _ g
    simp only at this
    omega
  | cons g _ ih =>
    have := hr.inn _ g
    simp only at this
    omega
structure RI (n : Nat) (rs : List (Int × Int)) (p : Int) (fd wt : List Int) : Prop where
  nd : fd.Nodup
  fl : ∀ x, x ∈ fd → Lead rs p x
  wl : ∀ x, x ∈ wt → Lead rs p x
  st : ∀ x, (p, x) ∈ rs → x ∈ fd ∨ x ∈ wt
  cl : ∀ y x, y ∈ fd → (y, x) ∈ rs → x ∈ fd ∨ x ∈ wt
  len : wt.length ≤ 100 * (fd.length + 1)
theorem RI.done {n : Nat} {rs : List (Int × Int)} {p : Int} {fd : List Int} (h : RI n rs p fd []) {x : Int} : x ∈ fd ↔ Lead rs p x := by
  refine ⟨h.fl x, fun l => ?_⟩
  have key : ∀ {a b : Int}, Lead rs a b → (a = p ∨ a ∈ fd) → b ∈ fd := by
    intro a b l
    induction l with
    | one g =>
      rintro (rfl | ha)
      · simpa using h.st _ g
      · simpa using h.cl _ _ ha g
    | cons g _ ih =>
      rintro (rfl | ha)
      · exact ih (.inr (by simpa using h.st _ g))
      · exact ih (.inr (by simpa using h.cl _ _ ha g))
  exact key l (.inl rfl)
theorem bh_mem {rs : List (Int × Int)} {i : Nat} {x : Int} : x ∈ bh rs i ↔ ((i : Int), x) ∈ rs := by
  unfold bh
  rw [List.mem_map]
  constructor
  · rintro ⟨z, hz, rfl⟩
    obtain ⟨h1, h2⟩ := List.mem_filter.mp hz
    have h3 : z.1 = (i : Int) := by simpa using h2
    rw [← h3]
    exact h1
  · intro h
    exact ⟨_, List.mem_filter.mpr ⟨h, by simp⟩, rfl⟩
theorem RI.start {n : Nat} {rs : List (Int × Int)} (hr : Rul0 n rs) (i : Nat) : RI n rs (i : Int) [] (bh rs i) := by
  have hb := bh_len (rs := rs) (i := i)
  have hf := hr.few
  exact ⟨List.nodup_nil, fun x h => by simp at h, fun x h => .one (bh_mem.mp h), fun x h => .inr (bh_mem.mpr h), fun y x h => by simp at h, by simp; omega⟩
theorem RI.new {n : Nat} {rs : List (Int × Int)} (hr : Rul0 n rs) {p : Int} {fd wt : List Int} {i : Nat} (h : RI n rs p fd (wt ++ [(i : Int)])) (hx : (i : Int) ∉ fd) : RI n rs p (fd ++ [(i : Int)]) (wt ++ bh rs i) := by
  have hl := h.len
  have hb := bh_len (rs := rs) (i := i)
  have hf := hr.few
  have hi : Lead rs p (i : Int) := h.wl _ (by simp)
  rw [List.length_append, List.length_singleton] at hl
  have sp : ∀ y, y ∈ fd ∨ y ∈ wt ++ [(i : Int)] → y ∈ fd ++ [(i : Int)] ∨ y ∈ wt ++ bh rs i := fun y hy => by
    rcases hy with hy | hy
    · exact .inl (by simp [hy])
    · rcases List.mem_append.mp hy with hy | hy
      · exact .inr (by simp [hy])
      · exact .inl (List.mem_append_right _ hy)
  refine ⟨?_, fun y hy => ?_, fun y hy => ?_, fun y hy => sp y (h.st y hy), fun z y hz hy => ?_, ?_⟩
  · refine List.nodup_append.mpr ⟨h.nd, by simp, fun a ha b hb e => ?_⟩
    rw [List.mem_singleton] at hb
    subst e hb
    exact hx ha
  · rcases List.mem_append.mp hy with hy | hy
    · exact h.fl y hy
    · rw [List.mem_singleton.mp hy]; exact hi
  · rcases List.mem_append.mp hy with hy | hy
    · exact h.wl y (by simp [hy])
    · exact hi.snoc (bh_mem.mp hy)
  · rcases List.mem_append.mp hz with hz | hz
    · exact sp y (h.cl z y hz hy)
    · rw [List.mem_singleton.mp hz] at hy
      exact .inr (List.mem_append_right _ (bh_mem.mpr hy))
  · rw [List.length_append, List.length_append, List.length_singleton]
    omega
theorem RI.few {n : Nat} {rs : List (Int × Int)} (hr : Rul0 n rs) {p : Int} {fd wt : List Int} (h : RI n rs p fd wt) : fd.length ≤ n := nodup_len n fd h.nd fun x hx => by
  have := lead_inn hr (h.fl x hx)
  omega
end RG
end L3
namespace L3
namespace RG
open PySem PySem.Spec PyProof.Rows L2
open PN (lc_of lc_rows rgI_range Sm P_sm)
theorem noptrs_all : ∀ {xs : List D}, (∀ x, x ∈ xs → noptr x = true) → noptrs xs = true
  | [], _ => rfl
  | x :: xs, h => by
    simp only [noptrs, h x (List.mem_cons_self ..), noptrs_all fun y hy => h y (List.mem_cons_of_mem _ hy), Bool.and_self]
theorem zipD_zip : ∀ xs ys : List D, zipD xs ys = (xs.zip ys).map fun z => .tup [z.1, z.2]
  | [], _ => by simp [zipD]
  | _ :: _, [] => by simp [zipD]
  | x :: xs, y :: ys => by simp [zipD, zipD_zip xs ys]
def upd2 (M : Nat → Nat → Bool) (k p q : Nat) : Bool := M p q || (M p k && M k q)
structure WI (n : Nat) (rs : List (Int × Int)) (k : Nat) (M : Nat → Nat → Bool) : Prop where
  ed : ∀ p q : Nat, p < n → q < n → ((p : Int), (q : Int)) ∈ rs → M p q = true
  so : ∀ p q : Nat, p < n → q < n → M p q = true → Lead rs (p : Int) (q : Int)
  tr : ∀ m p q : Nat, m < k → m < n → p < n → q < n → M p m = true → M m q = true → M p q = true
theorem WI.next {n : Nat} {rs : List (Int × Int)} {k : Nat} {M : Nat → Nat → Bool} (h : WI n rs k M) (hk : k < n) : WI n rs (k + 1) (upd2 M k) := by
  have or1 : ∀ {p q : Nat}, upd2 M k p q = true ↔ M p q = true ∨ (M p k = true ∧ M k q = true) := fun {p q} => by
    unfold upd2
    simp
  refine ⟨fun p q hp hq hm => or1.mpr (.inl (h.ed p q hp hq hm)), fun p q hp hq hm => ?_, fun m p q hm hmn hp hq h1 h2 => ?_⟩
  · rcases or1.mp hm with g | ⟨g1, g2⟩
    · exact h.so p q hp hq g
    · exact (h.so p k hp hk g1).trans (h.so k q hk hq g2)
  · rw [or1] at h1 h2 ⊢
    by_cases e : m = k
    · subst e
      have a : M p m = true := by rcases h1 with g | ⟨g, _⟩ <;> exact g
      have b : M m q = true := by rcases h2 with g | ⟨_, g⟩ <;> exact g
      exact .inr ⟨a, b⟩
    · have hm' : m < k := by omega
      rcases h1 with g | ⟨g1, g2⟩
      · rcases h2 with f | ⟨f1, f2⟩
        · exact .inl (h.tr m p q hm' hmn hp hq g f)
        · exact .inr ⟨h.tr m p k hm' hmn hp hk g f1, f2⟩
      · rcases h2 with f | ⟨f1, f2⟩
        · exact .inr ⟨g1, h.tr m k q hm' hmn hk hq g2 f⟩
        · exact .inr ⟨g1, f2⟩
theorem WI.done {n : Nat} {rs : List (Int × Int)} (hr : Rul0 n rs) {M : Nat → Nat → Bool} (h : WI n rs n M) {p q : Nat} (hp : p < n) (hq : q < n) : M p q = true ↔ Lead rs (p : Int) (q : Int) := by
  refine ⟨h.so p q hp hq, fun l => ?_⟩
  have key : ∀ {a b : Int}, Lead rs a b → ∀ p q : Nat, a = (p : Int) → b = (q : Int) → p < n → q < n → M p q = true := by
    intro a b l
    induction l with
    | one g =>
      rintro p q rfl rfl hp hq
      exact h.ed p q hp hq g
    | @cons a b c g _ ih =>
      rintro p q rfl rfl hp hq
      have := hr.inn _ g
      simp only at this
      obtain ⟨m, rfl⟩ := Int.eq_ofNat_of_zero_le this.2.2.1
      have hm : m < n := by omega
      exact h.tr m p q hm hm hp hq (h.ed p m hp hm g) (ih m q rfl rfl hm hq)
  exact key l p q rfl rfl hp hq
end RG
end L3
namespace L3
namespace RG
open PySem PySem.Spec PyProof.Rows L2
open PN (views_p1)
theorem mono_pile {ds : List D} {C : Store} (R R' : D → Store → Prop) (h : ∀ d Cc, R d Cc → R' d Cc) : P_Lw_pile ds C R → P_Lw_pile ds C R' := fun ⟨m, c, x, e1, e2, e3, e4, e5, q⟩ => ⟨m, c, x, e1, e2, e3, e4, e5, fun f st rs c' y a b d e => h _ _ (q f st rs c' y a b d e)⟩
theorem callBT {P : PV} {k : Nat} {es es' : List D} {C1 : Store} {c : Int} {x : Cell} {Q : D → Store → Prop} (hk : C1[k]? = some x) (hx : Pad c x) (fl : Flat C1) (he : mapWs (fun _ => true) (viewG [k] C1 2) es = es')
    (h : P (.ptr 0 :: es') [x] fun d Cc => ∃ y c' a b xs, Cc = [y] ∧ Pad c' y ∧ d = .tup [a, b, .lst false xs] ∧ flatDs [a, b] = true ∧ flatDs xs = true ∧ Q (.tup [a, b, .ptr C1.length]) (C1.set k y ++ [.lst xs])) (mono : ∀ (R R' : D → Store → Prop), (∀ d Cc, R d Cc → R' d Cc) → P (.ptr 0 :: es') [x] R → P (.ptr 0 :: es') [x] R') : callTK 1 kf1 P (.ptr k :: es) C1 Q := by
  have e1 : kf1 (.ptr k :: es) = [k] := rfl
  unfold callTK
  rw [e1]
  refine ⟨rfl, List.nodup_cons.mpr ⟨by simp, List.nodup_nil⟩, fun k' hk' => ⟨x, ?_, hx.alive⟩, ?_⟩
  · simp at hk'; subst hk'; exact hk
  · have e2 : views [k] C1 (.ptr k :: es) = .ptr 0 :: es' := by
      unfold views
      rw [mapWs, he]
      simp [mapW, viewG, posOf]
    have e3 : viewC [k] C1 = [x] := by
      unfold viewC
      simp only [List.map_cons, List.map_nil, hk, Option.getD_some]
      rw [hx.view]
    rw [e2, e3]
    refine mono _ _ (fun d Cc hd => ?_) h
    obtain ⟨y, c', a, b, xs, rfl, hy, rfl, f1, f2, hq⟩ := hd
    have e4 : putS [k] ([y].map (backs [k])) C1 = C1.set k y := by
      show C1.set k (y.mapC id (backG [k])) = _
      rw [hy.view]
    rw [e4]
    refine ⟨a, b, xs, rfl, f1, f2, fun c hc => ?_, fl.set hy.flat, hq⟩
    simp at hc; subst hc; exact hy.ok
theorem pileT_e {i j k : Nat} {m c : Int} {x : Cell} {C1 : Store} {Γ : Slots} {Q : D → Store → Prop} (hk : C1[k]? = some x) (hx : Pad c x) (fl : Flat C1) (hv : Γ[i]? = some (some (.ptr k))) (hj : Γ[j]? = some (some (.int m))) (hm : m = 3 ∨ m = 24) (hc : c < 1000)
    (q : ∀ f st rs c' y, Pil f st rs → (st.length : Int) ≤ m → Pad c' y → c' ≤ c + 300 → Q (pilC C1.length f st) (C1.set k y ++ [.lst (rs.map pD)])) : eCallT 1 kf1 P_Lw_pile (aCons (eVar i) (aCons (eVar j) aNil)) Γ C1 Q := by
  rw [e_eCallT]
  simp only [u_aCons, u_aNil, u_eVar]
  exact ⟨_, hv, _, hj, callBT (k := k) (es' := [.int m]) hk hx fl rfl ⟨m, c, x, rfl, rfl, hx, hm, hc, fun f st rs c' y hp hl hy hc' => ⟨y, c', _, _, _, rfl, hy, rfl, rfl, flat_pairs rs, q f st rs c' y hp hl hy hc'⟩⟩ mono_pile⟩
theorem Pil.sub {f st : Str} {rs qs : List (Int × Int)} (h : Pil f st rs) (hs : qs.Sublist rs) : Pil f st qs := by
  obtain ⟨rk, hrk⟩ := h.acy
  exact ⟨h.fst, h.pos, h.top, h.sts, ⟨Nat.le_trans hs.length_le h.rul.few, fun z hz => h.rul.inn z (hs.subset hz), h.rul.srt.sublist hs⟩, rk, fun z hz => hrk z (hs.subset hz)⟩
theorem np_enumI : ∀ (l : List Int) (i : Nat), noptrs (enumD i (l.map .int)) = true
  | [], _ => rfl
  | s :: l, i => by simp [enumD, noptrs, noptr, np_enumI l (i + 1)]
def P_Lw_right : PV := fun ds C Q => ∃ (m : Int) (x : Cell), ds = [.ptr 0, .int m] ∧ C = [x] ∧ Pad 0 x ∧ (m = 3 ∨ m = 24) ∧ ∀ c y, Pad c y → Q (.bl true) [y]
theorem mono_right {ds : List D} {C : Store} (R R' : D → Store → Prop) (h : ∀ d Cc, R d Cc → R' d Cc) : P_Lw_right ds C R → P_Lw_right ds C R' := fun ⟨m, x, e1, e2, e3, e4, q⟩ => ⟨m, x, e1, e2, e3, e4, fun c y a => h _ _ (q c y a)⟩
theorem call_new {m : Int} {xs : List D} {C0 : Store} {Q : D → Store → Prop} (hx : Pad 0 (.lst xs)) (hm : m = 3 ∨ m = 24) (q : ∀ C', Q (.bl true) C') : callK 1 kf1 P_Lw_right [.ptr C0.length, .int m] (C0 ++ [.lst xs]) Q :=
  callB (k := C0.length) (ds' := [.ptr 0, .int m]) rfl (by simp) hx (by rw [views_p1]; rfl) ⟨m, _, rfl, rfl, hx, hm, fun c y hy => ⟨y, c, rfl, hy, rfl, q _⟩⟩ mono_right
def P_law : PV := fun ds C Q => ∃ ns : List Int, ds = [.lst true (ns.map .int)] ∧ C = [] ∧ ns.length ≤ 63 ∧ Q (.bl true) []
abbrev T_law_of (b : Int) : SV := (sSeq (sFor (iEnumD (aCons (eFrz (fSlL (eFrz (fBin nCat (eVar 0) (eFrz (fLst (aCons (eC (.int 0)) aNil))))) oNone (oSome (eCB oMax2 (aCons (eC (.int 1)) (aCons (eCB oMin2 (aCons (eCB oLenA (aCons (eVar 0) aNil)) (aCons (eC (.int b)) aNil))) aNil)))))) aNil)) (gvTup 2 (gvCons (gvName 1) (gvCons (gvName 2) gvNil))) (sIf (bNot (bB (eCallK 1 kf1 P_Lw_right (aCons (eCell (fCall P_Lw_pad (aCons (eVar 2) (aCons (eVar 1) aNil)))) (aCons (eIf (bB (eBin (oEq false) (eVar 0) (eFrz (fLst aNil)))) (eC (.int 3)) (eC (.int 24))) aNil))))) (sRet (eC (.bl false))) sNext))
  (sRet (eC (.bl true))))
theorem law_go {b : Int} (ds : List D) (C : Store) (Q3 : D → Store → Prop) (h : P_law ds C Q3) (hC : C.length = 0) : T_law_of b (enF 0 Q3) (start3 ["_law_script", "_law_k", "_law_cell"] ds) C := by
  obtain ⟨ns, rfl, rfl, hl, q⟩ := h
  have hlen : sizeLine = 16777216 := sizeLine_eq
  have e1 : ns.map D.int ++ [D.int 0] = (ns ++ [0]).map .int := by simp
  refine ⟨_, rfl, by decide, _, _, rfl, rfl, ?_⟩
  refine ⟨by simp; omega, _, rfl, _, _, rfl, rfl, ?_⟩
  refine ⟨_, _, rfl, _, _, rfl, _, rfl, _, rfl, _, _, rfl, rfl, rfl, ?_⟩
  generalize max (1 : Int) _ = z
  obtain ⟨ms, em, hml⟩ : ∃ ms : List Int, cutD (ns.map D.int ++ [D.int 0]) none (some z) = ms.map .int ∧ ms.length ≤ 64 := by
    rw [e1]
    unfold cutD
    refine ⟨_, by rw [← List.map_drop, ← List.map_take], ?_⟩
    simp
    omega
  refine (?_ : noptrs (enumD 0 (cutD (ns.map D.int ++ [D.int 0]) none (some z))) = true ∧ forW _ _ _ (enumD 0 (cutD (ns.map D.int ++ [D.int 0]) none (some z))) _ _)
  rw [em]
  refine ⟨np_enumI _ 0, ?_⟩
  refine forW_run (fun ds Γ C => ∃ (i : Nat) (rest : List Int), ds = enumD i (rest.map .int) ∧ i + rest.length ≤ 64 ∧ ∃ a b, Γ = [some (.lst true (ns.map .int)), a, b]) ?step ?stop _ _ _ ⟨0, ms, rfl, by omega, _, _, rfl⟩
  case step =>
    rintro d ds Γ C ⟨i, rest, e2, hi, a, b, rfl⟩ R hR
    cases rest with
    | nil => cases e2
    | cons n rest =>
    simp only [List.map_cons, enumD, List.cons.injEq] at e2
    simp only [List.length_cons] at hi
    obtain ⟨rfl, rfl⟩ := e2
    refine ⟨_, rfl, rfl, _, _, rfl, _, _, rfl, rfl, ?_⟩
    show sIf (bNot (bB (eCallK 1 kf1 P_Lw_right _))) _ _ _ _ _
    rw [u_sIf, u_bNot, u_bB, u_eCallK]
    refine ⟨_, rfl, _, rfl, n, (i : Nat), by rw [views_int, views_int, views_nil], by omega, by omega, fun xs hx hf => ⟨xs, rfl, hf, ?_⟩⟩
    refine ⟨_, rfl, by decide, ?_⟩
    refine oEq_ints (o := true) (o' := false) (ns := ns) (ms := []) ⟨_, rfl, ?_⟩
    by_cases he : ns = []
    · refine goT (by simp [he]) ?_
      simp only [u_eC, u_aNil]
      refine call_new (m := 3) hx (.inl rfl) fun C' => ⟨_, rfl, ?_⟩
      refine goF rfl ?_
      exact hR _ _ ⟨i + 1, rest, rfl, by omega, _, _, rfl⟩
    · refine goF (by simp [he]) ?_
      simp only [u_eC, u_aNil]
      refine call_new (m := 24) hx (.inr rfl) fun C' => ⟨_, rfl, ?_⟩
      refine goF rfl ?_
      exact hR _ _ ⟨i + 1, rest, rfl, by omega, _, _, rfl⟩
  case stop =>
    rintro Γ C ⟨i, rest, e2, hi, a, b, rfl⟩
    show Q3 (fin 0 C (.bl true)) (finS 0 C)
    rw [finS0]
    exact q
end RG
end L3
namespace L3
namespace RG
open PySem PySem.Spec PyProof.Rows L2
theorem gApp {l m : List Int} {i : Nat} (h : i < l.length) : (l ++ m).getD i 0 = l.getD i 0 := by
  rw [List.getD_eq_getElem?_getD, List.getD_eq_getElem?_getD, List.getElem?_append_left h]
theorem gAppR {l m : List Int} {i : Nat} (h : l.length ≤ i) : (l ++ m).getD i 0 = m.getD (i - l.length) 0 := by
  rw [List.getD_eq_getElem?_getD, List.getD_eq_getElem?_getD, List.getElem?_append_right h]
theorem nd_rev {l : List Int} (h : l.Nodup) : l.reverse.Nodup := (List.reverse_perm l).nodup_iff.mpr h
def Acy (rs : List (Int × Int)) : Prop := ∃ rk : Int → Nat, ∀ z, z ∈ rs → rk z.1 < rk z.2
theorem Acy.irr {rs : List (Int × Int)} (h : Acy rs) {a : Int} (l : Lead rs a a) : False := by
  obtain ⟨rk, hrk⟩ := h
  have key : ∀ {a b : Int}, Lead rs a b → rk a < rk b := by
    intro a b l
    induction l with
    | one g => exact hrk _ g
    | cons g _ ih => exact Nat.lt_trans (hrk _ g) ih
  exact Nat.lt_irrefl _ (key l)
structure Ring (rs : List (Int × Int)) (l : List Int) : Prop where
  nd : l.Nodup
  two : 2 ≤ l.length
  min : ∀ x, x ∈ l → l.headD 0 ≤ x
  stp : ∀ i : Nat, i < l.length → (l.getD i 0, l.getD ((i + 1) % l.length) 0) ∈ rs
theorem Ring.lead {rs : List (Int × Int)} {l : List Int} (h : Ring rs l) : Lead rs (l.getD 0 0) (l.getD 0 0) := by
  have h2 := h.two
  have key : ∀ k : Nat, 1 ≤ k → k < l.length → Lead rs (l.getD 0 0) (l.getD k 0) := by
    intro k h1 hk
    induction k with
    | zero => omega
    | succ k ih =>
      have hs := h.stp k (by omega)
      rw [Nat.mod_eq_of_lt (by omega)] at hs
      by_cases e : k = 0
      · subst e
        exact .one hs
      · exact (ih (by omega) (by omega)).snoc hs
  have hs := h.stp (l.length - 1) (by omega)
  have e : (l.length - 1 + 1) % l.length = 0 := by
    rw [show l.length - 1 + 1 = l.length by omega, Nat.mod_self]
  rw [e] at hs
  exact (key (l.length - 1) (by omega) (by omega)).snoc hs
theorem Ring.not_acy {rs : List (Int × Int)} {l : List Int} (h : Ring rs l) : ¬ Acy rs := fun a => a.irr h.lead
structure Ords (n : Nat) (rs : List (Int × Int)) (ord : List Int) : Prop where
  nd : ord.Nodup
  inn : ∀ x, x ∈ ord → 0 ≤ x ∧ x < n
  topo : Topo rs ord
  left : ∀ j : Nat, j < n → (j : Int) ∉ ord → ∃ z, z ∈ rs ∧ z.2 = (j : Int) ∧ z.1 ∉ ord
def lft (n : Nat) (ord : List Int) : List Int := ((List.range n).filter fun j : Nat => !decide ((j : Int) ∈ ord)).map fun j : Nat => (j : Int)
theorem lft_mem {n : Nat} {ord : List Int} {x : Int} : x ∈ lft n ord ↔ 0 ≤ x ∧ x < n ∧ x ∉ ord := by
  unfold lft
  rw [List.mem_map]
  constructor
  · rintro ⟨j, hj, rfl⟩
    obtain ⟨h1, h2⟩ := List.mem_filter.mp hj
    have h1' : j < n := by simpa using h1
    have h2' : (j : Int) ∉ ord := by simpa using h2
    exact ⟨by omega, by omega, h2'⟩
  · rintro ⟨h1, h2, h3⟩
    refine ⟨x.toNat, List.mem_filter.mpr ⟨by simp; omega, ?_⟩, by omega⟩
    rw [show ((x.toNat : Nat) : Int) = x by omega]
    simpa using h3
theorem Ords.acy {n : Nat} {rs : List (Int × Int)} {ord : List Int} (hr : Rul0 n rs) (h : Ords n rs ord) (he : lft n ord = []) : Acy rs := by
  have all : ∀ x : Int, 0 ≤ x → x < n → x ∈ ord := fun x h0 h1 => by
    by_cases hx : x ∈ ord
    · exact hx
    · have := (lft_mem (n := n) (ord := ord)).mpr ⟨h0, h1, hx⟩
      rw [he] at this
      simp at this
  refine ⟨fun x => ord.idxOf x, fun z hz => ?_⟩
  obtain ⟨_, _, a3, a4, _⟩ := hr.inn z hz
  obtain ⟨pre, post, e⟩ := List.append_of_mem (all z.2 a3 a4)
  have h1 := h.topo pre z.2 post e z hz rfl
  have nd := h.nd
  rw [e] at nd ⊢
  have h2 : z.2 ∉ pre := fun hm => (List.nodup_append.mp nd).2.2 _ hm _ (by simp) rfl
  show List.idxOf z.1 (pre ++ z.2 :: post) < List.idxOf z.2 (pre ++ z.2 :: post)
  rw [List.idxOf_append, if_pos h1, List.idxOf_append, if_neg h2]
  have := List.idxOf_lt_length_of_mem h1
  omega
structure Way (n : Nat) (rs : List (Int × Int)) (ord way : List Int) : Prop where
  inn : ∀ x, x ∈ way → x ∈ lft n ord
  stp : ∀ i : Nat, i + 1 < way.length → (way.getD (i + 1) 0, way.getD i 0) ∈ rs
theorem Way.cons {n : Nat} {rs : List (Int × Int)} {ord w : List Int} {x p : Int} (h : Way n rs ord (w ++ [x])) (hp : p ∈ lft n ord) (hz : (p, x) ∈ rs) : Way n rs ord (w ++ [x] ++ [p]) := by
  refine ⟨fun y hy => ?_, fun i hi => ?_⟩
  · rcases List.mem_append.mp hy with hy | hy
    · exact h.inn y hy
    · rw [List.mem_singleton.mp hy]; exact hp
  · have hl : (w ++ [x]).length = w.length + 1 := by simp
    rw [List.length_append, List.length_singleton, hl] at hi
    by_cases e : i + 1 < w.length + 1
    · have := h.stp i (by omega)
      rw [gApp (l := w ++ [x]) (by omega), gApp (l := w ++ [x]) (by omega)]
      exact this
    · have ei : i = w.length := by omega
      subst ei
      rw [gAppR (l := w ++ [x]) (by omega), gApp (l := w ++ [x]) (by omega), gAppR (l := w) (by omega)]
      simpa using hz
theorem Ords.pred {n : Nat} {rs : List (Int × Int)} {ord : List Int} (hr : Rul0 n rs) (h : Ords n rs ord) {x : Int} (hx : x ∈ lft n ord) : ∃ z, z ∈ rs ∧ z.2 = x ∧ z.1 ∈ lft n ord := by
  obtain ⟨h0, h1, h2⟩ := lft_mem.mp hx
  obtain ⟨j, rfl⟩ := Int.eq_ofNat_of_zero_le h0
  obtain ⟨z, hz, e, hn⟩ := h.left j (by omega) h2
  obtain ⟨a1, a2, _⟩ := hr.inn z hz
  exact ⟨z, hz, e, lft_mem.mpr ⟨a1, a2, hn⟩⟩
structure Rnd (rs : List (Int × Int)) (l : List Int) : Prop where
  nd : l.Nodup
  two : 2 ≤ l.length
  stp : ∀ i : Nat, i < l.length → (l.getD i 0, l.getD ((i + 1) % l.length) 0) ∈ rs
theorem Way.round {n : Nat} {rs : List (Int × Int)} {ord w : List Int} {x : Int} {i : Nat} (hr : Rul0 n rs) (h : Way n rs ord (w ++ [x])) (nd : w.Nodup) (hi : w[i]? = some x) : Rnd rs ((w ++ [x]).drop (i + 1)).reverse := by
  have hil := (List.getElem?_eq_some_iff.mp hi).1
  have hl : (w ++ [x]).length = w.length + 1 := by simp
  have gx : (w ++ [x]).getD i 0 = x := by
    rw [gApp hil, List.getD_eq_getElem?_getD, hi]
    rfl
  have glast : (w ++ [x]).getD w.length 0 = x := by
    rw [gAppR (by omega)]
    simp
  have hm : ((w ++ [x]).drop (i + 1)).reverse.length = w.length - i := by
    rw [List.length_reverse, List.length_drop, hl]
    omega
  have at' : ∀ j : Nat, j < w.length - i → ((w ++ [x]).drop (i + 1)).reverse.getD j 0 = (w ++ [x]).getD (w.length - j) 0 := fun j hj => by
    have hdl : ((w ++ [x]).drop (i + 1)).length = w.length - i := by rw [List.length_drop, hl]; omega
    rw [List.getD_eq_getElem?_getD, List.getD_eq_getElem?_getD, List.getElem?_reverse (by omega), hdl, List.getElem?_drop]
    congr 2
    omega
  have ne : i + 1 ≠ w.length := fun e => by
    have := h.stp i (by omega)
    rw [e, glast, gx] at this
    exact (hr.inn _ this).2.2.2.2 rfl
  refine ⟨?_, by omega, fun j hj => ?_⟩
  · refine nd_rev ?_
    rw [List.drop_append_of_le_length (by omega)]
    refine List.nodup_append.mpr ⟨nd.sublist (List.drop_sublist ..), by simp, fun a ha b hb e => ?_⟩
    rw [List.mem_singleton] at hb
    subst e hb
    obtain ⟨k, hk⟩ := List.mem_iff_getElem?.mp ha
    rw [List.getElem?_drop] at hk
    have hkl := (List.getElem?_eq_some_iff.mp hk).1
    have e1 := (List.getElem?_eq_some_iff.mp hi).2
    have e2 := (List.getElem?_eq_some_iff.mp hk).2
    have := List.pairwise_iff_getElem.mp nd i (i + 1 + k) hil hkl (by omega)
    exact this (e1.trans e2.symm)
  · rw [hm] at hj ⊢
    rw [at' j hj]
    by_cases e : j + 1 = w.length - i
    · rw [e, Nat.mod_self, at' 0 (by omega)]
      have h1 := h.stp i (by omega)
      rw [gx] at h1
      rw [show w.length - j = i + 1 by omega, Nat.sub_zero, glast]
      exact h1
    · rw [Nat.mod_eq_of_lt (by omega), at' (j + 1) (by omega)]
      have h1 := h.stp (w.length - (j + 1)) (by omega)
      rw [show w.length - (j + 1) + 1 = w.length - j by omega] at h1
      exact h1
theorem rot_at {l : List Int} {a j : Nat} (ha : a < l.length) (hj : j < l.length) : (l.drop a ++ l.take a).getD j 0 = l.getD ((j + a) % l.length) 0 := by
  have hd : (l.drop a).length = l.length - a := List.length_drop
  by_cases h : j < l.length - a
  · rw [gApp (by omega), Nat.mod_eq_of_lt (by omega), List.getD_eq_getElem?_getD, List.getD_eq_getElem?_getD, List.getElem?_drop]
    congr 2
    omega
  · rw [gAppR (by omega), hd]
    have e : (j + a) % l.length = j + a - l.length := by
      rw [Nat.mod_eq_sub_mod (by omega), Nat.mod_eq_of_lt (by omega)]
    rw [e, List.getD_eq_getElem?_getD, List.getD_eq_getElem?_getD, List.getElem?_take]
    rw [if_pos (by omega)]
    congr 2
    omega
theorem rot_len {l : List Int} {a : Nat} (ha : a < l.length) : (l.drop a ++ l.take a).length = l.length := by
  rw [List.length_append, List.length_drop, List.length_take]
  omega
theorem Rnd.rot {rs : List (Int × Int)} {l : List Int} (h : Rnd rs l) {a : Nat} (ha : a < l.length) : Rnd rs (l.drop a ++ l.take a) := by
  have hl := rot_len ha
  have hp : (l.drop a ++ l.take a).Perm l := by
    refine List.perm_append_comm.trans ?_
    rw [List.take_append_drop]
  refine ⟨hp.nodup_iff.mpr h.nd, by rw [hl]; exact h.two, fun i hi => ?_⟩
  rw [hl] at hi ⊢
  have h2 := h.two
  rw [rot_at ha hi, rot_at ha (Nat.mod_lt _ (by omega))]
  have := h.stp ((i + a) % l.length) (Nat.mod_lt _ (by omega))
  have e : ((i + 1) % l.length + a) % l.length = ((i + a) % l.length + 1) % l.length := by
    rw [Nat.mod_add_mod, Nat.mod_add_mod]
    congr 1
    omega
  rw [e]
  exact this
theorem Rnd.ring {rs : List (Int × Int)} {l : List Int} (h : Rnd rs l) {a : Nat} {m : Int} (ha : l[a]? = some m) (hm : ∀ x, x ∈ l → m ≤ x) : Ring rs (l.drop a ++ l.take a) := by
  have hal := (List.getElem?_eq_some_iff.mp ha).1
  have r := h.rot hal
  refine ⟨r.nd, r.two, fun x hx => ?_, r.stp⟩
  have e : (l.drop a ++ l.take a).headD 0 = m := by
    rw [List.drop_eq_getElem_cons hal]
    exact (List.getElem?_eq_some_iff.mp ha).2
  rw [e]
  refine hm x ?_
  rcases List.mem_append.mp hx with hx | hx
  · exact List.mem_of_mem_drop hx
  · exact List.mem_of_mem_take hx
def nxt (rs : List (Int × Int)) (L : List Int) (x : Int) : Int := ((rs.filter fun z => decide (z.2 = x) && decide (z.1 ∈ L)).map (·.1)).headD 0
def itr (rs : List (Int × Int)) (L : List Int) : Nat → Int
  | 0 => L.headD 0
  | k + 1 => nxt rs L (itr rs L k)
def RgOf (n : Nat) (rs : List (Int × Int)) (l : List Int) : Prop := ∃ (ord w : List Int) (x m : Int) (i j : Nat), Ords n rs ord ∧ w ++ [x] = (List.range (w.length + 1)).map (itr rs (lft n ord)) ∧ w.Nodup ∧ w[i]? = some x ∧
  ((w ++ [x]).drop (i + 1)).reverse.Nodup ∧ ((w ++ [x]).drop (i + 1)).reverse[j]? = some m ∧ (∀ y, y ∈ ((w ++ [x]).drop (i + 1)).reverse → m ≤ y) ∧ l = ((w ++ [x]).drop (i + 1)).reverse.drop j ++ ((w ++ [x]).drop (i + 1)).reverse.take j
end RG
end L3
namespace L3
namespace RG
open PySem PySem.Spec PyProof.Rows L2
open PN (lc_rowsF lc_ofF rgI_range)
theorem _root_.L3.OInv.ords {n : Nat} {rs : List (Int × Int)} {fd : List Int} {w : Nat → Int} (I : OInv n rs fd [] w []) : Ords n rs fd := by
  have nd := I.nd
  rw [List.append_nil] at nd
  refine ⟨nd, fun x hx => I.inn x (by simpa using hx), I.topo, fun j hj hm => ?_⟩
  have h1 := I.iff j hj
  rw [List.append_nil] at h1
  have h2 := I.wt j hj
  simp only [List.count_nil] at h2
  have h3 : cnt rs fd (j : Int) ≠ 0 := fun e => hm (h1.mpr (by omega))
  by_cases h : ∃ z, z ∈ rs ∧ z.2 = (j : Int) ∧ z.1 ∉ fd
  · exact h
  · refine absurd (cnt_zero.mpr fun z hz e => ?_) h3
    by_cases hz1 : z.1 ∈ fd
    · exact hz1
    · exact absurd ⟨z, hz, e, hz1⟩ h
def P_ordered : PV := fun ds C Q => ∃ (o : Bool) (n : Nat) (rs : List (Int × Int)), ds = [.int (n : Nat), .lst o (rs.map pD)] ∧ 1 ≤ n ∧ n ≤ 24 ∧ Rul0 n rs ∧ ∀ ord : List Int, Ords n rs ord → Q (.lst false (ord.map .int)) C
theorem v_ordered (ds : List D) (C : Store) (Q3 : D → Store → Prop) (h : P_ordered ds C Q3) (hC : C.length = 0) : T_ordered P_straight_behind (enF 0 Q3) (start3 N_ordered ds) C := by
  obtain ⟨o, n, rs, rfl, h1, hn, hr, q⟩ := h
  rw [List.length_eq_zero_iff] at hC
  subst hC
  have hz := sizeL
  have hf := hr.few
  refine ⟨Nat.zero_le _, ?_⟩
  refine ⟨by rw [hz]; show 1 ≤ 16777216; decide, _, rfl, _, n, rfl, rfl, by omega, by omega, by simp; omega, rfl, ?_⟩
  rw [rep0]
  refine ⟨_, rfl, _, rfl, rfl, np_pairs rs, ?_⟩
  refine forW_run (fun ds Γ C => ∃ done rest, rs = done ++ rest ∧ ds = rest.map pD ∧ C = [.lst [], .lst (wL n (cn done))] ∧ ∃ a b, Γ = [some (.int (n : Nat)), some (.lst o (rs.map pD)), some (.ptr 0), some (.ptr 1), a, b, none, none]) ?step ?stop _ _ _ ⟨[], rs, rfl, rfl, rfl, _, _, rfl⟩
  case step =>
    rintro d ds Γ C ⟨done, rest, e1, e2, rfl, a, b, rfl⟩ R hR
    cases rest with
    | nil => cases e2
    | cons z rest =>
    simp only [List.map_cons, List.cons.injEq] at e2
    obtain ⟨rfl, rfl⟩ := e2
    obtain ⟨a1, a2, a3, a4, a5⟩ := hr.inn z (by rw [e1]; simp)
    obtain ⟨j, hj⟩ := Int.eq_ofNat_of_zero_le a3
    have hji : j < n := by omega
    refine ⟨_, rfl, rfl, _, _, rfl, _, _, rfl, rfl, ?_⟩
    refine ⟨_, rfl, _, rfl, 1, _, _, j, _, rfl, rfl, rfl, by rw [wL_len, hj]; exact ix_nat hji, wL_get hji, _, _, rfl, rfl, rfl, ?_⟩
    refine hR _ _ ⟨done ++ [z], rest, by rw [e1]; simp, rfl, ?_, _, _, rfl⟩
    show [Cell.lst [], Cell.lst ((wL n (cn done)).set j (.int (cn done j + 1)))] = _
    rw [wL_set hji]
    congr 4
    funext i
    rw [cn_snoc, hj]
    by_cases e : i = j
    · subst e; simp
    · rw [if_neg e, if_neg (by omega)]
  case stop =>
    rintro Γ C ⟨done, rest, e1, e2, rfl, a, b, rfl⟩
    cases rest with
    | cons z rest => cases e2
    | nil =>
    rw [List.append_nil] at e1
    subst e1
    refine ⟨_, rfl, _, rfl, true, n, rs, by rw [views_int, views_rs, views_nil], hn, hr, bhD_ok, ?_⟩
    refine ⟨_, rfl, n, rfl, by omega, by omega, ?_⟩
    refine lc_filter (fun d => match d with | .int i => decide (cn rs i.toNat = 0) | _ => false) (fun d => d) (rgI 0 ((n : Int)).toNat) (fun _ h => by simp at h) (by rw [rg_len']; omega) (fun d hd R R' hR hR' => ?_) ?_
    · obtain ⟨i, hi, rfl⟩ := List.mem_map.mp hd
      have hin : i < n := by simpa using hi
      have ei : (0 : Int) + (i : Nat) = (i : Int) := by omega
      rw [ei] at hR hR' ⊢
      refine ⟨_, rfl, _, rfl, _, _, _, rfl, rfl, wL_at hin, _, rfl, ?_⟩
      by_cases hw : cn rs i = 0
      · refine goT (by simp [hw]) ?_
        exact ⟨_, rfl, hR (by simp [hw])⟩
      · refine goF (by simp [hw]) ?_
        exact hR' (by simp [hw])
    · have ef : ((rgI 0 ((n : Int)).toNat).filter fun d => match d with | .int i => decide (cn rs i.toNat = 0) | _ => false).map (fun d => d) = (fr0 n (cn rs)).map .int := by
        unfold rgI fr0
        rw [Int.toNat_natCast]
        simp only [List.filter_map, List.map_map]
        congr 1
        · funext i
          show D.int (0 + (i : Nat)) = D.int (i : Nat)
          rw [Int.zero_add]
        · apply List.filter_congr
          intro i _
          show decide (cn rs (0 + (i : Int)).toNat = 0) = _
          rw [Int.zero_add, Int.toNat_natCast]
      rw [ef]
      let Γ0 : Option D → Option D → Slots := fun p q => [some (.int (n : Nat)), some (.lst o (rs.map pD)), some (.ptr 0), some (.ptr 1), p, q, some (bhD n rs), some (.ptr 2)]
      refine ⟨fun m Γ C => ∃ (fd fr : List Int) (w : Nat → Int) (p q : Option D), m = n - fd.length ∧ OInv n rs fd fr w [] ∧ Γ = Γ0 p q ∧ C = [.lst (fd.map .int), .lst (wL n w), .lst (fr.map .int)], ⟨_, [], fr0 n (cn rs), cn rs, _, _, rfl, start_inv, rfl, rfl⟩, ?_⟩
      rintro m Γ C ⟨fd, fr, w, p, q5, rfl, I, rfl, rfl⟩
      refine ⟨_, rfl, Nat.zero_le _, ?_⟩
      refine ⟨_, _, (show pyD _ (.ptr 2) = some (.list (fr.map .int)) by simp [pyD, pyW, pyG, pyWs_ints]), pyD_ints (o := false) [], shaped_ints fr, shaped_ints [], _, rfl, ?_⟩
      rw [eqv_ints]
      by_cases he : fr = []
      · subst he
        refine goF (by simp) ?_
        refine ⟨_, rfl, ?_⟩
        show Q3 (fin 0 _ (.ptr 0)) (finS 0 _)
        rw [fin_cell (ns := fd) rfl, finS0]
        exact q fd I.ords
      · refine goT (by simp [he]) ?_
        refine ⟨_, rfl, .ptr 2, fr, rfl, rfl, List.length_pos_iff.mpr he, fun mn hmn hle => ?_⟩
        obtain ⟨hm0, hm1⟩ := I.inn mn (List.mem_append_right _ hmn)
        obtain ⟨pp, rfl⟩ := Int.eq_ofNat_of_zero_le hm0
        have hpn : pp < n := by omega
        obtain ⟨j, hj1, hj2, hj3⟩ := idx_first fr _ hmn
        have hlen := nodup_len n (fd ++ fr) I.nd I.inn
        rw [List.length_append] at hlen
        have hfr0 : 0 < fr.length := List.length_pos_iff.mpr he
        refine ⟨_, rfl, fr.map .int, rfl, _, rfl, 2, fr, (pp : Int), j, rfl, rfl, rfl, hj1, hj2, ?_⟩
        rw [hj3]
        refine ⟨_, rfl, fd.map .int, rfl, _, rfl, 0, fd.map .int, _, rfl, rfl, rfl, by simp; omega, ?_⟩
        refine ⟨_, rfl, _, rfl, _, (pp : Int), .lst false ((bh rs pp).map .int), rfl, rfl, bhD_at hpn, _, rfl, rfl, noptrs_ints _, ?_⟩
        have It := I.take hmn
        have hb : ∀ x, x ∈ bh rs pp → 0 ≤ x ∧ x < n := fun x hx => by
          obtain ⟨z, hz, rfl⟩ := List.mem_map.mp hx
          have := hr.inn z (List.mem_filter.mp hz).1
          omega
        have e0 : fd.map D.int ++ [D.int (pp : Nat)] = (fd ++ [(pp : Int)]).map .int := by simp
        show forW _ _ _ _ _ [Cell.lst (fd.map D.int ++ [D.int (pp : Nat)]), .lst (wL n w), .lst ((fr.erase (pp : Int)).map .int)]
        rw [e0]
        refine inner_ok hn (bh rs pp) (fr.erase (pp : Int)) w q5 It hb fun fr' w' q' I' => ?_
        exact ⟨n - (fd ++ [(pp : Int)]).length, by simp; omega, fd ++ [(pp : Int)], fr', w', _, q', rfl, I', rfl, rfl⟩
def P_ring_by : PV := fun ds C Q => ∃ (o : Bool) (n : Nat) (rs : List (Int × Int)), ds = [.int (n : Nat), .lst o (rs.map pD)] ∧ 1 ≤ n ∧ n ≤ 24 ∧ Rul0 n rs ∧ (Acy rs → Q .non C) ∧ (∀ l : List Int, Ring rs l → RgOf n rs l → (∀ x, x ∈ l → 0 ≤ x ∧ x < n) → Q (.lst false (l.map .int)) C)
theorem v_ring_by (ds : List D) (C : Store) (Q3 : D → Store → Prop) (h : P_ring_by ds C Q3) (hC : C.length = 0) : T_ring_by P_ordered (enF 0 Q3) (start3 N_ring_by ds) C := by
  obtain ⟨o, n, rs, rfl, h1, hn, hr, qn, qr⟩ := h
  rw [List.length_eq_zero_iff] at hC
  subst hC
  have hz := sizeL
  have hf := hr.few
  unfold T_ring_by
  rw [u_sSeq, u_sAsg]
  refine ⟨_, rfl, _, rfl, true, n, rs, by rw [views_int, views_rs, views_nil], h1, hn, hr, fun ord O => ⟨np_ints, ?_⟩⟩
  try dsimp only
  rw [u_gvName, u_sSeq, u_sAsg]
  refine ⟨_, rfl, n, rfl, by omega, by omega, ?_⟩
  rw [rgI_range]
  refine lc_rowsF _ (fun q => .int (q : Nat)) (fun q : Nat => !decide ((q : Int) ∈ ord)) (fun _ h => by simp [srcOf] at h) (by omega) (fun q hq R1 R1' hR1 hR1' => ?_) ?_
  · rw [u_gvName]
    refine ⟨_, rfl, _, rfl, ?_⟩
    refine in_ints (ns := ord) ⟨_, rfl, ?_⟩
    by_cases hm : (q : Int) ∈ ord
    · exact goF (by simp [hm]) (hR1' (by simp [hm]))
    · exact goT (by simp [hm]) ⟨_, rfl, hR1 (by simp [hm])⟩
  have e1 : (((List.range n).filter fun q : Nat => !decide ((q : Int) ∈ ord)).map fun q : Nat => D.int (q : Nat)) = (lft n ord).map .int := by
    unfold lft
    rw [List.map_map]
    rfl
  rw [e1]
  try dsimp only
  rw [u_gvName, u_sSeq, u_sIf]
  refine ⟨_, rfl, Nat.zero_le _, ?_⟩
  refine oEq_ints (o := false) (o' := false) (ns := lft n ord) (ms := []) ⟨_, rfl, ?_⟩
  by_cases he : lft n ord = []
  · refine goT (by simp [he]) ?_
    try dsimp only
    rw [u_sRet]
    show Q3 (fin 0 _ .non) (finS 0 _)
    rw [finS0]
    exact qn (O.acy hr he)
  refine goF (by simp [he]) ?_
  rw [u_sNext]
  try dsimp only
  rw [u_sSeq, u_sAsg]
  obtain ⟨b, tl, etl⟩ : ∃ b tl, lft n ord = b :: tl := by
    cases hl : lft n ord with
    | nil => exact absurd hl he
    | cons b tl => exact ⟨b, tl, rfl⟩
  have hb : b ∈ lft n ord := by rw [etl]; simp
  have at0 : atI ((lft n ord).map D.int) 0 = some (.int b) := by rw [etl]; exact ints_at (l := b :: tl) (i := 0) rfl
  refine ⟨_, rfl, _, 0, _, rfl, rfl, at0, le5 _ (by simp), ?_⟩
  try dsimp only
  rw [u_gvName, u_sSeq]
  refine ⟨fun m Γ C => ∃ (w : List Int) (x : Int) (a b : Option D), m = n + 1 - w.length ∧ Way n rs ord (w ++ [x]) ∧ w ++ [x] = (List.range (w.length + 1)).map (itr rs (lft n ord)) ∧ w.Nodup ∧ Γ = [some (.int (n : Nat)), some (.lst o (rs.map pD)), some (.lst false (ord.map .int)), some (.lst false ((lft n ord).map .int)), a, some (.ptr 0), b, none, none] ∧ C = [.lst ((w ++ [x]).map .int)], ⟨_, [], b, _, _, rfl, ⟨fun y hy => by simp at hy; subst hy; exact hb, fun i hi => by simp at hi⟩, by rw [show (List.range (([] : List Int).length + 1)) = [0] from rfl]; simp [itr, etl], List.nodup_nil, rfl, rfl⟩, ?_⟩
  rintro m Γ C ⟨w, x, a, b', rfl, hw, hit, nd, rfl, rfl⟩
  have hlast : ((w ++ [x]))[(w ++ [x]).length - 1]? = some x := by simp
  have atl := ints_last hlast
  have hx := hw.inn x (by simp)
  refine ⟨_, rfl, _, rfl, _, rfl, _, rfl, _, _, _, rfl, rfl, atl, w ++ [x], x, rfl, rfl, _, _, rfl, rfl, _, rfl, ?_⟩
  have hcnt : (w ++ [x]).count x = w.count x + 1 := by simp
  by_cases hm : x ∈ w
  · have hc : ¬ ((((w ++ [x]).count x : Nat) : Int) < 2) := by
      have := List.count_pos_iff.mpr hm
      omega
    refine goF (decide_eq_false hc) ?_
    obtain ⟨i, hi1, hi2, _⟩ := idx_first w x hm
    have hil := (List.getElem?_eq_some_iff.mp hi1).1
    try dsimp only
    rw [u_sSeq, u_sAsg]
    have hj1 : (w ++ [x])[i]? = some x := by rw [List.getElem?_append_left hil]; exact hi1
    have hj2 : ∀ m : Nat, m < i → (w ++ [x])[m]? ≠ some x := fun m hmi => by rw [List.getElem?_append_left (by omega)]; exact hi2 m hmi
    refine ⟨_, rfl, _, rfl, _, rfl, _, rfl, _, rfl, _, _, _, rfl, rfl, atl, w ++ [x], x, i, rfl, rfl, hj1, hj2, _, _, rfl, rfl, _, rfl, _, rfl, _, rfl, ?_⟩
    have ei : (i : Int) + 1 = ((i + 1 : Nat) : Int) := by omega
    rw [ei, cut_from _ _ (by rw [List.length_map]; simp; omega), ← List.map_drop, ← List.map_reverse]
    have R := hw.round hr nd hi1
    have hin : ∀ y, y ∈ ((w ++ [x]).drop (i + 1)).reverse → 0 ≤ y ∧ y < n := fun y hy => by
      have := lft_mem.mp (hw.inn y (List.mem_of_mem_drop (List.mem_reverse.mp hy)))
      omega
    have hrg : ∀ (j : Nat) (m : Int), ((w ++ [x]).drop (i + 1)).reverse[j]? = some m → (∀ y, y ∈ ((w ++ [x]).drop (i + 1)).reverse → m ≤ y) → RgOf n rs (((w ++ [x]).drop (i + 1)).reverse.drop j ++ ((w ++ [x]).drop (i + 1)).reverse.take j) := fun j m h1 h2 => ⟨ord, w, x, m, i, j, O, hit, nd, hi1, R.nd, h1, h2, rfl⟩
    generalize ((w ++ [x]).drop (i + 1)).reverse = l at *
    have hl24 := nodup_len n l R.nd hin
    have h2 := R.two
    try dsimp only
    rw [u_gvName, u_sSeq, u_sAsg]
    refine ⟨_, rfl, _, rfl, _, rfl, _, l, rfl, rfl, by omega, fun mn hmn hle => ?_⟩
    obtain ⟨j, hj1, hj2, _⟩ := idx_first l mn hmn
    have hjl := (List.getElem?_eq_some_iff.mp hj1).1
    refine ⟨l, mn, j, rfl, rfl, hj1, hj2, ?_⟩
    try dsimp only
    rw [u_gvName, u_sRet]
    refine ⟨_, rfl, _, rfl, _, rfl, _, rfl, _, rfl, _, rfl, _, rfl, _, rfl, _, _, rfl, rfl, ?_, ?_⟩
    · have h1 := cut_len (l.map D.int) (some (j : Int)) none
      have h2 := cut_len (l.map D.int) none (some (j : Int))
      rw [List.length_map] at h1 h2
      show _ + _ ≤ sizeLine
      omega
    rw [cut_from _ _ (by rw [List.length_map]; omega), cut_to, ← List.map_drop, ← List.map_take, ← List.map_append]
    show Q3 (fin 0 _ (.lst false ((l.drop j ++ l.take j).map .int))) (finS 0 _)
    rw [fin_ints, finS0]
    refine qr _ (R.ring hj1 hle) (hrg j mn hj1 hle) fun y hy => hin y ?_
    rcases List.mem_append.mp hy with hy | hy
    · exact List.mem_of_mem_drop hy
    · exact List.mem_of_mem_take hy
  · have hc : (((w ++ [x]).count x : Nat) : Int) < 2 := by
      have := List.count_eq_zero.mpr hm
      omega
    refine goT (decide_eq_true hc) ?_
    have nd2 : (w ++ [x]).Nodup := List.nodup_append.mpr ⟨nd, by simp, fun a ha b hb e => by
      rw [List.mem_singleton] at hb
      subst e hb
      exact hm ha⟩
    have hwl := nodup_len n (w ++ [x]) nd2 fun y hy => by
      have := lft_mem.mp (hw.inn y hy)
      omega
    rw [List.length_append, List.length_singleton] at hwl
    rw [u_sDrop]
    refine ⟨_, rfl, _, rfl, _, rfl, _, rfl, ?_⟩
    refine lc_ofF rs pD (fun z => .int z.1) (fun z => decide (z.2 = x) && decide (z.1 ∈ lft n ord)) (fun _ h => by simp [srcOf] at h) (by omega) (fun z hz' R1 R1' hR1 hR1' => ?_) ?_
    · refine ⟨_, rfl, rfl, _, _, rfl, _, _, rfl, rfl, ?_⟩
      refine ⟨_, rfl, _, rfl, _, rfl, _, _, _, rfl, rfl, atl, _, rfl, ?_⟩
      by_cases e : z.2 = x
      · refine goT (by simp [e]) ?_
        refine ⟨_, rfl, _, rfl, ?_⟩
        refine in_ints (ns := lft n ord) ⟨_, rfl, ?_⟩
        by_cases e2 : z.1 ∈ lft n ord
        · exact goT (by simp [e2]) ⟨_, rfl, hR1 (by simp [e, e2])⟩
        · exact goF (by simp [e2]) (hR1' (by simp [e2]))
      · refine goF (by simp [e]) ?_
        exact goF rfl (hR1' (by simp [e]))
    obtain ⟨z0, hz0, e0, e1⟩ := O.pred hr hx
    have hz0f : z0 ∈ rs.filter fun z => decide (z.2 = x) && decide (z.1 ∈ lft n ord) := List.mem_filter.mpr ⟨hz0, by simp [e0, e1]⟩
    have emap : ((rs.filter fun z => decide (z.2 = x) && decide (z.1 ∈ lft n ord)).map fun z => D.int z.1) = ((rs.filter fun z => decide (z.2 = x) && decide (z.1 ∈ lft n ord)).map (·.1)).map .int := by rw [List.map_map]; rfl
    cases hfil : rs.filter fun z => decide (z.2 = x) && decide (z.1 ∈ lft n ord) with
    | nil => rw [hfil] at hz0f; simp at hz0f
    | cons z1 tl2 =>
    have hz1 : z1 ∈ rs.filter fun z => decide (z.2 = x) && decide (z.1 ∈ lft n ord) := by rw [hfil]; simp
    obtain ⟨f1, f2⟩ := List.mem_filter.mp hz1
    have f3 : z1.2 = x ∧ z1.1 ∈ lft n ord := by simpa using f2
    have at1 : atI (((z1 :: tl2).map fun z => D.int z.1)) 0 = some (.int z1.1) := by
      have := ints_at (l := (z1 :: tl2).map (·.1)) (i := 0) rfl
      rw [List.map_map] at this
      exact this
    refine ⟨_, 0, _, rfl, rfl, at1, 0, (w ++ [x]).map .int, _, rfl, rfl, rfl, by simp; omega, ?_⟩
    refine ⟨_, ?_, w ++ [x], z1.1, _, _, rfl, hw.cons f3.2 (by rw [← f3.1]; exact f1), ?_, nd2, rfl, by simp⟩
    · simp
      omega
    · have el : (w ++ [x]).length + 1 = w.length + 1 + 1 := by simp
      have ex : itr rs (lft n ord) w.length = x := by
        have := congrArg (fun l => l[w.length]?) hit
        simp only [List.getElem?_map, List.getElem?_range (Nat.lt_succ_self _), Option.map_some] at this
        rw [List.getElem?_append_right (Nat.le_refl _)] at this
        simpa using this.symm
      rw [el, List.range_succ, List.map_append, ← hit]
      show w ++ [x] ++ [z1.1] = w ++ [x] ++ [nxt rs (lft n ord) (itr rs (lft n ord) w.length)]
      rw [ex]
      unfold nxt
      rw [hfil]
      rfl
end RG
end L3
namespace L3
namespace RG
open PySem PySem.Spec PyProof.Rows L2
open PN (lc_of lc_rowsF lc_ofF rgI_range)
structure HeapR (f st : Str) (rs : List (Int × Int)) : Prop where
  fst : f = cR ∨ f = cB
  pos : 1 ≤ st.length
  top : st.length ≤ 24
  sts : ∀ c, c ∈ st.cps.toList → c = 82 ∨ c = 66
  rul : Rul st.length rs
theorem HeapR.pil {f st : Str} {rs : List (Int × Int)} (h : HeapR f st rs) (a : Acy rs) : Pil f st rs := ⟨h.fst, h.pos, h.top, h.sts, h.rul, a⟩
theorem heap_of {f st : Str} {rs : List (Int × Int)} (h : Pil f st rs) : HeapR f st rs := ⟨h.fst, h.pos, h.top, h.sts, h.rul⟩
theorem pil_acy {f st : Str} {rs : List (Int × Int)} (h : Pil f st rs) : Acy rs := h.acy
def P_is_pile : PV := fun ds C Q => ∃ (o : Bool) (f st : Str) (rs : List (Int × Int)), ds = [pil o f st rs] ∧ HeapR f st rs ∧ (∀ b : Bool, (b = true ↔ Acy rs) → Q (.bl b) C)
theorem v_is_pile (ds : List D) (C : Store) (Q3 : D → Store → Prop) (h : P_is_pile ds C Q3) (hC : C.length = 0) : T_is_pile P_ring_by P_is_heap (enF 0 Q3) (start3 N_is_pile ds) C := by
  obtain ⟨o, f, st, rs, rfl, hp, q⟩ := h
  rw [List.length_eq_zero_iff] at hC
  subst hC
  have hz := sizeL
  have h24 := hp.top
  refine ⟨_, rfl, true, f, st, rs, views_pil1, hp.fst, hp.pos, hp.top, hp.sts, hp.rul, rfl, true, rfl, ?_⟩
  refine goT rfl ?_
  refine ⟨_, rfl, _, _, _, rfl, rfl, rfl, by omega, _, rfl, _, _, _, rfl, rfl, rfl, ?_⟩
  refine ⟨true, st.length, rs, by rw [views_int, views_rs, views_nil], hp.pos, hp.top, hp.rul.lax, fun a => ⟨rfl, rfl, true, rfl, q true (by simp [a])⟩, fun l hl _ hin => ⟨np_ints, rfl, false, rfl, q false ?_⟩⟩
  have := hl.not_acy
  simp [this]
def P_need_pile : PV := L3.P_need_pile
theorem v_need_pile (ds : List D) (C : Store) (Q3 : D → Store → Prop) (h : P_need_pile ds C Q3) (hC : C.length = 0) : T_need_pile P_is_pile (enF 0 Q3) (start3 N_need_pile ds) C := by
  obtain ⟨o, f, st, rs, rfl, hp, q⟩ := h
  rw [List.length_eq_zero_iff] at hC
  subst hC
  refine ⟨_, rfl, true, f, st, rs, views_pil1, heap_of hp, fun b hb => ⟨rfl, b, rfl, ?_⟩⟩
  rw [hb.mpr hp.acy]
  exact goF rfl q
end RG
end L3
namespace L3
namespace RG
open PySem PySem.Spec PyProof.Rows L2
open PN (tPut_pairs yPut_pairs addP kP_D views_p1 fin_pil' lc_of)
theorem HeapR.sub {f st : Str} {rs qs : List (Int × Int)} (h : HeapR f st rs) (hs : qs.Sublist rs) : HeapR f st qs :=
  ⟨h.fst, h.pos, h.top, h.sts, ⟨Nat.le_trans hs.length_le h.rul.few, fun z hz => h.rul.inn z (hs.subset hz), h.rul.srt.sublist hs⟩⟩
end RG
end L3
namespace L3
namespace RG
open PySem PySem.Spec PyProof.Rows L2
open PN (lc_of lc_rowsF rgI_range Sm P_sm views_p1)
end RG
end L3
namespace L3
namespace RG
open PySem PySem.Spec PyProof.Rows L2
end RG
end L3
namespace L3
namespace RG
namespace K08
open PySem PySem.Spec PyProof.Rows L2
theorem gt_eq : (Str.ofString ">") = ⟨#[62]⟩ := by decide +kernel
def wd (z : Int × Int) : Str := tx z.1 ++ ⟨#[62]⟩ ++ tx z.2
def words (f st : Str) (rs : List (Int × Int)) : List Str := [f, st] ++ rs.map wd
def shown (f st : Str) (rs : List (Int × Int)) : Str := Txt.join ⟨#[32]⟩ (words f st rs)
theorem wd_cps (z : Int × Int) : (wd z).cps.toList = (tx z.1).cps.toList ++ [62] ++ (tx z.2).cps.toList := by
  unfold wd
  simp [PySem.Str.cps_append]
theorem gt_free {n : Int} (h0 : 0 ≤ n) : 62 ∉ (tx n).cps.toList := fun h => by
  have := tx_digits h0 62 h
  omega
theorem wd_len {z : Int × Int} (h1 : 0 ≤ z.1 ∧ z.1 < 100) (h2 : 0 ≤ z.2 ∧ z.2 < 100) : (wd z).length ≤ 5 := by
  have a := tx_len (k := 2) h1.1 (by decide) h1.2
  have b := tx_len (k := 2) h2.1 (by decide) h2.2
  have e : (wd z).length = (tx z.1).length + 1 + (tx z.2).length := by simp [wd, PySem.Str.length, PySem.Str.cps_append]
  omega
theorem split_wd {z : Int × Int} (h1 : 0 ≤ z.1) (h2 : 0 ≤ z.2) : Txt.split (wd z) ⟨#[62]⟩ = [tx z.1, tx z.2] := by
  have e : wd z = Txt.join ⟨#[62]⟩ [tx z.1, tx z.2] := by
    rw [TL.join_eq]
    rfl
  rw [e]
  refine TL.split_join (s := 62) (S := []) (y := ⟨#[62]⟩) rfl (by decide +kernel) (by simp) fun p hp => ?_
  simp only [List.mem_cons, List.not_mem_nil, or_false] at hp
  rcases hp with rfl | rfl
  · exact gt_free h1
  · exact gt_free h2
theorem split_shown {f st : Str} {rs : List (Int × Int)} (hf : 32 ∉ f.cps.toList) (hs : 32 ∉ st.cps.toList) (hr : ∀ z, z ∈ rs → 0 ≤ z.1 ∧ 0 ≤ z.2) : Txt.split (shown f st rs) ⟨#[32]⟩ = words f st rs := by
  refine TL.split_join (s := 32) (S := []) (y := ⟨#[32]⟩) rfl (by decide +kernel) (by simp [words]) fun p hp => ?_
  unfold words at hp
  rcases List.mem_append.mp hp with h | h
  · simp only [List.mem_cons, List.not_mem_nil, or_false] at h
    rcases h with rfl | rfl
    · exact hf
    · exact hs
  · obtain ⟨z, hz, rfl⟩ := List.mem_map.mp h
    obtain ⟨h1, h2⟩ := hr z hz
    show 32 ∉ (wd z).cps.toList
    rw [wd_cps]
    simp only [List.mem_append, List.mem_cons, List.not_mem_nil, or_false, not_or]
    exact ⟨⟨tx_free h1, by decide⟩, tx_free h2⟩
def P_words_in : PV := fun ds C Q => ∃ s : Str, ds = [.str s] ∧ s.length + 2 ≤ sizeLine ∧ Q (.lst false ((Txt.split s ⟨#[32]⟩).map .str)) C
theorem v_words_in (ds : List D) (C : Store) (Q3 : D → Store → Prop) (h : P_words_in ds C Q3) (hC : C.length = 0) : T_words_in (enF 0 Q3) (start3 N_words_in ds) C := by
  obtain ⟨s, rfl, hs, q⟩ := h
  rw [List.length_eq_zero_iff] at hC
  subst hC
  refine ⟨_, rfl, .str, rfl, _, rfl, ?_⟩
  refine ⟨_, rfl, _, rfl, _, rfl, by decide +kernel, hs, ?_⟩
  show Q3 (fin 0 [] (.lst false ((Txt.split s (Str.ofString " ")).map .str))) _
  rw [bl_eq]
  unfold fin
  rw [mapW, mapWs_strs]
  exact q
def P_number_in : PV := fun ds C Q => ∃ n : Int, ds = [.str (tx n)] ∧ 0 ≤ n ∧ n < 10 ^ 600 ∧ Q (.int n) C
theorem fig_cps : (Str.ofString "0123456789").cps.toList = [48, 49, 50, 51, 52, 53, 54, 55, 56, 57] := by decide +kernel
theorem v_number_in (ds : List D) (C : Store) (Q3 : D → Store → Prop) (h : P_number_in ds C Q3) (hC : C.length = 0) : T_number_in (enF 0 Q3) (start3 N_number_in ds) C := by
  obtain ⟨n, rfl, h0, hn, q⟩ := h
  rw [List.length_eq_zero_iff] at hC
  subst hC
  have hlen : sizeLine = 16777216 := sizeLine_eq
  have hl := tx_len h0 (by decide) hn
  have hd := tx_digits h0
  have hne := tx_ne h0
  have ne0 : ¬ tx n = Str.ofString "" := fun e => hne (by rw [e]; decide +kernel)
  have hin : ∀ c, c ∈ (tx n).cps.toList → (!(Builtin.Str.occurrences (Str.ofString "0123456789") ⟨#[c]⟩ 0 (Str.ofString "0123456789").length 1).isEmpty) = true := fun c hc => by
    rw [StrLaws.found_one, fig_cps]
    have := hd c hc
    simp
    omega
  refine ⟨_, rfl, _, rfl, ?_⟩
  refine goF (by rw [decide_eq_false ne0]; rfl) ?_
  refine ⟨_, rfl, _, rfl, ?_⟩
  refine lc_map (fun _ => .bl true) (signs (tx n)) (fun _ _ => rfl) (by unfold signs; rw [List.length_map]; show (tx n).cps.toList.length ≤ _; rw [Array.length_toList]; unfold Str.length at hl; omega) (fun d hd' R hR => ?_) ?_
  · obtain ⟨c, hc, rfl⟩ := List.mem_map.mp hd'
    refine ⟨_, rfl, ?_⟩
    show R (.bl (false != _)) _
    rw [hin c hc]
    exact hR
  refine ⟨_, (signs (tx n)).map fun _ => true, rfl, ?_, _, rfl, ?_⟩
  · simp [Cell.frz, lstOf]
  refine goF (by simp) ?_
  cases ec : (tx n).cps.toList with
  | nil => exact absurd ec hne
  | cons c r =>
    refine ⟨_, rfl, _, 0, c, rfl, rfl, by omega, by unfold atI ixN; rw [ec]; simp, _, rfl, ?_⟩
    have fin : (sRet (eCB oIntS (aCons (eVar 0) aNil))) (enF 0 Q3) (start3 N_number_in [.str (tx n)]) [] := ⟨_, rfl, _, n, rfl, tx_reads h0 hn, by omega, q⟩
    by_cases h48 : c = 48
    · have hz := tx_zero h0 ec h48
      subst hz
      have e0 : tx 0 = Str.ofString "0" := by decide +kernel
      subst h48
      refine goT (by decide +kernel) ?_
      refine ⟨_, rfl, _, rfl, ?_⟩
      exact goF (by rw [e0]; decide +kernel) fin
    · refine goF (by
        rw [show Str.ofString "0" = ⟨#[48]⟩ by decide +kernel]
        simp [h48]) ?_
      exact goF rfl fin
end K08
end RG
end L3
namespace L3
namespace RG
namespace K08
open PySem PySem.Spec PyProof.Rows L2
open PN (lc_of lc_ofF rgI_range le5)
theorem le2 (a b : D) : [a, b].length ≤ sizeLine := by rw [sizeLine_eq]; show 2 ≤ 16777216; decide
def P_rule_in : PV := fun ds C Q => ∃ z : Int × Int, ds = [.str (wd z)] ∧ (0 ≤ z.1 ∧ z.1 < 100) ∧ (0 ≤ z.2 ∧ z.2 < 100) ∧ Q (pD z) C
theorem v_rule_in (ds : List D) (C : Store) (Q3 : D → Store → Prop) (h : P_rule_in ds C Q3) (hC : C.length = 0) : T_rule_in P_number_in (enF 0 Q3) (start3 N_rule_in ds) C := by
  obtain ⟨z, rfl, h1, h2, q⟩ := h
  rw [List.length_eq_zero_iff] at hC
  subst hC
  have hz := sizeLine_eq
  have hwl := wd_len h1 h2
  unfold T_rule_in
  rw [u_sSeq, u_sAsg, u_eFrz]
  refine ⟨_, rfl, _, rfl, _, rfl, by decide +kernel, by omega, ?_⟩
  refine ⟨(Txt.split (wd z) (Str.ofString ">")).map .str, rfl, ?_⟩
  rw [gt_eq, split_wd h1.1 h2.1]
  refine lc_of [z.1, z.2] (fun n => .str (tx n)) (fun n => .int n) ?_ (by simp; omega) (fun n hn R hR => ?_) ?_
  · intro k hk; cases hk
  · have hn' : 0 ≤ n ∧ n < 100 := by
      simp only [List.mem_cons, List.not_mem_nil, or_false] at hn
      rcases hn with rfl | rfl <;> assumption
    exact ⟨_, rfl, n, rfl, hn'.1, by omega, rfl, hR⟩
  try dsimp only
  rw [u_gvName, u_sRet]
  refine ⟨_, rfl, _, _, rfl, rfl, _, rfl, ?_⟩
  refine goF (by simp) ?_
  refine ⟨_, rfl, .none, [.int z.1, .int z.2], rfl, rfl, rfl, shaped_ints [z.1, z.2], _, rfl, ?_⟩
  refine goF (by simp [PyData.eqv]) ?_
  refine ⟨_, rfl, _, 0, _, rfl, rfl, rfl, _, rfl, _, 1, _, rfl, rfl, rfl, le2 _ _, ?_⟩
  exact q
theorem lexI_pair {x y : Int × Int} : lexI [x.1, x.2] [y.1, y.2] = SrtO.lexB x y := by
  rw [Bool.eq_iff_iff, SrtO.lexB_iff]
  unfold lexI
  by_cases e : x.1 = y.1
  · rw [if_pos e]
    unfold lexI
    by_cases e2 : x.2 = y.2
    · rw [if_pos e2]
      simp [lexI]
      omega
    · rw [if_neg e2, decide_eq_true_eq]
      omega
  · rw [if_neg e, decide_eq_true_eq]
    omega
theorem oEq_pd0 {neg o o' : Bool} {C : Store} {rs : List (Int × Int)} {q : D → Prop} (h : q (.bl (neg != decide (rs = [])))) : oEq neg C (.lst o (rs.map pD)) (.lst o' []) q := by
  refine ⟨.list (rs.map fun z => .tuple [.int z.1, .int z.2]), .list [], by unfold pyD; rw [pyW, pyWs_pairs]; rfl, rfl, ?_, rfl, ?_⟩
  · have := depth_pairs rs
    simp [SeqAt.shaped, PyData.canLay0, PyData.depth, lay_pairs]
    omega
  · have e : PyData.eqv (.list (rs.map fun z => .tuple [.int z.1, .int z.2])) (.list []) = decide (rs = []) := by
      cases rs with
      | nil => rfl
      | cons z rs => simp [PyData.eqv, PyData.eqvAll]
    rw [e]
    exact h
theorem at_last {l : List (Int × Int)} {y : Int × Int} : atI ((l ++ [y]).map pD) (-1) = some (pD y) := by
  unfold atI ixN
  rw [List.length_map, List.length_append, List.length_singleton, if_neg (by omega), if_pos (by omega)]
  have e : ((-1 : Int) + ((l.length + 1 : Nat) : Int)).toNat = l.length := by omega
  simp only [Option.bind_some, e]
  rw [List.getElem?_map, List.getElem?_append_right (Nat.le_refl _), Nat.sub_self]
  rfl
theorem Pil.take {f st : Str} {rs qs : List (Int × Int)} (h : Pil f st (rs ++ qs)) : Pil f st rs := by
  have hs : rs.Sublist (rs ++ qs) := List.sublist_append_left ..
  obtain ⟨rk, hrk⟩ := h.acy
  exact ⟨h.fst, h.pos, h.top, h.sts, ⟨Nat.le_trans hs.length_le h.rul.few, fun z hz => h.rul.inn z (hs.subset hz), h.rul.srt.sublist hs⟩, rk, fun z hz => hrk z (hs.subset hz)⟩
def P_goes_on : PV := fun ds C Q => ∃ (o : Bool) (f st : Str) (rs : List (Int × Int)) (z : Int × Int), ds = [.int (st.length : Nat), .lst o (rs.map pD), pD z] ∧ Pil f st (rs ++ [z]) ∧ Q (.bl true) C
theorem v_goes_on (ds : List D) (C : Store) (Q3 : D → Store → Prop) (h : P_goes_on ds C Q3) (hC : C.length = 0) : T_goes_on P_is_rule P_ring_by (enF 0 Q3) (start3 N_goes_on ds) C := by
  obtain ⟨o, f, st, rs, z, rfl, hp, q⟩ := h
  rw [List.length_eq_zero_iff] at hC
  subst hC
  have hz := sizeLine_eq
  obtain ⟨i1, i2, i3, i4, i5⟩ := hp.rul.inn z (by simp)
  have hfew := hp.rul.few
  rw [List.length_append, List.length_singleton] at hfew
  have rest : sRet (eBin (oIsN false) (eCall P_ring_by (aCons (eVar 0) (aCons (eFrz (fBin nCat (eVar 1) (eFrz (fLst (aCons (eVar 2) aNil))))) aNil))) (eC .non)) (enF 0 Q3) [some (.int (st.length : Nat)), some (.lst o (rs.map pD)), some (pD z)] [] := by
    refine ⟨_, rfl, _, rfl, _, rfl, (by rw [hz]; show 1 ≤ 16777216; decide), _, _, rfl, rfl, by rw [List.length_map]; show rs.length + 1 ≤ _; omega, true, st.length, rs ++ [z], ?_, hp.pos, hp.top, ?_, fun _ => ⟨rfl, rfl, true, rfl, q⟩, fun l hl _ _ => ?_⟩
    · show views [] [] [.int (st.length : Nat), .lst false (rs.map pD ++ [pD z])] = _
      rw [show rs.map pD ++ [pD z] = (rs ++ [z]).map pD by rw [List.map_append]; rfl, views_int, views_rs, views_nil]
    · exact hp.rul.lax
    · exact absurd (pil_acy hp) hl.not_acy
  unfold T_goes_on
  rw [u_sSeq, u_sIf, u_bOr, u_bNot, u_bB, u_eCall]
  refine ⟨_, rfl, _, rfl, z, (st.length : Nat), rfl, i1, i2, i3, i4, i5, rfl, _, rfl, ?_⟩
  refine goF rfl ?_
  refine ⟨_, rfl, _, _, rfl, rfl, _, rfl, ?_⟩
  refine goF (by rw [List.length_map]; simp; omega) ?_
  rw [u_bAnd, u_bB, u_eBin]
  refine ⟨_, rfl, Nat.zero_le _, oEq_pd0 ⟨_, rfl, ?_⟩⟩
  rcases List.eq_nil_or_concat rs with rfl | ⟨l, y, rfl⟩
  · refine goF (by simp) ?_
    refine goF rfl ?_
    rw [u_sNext]
    exact rest
  · rw [List.concat_eq_append] at *
    refine goT (by simp) ?_
    refine ⟨_, rfl, _, rfl, _, _, pD y, rfl, rfl, at_last, _, rfl, [y.1, y.2], [z.1, z.2], rfl, rfl, _, rfl, ?_⟩
    have hlt : lexI [y.1, y.2] [z.1, z.2] = true := by
      rw [lexI_pair]
      have := hp.rul.srt
      rw [List.append_assoc] at this
      exact (List.pairwise_cons.mp (List.pairwise_append.mp this).2.1).1 z (by simp)
    rw [hlt]
    refine goF rfl ?_
    rw [u_sNext]
    exact rest
end K08
end RG
end L3
namespace L3
namespace RG
namespace K08
open PySem PySem.Spec PyProof.Rows L2
open PN (lc_of lc_ofF rgI_range le5 fin_pil')
theorem free_f {f : Str} (h : f = cR ∨ f = cB) : 32 ∉ f.cps.toList ∧ f.length = 1 := by
  rcases h with rfl | rfl <;> exact ⟨by decide +kernel, by decide +kernel⟩
theorem free_st {st : Str} (h : ∀ c, c ∈ st.cps.toList → c = 82 ∨ c = 66) : 32 ∉ st.cps.toList := fun hm => by
  have := h 32 hm
  omega
theorem small_of {f st : Str} {rs : List (Int × Int)} (hp : Pil f st rs) {z : Int × Int} (hz : z ∈ rs) : (0 ≤ z.1 ∧ z.1 < 100) ∧ (0 ≤ z.2 ∧ z.2 < 100) := by
  obtain ⟨i1, i2, i3, i4, _⟩ := hp.rul.inn z hz
  have := hp.top
  omega
theorem word_len {f st : Str} {rs : List (Int × Int)} (hp : Pil f st rs) : ∀ p, p ∈ words f st rs → p.length ≤ 24 := fun p h => by
  unfold words at h
  rcases List.mem_append.mp h with h | h
  · simp only [List.mem_cons, List.not_mem_nil, or_false] at h
    rcases h with rfl | rfl
    · have := (free_f hp.fst).2
      omega
    · exact hp.top
  · obtain ⟨z, hz, rfl⟩ := List.mem_map.mp h
    obtain ⟨h1, h2⟩ := small_of hp hz
    have := wd_len h1 h2
    omega
theorem sum_le {k : Nat} : ∀ l : List Str, (∀ p, p ∈ l → p.length ≤ k) → (l.map (·.length)).sum ≤ l.length * k
  | [], _ => by simp
  | p :: l, h => by
    have h1 := h p (List.mem_cons_self ..)
    have h2 := sum_le l fun q hq => h q (List.mem_cons_of_mem _ hq)
    rw [List.map_cons, List.sum_cons, List.length_cons, Nat.succ_mul]
    omega
theorem words_few {f st : Str} {rs : List (Int × Int)} (hp : Pil f st rs) : (words f st rs).length ≤ 62 := by
  have := hp.rul.few
  simp [words]
  omega
theorem shown_len {f st : Str} {rs : List (Int × Int)} (hp : Pil f st rs) : (shown f st rs).length ≤ 2000 := by
  have h := join_len 32 24 (words f st rs) (word_len hp)
  have h2 := words_few hp
  unfold shown
  rw [TL.join_eq]
  omega
theorem log_lt2 {n : Int} (h : 0 ≤ n ∧ n < 100) : n.natAbs.log2 < 1920 := by
  obtain ⟨m, rfl⟩ := Int.eq_ofNat_of_zero_le h.1
  show m.log2 < 1920
  by_cases h0 : m = 0
  · subst h0; decide +kernel
  · rw [Nat.log2_lt h0]
    have h1 : m < 100 := by omega
    have h2 : 2 ^ 7 ≤ 2 ^ 1920 := Nat.pow_le_pow_right (by decide) (by decide)
    have h3 : (2 : Nat) ^ 7 = 128 := by decide
    omega
def P_show_pile : PV := fun ds C Q => ∃ (o : Bool) (f st : Str) (rs : List (Int × Int)), ds = [pil o f st rs] ∧ Pil f st rs ∧ Q (.str (shown f st rs)) C
theorem v_show_pile (ds : List D) (C : Store) (Q3 : D → Store → Prop) (h : P_show_pile ds C Q3) (hC : C.length = 0) : T_show_pile P_need_pile (enF 0 Q3) (start3 N_show_pile ds) C := by
  obtain ⟨o, f, st, rs, rfl, hp, q⟩ := h
  rw [List.length_eq_zero_iff] at hC
  subst hC
  have hz := sizeLine_eq
  have hfew := hp.rul.few
  unfold T_show_pile
  rw [u_sSeq]
  refine ⟨_, rfl, true, f, st, rs, by show views [] [] [pil o f st rs] = _; rw [views_pil, views_nil], hp, rfl, ?_⟩
  refine ⟨_, rfl, _, rfl, rfl, _, _, rfl, _, _, rfl, _, _, rfl, rfl, ?_⟩
  try dsimp only
  simp only [u_sRet, u_eM1, u_eC, u_eFrz]
  refine ⟨⟨_, rfl⟩, ?_⟩
  refine ⟨_, rfl, _, rfl, le2 _ _, ?_⟩
  refine ⟨_, rfl, rs.map pD, rfl, ?_⟩
  refine lc_of rs pD (fun z => .str (wd z)) ?_ (by omega) (fun z hzm R hR => ?_) ?_
  · intro k hk; simp [srcOf] at hk
  · obtain ⟨h1, h2⟩ := small_of hp hzm
    refine ⟨_, rfl, rfl, _, _, rfl, _, _, rfl, rfl, ?_⟩
    have a := tx_len (k := 2) h1.1 (by decide) h1.2
    have b := tx_len (k := 2) h2.1 (by decide) h2.2
    have l1 := log_lt2 h1
    have l2 := log_lt2 h2
    refine ⟨_, rfl, .inr ⟨z.1, rfl, l1, tx z.1, rfl, ?_, .inl ⟨_, rfl, ?_, _, rfl, ?_, _, rfl, .inr ⟨z.2, rfl, l2, tx z.2, rfl, ?_, ?_⟩⟩⟩⟩
    · rw [PySem.Str.empty_append]; omega
    · rw [gt_eq, hz]; show 1 ≤ 16777216; decide
    · rw [PySem.Str.empty_append, gt_eq]
      have : (tx z.1 ++ ⟨#[62]⟩ : Str).length = (tx z.1).length + 1 := by simp [PySem.Str.length, PySem.Str.cps_append]
      omega
    · rw [PySem.Str.empty_append, gt_eq]
      have := wd_len h1 h2
      unfold wd at this
      omega
    · show R (.str (Str.empty ++ tx z.1 ++ Str.ofString ">" ++ tx z.2)) _
      rw [PySem.Str.empty_append, gt_eq]
      exact hR
  have hw := words_few hp
  have hs := sum_le (words f st rs) (word_len hp)
  refine ⟨_, _, rfl, rfl, by simp only [List.length_map, List.length_cons, List.length_nil]; omega, ?_⟩
  refine ⟨_, _, words f st rs, rfl, rfl, ?_, ?_, ?_⟩
  · show some ([D.str f, D.str st] ++ rs.map fun z => D.str (wd z)) = some ((words f st rs).map D.str)
    unfold words
    rw [List.map_append, List.map_map]
    rfl
  · show ((words f st rs).map (·.length)).sum + (words f st rs).length * 1 ≤ 16777216
    omega
  · rw [bl_eq]
    exact q
end K08
end RG
end L3
namespace L3
namespace RG
namespace K08
open PySem PySem.Spec PyProof.Rows L2
open PN (lc_of lc_ofF rgI_range le5 fin_pil')
theorem np_st (l : List Str) : (noold (.lst false (l.map .str)) && noptr (.lst false (l.map .str))) = true := by
  have f : flatDs (l.map D.str) = true := by
    induction l with
    | nil => rfl
    | cons z L ih => simp only [List.map_cons, flatDs, ih, Bool.and_true]; rfl
  have := flats_np f
  simp [noold, okW, noptr, this.1, this.2]
theorem views_prc {C : Store} {k : Nat} {rs : List (Int × Int)} {ds : List D} (hk : C[k]? = some (.lst (rs.map pD))) : views [] C (.ptr k :: ds) = .lst true (rs.map pD) :: views [] C ds := by
  unfold views
  rw [mapWs]
  congr 1
  simp only [mapW, viewG, posOf, hk, mapWs_flat (flat_pairs rs)]
def P_read_pile : PV := fun ds C Q => ∃ (f st : Str) (rs : List (Int × Int)), ds = [.str (shown f st rs)] ∧ Pil f st rs ∧ Q (pil false f st rs) C
theorem v_read_pile (ds : List D) (C : Store) (Q3 : D → Store → Prop) (h : P_read_pile ds C Q3) (hC : C.length = 0) : T_read_pile P_words_in P_is_stamp P_are_stamps P_rule_in P_goes_on (enF 0 Q3) (start3 N_read_pile ds) C := by
  obtain ⟨f, st, rs, rfl, hp, q⟩ := h
  rw [List.length_eq_zero_iff] at hC
  subst hC
  have hz := sizeLine_eq
  have hfew := hp.rul.few
  have hsl := shown_len hp
  have hsp := split_shown (rs := rs) (free_f hp.fst).1 (free_st hp.sts) fun z hz => ⟨(small_of hp hz).1.1, (small_of hp hz).2.1⟩
  have hwl : (words f st rs).length = rs.length + 2 := by simp [words]
  have w0 : (words f st rs)[0]? = some f := rfl
  have w1 : (words f st rs)[1]? = some st := rfl
  have wk : ∀ k, (words f st rs)[2 + k]? = (rs[k]?).map wd := fun k => by
    unfold words
    rw [List.getElem?_append_right (by simp), List.getElem?_map]
    congr 2
    simp
  unfold T_read_pile
  rw [u_sSeq, u_sAsg, u_eCall]
  refine ⟨_, rfl, _, rfl, by omega, ?_⟩
  rw [hsp]
  refine ⟨np_st _, ?_⟩
  generalize words f st rs = ws at *
  have at_ : ∀ {i : Nat} {s : Str}, ws[i]? = some s → atI (ws.map D.str) (i : Int) = some (.str s) := fun {i s} h => by
    have hl : i < ws.length := (List.getElem?_eq_some_iff.mp h).1
    unfold atI
    rw [List.length_map, ix_nat hl]
    show (ws.map D.str)[i]? = _
    rw [List.getElem?_map, h]
    rfl
  try dsimp only
  rw [u_gvName, u_sSeq, u_sIf, u_bNot, u_bB, u_eCall]
  refine ⟨_, rfl, _, _, _, rfl, rfl, at_ (i := 0) w0, f, rfl, hp.fst, rfl, _, rfl, ?_⟩
  refine goF rfl ?_
  rw [u_sNext]
  try dsimp only
  rw [u_sSeq, u_sIf]
  refine ⟨_, rfl, _, _, rfl, rfl, _, _, rfl, rfl, _, rfl, ?_⟩
  refine goF (by rw [List.length_map]; simp; omega) ?_
  rw [u_bNot, u_bB, u_eCall]
  refine ⟨_, rfl, _, _, _, rfl, rfl, at_ (i := 1) w1, st, rfl, hp.pos, hp.top, hp.sts, rfl, _, rfl, ?_⟩
  refine goF rfl ?_
  rw [u_sNext]
  try dsimp only
  rw [u_sSeq, u_sAsg]
  refine ⟨Nat.zero_le _, ?_⟩
  try dsimp only
  rw [u_gvName, u_sSeq]
  refine ⟨_, rfl, _, _, rfl, rfl, (2 : Int), (ws.length : Nat), by rw [List.length_map], ⟨by omega, by omega, by omega, by omega⟩, rfl, np_rg' 2 _, ?_⟩
  have erg : rgI 2 (((ws.length : Nat) : Int) - 2).toNat = (List.range rs.length).map fun j : Nat => D.int ((2 + j : Nat) : Int) := by
    have e : (((ws.length : Nat) : Int) - 2).toNat = rs.length := by omega
    rw [e]
    unfold rgI
    exact List.map_congr_left fun j _ => by push_cast; rfl
  rw [erg]
  refine forW_run (fun ds Γ C => ∃ (k : Nat), k ≤ rs.length ∧ ds = ((List.range rs.length).drop k).map (fun j : Nat => D.int ((2 + j : Nat) : Int)) ∧ C = [.lst ((rs.take k).map pD)] ∧ ∃ x y, Γ = [some (.str (shown f st rs)), some (.lst false (ws.map .str)), some (.ptr 0), x, y]) ?step ?stop _ _ _ ⟨0, by omega, rfl, rfl, _, _, rfl⟩
  case stop =>
    rintro Γ C ⟨k, hk, eds, rfl, x, y, rfl⟩
    have ek : k = rs.length := by
      have := congrArg List.length eds
      simp at this
      omega
    subst ek
    rw [List.take_length]
    try dsimp only
    rw [u_sRet]
    refine ⟨_, rfl, _, _, _, rfl, rfl, at_ (i := 0) w0, _, rfl, _, _, _, rfl, rfl, at_ (i := 1) w1, _, rfl, by rw [hz]; show 3 ≤ 16777216; decide, ?_⟩
    have ef : fin 0 [Cell.lst (rs.map pD)] (.tup [.str f, .str st, .ptr 0]) = pil false f st rs := by
      have e : fin 0 [Cell.lst (rs.map pD)] (.ptr 0) = .lst false (rs.map pD) := by
        unfold fin
        simp only [mapW, finG, Nat.not_lt_zero, if_false, List.getElem?_cons_zero, mapWs_flat (flat_pairs rs)]
      unfold pil
      rw [← e]
      rfl
    show Q3 (fin 0 [Cell.lst (rs.map pD)] (.tup [.str f, .str st, .ptr 0])) (finS 0 _)
    rw [ef, finS0]
    exact q
  case step =>
    rintro d ds Γ C ⟨k, hk, eds, rfl, x, y, rfl⟩ R hR
    have hkl : k < rs.length := by
      have := congrArg List.length eds
      simp at this
      omega
    rw [List.drop_eq_getElem_cons (by simpa using hkl), List.map_cons, List.cons.injEq] at eds
    obtain ⟨rfl, rfl⟩ := eds
    rw [List.getElem_range]
    obtain ⟨z, hzk⟩ : ∃ z, rs[k]? = some z := ⟨rs[k], List.getElem?_eq_getElem hkl⟩
    have hzm : z ∈ rs := List.mem_of_getElem? hzk
    have wz : ws[2 + k]? = some (wd z) := by rw [wk, hzk]; rfl
    obtain ⟨h1, h2⟩ := small_of hp hzm
    have et : rs.take (k + 1) = rs.take k ++ [z] := by rw [List.take_add_one, hzk]; rfl
    have hpk : Pil f st (rs.take k ++ [z]) := by
      rw [← et]
      refine Pil.take (qs := rs.drop (k + 1)) ?_
      rw [List.take_append_drop]
      exact hp
    rw [u_gvName]
    try dsimp only
    rw [u_sSeq, u_sAsg, u_eCall]
    refine ⟨_, rfl, _, rfl, _, _, _, rfl, rfl, at_ wz, z, rfl, h1, h2, rfl, ?_⟩
    try dsimp only
    rw [u_gvName, u_sSeq, u_sIf, u_bNot, u_bB, u_eCall]
    refine ⟨_, rfl, _, _, _, rfl, rfl, at_ (i := 1) w1, by have := hp.top; omega, _, rfl, _, rfl, true, f, st, rs.take k, z, ?_, hpk, rfl, _, rfl, ?_⟩
    · show views [] [Cell.lst ((rs.take k).map pD)] [.int (st.length : Nat), .ptr 0, pD z] = _
      rw [views_int, views_prc (rs := rs.take k) rfl]
      rfl
    refine goF rfl ?_
    rw [u_sNext]
    try dsimp only
    rw [u_sDrop]
    refine ⟨_, rfl, (rs.take k).map pD, rfl, _, rfl, 0, _, _, rfl, rfl, rfl, by rw [List.length_map, List.length_take]; omega, ?_⟩
    refine hR _ _ ⟨k + 1, by omega, rfl, ?_, _, _, rfl⟩
    rw [et, List.map_append]
    rfl
end K08
end RG
end L3
namespace L3
namespace RG
namespace K08
open PySem PySem.Spec PyProof.Rows L2
open PN (lc_of lc_ofF rgI_range le5 fin_pil')
inductive Sw : Nat → D → D → Prop
  | int {k : Nat} {n : Int} : Sw k (.int n) (.int n)
  | str {k : Nat} {s : Str} : Sw k (.str s) (.str s)
  | lst {k : Nat} {o o' : Bool} {xs ys : List D} : xs.length = ys.length → ys.length ≤ 10000 → (∀ (i : Nat) (x y : D), xs[i]? = some x → ys[i]? = some y → Sw k x y) → Sw (k + 1) (.lst o xs) (.lst o' ys)
  | tup {k : Nat} {xs ys : List D} : xs.length = ys.length → ys.length ≤ 10000 → (∀ (i : Nat) (x y : D), xs[i]? = some x → ys[i]? = some y → Sw k x y) → Sw (k + 1) (.tup xs) (.tup ys)
theorem Sw.view {k : Nat} {x y : D} (s : Sw k x y) {h h' : Bool → Bool} {g g' : Nat → D} : Sw k (mapW h g x) (mapW h' g' y) := by
  induction s with
  | int => exact .int
  | str => exact .str
  | lst e hl _ ih =>
    refine .lst (by rw [PN.mapWs_len, PN.mapWs_len, e]) (by rw [PN.mapWs_len]; exact hl) fun i x y e1 e2 => ?_
    obtain ⟨x', f1, rfl⟩ := PN.mapWs_get e1
    obtain ⟨y', f2, rfl⟩ := PN.mapWs_get e2
    exact ih i x' y' f1 f2
  | tup e hl _ ih =>
    refine .tup (by rw [PN.mapWs_len, PN.mapWs_len, e]) (by rw [PN.mapWs_len]; exact hl) fun i x y e1 e2 => ?_
    obtain ⟨x', f1, rfl⟩ := PN.mapWs_get e1
    obtain ⟨y', f2, rfl⟩ := PN.mapWs_get e2
    exact ih i x' y' f1 f2
theorem Sw_np {k : Nat} {x y : D} (s : Sw k x y) : noptr x = true ∧ noptr y = true := by
  have key : ∀ {xs ys : List D}, xs.length = ys.length → (∀ (i : Nat) (x y : D), xs[i]? = some x → ys[i]? = some y → noptr x = true ∧ noptr y = true) → noptrs xs = true ∧ noptrs ys = true := fun {xs ys} e h => by
    refine ⟨noptrs_all fun x hx => ?_, noptrs_all fun y hy => ?_⟩
    · obtain ⟨i, hi, rfl⟩ := List.mem_iff_getElem.mp hx
      exact (h i _ _ (List.getElem?_eq_getElem hi) (List.getElem?_eq_getElem (by omega))).1
    · obtain ⟨i, hi, rfl⟩ := List.mem_iff_getElem.mp hy
      exact (h i _ _ (List.getElem?_eq_getElem (by omega)) (List.getElem?_eq_getElem hi)).2
  induction s with
  | int => exact ⟨rfl, rfl⟩
  | str => exact ⟨rfl, rfl⟩
  | lst e hl _ ih =>
    have := key e ih
    exact ⟨by simp [noptr, this.1], by simp [noptr, this.2]⟩
  | tup e hl _ ih =>
    have := key e ih
    exact ⟨by simp [noptr, this.1], by simp [noptr, this.2]⟩
def P_sw (k : Nat) : PV := fun ds C Q => ∃ x y, ds = [x, y] ∧ Sw k x y ∧ Q (.bl true) C
theorem v_sw {P : PV} (k : Nat) (hP : ∀ j, k = j + 1 → P = P_sw j) (ds : List D) (C : Store) (Q3 : D → Store → Prop) (h : P_sw k ds C Q3) (hC : C.length = 0) : T_Lw_same P (enF 0 Q3) (start3 N_Lw_same ds) C := by
  obtain ⟨x, y, rfl, s, q⟩ := h
  rw [List.length_eq_zero_iff] at hC
  subst hC
  have hz := sizeL
  have tr : ∀ l : List (D × D), (l.map fun _ => true).all (fun b => b) = true := fun n => by simp
  have hnp := Sw_np s
  cases s with
  | @int _ n =>
    refine ⟨_, rfl, .int, rfl, _, rfl, ?_⟩
    refine goF rfl ?_
    refine ⟨_, rfl, .int, rfl, _, rfl, ?_⟩
    refine goF rfl ?_
    refine ⟨_, rfl, rfl, _, rfl, _, rfl, ?_⟩
    refine goF rfl ?_
    refine ⟨_, rfl, .int, rfl, _, rfl, ?_⟩
    refine goT rfl ?_
    refine ⟨_, rfl, .int, rfl, _, rfl, _, rfl, ?_⟩
    refine goT rfl ?_
    refine ⟨_, rfl, _, rfl, ?_⟩
    show Q3 (.bl (false != decide (n = n))) []
    rw [decide_eq_true rfl]
    exact q
  | @str _ n =>
    refine ⟨_, rfl, .str, rfl, _, rfl, ?_⟩
    refine goF rfl ?_
    refine ⟨_, rfl, .str, rfl, _, rfl, ?_⟩
    refine goT rfl ?_
    refine ⟨_, rfl, .str, rfl, _, rfl, .str, rfl, _, rfl, ?_⟩
    refine goT rfl ?_
    refine ⟨_, rfl, _, rfl, ?_⟩
    show Q3 (.bl (false != decide (n = n))) []
    rw [decide_eq_true rfl]
    exact q
  | @lst j o o' xs ys e hl ih =>
    refine ⟨_, rfl, .list, rfl, _, rfl, ?_⟩
    refine goT rfl ?_
    refine ⟨_, rfl, .list, rfl, _, rfl, ?_⟩
    refine goF rfl ?_
    refine ⟨_, rfl, .list, rfl, _, rfl, .list, rfl, _, rfl, ?_⟩
    refine goF rfl ?_
    refine ⟨_, rfl, _, _, rfl, rfl, _, rfl, _, _, rfl, rfl, _, rfl, ?_⟩
    refine goT (by rw [eqN, decide_eq_true (by rw [e])]) ?_
    refine ⟨_, rfl, _, rfl, _, _, xs, ys, rfl, .inl ⟨rfl, rfl⟩, ?_, ?_⟩
    · simpa [noptr] using hnp
    rw [zipD_zip]
    refine lc_of (xs.zip ys) _ (fun _ => .bl true) (fun _ h => by simp [srcOf] at h) (by rw [List.length_zip]; omega) (fun z hz' R hR => ?_) ?_
    · obtain ⟨i, hi⟩ := List.mem_iff_getElem?.mp hz'
      obtain ⟨h1, h2⟩ := List.getElem?_zip_eq_some.mp hi
      refine ⟨_, rfl, rfl, _, _, rfl, _, _, rfl, rfl, ?_⟩
      refine ⟨_, rfl, _, rfl, ?_⟩
      rw [hP j rfl]
      exact ⟨_, _, rfl, (ih i _ _ h1 h2).view, rfl, hR⟩
    refine ⟨_, (xs.zip ys).map fun _ => true, rfl, by simp [lstOf, Cell.frz], ?_⟩
    show Q3 (.bl (((xs.zip ys).map fun _ => true).all fun b => b)) []
    rw [tr]
    exact q
  | @tup j xs ys e hl ih =>
    refine ⟨_, rfl, .tuple, rfl, _, rfl, ?_⟩
    refine goT rfl ?_
    refine ⟨_, rfl, .tuple, rfl, _, rfl, ?_⟩
    refine goF rfl ?_
    refine ⟨_, rfl, .tuple, rfl, _, rfl, .tuple, rfl, _, rfl, ?_⟩
    refine goF rfl ?_
    refine ⟨_, rfl, _, _, rfl, rfl, _, rfl, _, _, rfl, rfl, _, rfl, ?_⟩
    refine goT (by rw [eqN, decide_eq_true (by rw [e])]) ?_
    refine ⟨_, rfl, _, rfl, _, _, xs, ys, rfl, .inr ⟨rfl, rfl⟩, ?_, ?_⟩
    · simpa [noptr] using hnp
    rw [zipD_zip]
    refine lc_of (xs.zip ys) _ (fun _ => .bl true) (fun _ h => by simp [srcOf] at h) (by rw [List.length_zip]; omega) (fun z hz' R hR => ?_) ?_
    · obtain ⟨i, hi⟩ := List.mem_iff_getElem?.mp hz'
      obtain ⟨h1, h2⟩ := List.getElem?_zip_eq_some.mp hi
      refine ⟨_, rfl, rfl, _, _, rfl, _, _, rfl, rfl, ?_⟩
      refine ⟨_, rfl, _, rfl, ?_⟩
      rw [hP j rfl]
      exact ⟨_, _, rfl, (ih i _ _ h1 h2).view, rfl, hR⟩
    refine ⟨_, (xs.zip ys).map fun _ => true, rfl, by simp [lstOf, Cell.frz], ?_⟩
    show Q3 (.bl (((xs.zip ys).map fun _ => true).all fun b => b)) []
    rw [tr]
    exact q
abbrev P_sw0 : PV := P_sw 0
abbrev P_sw1 : PV := P_sw 1
abbrev P_sw2 : PV := P_sw 2
abbrev P_sw3 : PV := P_sw 3
theorem v_sw0 (ds : List D) (C : Store) (Q3 : D → Store → Prop) (h : P_sw0 ds C Q3) (hC : C.length = 0) : T_Lw_same P_never (enF 0 Q3) (start3 N_Lw_same ds) C := v_sw 0 (fun j e => by cases e) ds C Q3 h hC
theorem v_sw1 (ds : List D) (C : Store) (Q3 : D → Store → Prop) (h : P_sw1 ds C Q3) (hC : C.length = 0) : T_Lw_same P_sw0 (enF 0 Q3) (start3 N_Lw_same ds) C := v_sw 1 (fun j e => by cases e; rfl) ds C Q3 h hC
theorem v_sw2 (ds : List D) (C : Store) (Q3 : D → Store → Prop) (h : P_sw2 ds C Q3) (hC : C.length = 0) : T_Lw_same P_sw1 (enF 0 Q3) (start3 N_Lw_same ds) C := v_sw 2 (fun j e => by cases e; rfl) ds C Q3 h hC
theorem v_sw3 (ds : List D) (C : Store) (Q3 : D → Store → Prop) (h : P_sw3 ds C Q3) (hC : C.length = 0) : T_Lw_same P_sw2 (enF 0 Q3) (start3 N_Lw_same ds) C := v_sw 3 (fun j e => by cases e; rfl) ds C Q3 h hC
theorem Sw.pil {k : Nat} {o o' : Bool} {f st : Str} {rs : List (Int × Int)} (h : rs.length ≤ 60) : Sw (k + 3) (pil o f st rs) (pil o' f st rs) := by
  refine .tup rfl (by show 3 ≤ 10000; decide) fun i x y e1 e2 => ?_
  match i, e1, e2 with
  | 0, e1, e2 => cases e1; cases e2; exact .str
  | 1, e1, e2 => cases e1; cases e2; exact .str
  | 2, e1, e2 =>
    cases e1; cases e2
    refine .lst rfl (by rw [List.length_map]; omega) fun i x y e1 e2 => ?_
    rw [e1] at e2
    cases e2
    obtain ⟨z, hz, rfl⟩ := List.mem_map.mp (List.mem_of_getElem? e1)
    refine .tup rfl (by show 2 ≤ 10000; decide) fun i x y e1 e2 => ?_
    match i, e1, e2 with
    | 0, e1, e2 => cases e1; cases e2; exact .int
    | 1, e1, e2 => cases e1; cases e2; exact .int
    | i + 2, e1, _ => cases e1
  | i + 3, e1, _ => cases e1
end K08
end RG
end L3
namespace L3
namespace RG
namespace K08
open PySem PySem.Spec PyProof.Rows L2
open PN (lc_of lc_ofF rgI_range le5 fin_pil')
theorem flat_putP {C1 : Store} {k : Nat} {y : Cell} {c' : Int} (hy : Pad c' y) : ∀ (i : Nat) c, (C1.set k y)[i]? = some c → flatC c = true ∨ (i ∉ [k] ∧ C1[i]? = some c) := fun i c h => by
  by_cases e : k = i
  · subst e
    have hl : k < C1.length := by
      have := (List.getElem?_eq_some_iff.mp h).1
      simpa using this
    rw [List.getElem?_set_self hl] at h
    cases h
    exact .inl hy.flat
  · rw [List.getElem?_set_ne e] at h
    exact .inr ⟨by simp; exact fun z => e z.symm, h⟩
theorem pileT_e {i j k : Nat} {m c : Int} {x : Cell} {C1 : Store} {Γ : Slots} {Q : D → Store → Prop} (hk : C1[k]? = some x) (hx : Pad c x) (hv : Γ[i]? = some (some (.ptr k))) (hj : Γ[j]? = some (some (.int m))) (hm : m = 3 ∨ m = 24) (hc : c < 1000)
    (q : ∀ f st rs c' y, Pil f st rs → (st.length : Int) ≤ m → Pad c' y → c' ≤ c + 300 → Q (.tup [.str f, .str st, .ptr C1.length]) (C1.set k y ++ [.lst (rs.map pD)])) : eCallT2 1 kf1 P_Lw_pile (aCons (eVar i) (aCons (eVar j) aNil)) Γ C1 Q := by
  unfold eCallT2
  simp only [u_aCons, u_aNil, u_eVar]
  refine ⟨_, hv, _, hj, ?_⟩
  have e1 : kf1 [.ptr k, .int m] = [k] := rfl
  rw [e1]
  refine ⟨rfl, List.nodup_cons.mpr ⟨by simp, List.nodup_nil⟩, fun k' hk' => ⟨x, ?_, hx.alive⟩, ?_⟩
  · simp at hk'; subst hk'; exact hk
  · have e2 : views [k] C1 [.ptr k, .int m] = [.ptr 0, .int m] := by
      unfold views
      simp [mapWs, mapW, viewG, posOf]
    have e3 : viewC [k] C1 = [x] := by
      unfold viewC
      simp only [List.map_cons, List.map_nil, hk, Option.getD_some]
      rw [hx.view]
    rw [e2, e3]
    refine ⟨m, c, x, rfl, rfl, hx, hm, hc, fun f st rs c' y hp hl hy hc' => ?_⟩
    have e4 : putS [k] ([y].map (backs [k])) C1 = C1.set k y := by
      show C1.set k (y.mapC id (backG [k])) = _
      rw [hy.view]
    refine ⟨.str f, .str st, rs.map pD, rfl, rfl, flat_pairs rs, fun c hc => by simp at hc; subst hc; exact hy.ok, ?_, ?_⟩
    · rw [e4]; exact flat_putP hy
    · rw [e4]; exact q f st rs c' y hp hl hy hc'
theorem readT_e {i : Nat} {C1 : Store} {Γ : Slots} {f st : Str} {rs : List (Int × Int)} {Q : D → Store → Prop} (hv : Γ[i]? = some (some (.str (shown f st rs)))) (hp : Pil f st rs)
    (q : Q (.tup [.str f, .str st, .ptr C1.length]) (C1 ++ [.lst (rs.map pD)])) : eCallT2 0 kf1 P_read_pile (aCons (eVar i) aNil) Γ C1 Q := by
  unfold eCallT2
  simp only [u_aCons, u_aNil, u_eVar]
  refine ⟨_, hv, rfl, List.nodup_nil, (fun k hk => by cases hk), ?_⟩
  refine ⟨f, st, rs, rfl, hp, .str f, .str st, rs.map pD, rfl, rfl, flat_pairs rs, (fun c hc => by cases hc), fun i c h => .inr ⟨(fun z => by cases z), h⟩, q⟩
theorem reprC_e {C : Store} {Γ : Slots} {i m : Nat} {f st : Str} {rs : List (Int × Int)} {Q : D → Store → Prop} (hΓ : Γ[i]? = some (some (.tup [.str f, .str st, .ptr m]))) (hm : C[m]? = some (.lst (rs.map pD))) (hp : Pil f st rs) (q : Q (.str (pilP f st rs).shown) C) : eCB oRepr (aCons (eVar i) aNil) Γ C Q := ⟨_, hΓ, oRepr_of (n := 20000) (Q := fun z => Q z C) rfl (pyD_pilC hm) ((shw_pil hp).le (by omega) (by omega)) (by decide) q⟩
theorem shown_nil {f st : Str} : shown f st [] = f ++ ⟨#[32]⟩ ++ st := by
  unfold shown
  rw [TL.join_eq]
  rfl
theorem shown_snoc {f st : Str} {l : List (Int × Int)} {z : Int × Int} : shown f st (l ++ [z]) = shown f st l ++ ⟨#[32]⟩ ++ wd z := by
  unfold shown
  rw [TL.join_eq, TL.join_eq]
  have e : words f st (l ++ [z]) = words f st l ++ [wd z] := by
    unfold words
    rw [List.map_append, List.append_assoc]
    rfl
  rw [e]
  exact join_snoc (wd z) (words f st l) (by simp [words])
theorem views_pc {C : Store} {k : Nat} {f st : Str} {rs : List (Int × Int)} {ds : List D} (hk : C[k]? = some (.lst (rs.map pD))) : views [] C (.tup [.str f, .str st, .ptr k] :: ds) = pil true f st rs :: views [] C ds := views_pilC hk
theorem len_app (a b : Str) : (a ++ b).length = a.length + b.length := by simp [PySem.Str.length, PySem.Str.cps_append]
theorem v_Lw_right (ds : List D) (C : Store) (Q3 : D → Store → Prop) (h : P_Lw_right ds C Q3) (hC : C.length = 1) : T_Lw_right P_Lw_pile P_show_pile P_read_pile P_sw3 (enF 1 Q3) (start3 N_Lw_right ds) C := by
  obtain ⟨m, x, rfl, rfl, hx, hm, q⟩ := h
  have hz := sizeLine_eq
  unfold T_Lw_right
  rw [u_sSeq, u_sAsg]
  refine pileT_e (k := 0) rfl hx rfl rfl hm (by omega) fun f st rs c1 y1 hp hl hy1 hc1 => ?_
  have hfew := hp.rul.few
  show gvName 2 (.tup [.str f, .str st, .ptr 1]) _ [y1, .lst (rs.map pD)] _
  try dsimp only
  rw [u_gvName, u_sSeq, u_sAsg]
  refine reprC_e (rs := rs) rfl rfl hp ?_
  try dsimp only
  generalize ekp : (pilP f st rs).shown = kept
  have hfl := (free_f hp.fst).2
  have hst := hp.top
  rw [u_gvName, u_sSeq, u_sAsg]
  refine ⟨_, rfl, _, _, _, rfl, rfl, rfl, _, _, rfl, rfl, by rw [hfl, hz]; show 1 + 1 ≤ 16777216; decide, ?_⟩
  refine ⟨_, rfl, _, _, _, rfl, rfl, rfl, _, _, rfl, rfl, by rw [len_app, hfl, hz]; show 1 + 1 + st.length ≤ 16777216; omega, ?_⟩
  rw [bl_eq, ← shown_nil]
  try dsimp only
  rw [u_gvName, u_sSeq]
  refine ⟨_, rfl, _, _, _, rfl, rfl, rfl, rs.map pD, rfl, (flats_np (flat_pairs rs)).1, ?_⟩
  refine forC_run (fun ds Γ C => ∃ (k : Nat), k ≤ rs.length ∧ ds = (rs.drop k).map pD ∧ C = [y1, .lst (rs.map pD)] ∧ ∃ a b c d, Γ = [some (.ptr 0), some (.int m), some (.tup [.str f, .str st, .ptr 1]), some (.str kept), some (.str (shown f st (rs.take k))), a, b, c, d]) ?step ?stop _ _ _ ⟨0, by omega, rfl, rfl, _, _, _, _, rfl⟩
  case step =>
    rintro d ds Γ C ⟨k, hk, eds, rfl, a, b, c, e, rfl⟩ R hR
    have hkl : k < rs.length := by
      have := congrArg List.length eds
      simp at this
      omega
    rw [List.drop_eq_getElem_cons hkl, List.map_cons, List.cons.injEq] at eds
    obtain ⟨rfl, rfl⟩ := eds
    obtain ⟨z, hzk⟩ : ∃ z, rs[k]? = some z := ⟨rs[k], List.getElem?_eq_getElem hkl⟩
    have hze : rs[k] = z := by
      have := List.getElem?_eq_getElem hkl
      rw [hzk] at this
      exact (Option.some.inj this).symm
    rw [hze]
    obtain ⟨h1, h2⟩ := small_of hp (List.mem_of_getElem? hzk)
    have et : rs.take (k + 1) = rs.take k ++ [z] := by rw [List.take_add_one, hzk]; rfl
    have hpk : Pil f st (rs.take k) := Pil.take (qs := rs.drop k) (by rw [List.take_append_drop]; exact hp)
    have hsl := shown_len hpk
    have ta := tx_len (k := 2) h1.1 (by decide) h1.2
    have tb := tx_len (k := 2) h2.1 (by decide) h2.2
    have l1 := log_lt2 h1
    have l2 := log_lt2 h2
    refine ⟨_, rfl, rfl, _, _, rfl, _, _, rfl, rfl, ?_⟩
    try dsimp only
    rw [u_sAsg]
    have s1 : (Str.ofString " ").length = 1 := by decide +kernel
    have s2 : (Str.ofString ">").length = 1 := by decide +kernel
    refine ⟨_, rfl, _, _, rfl, rfl, by show (shown f st (rs.take k)).length + (Str.ofString " ").length ≤ _; rw [s1]; omega, ?_⟩
    refine ⟨_, rfl, _, rfl, l1, _, _, rfl, rfl, by rw [len_app]; show (shown f st (rs.take k)).length + (Str.ofString " ").length + (tx z.1).length ≤ _; rw [s1]; omega, ?_⟩
    refine ⟨_, _, rfl, rfl, by rw [len_app, len_app]; show (shown f st (rs.take k)).length + (Str.ofString " ").length + (tx z.1).length + (Str.ofString ">").length ≤ _; rw [s1, s2]; omega, ?_⟩
    refine ⟨_, rfl, _, rfl, l2, _, _, rfl, rfl, by rw [len_app, len_app, len_app]; show (shown f st (rs.take k)).length + (Str.ofString " ").length + (tx z.1).length + (Str.ofString ">").length + (tx z.2).length ≤ _; rw [s1, s2]; omega, ?_⟩
    try dsimp only
    rw [u_gvName]
    have ew : shown f st (rs.take k) ++ ⟨#[32]⟩ ++ tx z.1 ++ Str.ofString ">" ++ tx z.2 = shown f st (rs.take (k + 1)) := by
      rw [et, shown_snoc, gt_eq]
      unfold wd
      simp only [PySem.Str.append_assoc]
    refine hR _ _ (fun _ _ => rfl) ⟨k + 1, by omega, rfl, rfl, some (.int z.1), some (.int z.2), c, e, ?_⟩
    rw [← ew]
    rfl
  case stop =>
    rintro Γ C ⟨k, hk, eds, rfl, a, b, c, d, rfl⟩
    have ek : k = rs.length := by
      have := congrArg List.length eds
      simp at this
      omega
    subst ek
    rw [List.take_length]
    try dsimp only
    rw [u_sSeq, u_sIf, u_bOr, u_bB, u_eBin, u_eCall]
    refine ⟨_, rfl, true, f, st, rs, by rw [views_pc rfl, views_nil], hp, rfl, ?_⟩
    refine ⟨_, rfl, ?_⟩
    dsimp only
    rw [u_eqS]
    refine ⟨_, rfl, ?_⟩
    refine goF (by simp) ?_
    rw [u_bB, u_eBin]
    refine reprC_e (rs := rs) rfl rfl hp ?_
    rw [ekp]
    refine ⟨_, rfl, ?_⟩
    dsimp only
    rw [u_eqS]
    refine ⟨_, rfl, ?_⟩
    refine goF (by simp) ?_
    rw [u_sNext]
    try dsimp only
    rw [u_sSeq]
    refine ⟨2, rfl, by decide, by decide, rfl, rfl, ?_⟩
    refine forW_run (fun ds Γ C => C[0]? = some y1 ∧ C[1]? = some (.lst (rs.map pD)) ∧ ∃ a b c d, Γ = [some (.ptr 0), some (.int m), some (.tup [.str f, .str st, .ptr 1]), some (.str kept), some (.str (shown f st rs)), a, b, c, d]) ?step2 ?stop2 _ _ _ ⟨rfl, rfl, _, _, _, _, rfl⟩
    case step2 =>
      rintro d ds Γ C ⟨h0, h1, a, b, c, e, rfl⟩ R hR
      rw [u_gvName]
      try dsimp only
      rw [u_sSeq, u_sAsg]
      refine readT_e (f := f) (st := st) (rs := rs) rfl hp ?_
      have g0 : (C ++ [.lst (rs.map pD)])[0]? = some y1 := by
        have hl := (List.getElem?_eq_some_iff.mp h0).1
        rw [List.getElem?_append_left hl]; exact h0
      have g1 : (C ++ [.lst (rs.map pD)])[1]? = some (.lst (rs.map pD)) := by
        have hl := (List.getElem?_eq_some_iff.mp h1).1
        rw [List.getElem?_append_left hl]; exact h1
      have g2 : (C ++ [Cell.lst (rs.map pD)])[C.length]? = some (.lst (rs.map pD)) := by simp
      have hl := (List.getElem?_eq_some_iff.mp h1).1
      have n0 : C.length ≠ 0 := by omega
      have n1 : C.length ≠ 1 := by omega
      generalize C ++ [.lst (rs.map pD)] = C2 at g0 g1 g2
      generalize C.length = q2 at *
      try dsimp only
      rw [u_gvName, u_sSeq, u_sIf, u_bNot, u_bB, u_eCall]
      refine ⟨_, rfl, _, rfl, _, _, by rw [views_pc g2, views_pc g1, views_nil], Sw.pil (k := 0) hfew, rfl, _, rfl, ?_⟩
      refine goF rfl ?_
      rw [u_sNext]
      try dsimp only
      rw [u_sSeq, u_sDrop]
      refine ⟨_, rfl, _, _, _, rfl, rfl, rfl, rs.map pD, by simp only [lstOf, g2], le2 _ _, q2, _, _, rfl, rfl, g2, by rw [List.length_map]; omega, ?_⟩
      have k0 : (C2.set q2 (.lst (rs.map pD ++ [.tup [.int 0, .int 0]])))[0]? = some y1 := by rw [List.getElem?_set_ne n0]; exact g0
      have k1 : (C2.set q2 (.lst (rs.map pD ++ [.tup [.int 0, .int 0]])))[1]? = some (.lst (rs.map pD)) := by rw [List.getElem?_set_ne n1]; exact g1
      have k2 : (C2.set q2 (.lst (rs.map pD ++ [.tup [.int 0, .int 0]])))[q2]? = some (.lst (rs.map pD ++ [.tup [.int 0, .int 0]])) := by
        rw [List.getElem?_set_self (List.getElem?_eq_some_iff.mp g2).1]
      generalize C2.set q2 (.lst (rs.map pD ++ [.tup [.int 0, .int 0]])) = C3 at k0 k1 k2
      try dsimp only
      rw [u_sDrop]
      refine ⟨_, rfl, _, _, _, rfl, rfl, rfl, rs.map pD ++ [.tup [.int 0, .int 0]], by simp only [lstOf, k2], q2, _, rfl, rfl, k2, ?_⟩
      refine hR _ _ ⟨?_, ?_, _, _, _, _, rfl⟩
      · rw [List.getElem?_set_ne n0]; exact k0
      · rw [List.getElem?_set_ne n1]; exact k1
    case stop2 =>
      rintro Γ C ⟨h0, h1, a, b, c, d, rfl⟩
      try dsimp only
      rw [u_sSeq, u_sIf, u_bB, u_eBin, u_eCall, u_aCons]
      refine readT_e (f := f) (st := st) (rs := rs) rfl hp ?_
      have g0 : (C ++ [.lst (rs.map pD)])[0]? = some y1 := by
        have hl := (List.getElem?_eq_some_iff.mp h0).1
        rw [List.getElem?_append_left hl]; exact h0
      have g1 : (C ++ [.lst (rs.map pD)])[1]? = some (.lst (rs.map pD)) := by
        have hl := (List.getElem?_eq_some_iff.mp h1).1
        rw [List.getElem?_append_left hl]; exact h1
      have g2 : (C ++ [Cell.lst (rs.map pD)])[C.length]? = some (.lst (rs.map pD)) := by simp
      show aNil _ (C ++ [.lst (rs.map pD)]) _
      generalize C ++ [.lst (rs.map pD)] = C2 at g0 g1 g2 ⊢
      rw [u_aNil]
      refine ⟨true, f, st, rs, by rw [views_pc g2, views_nil], hp, rfl, ?_⟩
      refine ⟨_, rfl, ?_⟩
      dsimp only
      rw [u_eqS]
      refine ⟨_, rfl, ?_⟩
      refine goF (by simp) ?_
      rw [u_sNext]
      try dsimp only
      rw [u_sSeq, u_sDrop]
      refine ⟨_, rfl, _, _, _, rfl, rfl, rfl, rs.map pD, by simp only [lstOf, g1], 1, _, rfl, rfl, g1, ?_⟩
      have k0 : (C2.set 1 (.lst []))[0]? = some y1 := by rw [List.getElem?_set_ne (by decide)]; exact g0
      have k1 : (C2.set 1 (.lst []))[1]? = some (.lst (([] : List (Int × Int)).map pD)) := by
        rw [List.getElem?_set_self (List.getElem?_eq_some_iff.mp g1).1]
        rfl
      generalize C2.set 1 (.lst []) = C3 at k0 k1 ⊢
      have hp0 : Pil f st [] := Pil.take (qs := rs) hp
      try dsimp only
      rw [u_sRet, u_eBin, u_eCall]
      refine ⟨_, rfl, true, f, st, [], by rw [views_pc k1, views_nil], hp0, rfl, ?_⟩
      refine ⟨_, rfl, _, _, _, rfl, rfl, rfl, _, _, rfl, rfl, by rw [hfl, hz]; show 1 + 1 ≤ 16777216; decide, ?_⟩
      refine ⟨_, rfl, _, _, _, rfl, rfl, rfl, _, _, rfl, rfl, by rw [len_app, hfl, hz]; show 1 + 1 + st.length ≤ 16777216; omega, ?_⟩
      rw [← shown_nil]
      dsimp only
      rw [u_eqS]
      obtain ⟨Cr, rfl⟩ : ∃ Cr, C3 = y1 :: Cr := by
        cases C3 with
        | nil => simp at k0
        | cons y l => simp at k0; subst k0; exact ⟨l, rfl⟩
      show Q3 (.bl (false != decide _)) (finS 1 (y1 :: Cr))
      rw [hy1.finS, decide_eq_true rfl]
      exact q c1 y1 hy1
end K08
end RG
end L3
namespace L3
namespace RG
namespace K08
open PySem PySem.Spec PyProof.Rows L2
theorem v_law (ds : List D) (C : Store) (Q3 : D → Store → Prop) (h : P_law ds C Q3) (hC : C.length = 0) : T_law P_Lw_right P_Lw_pad (enF 0 Q3) (start3 N_law ds) C := law_go ds C Q3 h hC
end K08
end RG
end L3
namespace L3
open PySem PySem.Spec PyProof.Rows L2
namespace RG
namespace K08
def top (i : Nat) : Stmt := PySem.Challenge.pw_twostamps_k08_piles_written.main.body.getD i (.Pass ⟨0, 0, 0, 0⟩)
section
variable {P : Program} {w : World} {K : PySem.W.Frag} {mg : Str → Option Value} {base : Heap}
abbrev s_Lw_ink : Stmt := top 30
theorem sc_Lw_ink : FnScope N_Lw_ink ["_law_pad_here", "_law_many_here"] (defScope s_Lw_ink) := ⟨rfl, rfl, rfl, by decide +kernel, rfl, by decide +kernel, by decide +kernel⟩
theorem d_Lw_ink {f : Addr} {fd : FuncData} (F : FnD K "_law_ink" s_Lw_ink f fd) (g : mg "_law_ink" = some (.ref f)) {P_Lw_ink : PV} (l : ∀ ds C Q, P_Lw_ink ds C Q → ds.length = 2) (v : ∀ ds C Q3, P_Lw_ink ds C Q3 → C.length = 1 → T_Lw_ink (enF 1 Q3) (start3 N_Lw_ink ds) C) : Cal P w K mg base 1 "_law_ink" s_Lw_ink ["_law_pad_here", "_law_many_here"] 1 P_Lw_ink := by
  have nd : (N_Lw_ink).Nodup := sc_Lw_ink.nd
  exact ⟨f, fd, ok3 (T := T_Lw_ink) F sc_Lw_ink l (fun cdv A outer s H E hr => (vss_cons (vs_if (vt_cmp op_gt sr_gt (ve_ix (ix_listA rfl) sr_ixL (ve_var 0) ve_int) ve_int (nomark _)) (vss_cons (vs_set 2 nd (ve_op op_mod sr_mod (ve_ix (ix_listA rfl) sr_ixL (ve_var 0) ve_int) (ve_var 1)))
  (vss_cons (vs_asg (ve_op op_fdivW sr_divW (ve_ix (ix_listA rfl) sr_ixL (ve_var 0) ve_int) (ve_var 1)) (vg_subL (ve_var 0) ve_int))
  (vss_one (vs_ret (ve_var 2))))) vss_nil)
  (vss_cons (vs_asg (ve_op op_add sr_add (ve_ix (ix_listA rfl) sr_ixL (ve_var 0) ve_int) ve_int) (vg_subL (ve_var 0) ve_int))
  (vss_cons (vs_set 3 nd (ve_op op_mod sr_mod (ve_op op_powW sr_powW (ve_op op_add sr_add (ve_ix (ix_listA rfl) sr_ixL (ve_var 0) ve_int) (ve_op op_mulW sr_mulW ve_int (ve_ix (ix_listA rfl) sr_ixL (ve_var 0) ve_int))) ve_int) (ve_op op_add sr_add (ve_op op_powW sr_powW ve_int ve_int) ve_int)))
  (vss_cons (vs_set 3 nd (ve_op op_mod sr_mod (ve_op op_powW sr_powW (ve_op op_add sr_add (ve_op op_mulW sr_mulW (ve_var 3) (ve_ix (ix_listA rfl) sr_ixL (ve_var 0) ve_int)) ve_int) ve_int) (ve_op op_add sr_add (ve_op op_powW sr_powW ve_int ve_int) ve_int)))
  (vss_one (vs_ret (ve_op op_mod sr_mod (ve_op op_fdivW sr_divW (ve_var 3) ve_int) (ve_var 1))))))))) v, g, F.kp, FunD.bindsN F fun _ _ _ _ _ _ us hl => match us, hl with | [_, _], _ => rfl, F⟩
abbrev s_Lw_many : Stmt := top 32
theorem sc_Lw_many : FnScope N_Lw_many ["_law_pad_here", "_law_most"] (defScope s_Lw_many) := ⟨rfl, rfl, rfl, by decide +kernel, rfl, by decide +kernel, by decide +kernel⟩
theorem d_Lw_many {f : Addr} {fd : FuncData} (F : FnD K "_law_many" s_Lw_many f fd) (g : mg "_law_many" = some (.ref f)) {P_Lw_many P_Lw_ink : PV} (l : ∀ ds C Q, P_Lw_many ds C Q → ds.length = 2) (v : ∀ ds C Q3, P_Lw_many ds C Q3 → C.length = 1 → T_Lw_many P_Lw_ink (enF 1 Q3) (start3 N_Lw_many ds) C) (C_Lw_ink : Cal P w K mg base 1 "_law_ink" s_Lw_ink ["_law_pad_here", "_law_many_here"] 1 P_Lw_ink) : Cal P w K mg base 2 "_law_many" s_Lw_many ["_law_pad_here", "_law_most"] 1 P_Lw_many := by
  obtain ⟨f_Lw_ink, fd_Lw_ink, G_Lw_ink, g_Lw_ink, kp_Lw_ink, b_Lw_ink, F_Lw_ink⟩ := C_Lw_ink
  have nd : (N_Lw_many).Nodup := sc_Lw_many.nd
  exact ⟨f, fd, ok3 (T := T_Lw_many P_Lw_ink) F sc_Lw_many l (fun cdv A outer s H E hr => (vss_cons (vs_if (vt_cmp (op_eqA rfl hr.units) sr_eq (ve_var 1) ve_int (nomark _)) (vss_one (vs_ret (ve_op op_add sr_add ve_int (ve_callK (kf := kf1) (G_Lw_ink.mono (by decide)) hr g_Lw_ink kp_Lw_ink b_Lw_ink (va_cons (ve_var 0) (va_cons ve_int va_nil)))))) vss_nil)
  (vss_one (vs_ret (ve_op op_add sr_add ve_int (ve_callK (kf := kf1) (G_Lw_ink.mono (by decide)) hr g_Lw_ink kp_Lw_ink b_Lw_ink (va_cons (ve_var 0) (va_cons (ve_ix (ix_listA rfl) sr_ixL (VF.frz (vf_lst (va_cons ve_int (va_cons ve_int (va_cons (ve_var 1) va_nil))))) (ve_callK (kf := kf1) (G_Lw_ink.mono (by decide)) hr g_Lw_ink kp_Lw_ink b_Lw_ink (va_cons (ve_var 0) (va_cons ve_int va_nil)))) va_nil)))))))) v, g, F.kp, FunD.bindsN F fun _ _ _ _ _ _ us hl => match us, hl with | [_, _], _ => rfl, F⟩
abbrev s_Lw_stamps : Stmt := top 31
theorem sc_Lw_stamps : FnScope N_Lw_stamps ["_law_pad_here", "_law_many_here"] (defScope s_Lw_stamps) := ⟨rfl, rfl, rfl, by decide +kernel, rfl, by decide +kernel, by decide +kernel⟩
theorem d_Lw_stamps {f : Addr} {fd : FuncData} (F : FnD K "_law_stamps" s_Lw_stamps f fd) (g : mg "_law_stamps" = some (.ref f)) {P_Lw_stamps P_Lw_ink : PV} (l : ∀ ds C Q, P_Lw_stamps ds C Q → ds.length = 2) (v : ∀ ds C Q3, P_Lw_stamps ds C Q3 → C.length = 1 → T_Lw_stamps P_Lw_ink (enF 1 Q3) (start3 N_Lw_stamps ds) C) (C_Lw_ink : Cal P w K mg base 1 "_law_ink" s_Lw_ink ["_law_pad_here", "_law_many_here"] 1 P_Lw_ink) (m_range : mg "range" = none) : Cal P w K mg base 2 "_law_stamps" s_Lw_stamps ["_law_pad_here", "_law_many_here"] 1 P_Lw_stamps := by
  obtain ⟨f_Lw_ink, fd_Lw_ink, G_Lw_ink, g_Lw_ink, kp_Lw_ink, b_Lw_ink, F_Lw_ink⟩ := C_Lw_ink
  have nd : (N_Lw_stamps).Nodup := sc_Lw_stamps.nd
  exact ⟨f, fd, ok3 (T := T_Lw_stamps P_Lw_ink) F sc_Lw_stamps l (fun cdv A outer s H E hr => (vss_cons (vs_set 2 nd (ve_callK (kf := kf1) (G_Lw_ink.mono (by decide)) hr g_Lw_ink kp_Lw_ink b_Lw_ink (va_cons (ve_var 0) (va_cons ve_int va_nil))))
  (vss_cons (vs_setLc 3 false (own := [("_law_k", 4)]) rfl nd (vi_range1 m_range (va_cons (ve_var 1) va_nil)) (blkOk_by (by kernel_rfl)) (own_name (by decide)) (fun _ _ _ _ _ => (vg_name 4 nd)) (fun _ _ _ _ _ => vts_nil) (fun _ _ _ _ _ => (ve_ix ix_str sr_ixS ve_str (ve_callK (kf := kf1) (G_Lw_ink.mono (by decide)) hr g_Lw_ink kp_Lw_ink b_Lw_ink (va_cons (ve_var 0) (va_cons ve_int va_nil))))))
  (vss_one (vs_ret (ve_join rfl ve_str (ve_ix (ix_listA rfl) sr_ixL (VF.frz (vf_lst (va_cons (ve_var 3) (va_cons (ve_var 3) (va_cons (VF.frz (vf_op op_repR sf_rep (VF.frz (vf_slL rfl (ve_var 3) vo_none (vo_some ve_int))) (ve_var 1))) (va_cons (VF.frz (vf_slL rfl (VF.frz (vf_op op_repR sf_rep (VF.frz (vf_lst (va_cons ve_str (va_cons ve_str va_nil)))) (ve_var 1))) vo_none (vo_some (ve_var 1)))) va_nil)))))) (ve_var 2)))))))) v, g, F.kp, FunD.bindsN F fun _ _ _ _ _ _ us hl => match us, hl with | [_, _], _ => rfl, F⟩
abbrev s_Lw_pile : Stmt := top 33
theorem sc_Lw_pile : FnScope N_Lw_pile ["_law_pad_here", "_law_most"] (defScope s_Lw_pile) := ⟨rfl, rfl, rfl, by decide +kernel, rfl, by decide +kernel, by decide +kernel⟩
theorem d_Lw_pile {f : Addr} {fd : FuncData} (F : FnD K "_law_pile" s_Lw_pile f fd) (g : mg "_law_pile" = some (.ref f)) {P_Lw_pile P_Lw_many P_Lw_ink P_Lw_stamps : PV} (l : ∀ ds C Q, P_Lw_pile ds C Q → ds.length = 2) (v : ∀ ds C Q3, P_Lw_pile ds C Q3 → C.length = 1 → T_Lw_pile P_Lw_many P_Lw_ink P_Lw_stamps (enF 1 Q3) (start3 N_Lw_pile ds) C) (C_Lw_many : Cal P w K mg base 2 "_law_many" s_Lw_many ["_law_pad_here", "_law_most"] 1 P_Lw_many) (C_Lw_ink : Cal P w K mg base 1 "_law_ink" s_Lw_ink ["_law_pad_here", "_law_many_here"] 1 P_Lw_ink) (C_Lw_stamps : Cal P w K mg base 2 "_law_stamps" s_Lw_stamps ["_law_pad_here", "_law_many_here"] 1 P_Lw_stamps) (m_list : mg "list" = none) (m_range : mg "range" = none) (m_len : mg "len" = none) (m_int : mg "int" = none) (m_min : mg "min" = none) (m_zip : mg "zip" = none) (m_dict : mg "dict" = none) (m_sorted : mg "sorted" = none) : Cal P w K mg base 3 "_law_pile" s_Lw_pile ["_law_pad_here", "_law_most"] 1 P_Lw_pile := by
  obtain ⟨f_Lw_many, fd_Lw_many, G_Lw_many, g_Lw_many, kp_Lw_many, b_Lw_many, F_Lw_many⟩ := C_Lw_many
  obtain ⟨f_Lw_ink, fd_Lw_ink, G_Lw_ink, g_Lw_ink, kp_Lw_ink, b_Lw_ink, F_Lw_ink⟩ := C_Lw_ink
  obtain ⟨f_Lw_stamps, fd_Lw_stamps, G_Lw_stamps, g_Lw_stamps, kp_Lw_stamps, b_Lw_stamps, F_Lw_stamps⟩ := C_Lw_stamps
  have nd : (N_Lw_pile).Nodup := sc_Lw_pile.nd
  exact ⟨f, fd, ok3 (T := T_Lw_pile P_Lw_many P_Lw_ink P_Lw_stamps) F sc_Lw_pile l (fun cdv A outer s H E hr => (vss_cons (vs_set 2 nd (ve_callK (kf := kf1) (G_Lw_many.mono (by decide)) hr g_Lw_many kp_Lw_many b_Lw_many (va_cons (ve_var 0) (va_cons (ve_var 1) va_nil))))
  (vss_cons (vs_set 3 nd (VF.cell (vf_listRange rfl m_list m_range (ve_var 2))))
  (vss_cons (vs_setLc 4 false (own := [("_law_k", 5)]) rfl nd (vi_range1 m_range (va_cons (ve_var 2) va_nil)) (blkOk_by (by kernel_rfl)) (own_name (by decide)) (fun _ _ _ _ _ => (vg_name 5 nd)) (fun _ _ _ _ _ => vts_nil) (fun _ _ _ _ _ => (ve_ml rfl PySem.F.plainAttrs_list PySem.F.slot_list_pop PySem.F.type_list_pop mt_popAt sm_popAt (ve_var 3) (va_cons (ve_callK (kf := kf1) (G_Lw_ink.mono (by decide)) hr g_Lw_ink kp_Lw_ink b_Lw_ink (va_cons (ve_var 0) (va_cons (ve_callB (call_lenAA rfl) sc_lenA m_len (va_cons (ve_var 3) va_nil)) va_nil))) va_nil))))
  (vss_cons (vs_set 6 nd (VF.cell vf_dt0))
  (vss_cons (vs_set 7 nd (ve_ix (ix_listA rfl) sr_ixL (VF.frz (vf_lst (va_cons ve_int (va_cons ve_int (va_cons (ve_var 2) va_nil))))) (ve_callK (kf := kf1) (G_Lw_ink.mono (by decide)) hr g_Lw_ink kp_Lw_ink b_Lw_ink (va_cons (ve_var 0) (va_cons ve_int va_nil)))))
  (vss_cons (vs_for PassesOwn.never rfl (vi_range1 m_range (va_cons (ve_op op_mulW sr_mulW (ve_callK (kf := kf1) (G_Lw_ink.mono (by decide)) hr g_Lw_ink kp_Lw_ink b_Lw_ink (va_cons (ve_var 0) (va_cons (ve_ix (ix_listA rfl) sr_ixL (VF.frz (vf_lst (va_cons ve_int (va_cons ve_int (va_cons ve_int va_nil))))) (ve_callK (kf := kf1) (G_Lw_ink.mono (by decide)) hr g_Lw_ink kp_Lw_ink b_Lw_ink (va_cons (ve_var 0) (va_cons ve_int va_nil)))) va_nil))) (ve_callTy call_int1 sc_int m_int (va_cons (ve_cmp op_gt sr_gt (ve_var 2) ve_int (nomark _)) va_nil))) va_nil)) (vg_name 8 nd) (vss_cons (vs_set 9 nd (ve_callK (kf := kf1) (G_Lw_ink.mono (by decide)) hr g_Lw_ink kp_Lw_ink b_Lw_ink (va_cons (ve_var 0) (va_cons (ve_op op_sub sr_sub (ve_var 2) ve_int) va_nil))))
  (vss_one (vs_asg ve_bl (vg_subT (u1 hr) (ve_var 6) (ve_tup (va_cons (ve_ix (ix_listA rfl) sr_ixL (ve_var 4) (ve_var 9)) (va_cons (ve_ix (ix_listA rfl) sr_ixL (ve_var 4) (ve_callB (call_min2 rfl) sc_min2 m_min (va_cons (ve_op op_sub sr_sub (ve_var 2) ve_int) (va_cons (ve_op op_add sr_add (ve_op op_add sr_add (ve_var 9) ve_int) (ve_callK (kf := kf1) (G_Lw_ink.mono (by decide)) hr g_Lw_ink kp_Lw_ink b_Lw_ink (va_cons (ve_var 0) (va_cons (ve_var 7) va_nil)))) va_nil)))) va_nil))))))))
  (vss_cons (vs_if (vt_cmp (op_eqA rfl hr.units) sr_eq (ve_callK (kf := kf1) (G_Lw_ink.mono (by decide)) hr g_Lw_ink kp_Lw_ink b_Lw_ink (va_cons (ve_var 0) (va_cons ve_int va_nil))) ve_int (nomark _)) (vss_one (vs_set 6 nd (VF.cell (vf_callTy (call_dictT3 rfl rfl (u65 hr)) sf_dictT m_dict (va_cons (VF.frz (vf_lc (own := [("_law_pair", 10)]) rfl nd (vi_zipO rfl m_zip (va_cons (ve_var 4) (va_cons (VF.frz (vf_slL rfl (ve_var 4) (vo_some ve_int) vo_none)) va_nil))) (blkOk_by (by kernel_rfl)) (own_name (by decide)) (fun _ _ _ _ _ => (vg_name 10 nd)) (fun _ _ _ _ _ => vts_nil) (fun _ _ _ _ _ => (ve_tup (va_cons (ve_var 10) (va_cons ve_bl va_nil)))))) va_nil))))) vss_nil)
  (vss_one (vs_ret (ve_tup (va_cons (ve_ix ix_str sr_ixS ve_str (ve_callK (kf := kf1) (G_Lw_ink.mono (by decide)) hr g_Lw_ink kp_Lw_ink b_Lw_ink (va_cons (ve_var 0) (va_cons ve_int va_nil)))) (va_cons (ve_callK (kf := kf1) (G_Lw_stamps.mono (by decide)) hr g_Lw_stamps kp_Lw_stamps b_Lw_stamps (va_cons (ve_var 0) (va_cons (ve_var 2) va_nil))) (va_cons (VF.frz (vf_callB (call_sortDT rfl) sf_sortT m_sorted (va_cons (ve_var 6) va_nil))) va_nil)))))))))))))) v, g, F.kp, FunD.bindsN F fun _ _ _ _ _ _ us hl => match us, hl with | [_, _], _ => rfl, F⟩
abbrev s_words_in : Stmt := top 23
theorem sc_words_in : FnScope N_words_in ["text"] (defScope s_words_in) := ⟨rfl, rfl, rfl, by decide +kernel, rfl, by decide +kernel, by decide +kernel⟩
theorem d_words_in {f : Addr} {fd : FuncData} (F : FnD K "words_in" s_words_in f fd) (g : mg "words_in" = some (.ref f)) {P_words_in : PV} (l : ∀ ds C Q, P_words_in ds C Q → ds.length = 1) (v : ∀ ds C Q3, P_words_in ds C Q3 → C.length = 0 → T_words_in (enF 0 Q3) (start3 N_words_in ds) C) (m_isinstance : mg "isinstance" = none) (m_str : mg "str" = none) : Cal P w K mg base 1 "words_in" s_words_in ["text"] 0 P_words_in := by
  have nd : (N_words_in).Nodup := sc_words_in.nd
  exact ⟨f, fd, ok3 (T := T_words_in) F sc_words_in l (fun cdv A outer s H E hr => (vss_cons (vs_if (vt_not (vt_val (ve_isi .str rfl m_isinstance m_str (ve_var 0)))) (vss_one vs_never) vss_nil)
  (vss_one (vs_ret (VF.frz (vf_split (ve_var 0) ve_str)))))) v, g, F.kp, FunD.bindsN F fun _ _ _ _ _ _ us hl => match us, hl with | [_], _ => rfl, F⟩
abbrev s_is_stamp : Stmt := top 9
theorem sc_is_stamp : FnScope N_is_stamp ["thing"] (defScope s_is_stamp) := ⟨rfl, rfl, rfl, by decide +kernel, rfl, by decide +kernel, by decide +kernel⟩
theorem d_is_stamp {f : Addr} {fd : FuncData} (F : FnD K "is_stamp" s_is_stamp f fd) (g : mg "is_stamp" = some (.ref f)) {P_is_stamp : PV} (l : ∀ ds C Q, P_is_stamp ds C Q → ds.length = 1) (v : ∀ ds C Q3, P_is_stamp ds C Q3 → C.length = 0 → T_is_stamp (enF 0 Q3) (start3 N_is_stamp ds) C) (m_len : mg "len" = none) (m_isinstance : mg "isinstance" = none) (m_str : mg "str" = none) (c_STAMPS : ∃ t, mg "STAMPS" = some (.str "RB" t)) : Cal P w K mg base 1 "is_stamp" s_is_stamp ["thing"] 0 P_is_stamp := by
  have nd : (N_is_stamp).Nodup := sc_is_stamp.nd
  exact ⟨f, fd, ok3 (T := T_is_stamp) F sc_is_stamp l (fun cdv A outer s H E hr => (vss_one (vs_ret (ve_and (ve_isi .str rfl m_isinstance m_str (ve_var 0)) (ve_and (ve_cmp (op_eqA rfl hr.units) sr_eq (ve_callB (call_lenAA rfl) sc_lenA m_len (va_cons (ve_var 0) va_nil)) ve_int (nomark _)) (ve_one (ve_cmp (op_inA rfl (u65 hr)) sr_in (ve_var 0) (ve_gstr c_STAMPS) (by rfl)))))))) v, g, F.kp, FunD.bindsN F fun _ _ _ _ _ _ us hl => match us, hl with | [_], _ => rfl, F⟩
abbrev s_number_in : Stmt := top 24
theorem sc_number_in : FnScope N_number_in ["word"] (defScope s_number_in) := ⟨rfl, rfl, rfl, by decide +kernel, rfl, by decide +kernel, by decide +kernel⟩
theorem d_number_in {f : Addr} {fd : FuncData} (F : FnD K "number_in" s_number_in f fd) (g : mg "number_in" = some (.ref f)) {P_number_in : PV} (l : ∀ ds C Q, P_number_in ds C Q → ds.length = 1) (v : ∀ ds C Q3, P_number_in ds C Q3 → C.length = 0 → T_number_in (enF 0 Q3) (start3 N_number_in ds) C) (m_all : mg "all" = none) (m_int : mg "int" = none) (c_FIGURES : ∃ t, mg "FIGURES" = some (.str "0123456789" t)) : Cal P w K mg base 1 "number_in" s_number_in ["word"] 0 P_number_in := by
  have nd : (N_number_in).Nodup := sc_number_in.nd
  exact ⟨f, fd, ok3 (T := T_number_in) F sc_number_in l (fun cdv A outer s H E hr => (vss_cons (vs_if (VW.vt (vw_or (vt_cmp (op_eqA rfl hr.units) sr_eq (ve_var 0) ve_str (nomark _)) (vw_or (vt_not (vt_val (ve_callB (call_all rfl rfl) sc_all m_all (va_cons (VF.frz (vf_lc (own := [("sign", 1)]) rfl nd (vi_str (ve_var 0)) (blkOk_by (by kernel_rfl)) (own_name (by decide)) (fun _ _ _ _ _ => (vg_name 1 nd)) (fun _ _ _ _ _ => vts_nil) (fun _ _ _ _ _ => (ve_cmp (op_inA rfl (u65 hr)) sr_in (ve_var 1) (ve_gstr c_FIGURES) (by rfl))))) va_nil)))) (vw_or1 (VW.vt (vw_and (vt_cmp (op_eqA rfl hr.units) sr_eq (ve_ix ix_str sr_ixS (ve_var 0) ve_int) ve_str (nomark _)) (vw_and1 (vt_cmp (op_neA rfl hr.units) sr_ne (ve_var 0) ve_str (nomark _))))))))) (vss_one (vs_ret ve_non)) vss_nil)
  (vss_one (vs_ret (ve_callTy call_int_str sc_intS m_int (va_cons (ve_var 0) va_nil)))))) v, g, F.kp, FunD.bindsN F fun _ _ _ _ _ _ us hl => match us, hl with | [_], _ => rfl, F⟩
abbrev s_rule_in : Stmt := top 25
theorem sc_rule_in : FnScope N_rule_in ["word"] (defScope s_rule_in) := ⟨rfl, rfl, rfl, by decide +kernel, rfl, by decide +kernel, by decide +kernel⟩
theorem d_rule_in {f : Addr} {fd : FuncData} (F : FnD K "rule_in" s_rule_in f fd) (g : mg "rule_in" = some (.ref f)) {P_rule_in P_number_in : PV} (l : ∀ ds C Q, P_rule_in ds C Q → ds.length = 1) (v : ∀ ds C Q3, P_rule_in ds C Q3 → C.length = 0 → T_rule_in P_number_in (enF 0 Q3) (start3 N_rule_in ds) C) (C_number_in : Cal P w K mg base 1 "number_in" s_number_in ["word"] 0 P_number_in) (m_len : mg "len" = none) (c_BEHIND : ∃ t, mg "BEHIND" = some (.str ">" t)) : Cal P w K mg base 2 "rule_in" s_rule_in ["word"] 0 P_rule_in := by
  obtain ⟨f_number_in, fd_number_in, G_number_in, g_number_in, kp_number_in, b_number_in, F_number_in⟩ := C_number_in
  have nd : (N_rule_in).Nodup := sc_rule_in.nd
  exact ⟨f, fd, ok3 (T := T_rule_in P_number_in) F sc_rule_in l (fun cdv A outer s H E hr => (vss_cons (vs_setLc 1 false (own := [("part", 2)]) rfl nd (vi_list rfl (VF.frz (vf_split (ve_var 0) (ve_gstr c_BEHIND)))) (blkOk_by (by kernel_rfl)) (own_name (by decide)) (fun _ _ _ _ _ => (vg_name 2 nd)) (fun _ _ _ _ _ => vts_nil) (fun _ _ _ _ _ => (ve_call (G_number_in.mono (by decide)) hr g_number_in kp_number_in b_number_in (va_cons (ve_var 2) va_nil))))
  (vss_one (vs_ret (ve_ifExp (VW.vt (vw_or (vt_cmp (op_neA rfl hr.units) sr_ne (ve_callB (call_lenAA rfl) sc_lenA m_len (va_cons (ve_var 1) va_nil)) ve_int (nomark _)) (vw_or1 (vt_cmp (op_inA rfl (u65 hr)) sr_in ve_non (ve_var 1) (by rfl))))) ve_non (ve_tup (va_cons (ve_ix (ix_listA rfl) sr_ixL (ve_var 1) ve_int) (va_cons (ve_ix (ix_listA rfl) sr_ixL (ve_var 1) ve_int) va_nil)))))))) v, g, F.kp, FunD.bindsN F fun _ _ _ _ _ _ us hl => match us, hl with | [_], _ => rfl, F⟩
abbrev s_are_stamps : Stmt := top 10
theorem sc_are_stamps : FnScope N_are_stamps ["thing"] (defScope s_are_stamps) := ⟨rfl, rfl, rfl, by decide +kernel, rfl, by decide +kernel, by decide +kernel⟩
theorem d_are_stamps {f : Addr} {fd : FuncData} (F : FnD K "are_stamps" s_are_stamps f fd) (g : mg "are_stamps" = some (.ref f)) {P_are_stamps : PV} (l : ∀ ds C Q, P_are_stamps ds C Q → ds.length = 1) (v : ∀ ds C Q3, P_are_stamps ds C Q3 → C.length = 0 → T_are_stamps (enF 0 Q3) (start3 N_are_stamps ds) C) (m_all : mg "all" = none) (m_len : mg "len" = none) (m_isinstance : mg "isinstance" = none) (m_str : mg "str" = none) (c_STAMPS : ∃ t, mg "STAMPS" = some (.str "RB" t)) (c_MOST_PAPERS : ∃ t, mg "MOST_PAPERS" = some (.int 24 t)) : Cal P w K mg base 1 "are_stamps" s_are_stamps ["thing"] 0 P_are_stamps := by
  have nd : (N_are_stamps).Nodup := sc_are_stamps.nd
  exact ⟨f, fd, ok3 (T := T_are_stamps) F sc_are_stamps l (fun cdv A outer s H E hr => (vss_one (vs_ret (ve_and (ve_isi .str rfl m_isinstance m_str (ve_var 0)) (ve_and (ve_chain op_le sr_le op_le sr_le ve_int (ve_callB (call_lenAA rfl) sc_lenA m_len (va_cons (ve_var 0) va_nil)) (ve_gint c_MOST_PAPERS)) (ve_one (ve_callB (call_all rfl rfl) sc_all m_all (va_cons (VF.frz (vf_lc (own := [("sign", 1)]) rfl nd (vi_str (ve_var 0)) (blkOk_by (by kernel_rfl)) (own_name (by decide)) (fun _ _ _ _ _ => (vg_name 1 nd)) (fun _ _ _ _ _ => vts_nil) (fun _ _ _ _ _ => (ve_cmp (op_inA rfl (u65 hr)) sr_in (ve_var 1) (ve_gstr c_STAMPS) (by rfl))))) va_nil)))))))) v, g, F.kp, FunD.bindsN F fun _ _ _ _ _ _ us hl => match us, hl with | [_], _ => rfl, F⟩
abbrev s_straight_behind : Stmt := top 14
theorem sc_straight_behind : FnScope N_straight_behind ["many", "rules"] (defScope s_straight_behind) := ⟨rfl, rfl, rfl, by decide +kernel, rfl, by decide +kernel, by decide +kernel⟩
theorem d_straight_behind {f : Addr} {fd : FuncData} (F : FnD K "straight_behind" s_straight_behind f fd) (g : mg "straight_behind" = some (.ref f)) {P_straight_behind : PV} (l : ∀ ds C Q, P_straight_behind ds C Q → ds.length = 2) (v : ∀ ds C Q3, P_straight_behind ds C Q3 → C.length = 0 → T_straight_behind (enF 0 Q3) (start3 N_straight_behind ds) C) (m_range : mg "range" = none) : Cal P w K mg base 1 "straight_behind" s_straight_behind ["many", "rules"] 0 P_straight_behind := by
  have nd : (N_straight_behind).Nodup := sc_straight_behind.nd
  exact ⟨f, fd, ok3 (T := T_straight_behind) F sc_straight_behind l (fun cdv A outer s H E hr => (vss_cons (vs_setLc 2 true (own := [("paper", 3)]) rfl nd (vi_range1 m_range (va_cons (ve_var 0) va_nil)) (blkOk_by (by kernel_rfl)) (own_name (by decide)) (fun _ _ _ _ _ => (vg_name 3 nd)) (fun _ _ _ _ _ => vts_nil) (fun _ _ _ _ _ => (VF.cell (vf_lst va_nil))))
  (vss_cons (vs_for PassesOwn.never rfl (vi_list rfl (ve_var 1)) (vg_tup rfl rfl (vgs_cons (vg_name 3 nd) (vgs_cons (vg_name 4 nd) vgs_nil))) (vss_one (vs_expr (ve_ml rfl PySem.F.plainAttrs_list PySem.F.slot_list_append PySem.F.type_list_append mt_append sm_append (ve_ix (ix_listA rfl) sr_ixL (ve_var 2) (ve_var 3)) (va_cons (ve_var 4) va_nil)))))
  (vss_one (vs_ret (ve_var 2)))))) v, g, F.kp, FunD.bindsN F fun _ _ _ _ _ _ us hl => match us, hl with | [_, _], _ => rfl, F⟩
abbrev s_ordered : Stmt := top 15
theorem sc_ordered : FnScope N_ordered ["many", "rules"] (defScope s_ordered) := ⟨rfl, rfl, rfl, by decide +kernel, rfl, by decide +kernel, by decide +kernel⟩
theorem d_ordered {f : Addr} {fd : FuncData} (F : FnD K "ordered" s_ordered f fd) (g : mg "ordered" = some (.ref f)) {P_ordered P_straight_behind : PV} (l : ∀ ds C Q, P_ordered ds C Q → ds.length = 2) (v : ∀ ds C Q3, P_ordered ds C Q3 → C.length = 0 → T_ordered P_straight_behind (enF 0 Q3) (start3 N_ordered ds) C) (C_straight_behind : Cal P w K mg base 1 "straight_behind" s_straight_behind ["many", "rules"] 0 P_straight_behind) (m_range : mg "range" = none) (m_min : mg "min" = none) : Cal P w K mg base 2 "ordered" s_ordered ["many", "rules"] 0 P_ordered := by
  obtain ⟨f_straight_behind, fd_straight_behind, G_straight_behind, g_straight_behind, kp_straight_behind, b_straight_behind, F_straight_behind⟩ := C_straight_behind
  have nd : (N_ordered).Nodup := sc_ordered.nd
  exact ⟨f, fd, ok3 (T := T_ordered P_straight_behind) F sc_ordered l (fun cdv A outer s H E hr => (vss_cons (vs_set 2 nd (VF.cell (vf_lst va_nil)))
  (vss_cons (vs_set 3 nd (VF.cell (vf_op op_repR sf_rep (VF.frz (vf_lst (va_cons ve_int va_nil))) (ve_var 0))))
  (vss_cons (vs_for PassesOwn.never rfl (vi_list rfl (ve_var 1)) (vg_tup rfl rfl (vgs_cons (vg_name 4 nd) (vgs_cons (vg_name 5 nd) vgs_nil))) (vss_one (vs_augL rfl (ve_var 3) (ve_var 5) ip_add sr_ipI ve_int)))
  (vss_cons (vs_set 6 nd (ve_call (G_straight_behind.mono (by decide)) hr g_straight_behind kp_straight_behind b_straight_behind (va_cons (ve_var 0) (va_cons (ve_var 1) va_nil))))
  (vss_cons (vs_setLc 7 true (own := [("paper", 4)]) rfl nd (vi_range1 m_range (va_cons (ve_var 0) va_nil)) (blkOk_by (by kernel_rfl)) (own_name (by decide)) (fun _ _ _ _ _ => (vg_name 4 nd)) (fun _ _ _ _ _ => (vts_one (vt_cmp (op_eqA rfl hr.units) sr_eq (ve_ix (ix_listA rfl) sr_ixL (ve_var 3) (ve_var 4)) ve_int (nomark _)))) (fun _ _ _ _ _ => (ve_var 4)))
  (vss_cons (vs_while PassesOwn.never (vt_cmp (op_neA rfl hr.units) sr_ne (ve_var 7) (VF.frz (vf_lst va_nil)) (nomark _)) (vss_cons (vs_set 4 nd (ve_callB (call_minL rfl rfl) sc_minL m_min (va_cons (ve_var 7) va_nil)))
  (vss_cons (vs_expr (ve_ml rfl PySem.F.plainAttrs_list PySem.F.slot_list_remove PySem.F.type_list_remove mt_remove sm_remove (ve_var 7) (va_cons (ve_var 4) va_nil)))
  (vss_cons (vs_expr (ve_ml rfl PySem.F.plainAttrs_list PySem.F.slot_list_append PySem.F.type_list_append mt_append sm_append (ve_var 2) (va_cons (ve_var 4) va_nil)))
  (vss_one (vs_for PassesOwn.never rfl (vi_list rfl (ve_ix (ix_listA rfl) sr_ixL (ve_var 6) (ve_var 4))) (vg_name 5 nd) (vss_cons (vs_augL rfl (ve_var 3) (ve_var 5) ip_sub sr_ipI ve_int)
  (vss_one (vs_if (vt_cmp (op_eqA rfl hr.units) sr_eq (ve_ix (ix_listA rfl) sr_ixL (ve_var 3) (ve_var 5)) ve_int (nomark _)) (vss_one (vs_expr (ve_ml rfl PySem.F.plainAttrs_list PySem.F.slot_list_append PySem.F.type_list_append mt_append sm_append (ve_var 7) (va_cons (ve_var 5) va_nil)))) vss_nil)))))))))
  (vss_one (vs_ret (ve_var 2)))))))))) v, g, F.kp, FunD.bindsN F fun _ _ _ _ _ _ us hl => match us, hl with | [_, _], _ => rfl, F⟩
abbrev s_ring_by : Stmt := top 16
theorem sc_ring_by : FnScope N_ring_by ["many", "rules"] (defScope s_ring_by) := ⟨rfl, rfl, rfl, by decide +kernel, rfl, by decide +kernel, by decide +kernel⟩
theorem d_ring_by {f : Addr} {fd : FuncData} (F : FnD K "ring_by" s_ring_by f fd) (g : mg "ring_by" = some (.ref f)) {P_ring_by P_ordered : PV} (l : ∀ ds C Q, P_ring_by ds C Q → ds.length = 2) (v : ∀ ds C Q3, P_ring_by ds C Q3 → C.length = 0 → T_ring_by P_ordered (enF 0 Q3) (start3 N_ring_by ds) C) (C_ordered : Cal P w K mg base 2 "ordered" s_ordered ["many", "rules"] 0 P_ordered) (m_range : mg "range" = none) (m_min : mg "min" = none) : Cal P w K mg base 3 "ring_by" s_ring_by ["many", "rules"] 0 P_ring_by := by
  obtain ⟨f_ordered, fd_ordered, G_ordered, g_ordered, kp_ordered, b_ordered, F_ordered⟩ := C_ordered
  have nd : (N_ring_by).Nodup := sc_ring_by.nd
  exact ⟨f, fd, ok3 (T := T_ring_by P_ordered) F sc_ring_by l (fun cdv A outer s H E hr => (vss_cons (vs_set 2 nd (ve_call (G_ordered.mono (by decide)) hr g_ordered kp_ordered b_ordered (va_cons (ve_var 0) (va_cons (ve_var 1) va_nil))))
  (vss_cons (vs_set 3 nd (VF.frz (vf_lc (own := [("paper", 4)]) rfl nd (vi_range1 m_range (va_cons (ve_var 0) va_nil)) (blkOk_by (by kernel_rfl)) (own_name (by decide)) (fun _ _ _ _ _ => (vg_name 4 nd)) (fun _ _ _ _ _ => (vts_one (vt_cmp (op_notInA rfl (u65 hr)) sr_notIn (ve_var 4) (ve_var 2) (by rfl)))) (fun _ _ _ _ _ => (ve_var 4)))))
  (vss_cons (vs_if (vt_cmp (op_eqA rfl hr.units) sr_eq (ve_var 3) (VF.frz (vf_lst va_nil)) (nomark _)) (vss_one (vs_ret ve_non)) vss_nil)
  (vss_cons (vs_set 5 nd (VF.cell (vf_lst (va_cons (ve_ix (ix_listA rfl) sr_ixL (ve_var 3) ve_int) va_nil))))
  (vss_cons (vs_while PassesOwn.never (vt_cmp op_lt sr_lt (ve_ml rfl PySem.F.plainAttrs_list PySem.F.slot_list_count PySem.F.type_list_count (mt_countA rfl) sm_count (ve_var 5) (va_cons (ve_ix (ix_listA rfl) sr_ixL (ve_var 5) (ve_un un_neg su_neg ve_int)) va_nil)) ve_int (nomark _)) (vss_one (vs_expr (ve_ml rfl PySem.F.plainAttrs_list PySem.F.slot_list_append PySem.F.type_list_append mt_append sm_append (ve_var 5) (va_cons (ve_ix (ix_listA rfl) sr_ixL (VF.frz (vf_lc (own := [("paper", 4), ("other", 6)]) rfl nd (vi_list rfl (ve_var 1)) (blkOk_by (by kernel_rfl)) (own_tup (own_cons (own_name (by decide)) (own_cons (own_name (by decide)) own_nil mono_name) mono_name)) (fun _ _ _ _ _ => (vg_tup rfl rfl (vgs_cons (vg_name 4 nd) (vgs_cons (vg_name 6 nd) vgs_nil)))) (fun _ _ _ _ _ => (vts_one (VW.vt (vw_and (vt_cmp (op_eqA rfl hr.units) sr_eq (ve_var 6) (ve_ix (ix_listA rfl) sr_ixL (ve_var 5) (ve_un un_neg su_neg ve_int)) (nomark _)) (vw_and1 (vt_cmp (op_inA rfl (u65 hr)) sr_in (ve_var 4) (ve_var 3) (by rfl))))))) (fun _ _ _ _ _ => (ve_var 4)))) ve_int) va_nil)))))
  (vss_cons (vs_set 7 nd (VF.frz (vf_rev rfl (VF.frz (vf_slL rfl (ve_var 5) (vo_some (ve_op op_add sr_add (ve_ml rfl PySem.F.plainAttrs_list PySem.F.slot_list_index PySem.F.type_list_index (mt_indexA rfl) sm_index (ve_var 5) (va_cons (ve_ix (ix_listA rfl) sr_ixL (ve_var 5) (ve_un un_neg su_neg ve_int)) va_nil)) ve_int)) vo_none)))))
  (vss_cons (vs_set 8 nd (ve_ml rfl PySem.F.plainAttrs_list PySem.F.slot_list_index PySem.F.type_list_index (mt_indexA rfl) sm_index (ve_var 7) (va_cons (ve_callB (call_minL rfl rfl) sc_minL m_min (va_cons (ve_var 7) va_nil)) va_nil)))
  (vss_one (vs_ret (VF.frz (vf_op op_catR sf_cat (VF.frz (vf_slL rfl (ve_var 7) (vo_some (ve_var 8)) vo_none)) (VF.frz (vf_slL rfl (ve_var 7) vo_none (vo_some (ve_var 8)))))))))))))))) v, g, F.kp, FunD.bindsN F fun _ _ _ _ _ _ us hl => match us, hl with | [_, _], _ => rfl, F⟩
abbrev s_is_between : Stmt := top 8
theorem sc_is_between : FnScope N_is_between ["thing", "least", "most"] (defScope s_is_between) := ⟨rfl, rfl, rfl, by decide +kernel, rfl, by decide +kernel, by decide +kernel⟩
theorem d_is_between {f : Addr} {fd : FuncData} (F : FnD K "is_between" s_is_between f fd) (g : mg "is_between" = some (.ref f)) {P_is_between : PV} (l : ∀ ds C Q, P_is_between ds C Q → ds.length = 3) (v : ∀ ds C Q3, P_is_between ds C Q3 → C.length = 0 → T_is_between (enF 0 Q3) (start3 N_is_between ds) C) (m_isinstance : mg "isinstance" = none) (m_bool : mg "bool" = none) (m_int : mg "int" = none) : Cal P w K mg base 1 "is_between" s_is_between ["thing", "least", "most"] 0 P_is_between := by
  have nd : (N_is_between).Nodup := sc_is_between.nd
  exact ⟨f, fd, ok3 (T := T_is_between) F sc_is_between l (fun cdv A outer s H E hr => (vss_one (vs_ret (ve_and (ve_isi .int rfl m_isinstance m_int (ve_var 0)) (ve_and (ve_not (ve_isi .bool rfl m_isinstance m_bool (ve_var 0))) (ve_one (ve_chain op_le sr_le op_le sr_le (ve_var 1) (ve_var 0) (ve_var 2)))))))) v, g, F.kp, FunD.bindsN F fun _ _ _ _ _ _ us hl => match us, hl with | [_, _, _], _ => rfl, F⟩
abbrev s_is_rule : Stmt := top 11
theorem sc_is_rule : FnScope N_is_rule ["thing", "many"] (defScope s_is_rule) := ⟨rfl, rfl, rfl, by decide +kernel, rfl, by decide +kernel, by decide +kernel⟩
theorem d_is_rule {f : Addr} {fd : FuncData} (F : FnD K "is_rule" s_is_rule f fd) (g : mg "is_rule" = some (.ref f)) {P_is_rule P_is_between : PV} (l : ∀ ds C Q, P_is_rule ds C Q → ds.length = 2) (v : ∀ ds C Q3, P_is_rule ds C Q3 → C.length = 0 → T_is_rule P_is_between (enF 0 Q3) (start3 N_is_rule ds) C) (C_is_between : Cal P w K mg base 1 "is_between" s_is_between ["thing", "least", "most"] 0 P_is_between) (m_all : mg "all" = none) (m_len : mg "len" = none) (m_isinstance : mg "isinstance" = none) (m_tuple : mg "tuple" = none) : Cal P w K mg base 2 "is_rule" s_is_rule ["thing", "many"] 0 P_is_rule := by
  obtain ⟨f_is_between, fd_is_between, G_is_between, g_is_between, kp_is_between, b_is_between, F_is_between⟩ := C_is_between
  have nd : (N_is_rule).Nodup := sc_is_rule.nd
  exact ⟨f, fd, ok3 (T := T_is_rule P_is_between) F sc_is_rule l (fun cdv A outer s H E hr => (vss_cons (vs_if (VW.vt (vw_or (vt_not (vt_val (ve_isi .tuple rfl m_isinstance m_tuple (ve_var 0)))) (vw_or (vt_cmp (op_neA rfl hr.units) sr_ne (ve_callB (call_lenAA rfl) sc_lenA m_len (va_cons (ve_var 0) va_nil)) ve_int (nomark _)) (vw_or1 (vt_not (vt_val (ve_callB (call_all rfl rfl) sc_all m_all (va_cons (VF.frz (vf_lc (own := [("one", 2)]) rfl nd (vi_tup rfl (ve_var 0)) (blkOk_by (by kernel_rfl)) (own_name (by decide)) (fun _ _ _ _ _ => (vg_name 2 nd)) (fun _ _ _ _ _ => vts_nil) (fun _ _ _ _ _ => (ve_call (G_is_between.mono (by decide)) hr g_is_between kp_is_between b_is_between (va_cons (ve_var 2) (va_cons ve_int (va_cons (ve_op op_sub sr_sub (ve_var 1) ve_int) va_nil))))))) va_nil)))))))) (vss_one (vs_ret ve_bl)) vss_nil)
  (vss_one (vs_ret (ve_cmp (op_neA rfl hr.units) sr_ne (ve_ix (ix_tupA rfl) sr_ixT (ve_var 0) ve_int) (ve_ix (ix_tupA rfl) sr_ixT (ve_var 0) ve_int) (nomark _)))))) v, g, F.kp, FunD.bindsN F fun _ _ _ _ _ _ us hl => match us, hl with | [_, _], _ => rfl, F⟩
abbrev s_goes_on : Stmt := top 26
theorem sc_goes_on : FnScope N_goes_on ["many", "rules", "rule"] (defScope s_goes_on) := ⟨rfl, rfl, rfl, by decide +kernel, rfl, by decide +kernel, by decide +kernel⟩
theorem d_goes_on {f : Addr} {fd : FuncData} (F : FnD K "goes_on" s_goes_on f fd) (g : mg "goes_on" = some (.ref f)) {P_goes_on P_is_rule P_ring_by : PV} (l : ∀ ds C Q, P_goes_on ds C Q → ds.length = 3) (v : ∀ ds C Q3, P_goes_on ds C Q3 → C.length = 0 → T_goes_on P_is_rule P_ring_by (enF 0 Q3) (start3 N_goes_on ds) C) (C_is_rule : Cal P w K mg base 2 "is_rule" s_is_rule ["thing", "many"] 0 P_is_rule) (C_ring_by : Cal P w K mg base 3 "ring_by" s_ring_by ["many", "rules"] 0 P_ring_by) (m_len : mg "len" = none) (c_MOST_RULES : ∃ t, mg "MOST_RULES" = some (.int 60 t)) : Cal P w K mg base 4 "goes_on" s_goes_on ["many", "rules", "rule"] 0 P_goes_on := by
  obtain ⟨f_is_rule, fd_is_rule, G_is_rule, g_is_rule, kp_is_rule, b_is_rule, F_is_rule⟩ := C_is_rule
  obtain ⟨f_ring_by, fd_ring_by, G_ring_by, g_ring_by, kp_ring_by, b_ring_by, F_ring_by⟩ := C_ring_by
  have nd : (N_goes_on).Nodup := sc_goes_on.nd
  exact ⟨f, fd, ok3 (T := T_goes_on P_is_rule P_ring_by) F sc_goes_on l (fun cdv A outer s H E hr => (vss_cons (vs_if (VW.vt (vw_or (vt_not (vt_val (ve_call (G_is_rule.mono (by decide)) hr g_is_rule kp_is_rule b_is_rule (va_cons (ve_var 2) (va_cons (ve_var 0) va_nil))))) (vw_or (vt_cmp (op_eqA rfl hr.units) sr_eq (ve_callB (call_lenAA rfl) sc_lenA m_len (va_cons (ve_var 1) va_nil)) (ve_gint c_MOST_RULES) (nomark _)) (vw_or1 (VW.vt (vw_and (vt_cmp (op_neA rfl hr.units) sr_ne (ve_var 1) (VF.frz (vf_lst va_nil)) (nomark _)) (vw_and1 (vt_cmp (op_geL rfl (u65 hr)) sr_geT (ve_ix (ix_listA rfl) sr_ixL (ve_var 1) (ve_un un_neg su_neg ve_int)) (ve_var 2) (nomark _))))))))) (vss_one (vs_ret ve_bl)) vss_nil)
  (vss_one (vs_ret (ve_cmp op_isN sr_isN (ve_call (G_ring_by.mono (by decide)) hr g_ring_by kp_ring_by b_ring_by (va_cons (ve_var 0) (va_cons (VF.frz (vf_op op_catR sf_cat (ve_var 1) (VF.frz (vf_lst (va_cons (ve_var 2) va_nil))))) va_nil))) ve_non (nomark _)))))) v, g, F.kp, FunD.bindsN F fun _ _ _ _ _ _ us hl => match us, hl with | [_, _, _], _ => rfl, F⟩
abbrev s_read_pile : Stmt := top 27
theorem sc_read_pile : FnScope N_read_pile ["text"] (defScope s_read_pile) := ⟨rfl, rfl, rfl, by decide +kernel, rfl, by decide +kernel, by decide +kernel⟩
theorem d_read_pile {f : Addr} {fd : FuncData} (F : FnD K "read_pile" s_read_pile f fd) (g : mg "read_pile" = some (.ref f)) {P_read_pile P_words_in P_is_stamp P_are_stamps P_rule_in P_goes_on : PV} (l : ∀ ds C Q, P_read_pile ds C Q → ds.length = 1) (v : ∀ ds C Q3, P_read_pile ds C Q3 → C.length = 0 → T_read_pile P_words_in P_is_stamp P_are_stamps P_rule_in P_goes_on (enF 0 Q3) (start3 N_read_pile ds) C) (C_words_in : Cal P w K mg base 1 "words_in" s_words_in ["text"] 0 P_words_in) (C_is_stamp : Cal P w K mg base 1 "is_stamp" s_is_stamp ["thing"] 0 P_is_stamp) (C_are_stamps : Cal P w K mg base 1 "are_stamps" s_are_stamps ["thing"] 0 P_are_stamps) (C_rule_in : Cal P w K mg base 2 "rule_in" s_rule_in ["word"] 0 P_rule_in) (C_goes_on : Cal P w K mg base 4 "goes_on" s_goes_on ["many", "rules", "rule"] 0 P_goes_on) (m_len : mg "len" = none) (m_range : mg "range" = none) : Cal P w K mg base 5 "read_pile" s_read_pile ["text"] 0 P_read_pile := by
  obtain ⟨f_words_in, fd_words_in, G_words_in, g_words_in, kp_words_in, b_words_in, F_words_in⟩ := C_words_in
  obtain ⟨f_is_stamp, fd_is_stamp, G_is_stamp, g_is_stamp, kp_is_stamp, b_is_stamp, F_is_stamp⟩ := C_is_stamp
  obtain ⟨f_are_stamps, fd_are_stamps, G_are_stamps, g_are_stamps, kp_are_stamps, b_are_stamps, F_are_stamps⟩ := C_are_stamps
  obtain ⟨f_rule_in, fd_rule_in, G_rule_in, g_rule_in, kp_rule_in, b_rule_in, F_rule_in⟩ := C_rule_in
  obtain ⟨f_goes_on, fd_goes_on, G_goes_on, g_goes_on, kp_goes_on, b_goes_on, F_goes_on⟩ := C_goes_on
  have nd : (N_read_pile).Nodup := sc_read_pile.nd
  exact ⟨f, fd, ok3 (T := T_read_pile P_words_in P_is_stamp P_are_stamps P_rule_in P_goes_on) F sc_read_pile l (fun cdv A outer s H E hr => (vss_cons (vs_set 1 nd (ve_call (G_words_in.mono (by decide)) hr g_words_in kp_words_in b_words_in (va_cons (ve_var 0) va_nil)))
  (vss_cons (vs_if (vt_not (vt_val (ve_call (G_is_stamp.mono (by decide)) hr g_is_stamp kp_is_stamp b_is_stamp (va_cons (ve_ix (ix_listA rfl) sr_ixL (ve_var 1) ve_int) va_nil)))) (vss_one vs_never) vss_nil)
  (vss_cons (vs_if (VW.vt (vw_or (vt_cmp op_lt sr_lt (ve_callB (call_lenAA rfl) sc_lenA m_len (va_cons (ve_var 1) va_nil)) ve_int (nomark _)) (vw_or1 (vt_not (vt_val (ve_call (G_are_stamps.mono (by decide)) hr g_are_stamps kp_are_stamps b_are_stamps (va_cons (ve_ix (ix_listA rfl) sr_ixL (ve_var 1) ve_int) va_nil))))))) (vss_one vs_never) vss_nil)
  (vss_cons (vs_set 2 nd (VF.cell (vf_lst va_nil)))
  (vss_cons (vs_for PassesOwn.never rfl (vi_range2 m_range (va_cons ve_int (va_cons (ve_callB (call_lenAA rfl) sc_lenA m_len (va_cons (ve_var 1) va_nil)) va_nil))) (vg_name 3 nd) (vss_cons (vs_set 4 nd (ve_call (G_rule_in.mono (by decide)) hr g_rule_in kp_rule_in b_rule_in (va_cons (ve_ix (ix_listA rfl) sr_ixL (ve_var 1) (ve_var 3)) va_nil)))
  (vss_cons (vs_if (vt_not (vt_val (ve_call (G_goes_on.mono (by decide)) hr g_goes_on kp_goes_on b_goes_on (va_cons (ve_callB (call_lenAA rfl) sc_lenA m_len (va_cons (ve_ix (ix_listA rfl) sr_ixL (ve_var 1) ve_int) va_nil)) (va_cons (ve_var 2) (va_cons (ve_var 4) va_nil)))))) (vss_one vs_never) vss_nil)
  (vss_one (vs_expr (ve_ml rfl PySem.F.plainAttrs_list PySem.F.slot_list_append PySem.F.type_list_append mt_append sm_append (ve_var 2) (va_cons (ve_var 4) va_nil)))))))
  (vss_one (vs_ret (ve_tup (va_cons (ve_ix (ix_listA rfl) sr_ixL (ve_var 1) ve_int) (va_cons (ve_ix (ix_listA rfl) sr_ixL (ve_var 1) ve_int) (va_cons (ve_var 2) va_nil)))))))))))) v, g, F.kp, FunD.bindsN F fun _ _ _ _ _ _ us hl => match us, hl with | [_], _ => rfl, F⟩
abbrev s_are_rules : Stmt := top 12
theorem sc_are_rules : FnScope N_are_rules ["thing", "many"] (defScope s_are_rules) := ⟨rfl, rfl, rfl, by decide +kernel, rfl, by decide +kernel, by decide +kernel⟩
theorem d_are_rules {f : Addr} {fd : FuncData} (F : FnD K "are_rules" s_are_rules f fd) (g : mg "are_rules" = some (.ref f)) {P_are_rules P_is_rule : PV} (l : ∀ ds C Q, P_are_rules ds C Q → ds.length = 2) (v : ∀ ds C Q3, P_are_rules ds C Q3 → C.length = 0 → T_are_rules P_is_rule (enF 0 Q3) (start3 N_are_rules ds) C) (C_is_rule : Cal P w K mg base 2 "is_rule" s_is_rule ["thing", "many"] 0 P_is_rule) (m_all : mg "all" = none) (m_len : mg "len" = none) (m_isinstance : mg "isinstance" = none) (m_list : mg "list" = none) (m_zip : mg "zip" = none) (c_MOST_RULES : ∃ t, mg "MOST_RULES" = some (.int 60 t)) : Cal P w K mg base 3 "are_rules" s_are_rules ["thing", "many"] 0 P_are_rules := by
  obtain ⟨f_is_rule, fd_is_rule, G_is_rule, g_is_rule, kp_is_rule, b_is_rule, F_is_rule⟩ := C_is_rule
  have nd : (N_are_rules).Nodup := sc_are_rules.nd
  exact ⟨f, fd, ok3 (T := T_are_rules P_is_rule) F sc_are_rules l (fun cdv A outer s H E hr => (vss_cons (vs_if (VW.vt (vw_or (vt_not (vt_val (ve_isi .list rfl m_isinstance m_list (ve_var 0)))) (vw_or (vt_cmp op_gt sr_gt (ve_callB (call_lenAA rfl) sc_lenA m_len (va_cons (ve_var 0) va_nil)) (ve_gint c_MOST_RULES) (nomark _)) (vw_or1 (vt_not (vt_val (ve_callB (call_all rfl rfl) sc_all m_all (va_cons (VF.frz (vf_lc (own := [("one", 2)]) rfl nd (vi_list rfl (ve_var 0)) (blkOk_by (by kernel_rfl)) (own_name (by decide)) (fun _ _ _ _ _ => (vg_name 2 nd)) (fun _ _ _ _ _ => vts_nil) (fun _ _ _ _ _ => (ve_call (G_is_rule.mono (by decide)) hr g_is_rule kp_is_rule b_is_rule (va_cons (ve_var 2) (va_cons (ve_var 1) va_nil)))))) va_nil)))))))) (vss_one (vs_ret ve_bl)) vss_nil)
  (vss_one (vs_ret (ve_callB (call_all rfl rfl) sc_all m_all (va_cons (VF.frz (vf_lc (own := [("one", 2), ("other", 3)]) rfl nd (vi_zip rfl m_zip (va_cons (ve_var 0) (va_cons (VF.frz (vf_slL rfl (ve_var 0) (vo_some ve_int) vo_none)) va_nil))) (blkOk_by (by kernel_rfl)) (own_tup (own_cons (own_name (by decide)) (own_cons (own_name (by decide)) own_nil mono_name) mono_name)) (fun _ _ _ _ _ => (vg_tup rfl rfl (vgs_cons (vg_name 2 nd) (vgs_cons (vg_name 3 nd) vgs_nil)))) (fun _ _ _ _ _ => vts_nil) (fun _ _ _ _ _ => (ve_cmp (op_ltTA rfl hr.rm.units0) sr_ltT (ve_var 2) (ve_var 3) (nomark _))))) va_nil)))))) v, g, F.kp, FunD.bindsN F fun _ _ _ _ _ _ us hl => match us, hl with | [_, _], _ => rfl, F⟩
abbrev s_is_heap : Stmt := top 13
theorem sc_is_heap : FnScope N_is_heap ["thing"] (defScope s_is_heap) := ⟨rfl, rfl, rfl, by decide +kernel, rfl, by decide +kernel, by decide +kernel⟩
theorem d_is_heap {f : Addr} {fd : FuncData} (F : FnD K "is_heap" s_is_heap f fd) (g : mg "is_heap" = some (.ref f)) {P_is_heap P_are_rules P_are_stamps P_is_stamp : PV} (l : ∀ ds C Q, P_is_heap ds C Q → ds.length = 1) (v : ∀ ds C Q3, P_is_heap ds C Q3 → C.length = 0 → T_is_heap P_are_rules P_are_stamps P_is_stamp (enF 0 Q3) (start3 N_is_heap ds) C) (C_are_rules : Cal P w K mg base 3 "are_rules" s_are_rules ["thing", "many"] 0 P_are_rules) (C_are_stamps : Cal P w K mg base 1 "are_stamps" s_are_stamps ["thing"] 0 P_are_stamps) (C_is_stamp : Cal P w K mg base 1 "is_stamp" s_is_stamp ["thing"] 0 P_is_stamp) (m_len : mg "len" = none) (m_isinstance : mg "isinstance" = none) (m_tuple : mg "tuple" = none) : Cal P w K mg base 4 "is_heap" s_is_heap ["thing"] 0 P_is_heap := by
  obtain ⟨f_are_rules, fd_are_rules, G_are_rules, g_are_rules, kp_are_rules, b_are_rules, F_are_rules⟩ := C_are_rules
  obtain ⟨f_are_stamps, fd_are_stamps, G_are_stamps, g_are_stamps, kp_are_stamps, b_are_stamps, F_are_stamps⟩ := C_are_stamps
  obtain ⟨f_is_stamp, fd_is_stamp, G_is_stamp, g_is_stamp, kp_is_stamp, b_is_stamp, F_is_stamp⟩ := C_is_stamp
  have nd : (N_is_heap).Nodup := sc_is_heap.nd
  exact ⟨f, fd, ok3 (T := T_is_heap P_are_rules P_are_stamps P_is_stamp) F sc_is_heap l (fun cdv A outer s H E hr => (vss_cons (vs_if (VW.vt (vw_or (vt_not (vt_val (ve_isi .tuple rfl m_isinstance m_tuple (ve_var 0)))) (vw_or1 (vt_cmp (op_neA rfl hr.units) sr_ne (ve_callB (call_lenAA rfl) sc_lenA m_len (va_cons (ve_var 0) va_nil)) ve_int (nomark _))))) (vss_one (vs_ret ve_bl)) vss_nil)
  (vss_one (vs_ret (ve_and (ve_call (G_is_stamp.mono (by decide)) hr g_is_stamp kp_is_stamp b_is_stamp (va_cons (ve_ix (ix_tupA rfl) sr_ixT (ve_var 0) ve_int) va_nil)) (ve_and (ve_call (G_are_stamps.mono (by decide)) hr g_are_stamps kp_are_stamps b_are_stamps (va_cons (ve_ix (ix_tupA rfl) sr_ixT (ve_var 0) ve_int) va_nil)) (ve_one (ve_call (G_are_rules.mono (by decide)) hr g_are_rules kp_are_rules b_are_rules (va_cons (ve_ix (ix_tupA rfl) sr_ixT (ve_var 0) ve_int) (va_cons (ve_callB (call_lenAA rfl) sc_lenA m_len (va_cons (ve_ix (ix_tupA rfl) sr_ixT (ve_var 0) ve_int) va_nil)) va_nil)))))))))) v, g, F.kp, FunD.bindsN F fun _ _ _ _ _ _ us hl => match us, hl with | [_], _ => rfl, F⟩
abbrev s_is_pile : Stmt := top 17
theorem sc_is_pile : FnScope N_is_pile ["thing"] (defScope s_is_pile) := ⟨rfl, rfl, rfl, by decide +kernel, rfl, by decide +kernel, by decide +kernel⟩
theorem d_is_pile {f : Addr} {fd : FuncData} (F : FnD K "is_pile" s_is_pile f fd) (g : mg "is_pile" = some (.ref f)) {P_is_pile P_ring_by P_is_heap : PV} (l : ∀ ds C Q, P_is_pile ds C Q → ds.length = 1) (v : ∀ ds C Q3, P_is_pile ds C Q3 → C.length = 0 → T_is_pile P_ring_by P_is_heap (enF 0 Q3) (start3 N_is_pile ds) C) (C_ring_by : Cal P w K mg base 3 "ring_by" s_ring_by ["many", "rules"] 0 P_ring_by) (C_is_heap : Cal P w K mg base 4 "is_heap" s_is_heap ["thing"] 0 P_is_heap) (m_len : mg "len" = none) : Cal P w K mg base 5 "is_pile" s_is_pile ["thing"] 0 P_is_pile := by
  obtain ⟨f_ring_by, fd_ring_by, G_ring_by, g_ring_by, kp_ring_by, b_ring_by, F_ring_by⟩ := C_ring_by
  obtain ⟨f_is_heap, fd_is_heap, G_is_heap, g_is_heap, kp_is_heap, b_is_heap, F_is_heap⟩ := C_is_heap
  have nd : (N_is_pile).Nodup := sc_is_pile.nd
  exact ⟨f, fd, ok3 (T := T_is_pile P_ring_by P_is_heap) F sc_is_pile l (fun cdv A outer s H E hr => (vss_one (vs_ret (ve_and (ve_call (G_is_heap.mono (by decide)) hr g_is_heap kp_is_heap b_is_heap (va_cons (ve_var 0) va_nil)) (ve_one (ve_cmp op_isN sr_isN (ve_call (G_ring_by.mono (by decide)) hr g_ring_by kp_ring_by b_ring_by (va_cons (ve_callB (call_lenAA rfl) sc_lenA m_len (va_cons (ve_ix (ix_tupA rfl) sr_ixT (ve_var 0) ve_int) va_nil)) (va_cons (ve_ix (ix_tupA rfl) sr_ixT (ve_var 0) ve_int) va_nil))) ve_non (nomark _))))))) v, g, F.kp, FunD.bindsN F fun _ _ _ _ _ _ us hl => match us, hl with | [_], _ => rfl, F⟩
abbrev s_need_pile : Stmt := top 18
theorem sc_need_pile : FnScope N_need_pile ["pile"] (defScope s_need_pile) := ⟨rfl, rfl, rfl, by decide +kernel, rfl, by decide +kernel, by decide +kernel⟩
theorem d_need_pile {f : Addr} {fd : FuncData} (F : FnD K "need_pile" s_need_pile f fd) (g : mg "need_pile" = some (.ref f)) {P_need_pile P_is_pile : PV} (l : ∀ ds C Q, P_need_pile ds C Q → ds.length = 1) (v : ∀ ds C Q3, P_need_pile ds C Q3 → C.length = 0 → T_need_pile P_is_pile (enF 0 Q3) (start3 N_need_pile ds) C) (C_is_pile : Cal P w K mg base 5 "is_pile" s_is_pile ["thing"] 0 P_is_pile) : Cal P w K mg base 6 "need_pile" s_need_pile ["pile"] 0 P_need_pile := by
  obtain ⟨f_is_pile, fd_is_pile, G_is_pile, g_is_pile, kp_is_pile, b_is_pile, F_is_pile⟩ := C_is_pile
  have nd : (N_need_pile).Nodup := sc_need_pile.nd
  exact ⟨f, fd, ok3 (T := T_need_pile P_is_pile) F sc_need_pile l (fun cdv A outer s H E hr => (vss_one (vs_if (vt_not (vt_val (ve_call (G_is_pile.mono (by decide)) hr g_is_pile kp_is_pile b_is_pile (va_cons (ve_var 0) va_nil)))) (vss_one vs_never) vss_nil))) v, g, F.kp, FunD.bindsN F fun _ _ _ _ _ _ us hl => match us, hl with | [_], _ => rfl, F⟩
abbrev s_show_pile : Stmt := top 22
theorem sc_show_pile : FnScope N_show_pile ["pile"] (defScope s_show_pile) := ⟨rfl, rfl, rfl, by decide +kernel, rfl, by decide +kernel, by decide +kernel⟩
theorem d_show_pile {f : Addr} {fd : FuncData} (F : FnD K "show_pile" s_show_pile f fd) (g : mg "show_pile" = some (.ref f)) {P_show_pile P_need_pile : PV} (l : ∀ ds C Q, P_show_pile ds C Q → ds.length = 1) (v : ∀ ds C Q3, P_show_pile ds C Q3 → C.length = 0 → T_show_pile P_need_pile (enF 0 Q3) (start3 N_show_pile ds) C) (C_need_pile : Cal P w K mg base 6 "need_pile" s_need_pile ["pile"] 0 P_need_pile) (c_BEHIND : ∃ t, mg "BEHIND" = some (.str ">" t)) : Cal P w K mg base 7 "show_pile" s_show_pile ["pile"] 0 P_show_pile := by
  obtain ⟨f_need_pile, fd_need_pile, G_need_pile, g_need_pile, kp_need_pile, b_need_pile, F_need_pile⟩ := C_need_pile
  have nd : (N_show_pile).Nodup := sc_show_pile.nd
  exact ⟨f, fd, ok3 (T := T_show_pile P_need_pile) F sc_show_pile l (fun cdv A outer s H E hr => (vss_cons (vs_expr (ve_call (G_need_pile.mono (by decide)) hr g_need_pile kp_need_pile b_need_pile (va_cons (ve_var 0) va_nil)))
  (vss_cons (vs_asg (ve_var 0) (vg_tup rfl rfl (vgs_cons (vg_name 1 nd) (vgs_cons (vg_name 2 nd) (vgs_cons (vg_name 3 nd) vgs_nil)))))
  (vss_one (vs_ret (ve_join rfl ve_str (VF.frz (vf_op op_catR sf_cat (VF.frz (vf_lst (va_cons (ve_var 1) (va_cons (ve_var 2) va_nil)))) (VF.frz (vf_lc (own := [("paper", 4), ("other", 5)]) rfl nd (vi_list rfl (ve_var 3)) (blkOk_by (by kernel_rfl)) (own_tup (own_cons (own_name (by decide)) (own_cons (own_name (by decide)) own_nil mono_name) mono_name)) (fun _ _ _ _ _ => (vg_tup rfl rfl (vgs_cons (vg_name 4 nd) (vgs_cons (vg_name 5 nd) vgs_nil)))) (fun _ _ _ _ _ => vts_nil) (fun _ _ _ _ _ => (ve_joined (VJ.cons (ve_fmt (ve_var 4)) (VJ.cons (ve_fmt (ve_gstr c_BEHIND)) (VJ.cons (ve_fmt (ve_var 5)) VJ.nil))))))))))))))) v, g, F.kp, FunD.bindsN F fun _ _ _ _ _ _ us hl => match us, hl with | [_], _ => rfl, F⟩
abbrev s_Lw_same : Stmt := top 34
theorem sc_Lw_same : FnScope N_Lw_same ["_law_found", "_law_due"] (defScope s_Lw_same) := ⟨rfl, rfl, rfl, by decide +kernel, rfl, by decide +kernel, by decide +kernel⟩
theorem nv_Lw_same {lo : Nat} {f : Addr} {fd : FuncData} (F : FnD K "_law_same" s_Lw_same f fd) (g : mg "_law_same" = some (.ref f)) : Cal P w K mg base lo "_law_same" s_Lw_same ["_law_found", "_law_due"] 0 P_never := cal_never F g (FunD.bindsN F fun _ _ _ _ _ _ us hl => match us, hl with | [_, _], _ => rfl)
theorem d_Lw_same {f : Addr} {fd : FuncData} (F : FnD K "_law_same" s_Lw_same f fd) (g : mg "_law_same" = some (.ref f)) {P__hi P_Lw_same : PV} {lo : Nat} (hlo : 0 ≤ lo) (l : ∀ ds C Q, P__hi ds C Q → ds.length = 2) (v : ∀ ds C Q3, P__hi ds C Q3 → C.length = 0 → T_Lw_same P_Lw_same (enF 0 Q3) (start3 N_Lw_same ds) C) (C_Lw_same : Cal P w K mg base lo "_law_same" s_Lw_same ["_law_found", "_law_due"] 0 P_Lw_same) (m_isinstance : mg "isinstance" = none) (m_list : mg "list" = none) (m_tuple : mg "tuple" = none) (m_zip : mg "zip" = none) (m_all : mg "all" = none) (m_len : mg "len" = none) (m_bool : mg "bool" = none) (m_str : mg "str" = none) (m_int : mg "int" = none) : Cal P w K mg base (lo + 1) "_law_same" s_Lw_same ["_law_found", "_law_due"] 0 P__hi := by
  obtain ⟨f_Lw_same, fd_Lw_same, G_Lw_same, g_Lw_same, kp_Lw_same, b_Lw_same, F_Lw_same⟩ := C_Lw_same
  have nd : (N_Lw_same).Nodup := sc_Lw_same.nd
  exact ⟨f, fd, ok3 (T := T_Lw_same P_Lw_same) F sc_Lw_same l (fun cdv A outer s H E hr => (vss_cons (vs_if (vt_val (ve_isi2 .list .tuple rfl m_isinstance m_list m_tuple (ve_var 1))) (vss_cons (vs_if (VW.vt (vw_or (vt_not (vt_val (ve_isi2 .list .tuple rfl m_isinstance m_list m_tuple (ve_var 0)))) (vw_or1 (vt_cmp (op_neA rfl hr.units) sr_ne (ve_isi .list rfl m_isinstance m_list (ve_var 0)) (ve_isi .list rfl m_isinstance m_list (ve_var 1)) (nomark _))))) (vss_one (vs_ret ve_bl)) vss_nil)
  (vss_one (vs_ret (ve_and (ve_cmp (op_eqA rfl hr.units) sr_eq (ve_callB (call_lenAA rfl) sc_lenA m_len (va_cons (ve_var 0) va_nil)) (ve_callB (call_lenAA rfl) sc_lenA m_len (va_cons (ve_var 1) va_nil)) (nomark _)) (ve_one (ve_callB (call_all rfl rfl) sc_all m_all (va_cons (VF.frz (vf_lc (own := [("_law_one", 2), ("_law_other", 3)]) rfl nd (vi_zipS rfl m_zip (va_cons (ve_var 0) (va_cons (ve_var 1) va_nil))) (blkOk_by (by kernel_rfl)) (own_tup (own_cons (own_name (by decide)) (own_cons (own_name (by decide)) own_nil mono_name) mono_name)) (fun _ _ _ _ _ => (vg_tup rfl rfl (vgs_cons (vg_name 2 nd) (vgs_cons (vg_name 3 nd) vgs_nil)))) (fun _ _ _ _ _ => vts_nil) (fun _ _ _ _ _ => (ve_call (G_Lw_same.mono (Nat.le_refl _)) hr g_Lw_same kp_Lw_same b_Lw_same (va_cons (ve_var 2) (va_cons (ve_var 3) va_nil)))))) va_nil))))))) vss_nil)
  (vss_cons (vs_if (VW.vt (vw_or (vt_val (ve_isi2 .bool .str rfl m_isinstance m_bool m_str (ve_var 1))) (vw_or1 (vt_cmp op_isN sr_isN (ve_var 1) ve_non (nomark _))))) (vss_one (vs_ret (ve_and (ve_cmp (op_eqA rfl hr.units) sr_eq (ve_isi .bool rfl m_isinstance m_bool (ve_var 0)) (ve_isi .bool rfl m_isinstance m_bool (ve_var 1)) (nomark _)) (ve_one (ve_cmp (op_eqA rfl hr.units) sr_eq (ve_var 0) (ve_var 1) (nomark _)))))) vss_nil)
  (vss_one (vs_ret (ve_and (ve_isi .int rfl m_isinstance m_int (ve_var 0)) (ve_and (ve_not (ve_isi .bool rfl m_isinstance m_bool (ve_var 0))) (ve_one (ve_cmp (op_eqA rfl hr.units) sr_eq (ve_var 0) (ve_var 1) (nomark _)))))))))) v, g, F.kp, FunD.bindsN F fun _ _ _ _ _ _ us hl => match us, hl with | [_, _], _ => rfl, F⟩
abbrev s_Lw_right : Stmt := top 35
theorem sc_Lw_right : FnScope N_Lw_right ["_law_pad_here", "_law_most"] (defScope s_Lw_right) := ⟨rfl, rfl, rfl, by decide +kernel, rfl, by decide +kernel, by decide +kernel⟩
theorem d_Lw_right {f : Addr} {fd : FuncData} (F : FnD K "_law_right" s_Lw_right f fd) (g : mg "_law_right" = some (.ref f)) {P_Lw_right P_Lw_pile P_show_pile P_read_pile P_Lw_same : PV} (l : ∀ ds C Q, P_Lw_right ds C Q → ds.length = 2) (v : ∀ ds C Q3, P_Lw_right ds C Q3 → C.length = 1 → T_Lw_right P_Lw_pile P_show_pile P_read_pile P_Lw_same (enF 1 Q3) (start3 N_Lw_right ds) C) (C_Lw_pile : Cal P w K mg base 3 "_law_pile" s_Lw_pile ["_law_pad_here", "_law_most"] 1 P_Lw_pile) (C_show_pile : Cal P w K mg base 7 "show_pile" s_show_pile ["pile"] 0 P_show_pile) (C_read_pile : Cal P w K mg base 5 "read_pile" s_read_pile ["text"] 0 P_read_pile) (C_Lw_same : Cal P w K mg base 4 "_law_same" s_Lw_same ["_law_found", "_law_due"] 0 P_Lw_same) (m_repr : mg "repr" = none) (m_str : mg "str" = none) (m_range : mg "range" = none) : Cal P w K mg base 8 "_law_right" s_Lw_right ["_law_pad_here", "_law_most"] 1 P_Lw_right := by
  obtain ⟨f_Lw_pile, fd_Lw_pile, G_Lw_pile, g_Lw_pile, kp_Lw_pile, b_Lw_pile, F_Lw_pile⟩ := C_Lw_pile
  obtain ⟨f_show_pile, fd_show_pile, G_show_pile, g_show_pile, kp_show_pile, b_show_pile, F_show_pile⟩ := C_show_pile
  obtain ⟨f_read_pile, fd_read_pile, G_read_pile, g_read_pile, kp_read_pile, b_read_pile, F_read_pile⟩ := C_read_pile
  obtain ⟨f_Lw_same, fd_Lw_same, G_Lw_same, g_Lw_same, kp_Lw_same, b_Lw_same, F_Lw_same⟩ := C_Lw_same
  have nd : (N_Lw_right).Nodup := sc_Lw_right.nd
  exact ⟨f, fd, ok3 (T := T_Lw_right P_Lw_pile P_show_pile P_read_pile P_Lw_same) F sc_Lw_right l (fun cdv A outer s H E hr => (vss_cons (vs_set 2 nd (ve_callT2 (kf := kf1) (G_Lw_pile.mono (by decide)) hr g_Lw_pile kp_Lw_pile b_Lw_pile (va_cons (ve_var 0) (va_cons (ve_var 1) va_nil))))
  (vss_cons (vs_set 3 nd (ve_callB (call_reprA rfl hr.gd (u65 hr)) sc_repr m_repr (va_cons (ve_var 2) va_nil)))
  (vss_cons (vs_set 4 nd (ve_op op_add_str sr_catS (ve_op op_add_str sr_catS (ve_ix (ix_tupA rfl) sr_ixT (ve_var 2) ve_int) ve_str) (ve_ix (ix_tupA rfl) sr_ixT (ve_var 2) ve_int)))
  (vss_cons (vs_forC PassesOwn.never rfl (vi_list rfl (ve_ix (ix_tupA rfl) sr_ixT (ve_var 2) ve_int)) (vg_tup rfl rfl (vgs_cons (vg_name 5 nd) (vgs_cons (vg_name 6 nd) vgs_nil))) (vss_one (vs_set 4 nd (ve_op op_add_str sr_catS (ve_op op_add_str sr_catS (ve_op op_add_str sr_catS (ve_op op_add_str sr_catS (ve_var 4) ve_str) (ve_callTy call_str_int sc_strI m_str (va_cons (ve_var 5) va_nil))) ve_str) (ve_callTy call_str_int sc_strI m_str (va_cons (ve_var 6) va_nil))))))
  (vss_cons (vs_if (VW.vt (vw_or (vt_cmp (op_neA rfl hr.units) sr_ne (ve_call (G_show_pile.mono (by decide)) hr g_show_pile kp_show_pile b_show_pile (va_cons (ve_var 2) va_nil)) (ve_var 4) (nomark _)) (vw_or1 (vt_cmp (op_neA rfl hr.units) sr_ne (ve_callB (call_reprA rfl hr.gd (u65 hr)) sc_repr m_repr (va_cons (ve_var 2) va_nil)) (ve_var 3) (nomark _))))) (vss_one (vs_ret ve_bl)) vss_nil)
  (vss_cons (vs_for PassesOwn.never rfl (vi_range1 m_range (va_cons ve_int va_nil)) (vg_name 7 nd) (vss_cons (vs_set 8 nd (ve_callT2 (kf := kf1) (G_read_pile.mono (by decide)) hr g_read_pile kp_read_pile b_read_pile (va_cons (ve_var 4) va_nil)))
  (vss_cons (vs_if (vt_not (vt_val (ve_call (G_Lw_same.mono (by decide)) hr g_Lw_same kp_Lw_same b_Lw_same (va_cons (ve_var 8) (va_cons (ve_var 2) va_nil))))) (vss_one (vs_ret ve_bl)) vss_nil)
  (vss_cons (vs_expr (ve_ml rfl PySem.F.plainAttrs_list PySem.F.slot_list_append PySem.F.type_list_append mt_append sm_append (ve_ix (ix_tupA rfl) sr_ixT (ve_var 8) ve_int) (va_cons (ve_tup (va_cons ve_int (va_cons ve_int va_nil))) va_nil)))
  (vss_one (vs_expr (ve_ml0 rfl PySem.F.plainAttrs_list PySem.F.slot_list_reverse PySem.F.type_list_reverse mt_reverse sm_reverse (ve_ix (ix_tupA rfl) sr_ixT (ve_var 8) ve_int))))))))
  (vss_cons (vs_if (vt_cmp (op_neA rfl hr.units) sr_ne (ve_call (G_show_pile.mono (by decide)) hr g_show_pile kp_show_pile b_show_pile (va_cons (ve_callT2 (kf := kf1) (G_read_pile.mono (by decide)) hr g_read_pile kp_read_pile b_read_pile (va_cons (ve_var 4) va_nil)) va_nil)) (ve_var 4) (nomark _)) (vss_one (vs_ret ve_bl)) vss_nil)
  (vss_cons (vs_expr (ve_ml0 rfl PySem.F.plainAttrs_list PySem.F.slot_list_clear PySem.F.type_list_clear mt_clear sm_clear (ve_ix (ix_tupA rfl) sr_ixT (ve_var 2) ve_int)))
  (vss_one (vs_ret (ve_cmp (op_eqA rfl hr.units) sr_eq (ve_call (G_show_pile.mono (by decide)) hr g_show_pile kp_show_pile b_show_pile (va_cons (ve_var 2) va_nil)) (ve_op op_add_str sr_catS (ve_op op_add_str sr_catS (ve_ix (ix_tupA rfl) sr_ixT (ve_var 2) ve_int) ve_str) (ve_ix (ix_tupA rfl) sr_ixT (ve_var 2) ve_int)) (nomark _))))))))))))) v, g, F.kp, FunD.bindsN F fun _ _ _ _ _ _ us hl => match us, hl with | [_, _], _ => rfl, F⟩
abbrev s_Lw_pad : Stmt := top 29
theorem sc_Lw_pad : FnScope N_Lw_pad ["_law_cell", "_law_k"] (defScope s_Lw_pad) := ⟨rfl, rfl, rfl, by decide +kernel, rfl, by decide +kernel, by decide +kernel⟩
theorem d_Lw_pad {f : Addr} {fd : FuncData} (F : FnD K "_law_pad" s_Lw_pad f fd) (g : mg "_law_pad" = some (.ref f)) {P_Lw_pad : PV} (l : ∀ ds C Q, P_Lw_pad ds C Q → ds.length = 2) (v : ∀ ds C Q3, P_Lw_pad ds C Q3 → C.length = 0 → T_Lw_pad (enF 0 Q3) (start3 N_Lw_pad ds) C) (m_max : mg "max" = none) : Cal P w K mg base 1 "_law_pad" s_Lw_pad ["_law_cell", "_law_k"] 0 P_Lw_pad := by
  have nd : (N_Lw_pad).Nodup := sc_Lw_pad.nd
  exact ⟨f, fd, ok3 (T := T_Lw_pad) F sc_Lw_pad l (fun cdv A outer s H E hr => (vss_one (vs_ret (VF.frz (vf_lst (va_cons (ve_callB (call_max2 rfl) sc_max2 m_max (va_cons ve_int (va_cons (ve_op op_sub sr_sub (ve_var 0) (ve_op op_powW sr_powW ve_int ve_int)) va_nil))) (va_cons (ve_op op_add sr_add (ve_op op_mulW sr_mulW (ve_op op_mod sr_mod (ve_var 0) (ve_op op_add sr_add (ve_op op_powW sr_powW ve_int ve_int) ve_int)) ve_int) (ve_var 1)) (va_cons ve_int va_nil)))))))) v, g, F.kp, FunD.bindsN F fun _ _ _ _ _ _ us hl => match us, hl with | [_, _], _ => rfl, F⟩
abbrev s_law : Stmt := top 36
theorem sc_law : FnScope N_law ["_law_script"] (defScope s_law) := ⟨rfl, rfl, rfl, by decide +kernel, rfl, by decide +kernel, by decide +kernel⟩
theorem d_law {f : Addr} {fd : FuncData} (F : FnD K "law" s_law f fd) (g : mg "law" = some (.ref f)) {P_law P_Lw_right P_Lw_pad : PV} (l : ∀ ds C Q, P_law ds C Q → ds.length = 1) (v : ∀ ds C Q3, P_law ds C Q3 → C.length = 0 → T_law P_Lw_right P_Lw_pad (enF 0 Q3) (start3 N_law ds) C) (C_Lw_right : Cal P w K mg base 8 "_law_right" s_Lw_right ["_law_pad_here", "_law_most"] 1 P_Lw_right) (C_Lw_pad : Cal P w K mg base 1 "_law_pad" s_Lw_pad ["_law_cell", "_law_k"] 0 P_Lw_pad) (m_len : mg "len" = none) (m_min : mg "min" = none) (m_max : mg "max" = none) (m_enumerate : mg "enumerate" = none) : FnOkG P w K mg base CX0 9 f fd ["_law_script"] (Sp3 K 0 P_law) := by
  obtain ⟨f_Lw_right, fd_Lw_right, G_Lw_right, g_Lw_right, kp_Lw_right, b_Lw_right, F_Lw_right⟩ := C_Lw_right
  obtain ⟨f_Lw_pad, fd_Lw_pad, G_Lw_pad, g_Lw_pad, kp_Lw_pad, b_Lw_pad, F_Lw_pad⟩ := C_Lw_pad
  have nd : (N_law).Nodup := sc_law.nd
  exact ok3 (T := T_law P_Lw_right P_Lw_pad) F sc_law l (fun cdv A outer s H E hr => (vss_cons (vs_for PassesOwn.never rfl (vi_enum rfl m_enumerate (va_cons (VF.frz (vf_slL rfl (VF.frz (vf_op op_catR sf_cat (ve_var 0) (VF.frz (vf_lst (va_cons ve_int va_nil))))) vo_none (vo_some (ve_callB (call_max2 rfl) sc_max2 m_max (va_cons ve_int (va_cons (ve_callB (call_min2 rfl) sc_min2 m_min (va_cons (ve_callB (call_lenAA rfl) sc_lenA m_len (va_cons (ve_var 0) va_nil)) (va_cons ve_int va_nil))) va_nil)))))) va_nil)) (vg_tup rfl rfl (vgs_cons (vg_name 1 nd) (vgs_cons (vg_name 2 nd) vgs_nil))) (vss_one (vs_if (vt_not (vt_val (ve_callK (kf := kf1) (G_Lw_right.mono (by decide)) hr g_Lw_right kp_Lw_right b_Lw_right (va_cons (VF.cell (vf_call (G_Lw_pad.mono (by decide)) hr g_Lw_pad kp_Lw_pad b_Lw_pad (va_cons (ve_var 2) (va_cons (ve_var 1) va_nil)))) (va_cons (ve_ifExp (vt_cmp (op_eqA rfl hr.units) sr_eq (ve_var 0) (VF.frz (vf_lst va_nil)) (nomark _)) ve_int ve_int) va_nil))))) (vss_one (vs_ret ve_bl)) vss_nil)))
  (vss_one (vs_ret ve_bl)))) v
end
theorem l_Lw_ink : ∀ ds C Q, P_Lw_ink ds C Q → ds.length = 2 := by intro ds C Q h; repeat (first | (have e := h.1; subst e; rfl) | (obtain ⟨_, h⟩ := h))
theorem l_Lw_many : ∀ ds C Q, P_Lw_many ds C Q → ds.length = 2 := by intro ds C Q h; repeat (first | (have e := h.1; subst e; rfl) | (obtain ⟨_, h⟩ := h))
theorem l_Lw_stamps : ∀ ds C Q, P_Lw_stamps ds C Q → ds.length = 2 := by intro ds C Q h; repeat (first | (have e := h.1; subst e; rfl) | (obtain ⟨_, h⟩ := h))
theorem l_Lw_pile : ∀ ds C Q, P_Lw_pile ds C Q → ds.length = 2 := by intro ds C Q h; repeat (first | (have e := h.1; subst e; rfl) | (obtain ⟨_, h⟩ := h))
theorem l_words_in : ∀ ds C Q, P_words_in ds C Q → ds.length = 1 := by intro ds C Q h; repeat (first | (have e := h.1; subst e; rfl) | (obtain ⟨_, h⟩ := h))
theorem l_is_stamp : ∀ ds C Q, P_is_stamp ds C Q → ds.length = 1 := by intro ds C Q h; repeat (first | (have e := h.1; subst e; rfl) | (obtain ⟨_, h⟩ := h))
theorem l_number_in : ∀ ds C Q, P_number_in ds C Q → ds.length = 1 := by intro ds C Q h; repeat (first | (have e := h.1; subst e; rfl) | (obtain ⟨_, h⟩ := h))
theorem l_rule_in : ∀ ds C Q, P_rule_in ds C Q → ds.length = 1 := by intro ds C Q h; repeat (first | (have e := h.1; subst e; rfl) | (obtain ⟨_, h⟩ := h))
theorem l_are_stamps : ∀ ds C Q, P_are_stamps ds C Q → ds.length = 1 := by intro ds C Q h; repeat (first | (have e := h.1; subst e; rfl) | (obtain ⟨_, h⟩ := h))
theorem l_straight_behind : ∀ ds C Q, P_straight_behind ds C Q → ds.length = 2 := by intro ds C Q h; repeat (first | (have e := h.1; subst e; rfl) | (obtain ⟨_, h⟩ := h))
theorem l_ordered : ∀ ds C Q, P_ordered ds C Q → ds.length = 2 := by intro ds C Q h; repeat (first | (have e := h.1; subst e; rfl) | (obtain ⟨_, h⟩ := h))
theorem l_ring_by : ∀ ds C Q, P_ring_by ds C Q → ds.length = 2 := by intro ds C Q h; repeat (first | (have e := h.1; subst e; rfl) | (obtain ⟨_, h⟩ := h))
theorem l_is_between : ∀ ds C Q, P_is_between ds C Q → ds.length = 3 := by intro ds C Q h; repeat (first | (have e := h.1; subst e; rfl) | (obtain ⟨_, h⟩ := h))
theorem l_is_rule : ∀ ds C Q, P_is_rule ds C Q → ds.length = 2 := by intro ds C Q h; repeat (first | (have e := h.1; subst e; rfl) | (obtain ⟨_, h⟩ := h))
theorem l_goes_on : ∀ ds C Q, P_goes_on ds C Q → ds.length = 3 := by intro ds C Q h; repeat (first | (have e := h.1; subst e; rfl) | (obtain ⟨_, h⟩ := h))
theorem l_read_pile : ∀ ds C Q, P_read_pile ds C Q → ds.length = 1 := by intro ds C Q h; repeat (first | (have e := h.1; subst e; rfl) | (obtain ⟨_, h⟩ := h))
theorem l_are_rules : ∀ ds C Q, P_are_rules ds C Q → ds.length = 2 := by intro ds C Q h; repeat (first | (have e := h.1; subst e; rfl) | (obtain ⟨_, h⟩ := h))
theorem l_is_heap : ∀ ds C Q, P_is_heap ds C Q → ds.length = 1 := by intro ds C Q h; repeat (first | (have e := h.1; subst e; rfl) | (obtain ⟨_, h⟩ := h))
theorem l_is_pile : ∀ ds C Q, P_is_pile ds C Q → ds.length = 1 := by intro ds C Q h; repeat (first | (have e := h.1; subst e; rfl) | (obtain ⟨_, h⟩ := h))
theorem l_need_pile : ∀ ds C Q, P_need_pile ds C Q → ds.length = 1 := by intro ds C Q h; repeat (first | (have e := h.1; subst e; rfl) | (obtain ⟨_, h⟩ := h))
theorem l_show_pile : ∀ ds C Q, P_show_pile ds C Q → ds.length = 1 := by intro ds C Q h; repeat (first | (have e := h.1; subst e; rfl) | (obtain ⟨_, h⟩ := h))
theorem l_sw0 : ∀ ds C Q, P_sw0 ds C Q → ds.length = 2 := by intro ds C Q h; repeat (first | (have e := h.1; subst e; rfl) | (obtain ⟨_, h⟩ := h))
theorem l_sw1 : ∀ ds C Q, P_sw1 ds C Q → ds.length = 2 := by intro ds C Q h; repeat (first | (have e := h.1; subst e; rfl) | (obtain ⟨_, h⟩ := h))
theorem l_sw2 : ∀ ds C Q, P_sw2 ds C Q → ds.length = 2 := by intro ds C Q h; repeat (first | (have e := h.1; subst e; rfl) | (obtain ⟨_, h⟩ := h))
theorem l_sw3 : ∀ ds C Q, P_sw3 ds C Q → ds.length = 2 := by intro ds C Q h; repeat (first | (have e := h.1; subst e; rfl) | (obtain ⟨_, h⟩ := h))
theorem l_Lw_right : ∀ ds C Q, P_Lw_right ds C Q → ds.length = 2 := by intro ds C Q h; repeat (first | (have e := h.1; subst e; rfl) | (obtain ⟨_, h⟩ := h))
theorem l_Lw_pad : ∀ ds C Q, P_Lw_pad ds C Q → ds.length = 2 := by intro ds C Q h; repeat (first | (have e := h.1; subst e; rfl) | (obtain ⟨_, h⟩ := h))
theorem l_law : ∀ ds C Q, P_law ds C Q → ds.length = 1 := by intro ds C Q h; repeat (first | (have e := h.1; subst e; rfl) | (obtain ⟨_, h⟩ := h))
theorem promise : ∀ ns : List Int, ns.length ≤ 63 → P_law [.lst true (ns.map .int)] [] fun d _ => d = .bl true := fun ns h => ⟨ns, rfl, rfl, h, rfl⟩
abbrev sd0 : Stmt := (inClass (top 3) 0)
def dd0 : He.DefD := ⟨("NoText", some "__init__"), "__init__", "NoText.__init__", defArgs sd0, defBody sd0, defScope sd0, [], []⟩
abbrev sd1 : Stmt := (top 8)
def dd1 : He.DefD := ⟨("is_between", none), "is_between", "is_between", defArgs sd1, defBody sd1, defScope sd1, [], []⟩
abbrev sd2 : Stmt := (top 9)
def dd2 : He.DefD := ⟨("is_stamp", none), "is_stamp", "is_stamp", defArgs sd2, defBody sd2, defScope sd2, [], []⟩
abbrev sd3 : Stmt := (top 10)
def dd3 : He.DefD := ⟨("are_stamps", none), "are_stamps", "are_stamps", defArgs sd3, defBody sd3, defScope sd3, [], []⟩
abbrev sd4 : Stmt := (top 11)
def dd4 : He.DefD := ⟨("is_rule", none), "is_rule", "is_rule", defArgs sd4, defBody sd4, defScope sd4, [], []⟩
abbrev sd5 : Stmt := (top 12)
def dd5 : He.DefD := ⟨("are_rules", none), "are_rules", "are_rules", defArgs sd5, defBody sd5, defScope sd5, [], []⟩
abbrev sd6 : Stmt := (top 13)
def dd6 : He.DefD := ⟨("is_heap", none), "is_heap", "is_heap", defArgs sd6, defBody sd6, defScope sd6, [], []⟩
abbrev sd7 : Stmt := (top 14)
def dd7 : He.DefD := ⟨("straight_behind", none), "straight_behind", "straight_behind", defArgs sd7, defBody sd7, defScope sd7, [], []⟩
abbrev sd8 : Stmt := (top 15)
def dd8 : He.DefD := ⟨("ordered", none), "ordered", "ordered", defArgs sd8, defBody sd8, defScope sd8, [], []⟩
abbrev sd9 : Stmt := (top 16)
def dd9 : He.DefD := ⟨("ring_by", none), "ring_by", "ring_by", defArgs sd9, defBody sd9, defScope sd9, [], []⟩
abbrev sd10 : Stmt := (top 17)
def dd10 : He.DefD := ⟨("is_pile", none), "is_pile", "is_pile", defArgs sd10, defBody sd10, defScope sd10, [], []⟩
abbrev sd11 : Stmt := (top 18)
def dd11 : He.DefD := ⟨("need_pile", none), "need_pile", "need_pile", defArgs sd11, defBody sd11, defScope sd11, [], []⟩
abbrev sd12 : Stmt := (top 22)
def dd12 : He.DefD := ⟨("show_pile", none), "show_pile", "show_pile", defArgs sd12, defBody sd12, defScope sd12, [], []⟩
abbrev sd13 : Stmt := (top 23)
def dd13 : He.DefD := ⟨("words_in", none), "words_in", "words_in", defArgs sd13, defBody sd13, defScope sd13, [], []⟩
abbrev sd14 : Stmt := (top 24)
def dd14 : He.DefD := ⟨("number_in", none), "number_in", "number_in", defArgs sd14, defBody sd14, defScope sd14, [], []⟩
abbrev sd15 : Stmt := (top 25)
def dd15 : He.DefD := ⟨("rule_in", none), "rule_in", "rule_in", defArgs sd15, defBody sd15, defScope sd15, [], []⟩
abbrev sd16 : Stmt := (top 26)
def dd16 : He.DefD := ⟨("goes_on", none), "goes_on", "goes_on", defArgs sd16, defBody sd16, defScope sd16, [], []⟩
abbrev sd17 : Stmt := (top 27)
def dd17 : He.DefD := ⟨("read_pile", none), "read_pile", "read_pile", defArgs sd17, defBody sd17, defScope sd17, [], []⟩
abbrev sd18 : Stmt := (top 29)
def dd18 : He.DefD := ⟨("_law_pad", none), "_law_pad", "_law_pad", defArgs sd18, defBody sd18, defScope sd18, [], []⟩
abbrev sd19 : Stmt := (top 30)
def dd19 : He.DefD := ⟨("_law_ink", none), "_law_ink", "_law_ink", defArgs sd19, defBody sd19, defScope sd19, [], []⟩
abbrev sd20 : Stmt := (top 31)
def dd20 : He.DefD := ⟨("_law_stamps", none), "_law_stamps", "_law_stamps", defArgs sd20, defBody sd20, defScope sd20, [], []⟩
abbrev sd21 : Stmt := (top 32)
def dd21 : He.DefD := ⟨("_law_many", none), "_law_many", "_law_many", defArgs sd21, defBody sd21, defScope sd21, [], []⟩
abbrev sd22 : Stmt := (top 33)
def dd22 : He.DefD := ⟨("_law_pile", none), "_law_pile", "_law_pile", defArgs sd22, defBody sd22, defScope sd22, [], []⟩
abbrev sd23 : Stmt := (top 34)
def dd23 : He.DefD := ⟨("_law_same", none), "_law_same", "_law_same", defArgs sd23, defBody sd23, defScope sd23, [], []⟩
abbrev sd24 : Stmt := (top 35)
def dd24 : He.DefD := ⟨("_law_right", none), "_law_right", "_law_right", defArgs sd24, defBody sd24, defScope sd24, [], []⟩
abbrev sd25 : Stmt := (top 36)
def dd25 : He.DefD := ⟨("law", none), "law", "law", defArgs sd25, defBody sd25, defScope sd25, [], []⟩
def fn_0 : List He.DefD := [dd0, dd1, dd2, dd3, dd4, dd5, dd6, dd7, dd8, dd9, dd10, dd11, dd12, dd13, dd14, dd15, dd16, dd17, dd18, dd19, dd20, dd21, dd22, dd23, dd24, dd25]
def fn : List He.DefD := fn_0
def fa_0 : List He.Fa := [.glo "_law_ink", .glo "_law_many", .glo "_law_stamps", .glo "_law_pile", .glo "words_in", .glo "is_stamp", .glo "number_in", .glo "rule_in", .glo "are_stamps", .glo "straight_behind", .glo "ordered", .glo "ring_by", .glo "is_between", .glo "is_rule", .glo "goes_on", .glo "read_pile", .glo "are_rules", .glo "is_heap", .glo "is_pile", .glo "need_pile", .glo "show_pile", .glo "_law_same", .glo "_law_right", .glo "_law_pad", .glo "law", .free "range", .free "list", .free "len", .free "int", .free "min"]
def fa_1 : List He.Fa := [.free "zip", .free "dict", .free "sorted", .free "isinstance", .free "str", .free "all", .free "bool", .free "tuple", .free "repr", .free "max", .free "enumerate", .str "STAMPS" "RB", .str "FIGURES" "0123456789", .str "BEHIND" ">", .int "MOST_PAPERS" 24, .int "MOST_RULES" 60]
def fa : List He.Fa := fa_0 ++ fa_1
def loose_0 : List Str := ["StampError", "NoPile", "NoText", "STAMPS", "MOST_PAPERS", "MOST_RULES", "is_between", "is_stamp", "are_stamps", "is_rule", "are_rules", "is_heap", "straight_behind", "ordered", "ring_by", "is_pile", "need_pile", "FIGURES", "BEHIND", "show_pile", "words_in", "number_in", "rule_in", "goes_on", "read_pile", "_law_pad", "_law_ink", "_law_stamps", "_law_many", "_law_pile"]
def loose_1 : List Str := ["_law_same", "_law_right"]
def loose : List Str := loose_0 ++ loose_1
abbrev R : PySem.W.OpenRow := PySem.W.OpenLaw.row PySem.Challenge.rw_twostamps_k08_piles_written
abbrev hk : PySem.W.Hook := hookL 6 fa fn
def ob (s : PySem.W.SharedT) : He.AlD := obsL 6 fa fn (HandSHeadRun.getT s)
theorem ob_eq (s : PySem.W.SharedT) : ob s = hk.obs s.abs := obsL_eq (HandSHeadRun.getT_eq s)
theorem run (w : World) : HandSHeadRun.RunEq R (PySem.W.view R.prog [36]) hk ob 8000 loose w := by
  intro os
  kernel_rfl
theorem facts {P : Program} {w : World} {K : PySem.W.Frag} {h : Heap} {mg : Str → Option Value} {f : Addr} (X : K.In h) (G : h.Ns mainGlobals mg) (hfa : mg ("law" : Str) = some (.ref f)) (c : He.SaysD fa fn K) :
    ∃ fd : FuncData, (∀ (s : Shared) (v : Value), BindsTo s fd ⟨[v], []⟩ [("_law_script", v)]) ∧ ∀ base : Heap, K.In base → base.Ns mainGlobals mg → FnOkG P w K mg base CX0 9 f fd ["_law_script"] (Sp3 K 0 P_law) := by
  obtain ⟨fd_Lw_ink, F_Lw_ink⟩ := c.def_ 19 (d := dd19) rfl
  have g_Lw_ink := He.glo_ok X G (c.fact 0 (f := .glo "_law_ink") rfl)
  obtain ⟨fd_Lw_many, F_Lw_many⟩ := c.def_ 21 (d := dd21) rfl
  have g_Lw_many := He.glo_ok X G (c.fact 1 (f := .glo "_law_many") rfl)
  obtain ⟨fd_Lw_stamps, F_Lw_stamps⟩ := c.def_ 20 (d := dd20) rfl
  have g_Lw_stamps := He.glo_ok X G (c.fact 2 (f := .glo "_law_stamps") rfl)
  obtain ⟨fd_Lw_pile, F_Lw_pile⟩ := c.def_ 22 (d := dd22) rfl
  have g_Lw_pile := He.glo_ok X G (c.fact 3 (f := .glo "_law_pile") rfl)
  obtain ⟨fd_words_in, F_words_in⟩ := c.def_ 13 (d := dd13) rfl
  have g_words_in := He.glo_ok X G (c.fact 4 (f := .glo "words_in") rfl)
  obtain ⟨fd_is_stamp, F_is_stamp⟩ := c.def_ 2 (d := dd2) rfl
  have g_is_stamp := He.glo_ok X G (c.fact 5 (f := .glo "is_stamp") rfl)
  obtain ⟨fd_number_in, F_number_in⟩ := c.def_ 14 (d := dd14) rfl
  have g_number_in := He.glo_ok X G (c.fact 6 (f := .glo "number_in") rfl)
  obtain ⟨fd_rule_in, F_rule_in⟩ := c.def_ 15 (d := dd15) rfl
  have g_rule_in := He.glo_ok X G (c.fact 7 (f := .glo "rule_in") rfl)
  obtain ⟨fd_are_stamps, F_are_stamps⟩ := c.def_ 3 (d := dd3) rfl
  have g_are_stamps := He.glo_ok X G (c.fact 8 (f := .glo "are_stamps") rfl)
  obtain ⟨fd_straight_behind, F_straight_behind⟩ := c.def_ 7 (d := dd7) rfl
  have g_straight_behind := He.glo_ok X G (c.fact 9 (f := .glo "straight_behind") rfl)
  obtain ⟨fd_ordered, F_ordered⟩ := c.def_ 8 (d := dd8) rfl
  have g_ordered := He.glo_ok X G (c.fact 10 (f := .glo "ordered") rfl)
  obtain ⟨fd_ring_by, F_ring_by⟩ := c.def_ 9 (d := dd9) rfl
  have g_ring_by := He.glo_ok X G (c.fact 11 (f := .glo "ring_by") rfl)
  obtain ⟨fd_is_between, F_is_between⟩ := c.def_ 1 (d := dd1) rfl
  have g_is_between := He.glo_ok X G (c.fact 12 (f := .glo "is_between") rfl)
  obtain ⟨fd_is_rule, F_is_rule⟩ := c.def_ 4 (d := dd4) rfl
  have g_is_rule := He.glo_ok X G (c.fact 13 (f := .glo "is_rule") rfl)
  obtain ⟨fd_goes_on, F_goes_on⟩ := c.def_ 16 (d := dd16) rfl
  have g_goes_on := He.glo_ok X G (c.fact 14 (f := .glo "goes_on") rfl)
  obtain ⟨fd_read_pile, F_read_pile⟩ := c.def_ 17 (d := dd17) rfl
  have g_read_pile := He.glo_ok X G (c.fact 15 (f := .glo "read_pile") rfl)
  obtain ⟨fd_are_rules, F_are_rules⟩ := c.def_ 5 (d := dd5) rfl
  have g_are_rules := He.glo_ok X G (c.fact 16 (f := .glo "are_rules") rfl)
  obtain ⟨fd_is_heap, F_is_heap⟩ := c.def_ 6 (d := dd6) rfl
  have g_is_heap := He.glo_ok X G (c.fact 17 (f := .glo "is_heap") rfl)
  obtain ⟨fd_is_pile, F_is_pile⟩ := c.def_ 10 (d := dd10) rfl
  have g_is_pile := He.glo_ok X G (c.fact 18 (f := .glo "is_pile") rfl)
  obtain ⟨fd_need_pile, F_need_pile⟩ := c.def_ 11 (d := dd11) rfl
  have g_need_pile := He.glo_ok X G (c.fact 19 (f := .glo "need_pile") rfl)
  obtain ⟨fd_show_pile, F_show_pile⟩ := c.def_ 12 (d := dd12) rfl
  have g_show_pile := He.glo_ok X G (c.fact 20 (f := .glo "show_pile") rfl)
  obtain ⟨fd_Lw_same, F_Lw_same⟩ := c.def_ 23 (d := dd23) rfl
  have g_Lw_same := He.glo_ok X G (c.fact 21 (f := .glo "_law_same") rfl)
  obtain ⟨fd_Lw_right, F_Lw_right⟩ := c.def_ 24 (d := dd24) rfl
  have g_Lw_right := He.glo_ok X G (c.fact 22 (f := .glo "_law_right") rfl)
  obtain ⟨fd_Lw_pad, F_Lw_pad⟩ := c.def_ 18 (d := dd18) rfl
  have g_Lw_pad := He.glo_ok X G (c.fact 23 (f := .glo "_law_pad") rfl)
  obtain ⟨fd_law, F_law⟩ := c.def_ 25 (d := dd25) rfl
  have g_law := He.glo_ok X G (c.fact 24 (f := .glo "law") rfl)
  have m_range := He.free_ok X G (c.fact 25 (f := .free "range") rfl)
  have m_list := He.free_ok X G (c.fact 26 (f := .free "list") rfl)
  have m_len := He.free_ok X G (c.fact 27 (f := .free "len") rfl)
  have m_int := He.free_ok X G (c.fact 28 (f := .free "int") rfl)
  have m_min := He.free_ok X G (c.fact 29 (f := .free "min") rfl)
  have m_zip := He.free_ok X G (c.fact 30 (f := .free "zip") rfl)
  have m_dict := He.free_ok X G (c.fact 31 (f := .free "dict") rfl)
  have m_sorted := He.free_ok X G (c.fact 32 (f := .free "sorted") rfl)
  have m_isinstance := He.free_ok X G (c.fact 33 (f := .free "isinstance") rfl)
  have m_str := He.free_ok X G (c.fact 34 (f := .free "str") rfl)
  have m_all := He.free_ok X G (c.fact 35 (f := .free "all") rfl)
  have m_bool := He.free_ok X G (c.fact 36 (f := .free "bool") rfl)
  have m_tuple := He.free_ok X G (c.fact 37 (f := .free "tuple") rfl)
  have m_repr := He.free_ok X G (c.fact 38 (f := .free "repr") rfl)
  have m_max := He.free_ok X G (c.fact 39 (f := .free "max") rfl)
  have m_enumerate := He.free_ok X G (c.fact 40 (f := .free "enumerate") rfl)
  have c_STAMPS := He.str_ok X G (c.fact 41 (f := .str "STAMPS" "RB") rfl)
  have c_FIGURES := He.str_ok X G (c.fact 42 (f := .str "FIGURES" "0123456789") rfl)
  have c_BEHIND := He.str_ok X G (c.fact 43 (f := .str "BEHIND" ">") rfl)
  have c_MOST_PAPERS := He.int_ok X G (c.fact 44 (f := .int "MOST_PAPERS" 24) rfl)
  have c_MOST_RULES := He.int_ok X G (c.fact 45 (f := .int "MOST_RULES" 60) rfl)
  have e_law := hfa.symm.trans g_law
  cases e_law
  have bl := FunD.bindsA (ps := ["_law_script"]) F_law fun _ _ _ _ _ _ us hl => match us, hl with | [_], _ => rfl
  refine ⟨fd_law, fun s v => bl s [v] rfl, fun base _ _ => ?_⟩
  have C_Lw_ink := d_Lw_ink (P := P) (w := w) (base := base) (mg := mg) F_Lw_ink g_Lw_ink l_Lw_ink v_Lw_ink  
  have C_Lw_many := d_Lw_many (P := P) (w := w) (base := base) (mg := mg) F_Lw_many g_Lw_many l_Lw_many v_Lw_many C_Lw_ink 
  have C_Lw_stamps := d_Lw_stamps (P := P) (w := w) (base := base) (mg := mg) F_Lw_stamps g_Lw_stamps l_Lw_stamps v_Lw_stamps C_Lw_ink m_range
  have C_Lw_pile := d_Lw_pile (P := P) (w := w) (base := base) (mg := mg) F_Lw_pile g_Lw_pile l_Lw_pile v_Lw_pile C_Lw_many C_Lw_ink C_Lw_stamps m_list m_range m_len m_int m_min m_zip m_dict m_sorted
  have C_words_in := d_words_in (P := P) (w := w) (base := base) (mg := mg) F_words_in g_words_in l_words_in v_words_in  m_isinstance m_str
  have C_is_stamp := d_is_stamp (P := P) (w := w) (base := base) (mg := mg) F_is_stamp g_is_stamp l_is_stamp v_is_stamp  m_len m_isinstance m_str c_STAMPS
  have C_number_in := d_number_in (P := P) (w := w) (base := base) (mg := mg) F_number_in g_number_in l_number_in v_number_in  m_all m_int c_FIGURES
  have C_rule_in := d_rule_in (P := P) (w := w) (base := base) (mg := mg) F_rule_in g_rule_in l_rule_in v_rule_in C_number_in m_len c_BEHIND
  have C_are_stamps := d_are_stamps (P := P) (w := w) (base := base) (mg := mg) F_are_stamps g_are_stamps l_are_stamps v_are_stamps  m_all m_len m_isinstance m_str c_STAMPS c_MOST_PAPERS
  have C_straight_behind := d_straight_behind (P := P) (w := w) (base := base) (mg := mg) F_straight_behind g_straight_behind l_straight_behind v_straight_behind  m_range
  have C_ordered := d_ordered (P := P) (w := w) (base := base) (mg := mg) F_ordered g_ordered l_ordered v_ordered C_straight_behind m_range m_min
  have C_ring_by := d_ring_by (P := P) (w := w) (base := base) (mg := mg) F_ring_by g_ring_by l_ring_by v_ring_by C_ordered m_range m_min
  have C_is_between := d_is_between (P := P) (w := w) (base := base) (mg := mg) F_is_between g_is_between l_is_between v_is_between  m_isinstance m_bool m_int
  have C_is_rule := d_is_rule (P := P) (w := w) (base := base) (mg := mg) F_is_rule g_is_rule l_is_rule v_is_rule C_is_between m_all m_len m_isinstance m_tuple
  have C_goes_on := d_goes_on (P := P) (w := w) (base := base) (mg := mg) F_goes_on g_goes_on l_goes_on v_goes_on C_is_rule C_ring_by m_len c_MOST_RULES
  have C_read_pile := d_read_pile (P := P) (w := w) (base := base) (mg := mg) F_read_pile g_read_pile l_read_pile v_read_pile C_words_in C_is_stamp C_are_stamps C_rule_in C_goes_on m_len m_range
  have C_are_rules := d_are_rules (P := P) (w := w) (base := base) (mg := mg) F_are_rules g_are_rules l_are_rules v_are_rules C_is_rule m_all m_len m_isinstance m_list m_zip c_MOST_RULES
  have C_is_heap := d_is_heap (P := P) (w := w) (base := base) (mg := mg) F_is_heap g_is_heap l_is_heap v_is_heap C_are_rules C_are_stamps C_is_stamp m_len m_isinstance m_tuple
  have C_is_pile := d_is_pile (P := P) (w := w) (base := base) (mg := mg) F_is_pile g_is_pile l_is_pile v_is_pile C_ring_by C_is_heap m_len
  have C_need_pile := d_need_pile (P := P) (w := w) (base := base) (mg := mg) F_need_pile g_need_pile l_need_pile v_need_pile C_is_pile 
  have C_show_pile := d_show_pile (P := P) (w := w) (base := base) (mg := mg) F_show_pile g_show_pile l_show_pile v_show_pile C_need_pile c_BEHIND
  have C0_Lw_same := nv_Lw_same (P := P) (w := w) (mg := mg) (base := base) (lo := 0) F_Lw_same g_Lw_same
  have C1_Lw_same := d_Lw_same (P := P) (w := w) (base := base) F_Lw_same g_Lw_same (lo := 0) (by decide) l_sw0 v_sw0 C0_Lw_same m_isinstance m_list m_tuple m_zip m_all m_len m_bool m_str m_int
  have C2_Lw_same := d_Lw_same (P := P) (w := w) (base := base) F_Lw_same g_Lw_same (lo := 1) (by decide) l_sw1 v_sw1 C1_Lw_same m_isinstance m_list m_tuple m_zip m_all m_len m_bool m_str m_int
  have C3_Lw_same := d_Lw_same (P := P) (w := w) (base := base) F_Lw_same g_Lw_same (lo := 2) (by decide) l_sw2 v_sw2 C2_Lw_same m_isinstance m_list m_tuple m_zip m_all m_len m_bool m_str m_int
  have C_Lw_same := d_Lw_same (P := P) (w := w) (base := base) F_Lw_same g_Lw_same (lo := 3) (by decide) l_sw3 v_sw3 C3_Lw_same m_isinstance m_list m_tuple m_zip m_all m_len m_bool m_str m_int
  have C_Lw_right := d_Lw_right (P := P) (w := w) (base := base) (mg := mg) F_Lw_right g_Lw_right l_Lw_right v_Lw_right C_Lw_pile C_show_pile C_read_pile C_Lw_same m_repr m_str m_range
  have C_Lw_pad := d_Lw_pad (P := P) (w := w) (base := base) (mg := mg) F_Lw_pad g_Lw_pad l_Lw_pad v_Lw_pad  m_max
  exact d_law (P := P) (w := w) (base := base) F_law g_law l_law v_law C_Lw_right C_Lw_pad m_len m_min m_max m_enumerate
end K08
end RG
end L3
open PySem PySem.W PySem.Calls PyProof.Rows
theorem PySem.Challenge.cw_twostamps_k08_piles_written_holds : PySem.Challenge.rw_twostamps_k08_piles_written.Holds := by
  w_on; o_law
  refine HandSHeadRun.head_any (r := OpenLaw.row PySem.Challenge.rw_twostamps_k08_piles_written) (q := view (OpenLaw.row PySem.Challenge.rw_twostamps_k08_piles_written).prog [36]) (H := L3.RG.K08.hk) (ob := L3.RG.K08.ob) (M := 8000) (loose := L3.RG.K08.loose) (d := HandSHeadRun.topDef (OpenLaw.row PySem.Challenge.rw_twostamps_k08_piles_written).prog 36) (kwd := []) L3.RG.K08.ob_eq
    (by kernel_rfl) (fun s => by kernel_rfl) L3.RG.K08.run (by kernel_rfl) (by kernel_rfl) (by kernel_rfl) (by rfl) (by first | assumption | decide +kernel) (by decide +kernel) ⟨rfl, rfl, rfl, rfl, rfl, by decide +kernel⟩ ?hw ?hc
  case hw => w_witness2
  case hc =>
    refine L3.walk_ofG (l := PySem.Challenge.rw_twostamps_k08_piles_written) (n := 63) (k := 9) (x := "_law_script") rfl (by decide) (by kernel_rfl) ⟨rfl, by decide, by decide⟩ ?F L3.RG.K08.promise
    intro w mg fa h Y G hmg0
    obtain ⟨K, KX, c, hL⟩ := Y
    have hmg : mg ("law" : PySem.Str) = some (.ref fa) := by
      have e : (HandSHeadRun.topDef (OpenLaw.row PySem.Challenge.rw_twostamps_k08_piles_written).prog 36).name = ("law" : PySem.Str) := by kernel_rfl
      rw [← e]
      exact hmg0
    obtain ⟨fd, hb, hF⟩ := L3.RG.K08.facts (P := (PySem.Challenge.rw_twostamps_k08_piles_written).prog) (w := w) KX G hmg c
    exact ⟨K, fd, KX, hL, hb, hF⟩
